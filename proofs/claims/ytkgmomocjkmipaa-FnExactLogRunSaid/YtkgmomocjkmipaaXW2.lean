/- Mirrors of functions, and that the functions return what the mirrors say. -/
import Derived.Test.YtkgmomocjkmipaaXW1
set_option linter.unusedVariables false
set_option linter.unusedSimpArgs false
set_option linter.unnecessarySimpa false
namespace Go.Proofs.Ytkgmomocjkmipaa
open Go.Proofs Go.Lift Go.RowKit
def m_spec_l13Version_j1 (t2 : Bool) : Option Bool :=
  some t2
def m_spec_l13Version (a0 : S_impl_Version) : Option Bool :=
  (m_spec_l1In a0.Key (0 : Int) (4 : Int)).bind fun x3 =>
  bif x3 then ((m_spec_l1In a0.Born (1 : Int) (40 : Int)).bind fun x5 =>
    bif x5 then (bif (a0.Died == (0 : Int)) then ((m_spec_RowOk a0.Row).bind fun x8 =>
        m_spec_l13Version_j1  x8)
      else ((ckI (a0.Born + (1 : Int))).bind fun x9 =>
        (m_spec_l1In a0.Died x9 (40 : Int)).bind fun x10 =>
        bif x10 then ((m_spec_RowOk a0.Row).bind fun x12 =>
          m_spec_l13Version_j1  x12)
        else (m_spec_l13Version_j1  false)))
    else (m_spec_l13Version_j1  false))
  else (m_spec_l13Version_j1  false)
theorem c_spec_l13Version (a0 : S_impl_Version) (r : Bool) (h : m_spec_l13Version a0 = some r) : Ret Try.prog f_spec_l13Version [e_impl_Version a0] (e_bool r) := by
  refine Does.goG [] F_spec_l13Version rfl e_spec_l13Version n_spec_l13Version rfl (rvs := [.tmp 2]) rfl rfl ?_
  intro w0 ok0 lent ρ0
  refine LWP.seq_k fun N1 hN1 => ?_
  refine LWP.region (l := [_,_]) ?_
  refine LWo.boxF (e_impl_Version a0) rfl rfl rfl (hn := ?_)
  refine LWo.assign (e_bool false) rfl (hn := ?_)
  refine LWo.nil (hN1 _ ?_)
  refine LWP.join (α := Bool) (fun z : Bool => [(2, (e_bool z))]) (fun z : Bool => []) (fun z : Bool => m_spec_l13Version_j1  z) r (fun _ => by simp [hkeys]) ?_ ?_
  ·rintro t2 h
   replace h : m_spec_l13Version_j1  t2 = some _ := h
   obtain rfl := Option.some.inj h
   refine LWP.ret (QG.mk (.inr rfl) (.cons (.tmp (x := (e_bool t2)) rfl) (.nil)) (RetOK.one0 (.pure rfl) (by decide)) rfl rfl)
  ·intro N2 hN2
   refine LWP.region (l := [_,_,_,_,_,_,_,_,_,_,_,_,_,_,_,_,_,_,_,_,_,_,_,_,_,_,_]) ?_
   refine LWo.fieldAddr _ u_impl_Version rfl s_int rfl rfl (hn := ?_)
   refine LWo.load1 (c := (e_int a0.Key)) g_int rfl (hn := ?_)
   refine bk h fun x3 e3 h => ?_
   refine LWo.vcall rfl rfl (c_spec_l1In _ _ _ _ e3) (.same (.same (.same (.nil)))) (hn := ?_)
   refine LWo.move (e_bool x3) rfl (hn := ?_)
   refine LWo.byCases (t := 6) _ rfl (fun h4 => ?_) (fun h4 => ?_)
   ·have h := bT h4 h
    refine LWo.guardY (t := 6) rfl h4 rfl rfl ?_
    refine LWo.fieldAddr _ u_impl_Version rfl s_int rfl rfl (hn := ?_)
    refine LWo.guardY (t := 6) rfl h4 rfl rfl ?_
    refine LWo.load1 (c := (e_int a0.Born)) g_int rfl (hn := ?_)
    refine bk h fun x5 e5 h => ?_
    refine LWo.guardY (t := 6) rfl h4 rfl rfl ?_
    refine LWo.vcall rfl rfl (c_spec_l1In _ _ _ _ e5) (.same (.same (.same (.nil)))) (hn := ?_)
    refine LWo.pickTM (e_bool x5) rfl h4 rfl (hn := ?_)
    refine LWo.move (e_bool x5) rfl (hn := ?_)
    refine LWo.byCases (t := 11) _ rfl (fun h6 => ?_) (fun h6 => ?_)
    ·have h := bT h6 h
     refine LWo.guardY (t := 11) rfl h6 rfl rfl ?_
     refine LWo.fieldAddr _ u_impl_Version rfl s_int rfl rfl (hn := ?_)
     refine LWo.guardY (t := 11) rfl h6 rfl rfl ?_
     refine LWo.load1 (c := (e_int a0.Died)) g_int rfl (hn := ?_)
     refine LWo.guardY (t := 11) rfl h6 rfl rfl ?_
     refine LWo.int _ rfl rfl rfl (hn := ?_)
     refine LWo.guardY (t := 11) rfl h6 rfl rfl ?_
     refine LWo.move (e_bool (a0.Died == (0 : Int))) rfl (hn := ?_)
     refine LWo.byCases (t := 15) _ rfl (fun h7 => ?_) (fun h7 => ?_)
     ·have h := bT h7 h
      refine LWo.guardNU (t := 15) rfl h7 rfl rfl rfl rfl rfl ?_
      refine LWo.guardNU (t := 15) rfl h7 rfl rfl rfl rfl rfl ?_
      refine LWo.guardNU (t := 15) rfl h7 rfl rfl rfl rfl rfl ?_
      refine LWo.guardNU (t := 15) rfl h7 rfl rfl rfl rfl rfl ?_
      refine LWo.guardNU (t := 15) rfl h7 rfl rfl rfl rfl rfl ?_
      refine LWo.guardNU (t := 15) rfl h7 rfl rfl rfl rfl rfl ?_
      refine LWo.guardY (t := 11) rfl h6 rfl rfl ?_
      refine LWo.pickTM (e_bool true) rfl h7 rfl (hn := ?_)
      refine LWo.pickTM (e_bool true) rfl h6 rfl (hn := ?_)
      refine LWo.move (e_bool true) rfl (hn := ?_)
      refine LWo.guardY (t := 24) rfl rfl rfl rfl ?_
      refine LWo.fieldAddr _ u_impl_Version rfl s_Limpl_Value rfl rfl (hn := ?_)
      refine LWo.guardY (t := 24) rfl rfl rfl rfl ?_
      refine LWo.load1 (c := (e_Limpl_Value a0.Row)) g_Limpl_Value rfl (hn := ?_)
      refine bk h fun x8 e8 h => ?_
      refine LWo.guardY (t := 24) rfl rfl rfl rfl ?_
      refine LWo.vcall rfl rfl (c_spec_RowOk _ _ e8) (.same (.nil)) (hn := ?_)
      refine LWo.pickTM (e_bool x8) rfl rfl rfl (hn := ?_)
      refine LWo.assign (e_bool x8) rfl (hn := ?_)
      refine LWo.nil (hN2 x8 _ ⟨rfl, trivial⟩ trivial h)
     ·have h := bF h7 h
      refine LWo.guardY (t := 15) rfl h7 rfl rfl ?_
      refine LWo.fieldAddr _ u_impl_Version rfl s_int rfl rfl (hn := ?_)
      refine LWo.guardY (t := 15) rfl h7 rfl rfl ?_
      refine LWo.load1 (c := (e_int a0.Died)) g_int rfl (hn := ?_)
      refine LWo.guardY (t := 15) rfl h7 rfl rfl ?_
      refine LWo.fieldAddr _ u_impl_Version rfl s_int rfl rfl (hn := ?_)
      refine LWo.guardY (t := 15) rfl h7 rfl rfl ?_
      refine LWo.load1 (c := (e_int a0.Born)) g_int rfl (hn := ?_)
      refine bk h fun x9 e9 h => ?_
      refine LWo.guardY (t := 15) rfl h7 rfl rfl ?_
      refine LWo.int _ rfl rfl (add_ck e9) (hn := ?_)
      refine bk h fun x10 e10 h => ?_
      refine LWo.guardY (t := 15) rfl h7 rfl rfl ?_
      refine LWo.vcall rfl rfl (c_spec_l1In _ _ _ _ e10) (.same (.same (.same (.nil)))) (hn := ?_)
      refine LWo.guardY (t := 11) rfl h6 rfl rfl ?_
      refine LWo.pickFM (e_bool x10) rfl h7 rfl (hn := ?_)
      refine LWo.pickTM (e_bool x10) rfl h6 rfl (hn := ?_)
      refine LWo.move (e_bool x10) rfl (hn := ?_)
      refine LWo.byCases (t := 24) _ rfl (fun h11 => ?_) (fun h11 => ?_)
      ·have h := bT h11 h
       refine LWo.guardY (t := 24) rfl h11 rfl rfl ?_
       refine LWo.fieldAddr _ u_impl_Version rfl s_Limpl_Value rfl rfl (hn := ?_)
       refine LWo.guardY (t := 24) rfl h11 rfl rfl ?_
       refine LWo.load1 (c := (e_Limpl_Value a0.Row)) g_Limpl_Value rfl (hn := ?_)
       refine bk h fun x12 e12 h => ?_
       refine LWo.guardY (t := 24) rfl h11 rfl rfl ?_
       refine LWo.vcall rfl rfl (c_spec_RowOk _ _ e12) (.same (.nil)) (hn := ?_)
       refine LWo.pickTM (e_bool x12) rfl h11 rfl (hn := ?_)
       refine LWo.assign (e_bool x12) rfl (hn := ?_)
       refine LWo.nil (hN2 x12 _ ⟨rfl, trivial⟩ trivial h)
      ·have h := bF h11 h
       refine LWo.guardNU (t := 24) rfl h11 rfl rfl rfl rfl rfl ?_
       refine LWo.guardNU (t := 24) rfl h11 rfl rfl rfl rfl rfl ?_
       refine LWo.guardNU (t := 24) rfl h11 rfl rfl rfl rfl rfl ?_
       refine LWo.pickFM (e_bool false) rfl h11 rfl (hn := ?_)
       refine LWo.assign (e_bool false) rfl (hn := ?_)
       refine LWo.nil (hN2 false _ ⟨rfl, trivial⟩ trivial h)
    ·have h := bF h6 h
     refine LWo.guardNU (t := 11) rfl h6 rfl rfl rfl rfl rfl ?_
     refine LWo.guardNU (t := 11) rfl h6 rfl rfl rfl rfl rfl ?_
     refine LWo.guardNU (t := 11) rfl h6 rfl rfl rfl rfl rfl ?_
     refine LWo.guardNU (t := 11) rfl h6 rfl rfl rfl rfl rfl ?_
     refine LWo.guardU (t := 15) rfl rfl rfl rfl rfl ?_
     refine LWo.guardU (t := 15) rfl rfl rfl rfl rfl ?_
     refine LWo.guardU (t := 15) rfl rfl rfl rfl rfl ?_
     refine LWo.guardU (t := 15) rfl rfl rfl rfl rfl ?_
     refine LWo.guardU (t := 15) rfl rfl rfl rfl rfl ?_
     refine LWo.guardU (t := 15) rfl rfl rfl rfl rfl ?_
     refine LWo.guardNU (t := 11) rfl h6 rfl rfl rfl rfl rfl ?_
     refine LWo.pickFM (e_bool false) rfl h6 rfl (hn := ?_)
     refine LWo.move (e_bool false) rfl (hn := ?_)
     refine LWo.guardNU (t := 24) rfl rfl rfl rfl rfl rfl rfl ?_
     refine LWo.guardNU (t := 24) rfl rfl rfl rfl rfl rfl rfl ?_
     refine LWo.guardNU (t := 24) rfl rfl rfl rfl rfl rfl rfl ?_
     refine LWo.pickFM (e_bool false) rfl rfl rfl (hn := ?_)
     refine LWo.assign (e_bool false) rfl (hn := ?_)
     refine LWo.nil (hN2 false _ ⟨rfl, trivial⟩ trivial h)
   ·have h := bF h4 h
    refine LWo.guardNU (t := 6) rfl h4 rfl rfl rfl rfl rfl ?_
    refine LWo.guardNU (t := 6) rfl h4 rfl rfl rfl rfl rfl ?_
    refine LWo.guardNU (t := 6) rfl h4 rfl rfl rfl rfl rfl ?_
    refine LWo.pickFM (e_bool false) rfl h4 rfl (hn := ?_)
    refine LWo.move (e_bool false) rfl (hn := ?_)
    refine LWo.guardNU (t := 11) rfl rfl rfl rfl rfl rfl rfl ?_
    refine LWo.guardNU (t := 11) rfl rfl rfl rfl rfl rfl rfl ?_
    refine LWo.guardNU (t := 11) rfl rfl rfl rfl rfl rfl rfl ?_
    refine LWo.guardNU (t := 11) rfl rfl rfl rfl rfl rfl rfl ?_
    refine LWo.guardU (t := 15) rfl rfl rfl rfl rfl ?_
    refine LWo.guardU (t := 15) rfl rfl rfl rfl rfl ?_
    refine LWo.guardU (t := 15) rfl rfl rfl rfl rfl ?_
    refine LWo.guardU (t := 15) rfl rfl rfl rfl rfl ?_
    refine LWo.guardU (t := 15) rfl rfl rfl rfl rfl ?_
    refine LWo.guardU (t := 15) rfl rfl rfl rfl rfl ?_
    refine LWo.guardNU (t := 11) rfl rfl rfl rfl rfl rfl rfl ?_
    refine LWo.pickFM (e_bool false) rfl rfl rfl (hn := ?_)
    refine LWo.move (e_bool false) rfl (hn := ?_)
    refine LWo.guardNU (t := 24) rfl rfl rfl rfl rfl rfl rfl ?_
    refine LWo.guardNU (t := 24) rfl rfl rfl rfl rfl rfl rfl ?_
    refine LWo.guardNU (t := 24) rfl rfl rfl rfl rfl rfl rfl ?_
    refine LWo.pickFM (e_bool false) rfl rfl rfl (hn := ?_)
    refine LWo.assign (e_bool false) rfl (hn := ?_)
    refine LWo.nil (hN2 false _ ⟨rfl, trivial⟩ trivial h)

def m_spec_VersionsOk_j2 (t0 : (List S_impl_Version)) : Option Bool :=
  some (decide ((t0.length : Int) ≤ (60 : Int)))
def m_spec_VersionsOk_j1 (k1 : (List S_impl_Version) → Int → Option Bool) (t0 : (List S_impl_Version)) (t3 : Int) (t68 : Bool) : Option Bool :=
  bif t68 then (some false)
  else ((ckI (t3 + (1 : Int))).bind fun x34 =>
  k1 t0 x34)
def m_spec_VersionsOk_l1 : Nat → (List S_impl_Version) → Int → Option Bool
  | 0, _, _ => none
  | n1 + 1, t0, t3 =>
    bif decide (t3 < (t0.length : Int)) then ((at? t0 t3).bind fun x12 =>
    (m_spec_l13Version x12).bind fun x13 =>
    bif (!x13) then (some false)
    else (bif decide (t3 > (0 : Int)) then ((ckI (t3 - (1 : Int))).bind fun x18 =>
      (at? t0 x18).bind fun x19 =>
      (at? t0 t3).bind fun x20 =>
      bif decide (x19.Key ≥ x20.Key) then ((ckI (t3 - (1 : Int))).bind fun x22 =>
        (at? t0 x22).bind fun x23 =>
        (at? t0 t3).bind fun x24 =>
        bif decide (x23.Key > x24.Key) then (m_spec_VersionsOk_j1  (m_spec_VersionsOk_l1  n1) t0 t3 true)
        else ((ckI (t3 - (1 : Int))).bind fun x26 =>
          (at? t0 x26).bind fun x27 =>
          bif (x27.Died == (0 : Int)) then (m_spec_VersionsOk_j1  (m_spec_VersionsOk_l1  n1) t0 t3 true)
          else ((ckI (t3 - (1 : Int))).bind fun x29 =>
            (at? t0 x29).bind fun x30 =>
            (at? t0 t3).bind fun x31 =>
            m_spec_VersionsOk_j1  (m_spec_VersionsOk_l1  n1) t0 t3 (decide (x30.Died > x31.Born)))))
      else (m_spec_VersionsOk_j1  (m_spec_VersionsOk_l1  n1) t0 t3 false))
    else (m_spec_VersionsOk_j1  (m_spec_VersionsOk_l1  n1) t0 t3 false)))
    else (m_spec_VersionsOk_j2  t0)
def m_spec_VersionsOk (a0 : (List S_impl_Version)) : Option Bool :=
  m_spec_VersionsOk_l1  (((a0.length : Int) - (0 : Int)).toNat + 1) a0 (0 : Int)
theorem c_spec_VersionsOk (a0 : (List S_impl_Version)) (r : Bool) (h : m_spec_VersionsOk a0 = some r) : Ret Try.prog f_spec_VersionsOk [e_Limpl_Version a0] (e_bool r) := by
  refine Does.goG [] F_spec_VersionsOk rfl e_spec_VersionsOk n_spec_VersionsOk rfl (rvs := [.tmp 2]) rfl rfl ?_
  intro w0 ok0 lent ρ0
  refine LWP.seq_k fun N1 hN1 => ?_
  refine LWP.region (l := [_]) ?_
  refine LWo.assign (e_bool false) rfl (hn := ?_)
  refine LWo.nil (hN1 _ ?_)
  refine LWP.join (α := (List S_impl_Version)) (fun z : (List S_impl_Version) => [(0, (e_Limpl_Version z))]) (fun z : (List S_impl_Version) => []) (fun z : (List S_impl_Version) => m_spec_VersionsOk_j2  z) r (fun _ => by simp [hkeys]) ?_ ?_
  ·rintro t0 h
   replace h : m_spec_VersionsOk_j2  t0 = some _ := h
   refine LWP.seq_k fun N35 hN35 => ?_
   refine LWP.region (l := [_,_,_,_]) ?_
   refine LWo.move (e_Limpl_Version t0) rfl (hn := ?_)
   refine LWo.lenM (f := e_impl_Version) (l := t0) u_Limpl_Version rfl (hn := ?_)
   refine LWo.int _ rfl rfl rfl (hn := ?_)
   refine LWo.assign (e_bool (decide ((t0.length : Int) ≤ (60 : Int)))) rfl (hn := ?_)
   refine LWo.nil (hN35 _ ?_)
   obtain rfl := Option.some.inj h
   refine LWP.ret (QG.mk (.inr rfl) (.cons (.tmp (x := (e_bool (decide ((t0.length : Int) ≤ (60 : Int))))) rfl) (.nil)) (RetOK.one0 (.pure rfl) (by decide)) rfl rfl)
  ·intro N2 hN2
   refine LWP.seq_k fun N3 hN3 => ?_
   refine LWP.region (l := [_]) ?_
   refine LWo.assign (e_int (0 : Int)) rfl (hn := ?_)
   refine LWo.nil (hN3 _ ?_)
   refine LWP.block ?_
   refine LWP.loopM (α := (List S_impl_Version) × Int) (fun z : (List S_impl_Version) × Int => [(0, (e_Limpl_Version z.1)), (3, (e_int z.2))]) (fun z : (List S_impl_Version) × Int => []) (fun n1 (z : (List S_impl_Version) × Int) => m_spec_VersionsOk_l1  n1 z.1 z.2) r _ (a0, (0 : Int)) h (fun _ => rfl) (fun _ => by simp [hkeys]) ⟨rfl, rfl, trivial⟩ trivial ?_
   rintro n1 ⟨t0, t3⟩ h N4 hN4
   replace h : m_spec_VersionsOk_l1  (n1 + 1) t0 t3 = some _ := h
   refine LWP.seq_k fun N6 hN6 => ?_
   refine LWP.seq_k fun N7 hN7 => ?_
   refine LWP.region (l := [_,_,_,_]) ?_
   refine LWo.move (e_int t3) rfl (hn := ?_)
   refine LWo.move (e_Limpl_Version t0) rfl (hn := ?_)
   refine LWo.lenM (f := e_impl_Version) (l := t0) u_Limpl_Version rfl (hn := ?_)
   refine LWo.int _ rfl rfl rfl (hn := ?_)
   refine LWo.nil (hN7 _ ?_)
   refine LWP.cond_split rfl (fun h8 => ?_) (fun h8 => ?_)
   ·have h := bT h8 h
    refine LWP.skip (hN6 _ ?_)
    refine LWP.seq_k fun N9 hN9 => ?_
    refine LWP.block ?_
    refine LWP.seq_k fun N10 hN10 => ?_
    refine LWP.seq_k fun N11 hN11 => ?_
    refine LWP.region (l := [_,_,_,_,_,_]) ?_
    refine LWo.move (e_Limpl_Version t0) rfl (hn := ?_)
    refine LWo.move (e_int t3) rfl (hn := ?_)
    refine bk h fun x12 e12 h => ?_
    refine LWo.indexM (f := e_impl_Version) e12 u_Limpl_Version s_impl_Version rfl rfl (hn := ?_)
    refine LWo.loadN ((e_impl_Version x12)).cells g_impl_Version s_impl_Version rfl (Nat.le_of_ble_eq_true rfl) rfl (hn := ?_)
    refine bk h fun x13 e13 h => ?_
    refine LWo.vcall rfl rfl (c_spec_l13Version _ _ e13) (.same (.nil)) (hn := ?_)
    refine LWo.not rfl (hn := ?_)
    refine LWo.nil (hN11 _ ?_)
    refine LWP.cond_split rfl (fun h14 => ?_) (fun h14 => ?_)
    ·have h := bT h14 h
     refine LWP.seq_k fun N15 hN15 => ?_
     refine LWP.region (l := [_]) ?_
     refine LWo.assign (e_bool false) rfl (hn := ?_)
     refine LWo.nil (hN15 _ ?_)
     obtain rfl := Option.some.inj h
     refine LWP.ret (QG.mk (.inr rfl) (.cons (.tmp (x := (e_bool false)) rfl) (.nil)) (RetOK.one0 (.pure rfl) (by decide)) rfl rfl)
    ·have h := bF h14 h
     refine LWP.skip (hN10 _ ?_)
     refine LWP.join (α := (List S_impl_Version) × Int × Bool) (fun z : (List S_impl_Version) × Int × Bool => [(0, (e_Limpl_Version z.1)), (3, (e_int z.2.1)), (68, (e_bool z.2.2))]) (fun z : (List S_impl_Version) × Int × Bool => []) (fun z : (List S_impl_Version) × Int × Bool => m_spec_VersionsOk_j1  (m_spec_VersionsOk_l1  n1) z.1 z.2.1 z.2.2) r (fun _ => by simp [hkeys]) ?_ ?_
     ·rintro ⟨t0, t3, t68⟩ h
      replace h : m_spec_VersionsOk_j1  (m_spec_VersionsOk_l1  n1) t0 t3 t68 = some _ := h
      refine LWP.cond_split rfl (fun h32 => ?_) (fun h32 => ?_)
      ·have h := bT h32 h
       refine LWP.seq_k fun N33 hN33 => ?_
       refine LWP.region (l := [_]) ?_
       refine LWo.assign (e_bool false) rfl (hn := ?_)
       refine LWo.nil (hN33 _ ?_)
       obtain rfl := Option.some.inj h
       refine LWP.ret (QG.mk (.inr rfl) (.cons (.tmp (x := (e_bool false)) rfl) (.nil)) (RetOK.one0 (.pure rfl) (by decide)) rfl rfl)
      ·have h := bF h32 h
       refine LWP.skip (hN9 _ ?_)
       refine LWP.region (l := [_,_,_]) ?_
       refine LWo.move (e_int t3) rfl (hn := ?_)
       refine bk h fun x34 e34 h => ?_
       refine LWo.int _ rfl rfl (add_ck e34) (hn := ?_)
       refine LWo.assign (e_int x34) rfl (hn := ?_)
       refine LWo.nil (hN4 (t0, x34) _ ⟨rfl, rfl, trivial⟩ trivial h)
     ·intro N16 hN16
      refine bS (decide (t3 > (0 : Int))) (fun h17 => ?_) (fun h17 => ?_)
      ·have h := bT h17 h
       refine bk h fun x18 e18 h => ?_
       refine bk h fun x19 e19 h => ?_
       refine bk h fun x20 e20 h => ?_
       refine bS (decide (x19.Key ≥ x20.Key)) (fun h21 => ?_) (fun h21 => ?_)
       ·have h := bT h21 h
        refine bk h fun x22 e22 h => ?_
        refine bk h fun x23 e23 h => ?_
        refine bk h fun x24 e24 h => ?_
        refine bS (decide (x23.Key > x24.Key)) (fun h25 => ?_) (fun h25 => ?_)
        ·have h := bT h25 h
         refine LWP.drawF (l := [_,_,_,_,_,_,_,_,_,_,_,_,_,_,_,_,_,_,_,_,_,_,_,_,_,_,_,_,_,_,_,_,_,_,_,_,_,_,_,_,_,_,_,_,_,_,_,_,_,_,_,_,_]) [] [0, 3] [([3], []), ([16], []), ([17], []), ([0, 18], []), ([3, 18], []), ([18, 20], []), ([18, 19, 21], []), ([18, 22], []), ([18, 23], []), ([0, 18], []), ([3, 18], []), ([18, 25, 26], []), ([18, 27], []), ([18, 28], []), ([18, 24, 29], []), ([18, 30], []), ([31], []), ([0, 32], []), ([3, 32], []), ([32, 34], []), ([32, 33, 35], []), ([32, 36], []), ([32, 37], []), ([0, 32], []), ([3, 32], []), ([32, 39, 40], []), ([32, 41], []), ([32, 42], []), ([32, 38, 43], []), ([32, 44], []), ([0, 45], []), ([3, 45], []), ([45, 47], []), ([45, 46, 48], []), ([45, 49], []), ([45, 50], []), ([45, 51], []), ([32, 45, 52], []), ([32, 53], []), ([0, 54], []), ([3, 54], []), ([54, 56], []), ([54, 55, 57], []), ([54, 58], []), ([54, 59], []), ([0, 54], []), ([3, 54], []), ([54, 61, 62], []), ([54, 63], []), ([54, 64], []), ([54, 60, 65], []), ([32, 54, 66], []), ([32, 67], [])] [0, 3, 68] [] mixed (by kernel_rfl) rfl (by decide) ?_
         refine dq 16 rfl (fun _ g u h => LWo.move (e_int t3) u.1 (hn := .nil (zn g))) ?_
         refine dq 17 rfl (fun _ g u h => LWo.int _ u.1 rfl rfl (hn := .nil (zn g))) ?_
         refine dq 18 rfl (fun _ g u h => LWo.move (e_bool (decide (t3 > (0 : Int)))) u.1 (hn := .nil (zn g))) ?_
         refine dq 19 rfl (fun _ g u h => LWo.guardY (t := 18) u.2.1 h17 rfl rfl (LWo.move (e_Limpl_Version t0) u.1 (hn := .nil (zn g)))) ?_
         refine dq 20 rfl (fun _ g u h => LWo.guardY (t := 18) u.2.1 h17 rfl rfl (LWo.move (e_int t3) u.1 (hn := .nil (zn g)))) ?_
         refine dq 21 rfl (fun _ g u h => LWo.guardY (t := 18) u.1 h17 rfl rfl (LWo.int _ u.2.1 rfl (sub_ck e18) (hn := .nil (zn g)))) ?_
         refine dq 22 rfl (fun _ g u h => LWo.guardY (t := 18) u.1 h17 rfl rfl (LWo.indexM (f := e_impl_Version) e19 u_Limpl_Version s_impl_Version u.2.1 u.2.2.1 (hn := .nil (zn g)))) ?_
         refine dq 23 rfl (fun _ g u h => LWo.guardY (t := 18) u.1 h17 rfl rfl (LWo.fieldAddr _ u_impl_Version rfl s_int u.2.1 rfl (hn := .nil (zn g)))) ?_
         refine dq 24 rfl (fun _ g u h => LWo.guardY (t := 18) u.1 h17 rfl rfl (LWo.load1 (c := (e_int x19.Key)) g_int u.2.1 (hn := .nil (zn g)))) ?_
         refine dq 25 rfl (fun _ g u h => LWo.guardY (t := 18) u.2.1 h17 rfl rfl (LWo.move (e_Limpl_Version t0) u.1 (hn := .nil (zn g)))) ?_
         refine dq 26 rfl (fun _ g u h => LWo.guardY (t := 18) u.2.1 h17 rfl rfl (LWo.move (e_int t3) u.1 (hn := .nil (zn g)))) ?_
         refine dq 27 rfl (fun _ g u h => LWo.guardY (t := 18) u.1 h17 rfl rfl (LWo.indexM (f := e_impl_Version) e20 u_Limpl_Version s_impl_Version u.2.1 u.2.2.1 (hn := .nil (zn g)))) ?_
         refine dq 28 rfl (fun _ g u h => LWo.guardY (t := 18) u.1 h17 rfl rfl (LWo.fieldAddr _ u_impl_Version rfl s_int u.2.1 rfl (hn := .nil (zn g)))) ?_
         refine dq 29 rfl (fun _ g u h => LWo.guardY (t := 18) u.1 h17 rfl rfl (LWo.load1 (c := (e_int x20.Key)) g_int u.2.1 (hn := .nil (zn g)))) ?_
         refine dq 30 rfl (fun _ g u h => LWo.guardY (t := 18) u.1 h17 rfl rfl (LWo.int _ u.2.1 u.2.2.1 rfl (hn := .nil (zn g)))) ?_
         refine dq 31 rfl (fun _ g u h => LWo.pickTM (e_bool (decide (x19.Key ≥ x20.Key))) u.1 h17 u.2.1 (hn := .nil (zn g))) ?_
         refine dq 32 rfl (fun _ g u h => LWo.move (e_bool (decide (x19.Key ≥ x20.Key))) u.1 (hn := .nil (zn g))) ?_
         refine dq 33 rfl (fun _ g u h => LWo.guardY (t := 32) u.2.1 h21 rfl rfl (LWo.move (e_Limpl_Version t0) u.1 (hn := .nil (zn g)))) ?_
         refine dq 34 rfl (fun _ g u h => LWo.guardY (t := 32) u.2.1 h21 rfl rfl (LWo.move (e_int t3) u.1 (hn := .nil (zn g)))) ?_
         refine dq 35 rfl (fun _ g u h => LWo.guardY (t := 32) u.1 h21 rfl rfl (LWo.int _ u.2.1 rfl (sub_ck e22) (hn := .nil (zn g)))) ?_
         refine dq 36 rfl (fun _ g u h => LWo.guardY (t := 32) u.1 h21 rfl rfl (LWo.indexM (f := e_impl_Version) e23 u_Limpl_Version s_impl_Version u.2.1 u.2.2.1 (hn := .nil (zn g)))) ?_
         refine dq 37 rfl (fun _ g u h => LWo.guardY (t := 32) u.1 h21 rfl rfl (LWo.fieldAddr _ u_impl_Version rfl s_int u.2.1 rfl (hn := .nil (zn g)))) ?_
         refine dq 38 rfl (fun _ g u h => LWo.guardY (t := 32) u.1 h21 rfl rfl (LWo.load1 (c := (e_int x23.Key)) g_int u.2.1 (hn := .nil (zn g)))) ?_
         refine dq 39 rfl (fun _ g u h => LWo.guardY (t := 32) u.2.1 h21 rfl rfl (LWo.move (e_Limpl_Version t0) u.1 (hn := .nil (zn g)))) ?_
         refine dq 40 rfl (fun _ g u h => LWo.guardY (t := 32) u.2.1 h21 rfl rfl (LWo.move (e_int t3) u.1 (hn := .nil (zn g)))) ?_
         refine dq 41 rfl (fun _ g u h => LWo.guardY (t := 32) u.1 h21 rfl rfl (LWo.indexM (f := e_impl_Version) e24 u_Limpl_Version s_impl_Version u.2.1 u.2.2.1 (hn := .nil (zn g)))) ?_
         refine dq 42 rfl (fun _ g u h => LWo.guardY (t := 32) u.1 h21 rfl rfl (LWo.fieldAddr _ u_impl_Version rfl s_int u.2.1 rfl (hn := .nil (zn g)))) ?_
         refine dq 43 rfl (fun _ g u h => LWo.guardY (t := 32) u.1 h21 rfl rfl (LWo.load1 (c := (e_int x24.Key)) g_int u.2.1 (hn := .nil (zn g)))) ?_
         refine dq 44 rfl (fun _ g u h => LWo.guardY (t := 32) u.1 h21 rfl rfl (LWo.int _ u.2.1 u.2.2.1 rfl (hn := .nil (zn g)))) ?_
         refine dq 45 rfl (fun _ g u h => LWo.guardY (t := 32) u.1 h21 rfl rfl (LWo.move (e_bool (decide (x23.Key > x24.Key))) u.2.1 (hn := .nil (zn g)))) ?_
         refine dq 46 rfl (fun _ g u h => LWo.guardNU (t := 45) u.2.1 h25 rfl rfl rfl rfl rfl (.nil (zn g))) ?_
         refine dq 47 rfl (fun _ g u h => LWo.guardNU (t := 45) u.2.1 h25 rfl rfl rfl rfl rfl (.nil (zn g))) ?_
         refine dq 48 rfl (fun _ g u h => LWo.guardNU (t := 45) u.1 h25 rfl rfl rfl rfl rfl (.nil (zn g))) ?_
         refine dq 49 rfl (fun _ g u h => LWo.guardNU (t := 45) u.1 h25 rfl rfl rfl rfl rfl (.nil (zn g))) ?_
         refine dq 50 rfl (fun _ g u h => LWo.guardNU (t := 45) u.1 h25 rfl rfl rfl rfl rfl (.nil (zn g))) ?_
         refine dq 51 rfl (fun _ g u h => LWo.guardNU (t := 45) u.1 h25 rfl rfl rfl rfl rfl (.nil (zn g))) ?_
         refine dq 52 rfl (fun _ g u h => LWo.guardNU (t := 45) u.1 h25 rfl rfl rfl rfl rfl (.nil (zn g))) ?_
         refine dq 53 rfl (fun _ g u h => LWo.guardY (t := 32) u.1 h21 rfl rfl (LWo.pickTM (e_bool true) u.2.1 h25 rfl (hn := .nil (zn g)))) ?_
         refine dq 54 rfl (fun _ g u h => LWo.guardY (t := 32) u.1 h21 rfl rfl (LWo.move (e_bool true) u.2.1 (hn := .nil (zn g)))) ?_
         refine dq 55 rfl (fun _ g u h => LWo.guardNU (t := 54) u.2.1 rfl rfl rfl rfl rfl rfl (.nil (zn g))) ?_
         refine dq 56 rfl (fun _ g u h => LWo.guardNU (t := 54) u.2.1 rfl rfl rfl rfl rfl rfl (.nil (zn g))) ?_
         refine dq 57 rfl (fun _ g u h => LWo.guardNU (t := 54) u.1 rfl rfl rfl rfl rfl rfl (.nil (zn g))) ?_
         refine dq 58 rfl (fun _ g u h => LWo.guardNU (t := 54) u.1 rfl rfl rfl rfl rfl rfl (.nil (zn g))) ?_
         refine dq 59 rfl (fun _ g u h => LWo.guardNU (t := 54) u.1 rfl rfl rfl rfl rfl rfl (.nil (zn g))) ?_
         refine dq 60 rfl (fun _ g u h => LWo.guardNU (t := 54) u.1 rfl rfl rfl rfl rfl rfl (.nil (zn g))) ?_
         refine dq 61 rfl (fun _ g u h => LWo.guardNU (t := 54) u.2.1 rfl rfl rfl rfl rfl rfl (.nil (zn g))) ?_
         refine dq 62 rfl (fun _ g u h => LWo.guardNU (t := 54) u.2.1 rfl rfl rfl rfl rfl rfl (.nil (zn g))) ?_
         refine dq 63 rfl (fun _ g u h => LWo.guardNU (t := 54) u.1 rfl rfl rfl rfl rfl rfl (.nil (zn g))) ?_
         refine dq 64 rfl (fun _ g u h => LWo.guardNU (t := 54) u.1 rfl rfl rfl rfl rfl rfl (.nil (zn g))) ?_
         refine dq 65 rfl (fun _ g u h => LWo.guardNU (t := 54) u.1 rfl rfl rfl rfl rfl rfl (.nil (zn g))) ?_
         refine dq 66 rfl (fun _ g u h => LWo.guardNU (t := 54) u.1 rfl rfl rfl rfl rfl rfl (.nil (zn g))) ?_
         refine dq 67 rfl (fun _ g u h => LWo.guardY (t := 32) u.1 h21 rfl rfl (LWo.pickTM (e_bool true) u.2.1 rfl rfl (hn := .nil (zn g)))) ?_
         refine dq 68 rfl (fun _ g u h => LWo.pickTM (e_bool true) u.1 h21 u.2.1 (hn := .nil (zn g))) ?_
         refine ⟨rfl, by kernel_rfl, hN16 (t0, t3, true) _ ⟨rfl, rfl, rfl, trivial⟩ trivial h⟩
        ·have h := bF h25 h
         refine bk h fun x26 e26 h => ?_
         refine bk h fun x27 e27 h => ?_
         refine bS ((x27.Died == (0 : Int))) (fun h28 => ?_) (fun h28 => ?_)
         ·have h := bT h28 h
          refine LWP.drawF (l := [_,_,_,_,_,_,_,_,_,_,_,_,_,_,_,_,_,_,_,_,_,_,_,_,_,_,_,_,_,_,_,_,_,_,_,_,_,_,_,_,_,_,_,_,_,_,_,_,_,_,_,_,_]) [] [0, 3] [([3], []), ([16], []), ([17], []), ([0, 18], []), ([3, 18], []), ([18, 20], []), ([18, 19, 21], []), ([18, 22], []), ([18, 23], []), ([0, 18], []), ([3, 18], []), ([18, 25, 26], []), ([18, 27], []), ([18, 28], []), ([18, 24, 29], []), ([18, 30], []), ([31], []), ([0, 32], []), ([3, 32], []), ([32, 34], []), ([32, 33, 35], []), ([32, 36], []), ([32, 37], []), ([0, 32], []), ([3, 32], []), ([32, 39, 40], []), ([32, 41], []), ([32, 42], []), ([32, 38, 43], []), ([32, 44], []), ([0, 45], []), ([3, 45], []), ([45, 47], []), ([45, 46, 48], []), ([45, 49], []), ([45, 50], []), ([45, 51], []), ([32, 45, 52], []), ([32, 53], []), ([0, 54], []), ([3, 54], []), ([54, 56], []), ([54, 55, 57], []), ([54, 58], []), ([54, 59], []), ([0, 54], []), ([3, 54], []), ([54, 61, 62], []), ([54, 63], []), ([54, 64], []), ([54, 60, 65], []), ([32, 54, 66], []), ([32, 67], [])] [0, 3, 68] [] mixed (by kernel_rfl) rfl (by decide) ?_
          refine dq 16 rfl (fun _ g u h => LWo.move (e_int t3) u.1 (hn := .nil (zn g))) ?_
          refine dq 17 rfl (fun _ g u h => LWo.int _ u.1 rfl rfl (hn := .nil (zn g))) ?_
          refine dq 18 rfl (fun _ g u h => LWo.move (e_bool (decide (t3 > (0 : Int)))) u.1 (hn := .nil (zn g))) ?_
          refine dq 19 rfl (fun _ g u h => LWo.guardY (t := 18) u.2.1 h17 rfl rfl (LWo.move (e_Limpl_Version t0) u.1 (hn := .nil (zn g)))) ?_
          refine dq 20 rfl (fun _ g u h => LWo.guardY (t := 18) u.2.1 h17 rfl rfl (LWo.move (e_int t3) u.1 (hn := .nil (zn g)))) ?_
          refine dq 21 rfl (fun _ g u h => LWo.guardY (t := 18) u.1 h17 rfl rfl (LWo.int _ u.2.1 rfl (sub_ck e18) (hn := .nil (zn g)))) ?_
          refine dq 22 rfl (fun _ g u h => LWo.guardY (t := 18) u.1 h17 rfl rfl (LWo.indexM (f := e_impl_Version) e19 u_Limpl_Version s_impl_Version u.2.1 u.2.2.1 (hn := .nil (zn g)))) ?_
          refine dq 23 rfl (fun _ g u h => LWo.guardY (t := 18) u.1 h17 rfl rfl (LWo.fieldAddr _ u_impl_Version rfl s_int u.2.1 rfl (hn := .nil (zn g)))) ?_
          refine dq 24 rfl (fun _ g u h => LWo.guardY (t := 18) u.1 h17 rfl rfl (LWo.load1 (c := (e_int x19.Key)) g_int u.2.1 (hn := .nil (zn g)))) ?_
          refine dq 25 rfl (fun _ g u h => LWo.guardY (t := 18) u.2.1 h17 rfl rfl (LWo.move (e_Limpl_Version t0) u.1 (hn := .nil (zn g)))) ?_
          refine dq 26 rfl (fun _ g u h => LWo.guardY (t := 18) u.2.1 h17 rfl rfl (LWo.move (e_int t3) u.1 (hn := .nil (zn g)))) ?_
          refine dq 27 rfl (fun _ g u h => LWo.guardY (t := 18) u.1 h17 rfl rfl (LWo.indexM (f := e_impl_Version) e20 u_Limpl_Version s_impl_Version u.2.1 u.2.2.1 (hn := .nil (zn g)))) ?_
          refine dq 28 rfl (fun _ g u h => LWo.guardY (t := 18) u.1 h17 rfl rfl (LWo.fieldAddr _ u_impl_Version rfl s_int u.2.1 rfl (hn := .nil (zn g)))) ?_
          refine dq 29 rfl (fun _ g u h => LWo.guardY (t := 18) u.1 h17 rfl rfl (LWo.load1 (c := (e_int x20.Key)) g_int u.2.1 (hn := .nil (zn g)))) ?_
          refine dq 30 rfl (fun _ g u h => LWo.guardY (t := 18) u.1 h17 rfl rfl (LWo.int _ u.2.1 u.2.2.1 rfl (hn := .nil (zn g)))) ?_
          refine dq 31 rfl (fun _ g u h => LWo.pickTM (e_bool (decide (x19.Key ≥ x20.Key))) u.1 h17 u.2.1 (hn := .nil (zn g))) ?_
          refine dq 32 rfl (fun _ g u h => LWo.move (e_bool (decide (x19.Key ≥ x20.Key))) u.1 (hn := .nil (zn g))) ?_
          refine dq 33 rfl (fun _ g u h => LWo.guardY (t := 32) u.2.1 h21 rfl rfl (LWo.move (e_Limpl_Version t0) u.1 (hn := .nil (zn g)))) ?_
          refine dq 34 rfl (fun _ g u h => LWo.guardY (t := 32) u.2.1 h21 rfl rfl (LWo.move (e_int t3) u.1 (hn := .nil (zn g)))) ?_
          refine dq 35 rfl (fun _ g u h => LWo.guardY (t := 32) u.1 h21 rfl rfl (LWo.int _ u.2.1 rfl (sub_ck e22) (hn := .nil (zn g)))) ?_
          refine dq 36 rfl (fun _ g u h => LWo.guardY (t := 32) u.1 h21 rfl rfl (LWo.indexM (f := e_impl_Version) e23 u_Limpl_Version s_impl_Version u.2.1 u.2.2.1 (hn := .nil (zn g)))) ?_
          refine dq 37 rfl (fun _ g u h => LWo.guardY (t := 32) u.1 h21 rfl rfl (LWo.fieldAddr _ u_impl_Version rfl s_int u.2.1 rfl (hn := .nil (zn g)))) ?_
          refine dq 38 rfl (fun _ g u h => LWo.guardY (t := 32) u.1 h21 rfl rfl (LWo.load1 (c := (e_int x23.Key)) g_int u.2.1 (hn := .nil (zn g)))) ?_
          refine dq 39 rfl (fun _ g u h => LWo.guardY (t := 32) u.2.1 h21 rfl rfl (LWo.move (e_Limpl_Version t0) u.1 (hn := .nil (zn g)))) ?_
          refine dq 40 rfl (fun _ g u h => LWo.guardY (t := 32) u.2.1 h21 rfl rfl (LWo.move (e_int t3) u.1 (hn := .nil (zn g)))) ?_
          refine dq 41 rfl (fun _ g u h => LWo.guardY (t := 32) u.1 h21 rfl rfl (LWo.indexM (f := e_impl_Version) e24 u_Limpl_Version s_impl_Version u.2.1 u.2.2.1 (hn := .nil (zn g)))) ?_
          refine dq 42 rfl (fun _ g u h => LWo.guardY (t := 32) u.1 h21 rfl rfl (LWo.fieldAddr _ u_impl_Version rfl s_int u.2.1 rfl (hn := .nil (zn g)))) ?_
          refine dq 43 rfl (fun _ g u h => LWo.guardY (t := 32) u.1 h21 rfl rfl (LWo.load1 (c := (e_int x24.Key)) g_int u.2.1 (hn := .nil (zn g)))) ?_
          refine dq 44 rfl (fun _ g u h => LWo.guardY (t := 32) u.1 h21 rfl rfl (LWo.int _ u.2.1 u.2.2.1 rfl (hn := .nil (zn g)))) ?_
          refine dq 45 rfl (fun _ g u h => LWo.guardY (t := 32) u.1 h21 rfl rfl (LWo.move (e_bool (decide (x23.Key > x24.Key))) u.2.1 (hn := .nil (zn g)))) ?_
          refine dq 46 rfl (fun _ g u h => LWo.guardY (t := 45) u.2.1 h25 rfl rfl (LWo.move (e_Limpl_Version t0) u.1 (hn := .nil (zn g)))) ?_
          refine dq 47 rfl (fun _ g u h => LWo.guardY (t := 45) u.2.1 h25 rfl rfl (LWo.move (e_int t3) u.1 (hn := .nil (zn g)))) ?_
          refine dq 48 rfl (fun _ g u h => LWo.guardY (t := 45) u.1 h25 rfl rfl (LWo.int _ u.2.1 rfl (sub_ck e26) (hn := .nil (zn g)))) ?_
          refine dq 49 rfl (fun _ g u h => LWo.guardY (t := 45) u.1 h25 rfl rfl (LWo.indexM (f := e_impl_Version) e27 u_Limpl_Version s_impl_Version u.2.1 u.2.2.1 (hn := .nil (zn g)))) ?_
          refine dq 50 rfl (fun _ g u h => LWo.guardY (t := 45) u.1 h25 rfl rfl (LWo.fieldAddr _ u_impl_Version rfl s_int u.2.1 rfl (hn := .nil (zn g)))) ?_
          refine dq 51 rfl (fun _ g u h => LWo.guardY (t := 45) u.1 h25 rfl rfl (LWo.load1 (c := (e_int x27.Died)) g_int u.2.1 (hn := .nil (zn g)))) ?_
          refine dq 52 rfl (fun _ g u h => LWo.guardY (t := 45) u.1 h25 rfl rfl (LWo.int _ u.2.1 rfl rfl (hn := .nil (zn g)))) ?_
          refine dq 53 rfl (fun _ g u h => LWo.guardY (t := 32) u.1 h21 rfl rfl (LWo.pickFM (e_bool (x27.Died == (0 : Int))) u.2.1 h25 u.2.2.1 (hn := .nil (zn g)))) ?_
          refine dq 54 rfl (fun _ g u h => LWo.guardY (t := 32) u.1 h21 rfl rfl (LWo.move (e_bool (x27.Died == (0 : Int))) u.2.1 (hn := .nil (zn g)))) ?_
          refine dq 55 rfl (fun _ g u h => LWo.guardNU (t := 54) u.2.1 h28 rfl rfl rfl rfl rfl (.nil (zn g))) ?_
          refine dq 56 rfl (fun _ g u h => LWo.guardNU (t := 54) u.2.1 h28 rfl rfl rfl rfl rfl (.nil (zn g))) ?_
          refine dq 57 rfl (fun _ g u h => LWo.guardNU (t := 54) u.1 h28 rfl rfl rfl rfl rfl (.nil (zn g))) ?_
          refine dq 58 rfl (fun _ g u h => LWo.guardNU (t := 54) u.1 h28 rfl rfl rfl rfl rfl (.nil (zn g))) ?_
          refine dq 59 rfl (fun _ g u h => LWo.guardNU (t := 54) u.1 h28 rfl rfl rfl rfl rfl (.nil (zn g))) ?_
          refine dq 60 rfl (fun _ g u h => LWo.guardNU (t := 54) u.1 h28 rfl rfl rfl rfl rfl (.nil (zn g))) ?_
          refine dq 61 rfl (fun _ g u h => LWo.guardNU (t := 54) u.2.1 h28 rfl rfl rfl rfl rfl (.nil (zn g))) ?_
          refine dq 62 rfl (fun _ g u h => LWo.guardNU (t := 54) u.2.1 h28 rfl rfl rfl rfl rfl (.nil (zn g))) ?_
          refine dq 63 rfl (fun _ g u h => LWo.guardNU (t := 54) u.1 h28 rfl rfl rfl rfl rfl (.nil (zn g))) ?_
          refine dq 64 rfl (fun _ g u h => LWo.guardNU (t := 54) u.1 h28 rfl rfl rfl rfl rfl (.nil (zn g))) ?_
          refine dq 65 rfl (fun _ g u h => LWo.guardNU (t := 54) u.1 h28 rfl rfl rfl rfl rfl (.nil (zn g))) ?_
          refine dq 66 rfl (fun _ g u h => LWo.guardNU (t := 54) u.1 h28 rfl rfl rfl rfl rfl (.nil (zn g))) ?_
          refine dq 67 rfl (fun _ g u h => LWo.guardY (t := 32) u.1 h21 rfl rfl (LWo.pickTM (e_bool true) u.2.1 h28 rfl (hn := .nil (zn g)))) ?_
          refine dq 68 rfl (fun _ g u h => LWo.pickTM (e_bool true) u.1 h21 u.2.1 (hn := .nil (zn g))) ?_
          refine ⟨rfl, by kernel_rfl, hN16 (t0, t3, true) _ ⟨rfl, rfl, rfl, trivial⟩ trivial h⟩
         ·have h := bF h28 h
          refine bk h fun x29 e29 h => ?_
          refine bk h fun x30 e30 h => ?_
          refine bk h fun x31 e31 h => ?_
          refine LWP.drawF (l := [_,_,_,_,_,_,_,_,_,_,_,_,_,_,_,_,_,_,_,_,_,_,_,_,_,_,_,_,_,_,_,_,_,_,_,_,_,_,_,_,_,_,_,_,_,_,_,_,_,_,_,_,_]) [] [0, 3] [([3], []), ([16], []), ([17], []), ([0, 18], []), ([3, 18], []), ([18, 20], []), ([18, 19, 21], []), ([18, 22], []), ([18, 23], []), ([0, 18], []), ([3, 18], []), ([18, 25, 26], []), ([18, 27], []), ([18, 28], []), ([18, 24, 29], []), ([18, 30], []), ([31], []), ([0, 32], []), ([3, 32], []), ([32, 34], []), ([32, 33, 35], []), ([32, 36], []), ([32, 37], []), ([0, 32], []), ([3, 32], []), ([32, 39, 40], []), ([32, 41], []), ([32, 42], []), ([32, 38, 43], []), ([32, 44], []), ([0, 45], []), ([3, 45], []), ([45, 47], []), ([45, 46, 48], []), ([45, 49], []), ([45, 50], []), ([45, 51], []), ([32, 45, 52], []), ([32, 53], []), ([0, 54], []), ([3, 54], []), ([54, 56], []), ([54, 55, 57], []), ([54, 58], []), ([54, 59], []), ([0, 54], []), ([3, 54], []), ([54, 61, 62], []), ([54, 63], []), ([54, 64], []), ([54, 60, 65], []), ([32, 54, 66], []), ([32, 67], [])] [0, 3, 68] [] mixed (by kernel_rfl) rfl (by decide) ?_
          refine dq 16 rfl (fun _ g u h => LWo.move (e_int t3) u.1 (hn := .nil (zn g))) ?_
          refine dq 17 rfl (fun _ g u h => LWo.int _ u.1 rfl rfl (hn := .nil (zn g))) ?_
          refine dq 18 rfl (fun _ g u h => LWo.move (e_bool (decide (t3 > (0 : Int)))) u.1 (hn := .nil (zn g))) ?_
          refine dq 19 rfl (fun _ g u h => LWo.guardY (t := 18) u.2.1 h17 rfl rfl (LWo.move (e_Limpl_Version t0) u.1 (hn := .nil (zn g)))) ?_
          refine dq 20 rfl (fun _ g u h => LWo.guardY (t := 18) u.2.1 h17 rfl rfl (LWo.move (e_int t3) u.1 (hn := .nil (zn g)))) ?_
          refine dq 21 rfl (fun _ g u h => LWo.guardY (t := 18) u.1 h17 rfl rfl (LWo.int _ u.2.1 rfl (sub_ck e18) (hn := .nil (zn g)))) ?_
          refine dq 22 rfl (fun _ g u h => LWo.guardY (t := 18) u.1 h17 rfl rfl (LWo.indexM (f := e_impl_Version) e19 u_Limpl_Version s_impl_Version u.2.1 u.2.2.1 (hn := .nil (zn g)))) ?_
          refine dq 23 rfl (fun _ g u h => LWo.guardY (t := 18) u.1 h17 rfl rfl (LWo.fieldAddr _ u_impl_Version rfl s_int u.2.1 rfl (hn := .nil (zn g)))) ?_
          refine dq 24 rfl (fun _ g u h => LWo.guardY (t := 18) u.1 h17 rfl rfl (LWo.load1 (c := (e_int x19.Key)) g_int u.2.1 (hn := .nil (zn g)))) ?_
          refine dq 25 rfl (fun _ g u h => LWo.guardY (t := 18) u.2.1 h17 rfl rfl (LWo.move (e_Limpl_Version t0) u.1 (hn := .nil (zn g)))) ?_
          refine dq 26 rfl (fun _ g u h => LWo.guardY (t := 18) u.2.1 h17 rfl rfl (LWo.move (e_int t3) u.1 (hn := .nil (zn g)))) ?_
          refine dq 27 rfl (fun _ g u h => LWo.guardY (t := 18) u.1 h17 rfl rfl (LWo.indexM (f := e_impl_Version) e20 u_Limpl_Version s_impl_Version u.2.1 u.2.2.1 (hn := .nil (zn g)))) ?_
          refine dq 28 rfl (fun _ g u h => LWo.guardY (t := 18) u.1 h17 rfl rfl (LWo.fieldAddr _ u_impl_Version rfl s_int u.2.1 rfl (hn := .nil (zn g)))) ?_
          refine dq 29 rfl (fun _ g u h => LWo.guardY (t := 18) u.1 h17 rfl rfl (LWo.load1 (c := (e_int x20.Key)) g_int u.2.1 (hn := .nil (zn g)))) ?_
          refine dq 30 rfl (fun _ g u h => LWo.guardY (t := 18) u.1 h17 rfl rfl (LWo.int _ u.2.1 u.2.2.1 rfl (hn := .nil (zn g)))) ?_
          refine dq 31 rfl (fun _ g u h => LWo.pickTM (e_bool (decide (x19.Key ≥ x20.Key))) u.1 h17 u.2.1 (hn := .nil (zn g))) ?_
          refine dq 32 rfl (fun _ g u h => LWo.move (e_bool (decide (x19.Key ≥ x20.Key))) u.1 (hn := .nil (zn g))) ?_
          refine dq 33 rfl (fun _ g u h => LWo.guardY (t := 32) u.2.1 h21 rfl rfl (LWo.move (e_Limpl_Version t0) u.1 (hn := .nil (zn g)))) ?_
          refine dq 34 rfl (fun _ g u h => LWo.guardY (t := 32) u.2.1 h21 rfl rfl (LWo.move (e_int t3) u.1 (hn := .nil (zn g)))) ?_
          refine dq 35 rfl (fun _ g u h => LWo.guardY (t := 32) u.1 h21 rfl rfl (LWo.int _ u.2.1 rfl (sub_ck e22) (hn := .nil (zn g)))) ?_
          refine dq 36 rfl (fun _ g u h => LWo.guardY (t := 32) u.1 h21 rfl rfl (LWo.indexM (f := e_impl_Version) e23 u_Limpl_Version s_impl_Version u.2.1 u.2.2.1 (hn := .nil (zn g)))) ?_
          refine dq 37 rfl (fun _ g u h => LWo.guardY (t := 32) u.1 h21 rfl rfl (LWo.fieldAddr _ u_impl_Version rfl s_int u.2.1 rfl (hn := .nil (zn g)))) ?_
          refine dq 38 rfl (fun _ g u h => LWo.guardY (t := 32) u.1 h21 rfl rfl (LWo.load1 (c := (e_int x23.Key)) g_int u.2.1 (hn := .nil (zn g)))) ?_
          refine dq 39 rfl (fun _ g u h => LWo.guardY (t := 32) u.2.1 h21 rfl rfl (LWo.move (e_Limpl_Version t0) u.1 (hn := .nil (zn g)))) ?_
          refine dq 40 rfl (fun _ g u h => LWo.guardY (t := 32) u.2.1 h21 rfl rfl (LWo.move (e_int t3) u.1 (hn := .nil (zn g)))) ?_
          refine dq 41 rfl (fun _ g u h => LWo.guardY (t := 32) u.1 h21 rfl rfl (LWo.indexM (f := e_impl_Version) e24 u_Limpl_Version s_impl_Version u.2.1 u.2.2.1 (hn := .nil (zn g)))) ?_
          refine dq 42 rfl (fun _ g u h => LWo.guardY (t := 32) u.1 h21 rfl rfl (LWo.fieldAddr _ u_impl_Version rfl s_int u.2.1 rfl (hn := .nil (zn g)))) ?_
          refine dq 43 rfl (fun _ g u h => LWo.guardY (t := 32) u.1 h21 rfl rfl (LWo.load1 (c := (e_int x24.Key)) g_int u.2.1 (hn := .nil (zn g)))) ?_
          refine dq 44 rfl (fun _ g u h => LWo.guardY (t := 32) u.1 h21 rfl rfl (LWo.int _ u.2.1 u.2.2.1 rfl (hn := .nil (zn g)))) ?_
          refine dq 45 rfl (fun _ g u h => LWo.guardY (t := 32) u.1 h21 rfl rfl (LWo.move (e_bool (decide (x23.Key > x24.Key))) u.2.1 (hn := .nil (zn g)))) ?_
          refine dq 46 rfl (fun _ g u h => LWo.guardY (t := 45) u.2.1 h25 rfl rfl (LWo.move (e_Limpl_Version t0) u.1 (hn := .nil (zn g)))) ?_
          refine dq 47 rfl (fun _ g u h => LWo.guardY (t := 45) u.2.1 h25 rfl rfl (LWo.move (e_int t3) u.1 (hn := .nil (zn g)))) ?_
          refine dq 48 rfl (fun _ g u h => LWo.guardY (t := 45) u.1 h25 rfl rfl (LWo.int _ u.2.1 rfl (sub_ck e26) (hn := .nil (zn g)))) ?_
          refine dq 49 rfl (fun _ g u h => LWo.guardY (t := 45) u.1 h25 rfl rfl (LWo.indexM (f := e_impl_Version) e27 u_Limpl_Version s_impl_Version u.2.1 u.2.2.1 (hn := .nil (zn g)))) ?_
          refine dq 50 rfl (fun _ g u h => LWo.guardY (t := 45) u.1 h25 rfl rfl (LWo.fieldAddr _ u_impl_Version rfl s_int u.2.1 rfl (hn := .nil (zn g)))) ?_
          refine dq 51 rfl (fun _ g u h => LWo.guardY (t := 45) u.1 h25 rfl rfl (LWo.load1 (c := (e_int x27.Died)) g_int u.2.1 (hn := .nil (zn g)))) ?_
          refine dq 52 rfl (fun _ g u h => LWo.guardY (t := 45) u.1 h25 rfl rfl (LWo.int _ u.2.1 rfl rfl (hn := .nil (zn g)))) ?_
          refine dq 53 rfl (fun _ g u h => LWo.guardY (t := 32) u.1 h21 rfl rfl (LWo.pickFM (e_bool (x27.Died == (0 : Int))) u.2.1 h25 u.2.2.1 (hn := .nil (zn g)))) ?_
          refine dq 54 rfl (fun _ g u h => LWo.guardY (t := 32) u.1 h21 rfl rfl (LWo.move (e_bool (x27.Died == (0 : Int))) u.2.1 (hn := .nil (zn g)))) ?_
          refine dq 55 rfl (fun _ g u h => LWo.guardY (t := 54) u.2.1 h28 rfl rfl (LWo.move (e_Limpl_Version t0) u.1 (hn := .nil (zn g)))) ?_
          refine dq 56 rfl (fun _ g u h => LWo.guardY (t := 54) u.2.1 h28 rfl rfl (LWo.move (e_int t3) u.1 (hn := .nil (zn g)))) ?_
          refine dq 57 rfl (fun _ g u h => LWo.guardY (t := 54) u.1 h28 rfl rfl (LWo.int _ u.2.1 rfl (sub_ck e29) (hn := .nil (zn g)))) ?_
          refine dq 58 rfl (fun _ g u h => LWo.guardY (t := 54) u.1 h28 rfl rfl (LWo.indexM (f := e_impl_Version) e30 u_Limpl_Version s_impl_Version u.2.1 u.2.2.1 (hn := .nil (zn g)))) ?_
          refine dq 59 rfl (fun _ g u h => LWo.guardY (t := 54) u.1 h28 rfl rfl (LWo.fieldAddr _ u_impl_Version rfl s_int u.2.1 rfl (hn := .nil (zn g)))) ?_
          refine dq 60 rfl (fun _ g u h => LWo.guardY (t := 54) u.1 h28 rfl rfl (LWo.load1 (c := (e_int x30.Died)) g_int u.2.1 (hn := .nil (zn g)))) ?_
          refine dq 61 rfl (fun _ g u h => LWo.guardY (t := 54) u.2.1 h28 rfl rfl (LWo.move (e_Limpl_Version t0) u.1 (hn := .nil (zn g)))) ?_
          refine dq 62 rfl (fun _ g u h => LWo.guardY (t := 54) u.2.1 h28 rfl rfl (LWo.move (e_int t3) u.1 (hn := .nil (zn g)))) ?_
          refine dq 63 rfl (fun _ g u h => LWo.guardY (t := 54) u.1 h28 rfl rfl (LWo.indexM (f := e_impl_Version) e31 u_Limpl_Version s_impl_Version u.2.1 u.2.2.1 (hn := .nil (zn g)))) ?_
          refine dq 64 rfl (fun _ g u h => LWo.guardY (t := 54) u.1 h28 rfl rfl (LWo.fieldAddr _ u_impl_Version rfl s_int u.2.1 rfl (hn := .nil (zn g)))) ?_
          refine dq 65 rfl (fun _ g u h => LWo.guardY (t := 54) u.1 h28 rfl rfl (LWo.load1 (c := (e_int x31.Born)) g_int u.2.1 (hn := .nil (zn g)))) ?_
          refine dq 66 rfl (fun _ g u h => LWo.guardY (t := 54) u.1 h28 rfl rfl (LWo.int _ u.2.1 u.2.2.1 rfl (hn := .nil (zn g)))) ?_
          refine dq 67 rfl (fun _ g u h => LWo.guardY (t := 32) u.1 h21 rfl rfl (LWo.pickFM (e_bool (decide (x30.Died > x31.Born))) u.2.1 h28 u.2.2.1 (hn := .nil (zn g)))) ?_
          refine dq 68 rfl (fun _ g u h => LWo.pickTM (e_bool (decide (x30.Died > x31.Born))) u.1 h21 u.2.1 (hn := .nil (zn g))) ?_
          refine ⟨rfl, by kernel_rfl, hN16 (t0, t3, decide (x30.Died > x31.Born)) _ ⟨rfl, rfl, rfl, trivial⟩ trivial h⟩
       ·have h := bF h21 h
        refine LWP.drawF (l := [_,_,_,_,_,_,_,_,_,_,_,_,_,_,_,_,_,_,_,_,_,_,_,_,_,_,_,_,_,_,_,_,_,_,_,_,_,_,_,_,_,_,_,_,_,_,_,_,_,_,_,_,_]) [] [0, 3] [([3], []), ([16], []), ([17], []), ([0, 18], []), ([3, 18], []), ([18, 20], []), ([18, 19, 21], []), ([18, 22], []), ([18, 23], []), ([0, 18], []), ([3, 18], []), ([18, 25, 26], []), ([18, 27], []), ([18, 28], []), ([18, 24, 29], []), ([18, 30], []), ([31], []), ([0, 32], []), ([3, 32], []), ([32, 34], []), ([32, 33, 35], []), ([32, 36], []), ([32, 37], []), ([0, 32], []), ([3, 32], []), ([32, 39, 40], []), ([32, 41], []), ([32, 42], []), ([32, 38, 43], []), ([32, 44], []), ([0, 45], []), ([3, 45], []), ([45, 47], []), ([45, 46, 48], []), ([45, 49], []), ([45, 50], []), ([45, 51], []), ([32, 45, 52], []), ([32, 53], []), ([0, 54], []), ([3, 54], []), ([54, 56], []), ([54, 55, 57], []), ([54, 58], []), ([54, 59], []), ([0, 54], []), ([3, 54], []), ([54, 61, 62], []), ([54, 63], []), ([54, 64], []), ([54, 60, 65], []), ([32, 54, 66], []), ([32, 67], [])] [0, 3, 68] [] mixed (by kernel_rfl) rfl (by decide) ?_
        refine dq 16 rfl (fun _ g u h => LWo.move (e_int t3) u.1 (hn := .nil (zn g))) ?_
        refine dq 17 rfl (fun _ g u h => LWo.int _ u.1 rfl rfl (hn := .nil (zn g))) ?_
        refine dq 18 rfl (fun _ g u h => LWo.move (e_bool (decide (t3 > (0 : Int)))) u.1 (hn := .nil (zn g))) ?_
        refine dq 19 rfl (fun _ g u h => LWo.guardY (t := 18) u.2.1 h17 rfl rfl (LWo.move (e_Limpl_Version t0) u.1 (hn := .nil (zn g)))) ?_
        refine dq 20 rfl (fun _ g u h => LWo.guardY (t := 18) u.2.1 h17 rfl rfl (LWo.move (e_int t3) u.1 (hn := .nil (zn g)))) ?_
        refine dq 21 rfl (fun _ g u h => LWo.guardY (t := 18) u.1 h17 rfl rfl (LWo.int _ u.2.1 rfl (sub_ck e18) (hn := .nil (zn g)))) ?_
        refine dq 22 rfl (fun _ g u h => LWo.guardY (t := 18) u.1 h17 rfl rfl (LWo.indexM (f := e_impl_Version) e19 u_Limpl_Version s_impl_Version u.2.1 u.2.2.1 (hn := .nil (zn g)))) ?_
        refine dq 23 rfl (fun _ g u h => LWo.guardY (t := 18) u.1 h17 rfl rfl (LWo.fieldAddr _ u_impl_Version rfl s_int u.2.1 rfl (hn := .nil (zn g)))) ?_
        refine dq 24 rfl (fun _ g u h => LWo.guardY (t := 18) u.1 h17 rfl rfl (LWo.load1 (c := (e_int x19.Key)) g_int u.2.1 (hn := .nil (zn g)))) ?_
        refine dq 25 rfl (fun _ g u h => LWo.guardY (t := 18) u.2.1 h17 rfl rfl (LWo.move (e_Limpl_Version t0) u.1 (hn := .nil (zn g)))) ?_
        refine dq 26 rfl (fun _ g u h => LWo.guardY (t := 18) u.2.1 h17 rfl rfl (LWo.move (e_int t3) u.1 (hn := .nil (zn g)))) ?_
        refine dq 27 rfl (fun _ g u h => LWo.guardY (t := 18) u.1 h17 rfl rfl (LWo.indexM (f := e_impl_Version) e20 u_Limpl_Version s_impl_Version u.2.1 u.2.2.1 (hn := .nil (zn g)))) ?_
        refine dq 28 rfl (fun _ g u h => LWo.guardY (t := 18) u.1 h17 rfl rfl (LWo.fieldAddr _ u_impl_Version rfl s_int u.2.1 rfl (hn := .nil (zn g)))) ?_
        refine dq 29 rfl (fun _ g u h => LWo.guardY (t := 18) u.1 h17 rfl rfl (LWo.load1 (c := (e_int x20.Key)) g_int u.2.1 (hn := .nil (zn g)))) ?_
        refine dq 30 rfl (fun _ g u h => LWo.guardY (t := 18) u.1 h17 rfl rfl (LWo.int _ u.2.1 u.2.2.1 rfl (hn := .nil (zn g)))) ?_
        refine dq 31 rfl (fun _ g u h => LWo.pickTM (e_bool (decide (x19.Key ≥ x20.Key))) u.1 h17 u.2.1 (hn := .nil (zn g))) ?_
        refine dq 32 rfl (fun _ g u h => LWo.move (e_bool (decide (x19.Key ≥ x20.Key))) u.1 (hn := .nil (zn g))) ?_
        refine dq 33 rfl (fun _ g u h => LWo.guardNU (t := 32) u.2.1 h21 rfl rfl rfl rfl rfl (.nil (zn g))) ?_
        refine dq 34 rfl (fun _ g u h => LWo.guardNU (t := 32) u.2.1 h21 rfl rfl rfl rfl rfl (.nil (zn g))) ?_
        refine dq 35 rfl (fun _ g u h => LWo.guardNU (t := 32) u.1 h21 rfl rfl rfl rfl rfl (.nil (zn g))) ?_
        refine dq 36 rfl (fun _ g u h => LWo.guardNU (t := 32) u.1 h21 rfl rfl rfl rfl rfl (.nil (zn g))) ?_
        refine dq 37 rfl (fun _ g u h => LWo.guardNU (t := 32) u.1 h21 rfl rfl rfl rfl rfl (.nil (zn g))) ?_
        refine dq 38 rfl (fun _ g u h => LWo.guardNU (t := 32) u.1 h21 rfl rfl rfl rfl rfl (.nil (zn g))) ?_
        refine dq 39 rfl (fun _ g u h => LWo.guardNU (t := 32) u.2.1 h21 rfl rfl rfl rfl rfl (.nil (zn g))) ?_
        refine dq 40 rfl (fun _ g u h => LWo.guardNU (t := 32) u.2.1 h21 rfl rfl rfl rfl rfl (.nil (zn g))) ?_
        refine dq 41 rfl (fun _ g u h => LWo.guardNU (t := 32) u.1 h21 rfl rfl rfl rfl rfl (.nil (zn g))) ?_
        refine dq 42 rfl (fun _ g u h => LWo.guardNU (t := 32) u.1 h21 rfl rfl rfl rfl rfl (.nil (zn g))) ?_
        refine dq 43 rfl (fun _ g u h => LWo.guardNU (t := 32) u.1 h21 rfl rfl rfl rfl rfl (.nil (zn g))) ?_
        refine dq 44 rfl (fun _ g u h => LWo.guardNU (t := 32) u.1 h21 rfl rfl rfl rfl rfl (.nil (zn g))) ?_
        refine dq 45 rfl (fun _ g u h => LWo.guardNU (t := 32) u.1 h21 rfl rfl rfl rfl rfl (.nil (zn g))) ?_
        refine dq 46 rfl (fun _ g u h => LWo.guardU (t := 45) u.2.1 rfl rfl rfl rfl (.nil (zn g))) ?_
        refine dq 47 rfl (fun _ g u h => LWo.guardU (t := 45) u.2.1 rfl rfl rfl rfl (.nil (zn g))) ?_
        refine dq 48 rfl (fun _ g u h => LWo.guardU (t := 45) u.1 rfl rfl rfl rfl (.nil (zn g))) ?_
        refine dq 49 rfl (fun _ g u h => LWo.guardU (t := 45) u.1 rfl rfl rfl rfl (.nil (zn g))) ?_
        refine dq 50 rfl (fun _ g u h => LWo.guardU (t := 45) u.1 rfl rfl rfl rfl (.nil (zn g))) ?_
        refine dq 51 rfl (fun _ g u h => LWo.guardU (t := 45) u.1 rfl rfl rfl rfl (.nil (zn g))) ?_
        refine dq 52 rfl (fun _ g u h => LWo.guardU (t := 45) u.1 rfl rfl rfl rfl (.nil (zn g))) ?_
        refine dq 53 rfl (fun _ g u h => LWo.guardNU (t := 32) u.1 h21 rfl rfl rfl rfl rfl (.nil (zn g))) ?_
        refine dq 54 rfl (fun _ g u h => LWo.guardNU (t := 32) u.1 h21 rfl rfl rfl rfl rfl (.nil (zn g))) ?_
        refine dq 55 rfl (fun _ g u h => LWo.guardU (t := 54) u.2.1 rfl rfl rfl rfl (.nil (zn g))) ?_
        refine dq 56 rfl (fun _ g u h => LWo.guardU (t := 54) u.2.1 rfl rfl rfl rfl (.nil (zn g))) ?_
        refine dq 57 rfl (fun _ g u h => LWo.guardU (t := 54) u.1 rfl rfl rfl rfl (.nil (zn g))) ?_
        refine dq 58 rfl (fun _ g u h => LWo.guardU (t := 54) u.1 rfl rfl rfl rfl (.nil (zn g))) ?_
        refine dq 59 rfl (fun _ g u h => LWo.guardU (t := 54) u.1 rfl rfl rfl rfl (.nil (zn g))) ?_
        refine dq 60 rfl (fun _ g u h => LWo.guardU (t := 54) u.1 rfl rfl rfl rfl (.nil (zn g))) ?_
        refine dq 61 rfl (fun _ g u h => LWo.guardU (t := 54) u.2.1 rfl rfl rfl rfl (.nil (zn g))) ?_
        refine dq 62 rfl (fun _ g u h => LWo.guardU (t := 54) u.2.1 rfl rfl rfl rfl (.nil (zn g))) ?_
        refine dq 63 rfl (fun _ g u h => LWo.guardU (t := 54) u.1 rfl rfl rfl rfl (.nil (zn g))) ?_
        refine dq 64 rfl (fun _ g u h => LWo.guardU (t := 54) u.1 rfl rfl rfl rfl (.nil (zn g))) ?_
        refine dq 65 rfl (fun _ g u h => LWo.guardU (t := 54) u.1 rfl rfl rfl rfl (.nil (zn g))) ?_
        refine dq 66 rfl (fun _ g u h => LWo.guardU (t := 54) u.1 rfl rfl rfl rfl (.nil (zn g))) ?_
        refine dq 67 rfl (fun _ g u h => LWo.guardNU (t := 32) u.1 h21 rfl rfl rfl rfl rfl (.nil (zn g))) ?_
        refine dq 68 rfl (fun _ g u h => LWo.pickFM (e_bool false) u.1 h21 rfl (hn := .nil (zn g))) ?_
        refine ⟨rfl, by kernel_rfl, hN16 (t0, t3, false) _ ⟨rfl, rfl, rfl, trivial⟩ trivial h⟩
      ·have h := bF h17 h
       refine LWP.drawF (l := [_,_,_,_,_,_,_,_,_,_,_,_,_,_,_,_,_,_,_,_,_,_,_,_,_,_,_,_,_,_,_,_,_,_,_,_,_,_,_,_,_,_,_,_,_,_,_,_,_,_,_,_,_]) [] [0, 3] [([3], []), ([16], []), ([17], []), ([0, 18], []), ([3, 18], []), ([18, 20], []), ([18, 19, 21], []), ([18, 22], []), ([18, 23], []), ([0, 18], []), ([3, 18], []), ([18, 25, 26], []), ([18, 27], []), ([18, 28], []), ([18, 24, 29], []), ([18, 30], []), ([31], []), ([0, 32], []), ([3, 32], []), ([32, 34], []), ([32, 33, 35], []), ([32, 36], []), ([32, 37], []), ([0, 32], []), ([3, 32], []), ([32, 39, 40], []), ([32, 41], []), ([32, 42], []), ([32, 38, 43], []), ([32, 44], []), ([0, 45], []), ([3, 45], []), ([45, 47], []), ([45, 46, 48], []), ([45, 49], []), ([45, 50], []), ([45, 51], []), ([32, 45, 52], []), ([32, 53], []), ([0, 54], []), ([3, 54], []), ([54, 56], []), ([54, 55, 57], []), ([54, 58], []), ([54, 59], []), ([0, 54], []), ([3, 54], []), ([54, 61, 62], []), ([54, 63], []), ([54, 64], []), ([54, 60, 65], []), ([32, 54, 66], []), ([32, 67], [])] [0, 3, 68] [] mixed (by kernel_rfl) rfl (by decide) ?_
       refine dq 16 rfl (fun _ g u h => LWo.move (e_int t3) u.1 (hn := .nil (zn g))) ?_
       refine dq 17 rfl (fun _ g u h => LWo.int _ u.1 rfl rfl (hn := .nil (zn g))) ?_
       refine dq 18 rfl (fun _ g u h => LWo.move (e_bool (decide (t3 > (0 : Int)))) u.1 (hn := .nil (zn g))) ?_
       refine dq 19 rfl (fun _ g u h => LWo.guardNU (t := 18) u.2.1 h17 rfl rfl rfl rfl rfl (.nil (zn g))) ?_
       refine dq 20 rfl (fun _ g u h => LWo.guardNU (t := 18) u.2.1 h17 rfl rfl rfl rfl rfl (.nil (zn g))) ?_
       refine dq 21 rfl (fun _ g u h => LWo.guardNU (t := 18) u.1 h17 rfl rfl rfl rfl rfl (.nil (zn g))) ?_
       refine dq 22 rfl (fun _ g u h => LWo.guardNU (t := 18) u.1 h17 rfl rfl rfl rfl rfl (.nil (zn g))) ?_
       refine dq 23 rfl (fun _ g u h => LWo.guardNU (t := 18) u.1 h17 rfl rfl rfl rfl rfl (.nil (zn g))) ?_
       refine dq 24 rfl (fun _ g u h => LWo.guardNU (t := 18) u.1 h17 rfl rfl rfl rfl rfl (.nil (zn g))) ?_
       refine dq 25 rfl (fun _ g u h => LWo.guardNU (t := 18) u.2.1 h17 rfl rfl rfl rfl rfl (.nil (zn g))) ?_
       refine dq 26 rfl (fun _ g u h => LWo.guardNU (t := 18) u.2.1 h17 rfl rfl rfl rfl rfl (.nil (zn g))) ?_
       refine dq 27 rfl (fun _ g u h => LWo.guardNU (t := 18) u.1 h17 rfl rfl rfl rfl rfl (.nil (zn g))) ?_
       refine dq 28 rfl (fun _ g u h => LWo.guardNU (t := 18) u.1 h17 rfl rfl rfl rfl rfl (.nil (zn g))) ?_
       refine dq 29 rfl (fun _ g u h => LWo.guardNU (t := 18) u.1 h17 rfl rfl rfl rfl rfl (.nil (zn g))) ?_
       refine dq 30 rfl (fun _ g u h => LWo.guardNU (t := 18) u.1 h17 rfl rfl rfl rfl rfl (.nil (zn g))) ?_
       refine dq 31 rfl (fun _ g u h => LWo.pickFM (e_bool false) u.1 h17 rfl (hn := .nil (zn g))) ?_
       refine dq 32 rfl (fun _ g u h => LWo.move (e_bool false) u.1 (hn := .nil (zn g))) ?_
       refine dq 33 rfl (fun _ g u h => LWo.guardNU (t := 32) u.2.1 rfl rfl rfl rfl rfl rfl (.nil (zn g))) ?_
       refine dq 34 rfl (fun _ g u h => LWo.guardNU (t := 32) u.2.1 rfl rfl rfl rfl rfl rfl (.nil (zn g))) ?_
       refine dq 35 rfl (fun _ g u h => LWo.guardNU (t := 32) u.1 rfl rfl rfl rfl rfl rfl (.nil (zn g))) ?_
       refine dq 36 rfl (fun _ g u h => LWo.guardNU (t := 32) u.1 rfl rfl rfl rfl rfl rfl (.nil (zn g))) ?_
       refine dq 37 rfl (fun _ g u h => LWo.guardNU (t := 32) u.1 rfl rfl rfl rfl rfl rfl (.nil (zn g))) ?_
       refine dq 38 rfl (fun _ g u h => LWo.guardNU (t := 32) u.1 rfl rfl rfl rfl rfl rfl (.nil (zn g))) ?_
       refine dq 39 rfl (fun _ g u h => LWo.guardNU (t := 32) u.2.1 rfl rfl rfl rfl rfl rfl (.nil (zn g))) ?_
       refine dq 40 rfl (fun _ g u h => LWo.guardNU (t := 32) u.2.1 rfl rfl rfl rfl rfl rfl (.nil (zn g))) ?_
       refine dq 41 rfl (fun _ g u h => LWo.guardNU (t := 32) u.1 rfl rfl rfl rfl rfl rfl (.nil (zn g))) ?_
       refine dq 42 rfl (fun _ g u h => LWo.guardNU (t := 32) u.1 rfl rfl rfl rfl rfl rfl (.nil (zn g))) ?_
       refine dq 43 rfl (fun _ g u h => LWo.guardNU (t := 32) u.1 rfl rfl rfl rfl rfl rfl (.nil (zn g))) ?_
       refine dq 44 rfl (fun _ g u h => LWo.guardNU (t := 32) u.1 rfl rfl rfl rfl rfl rfl (.nil (zn g))) ?_
       refine dq 45 rfl (fun _ g u h => LWo.guardNU (t := 32) u.1 rfl rfl rfl rfl rfl rfl (.nil (zn g))) ?_
       refine dq 46 rfl (fun _ g u h => LWo.guardU (t := 45) u.2.1 rfl rfl rfl rfl (.nil (zn g))) ?_
       refine dq 47 rfl (fun _ g u h => LWo.guardU (t := 45) u.2.1 rfl rfl rfl rfl (.nil (zn g))) ?_
       refine dq 48 rfl (fun _ g u h => LWo.guardU (t := 45) u.1 rfl rfl rfl rfl (.nil (zn g))) ?_
       refine dq 49 rfl (fun _ g u h => LWo.guardU (t := 45) u.1 rfl rfl rfl rfl (.nil (zn g))) ?_
       refine dq 50 rfl (fun _ g u h => LWo.guardU (t := 45) u.1 rfl rfl rfl rfl (.nil (zn g))) ?_
       refine dq 51 rfl (fun _ g u h => LWo.guardU (t := 45) u.1 rfl rfl rfl rfl (.nil (zn g))) ?_
       refine dq 52 rfl (fun _ g u h => LWo.guardU (t := 45) u.1 rfl rfl rfl rfl (.nil (zn g))) ?_
       refine dq 53 rfl (fun _ g u h => LWo.guardNU (t := 32) u.1 rfl rfl rfl rfl rfl rfl (.nil (zn g))) ?_
       refine dq 54 rfl (fun _ g u h => LWo.guardNU (t := 32) u.1 rfl rfl rfl rfl rfl rfl (.nil (zn g))) ?_
       refine dq 55 rfl (fun _ g u h => LWo.guardU (t := 54) u.2.1 rfl rfl rfl rfl (.nil (zn g))) ?_
       refine dq 56 rfl (fun _ g u h => LWo.guardU (t := 54) u.2.1 rfl rfl rfl rfl (.nil (zn g))) ?_
       refine dq 57 rfl (fun _ g u h => LWo.guardU (t := 54) u.1 rfl rfl rfl rfl (.nil (zn g))) ?_
       refine dq 58 rfl (fun _ g u h => LWo.guardU (t := 54) u.1 rfl rfl rfl rfl (.nil (zn g))) ?_
       refine dq 59 rfl (fun _ g u h => LWo.guardU (t := 54) u.1 rfl rfl rfl rfl (.nil (zn g))) ?_
       refine dq 60 rfl (fun _ g u h => LWo.guardU (t := 54) u.1 rfl rfl rfl rfl (.nil (zn g))) ?_
       refine dq 61 rfl (fun _ g u h => LWo.guardU (t := 54) u.2.1 rfl rfl rfl rfl (.nil (zn g))) ?_
       refine dq 62 rfl (fun _ g u h => LWo.guardU (t := 54) u.2.1 rfl rfl rfl rfl (.nil (zn g))) ?_
       refine dq 63 rfl (fun _ g u h => LWo.guardU (t := 54) u.1 rfl rfl rfl rfl (.nil (zn g))) ?_
       refine dq 64 rfl (fun _ g u h => LWo.guardU (t := 54) u.1 rfl rfl rfl rfl (.nil (zn g))) ?_
       refine dq 65 rfl (fun _ g u h => LWo.guardU (t := 54) u.1 rfl rfl rfl rfl (.nil (zn g))) ?_
       refine dq 66 rfl (fun _ g u h => LWo.guardU (t := 54) u.1 rfl rfl rfl rfl (.nil (zn g))) ?_
       refine dq 67 rfl (fun _ g u h => LWo.guardNU (t := 32) u.1 rfl rfl rfl rfl rfl rfl (.nil (zn g))) ?_
       refine dq 68 rfl (fun _ g u h => LWo.pickFM (e_bool false) u.1 rfl rfl (hn := .nil (zn g))) ?_
       refine ⟨rfl, by kernel_rfl, hN16 (t0, t3, false) _ ⟨rfl, rfl, rfl, trivial⟩ trivial h⟩
   ·have h := bF h8 h
    refine LWP.exit (hN2 t0 _ ⟨rfl, trivial⟩ trivial h)

def m_spec_LastTurn_j3 (t5 : Int) : Option Int :=
  some t5
def m_spec_LastTurn_j2 (k1 : (List S_impl_Version) → Int → Int → Int → Option Int) (t0 : (List S_impl_Version)) (t1 : Int) (t5 : Int) (t6 : Int) : Option Int :=
  (ckI (t6 + (1 : Int))).bind fun x18 =>
  k1 t0 t1 t5 x18
def m_spec_LastTurn_j1 (k1 : (List S_impl_Version) → Int → Int → Int → Option Int) (t0 : (List S_impl_Version)) (t1 : Int) (t5 : Int) (t6 : Int) (t14 : Bool) : Option Int :=
  bif t14 then ((at? t0 t6).bind fun x14 =>
  bif (x14.Key == t1) then ((at? t0 t6).bind fun x16 =>
  (at? t0 t6).bind fun x17 =>
  m_spec_LastTurn_j2  k1 t0 t1 (maxI (maxI t5 x16.Born) x17.Died) t6)
  else (m_spec_LastTurn_j2  k1 t0 t1 t5 t6))
  else (m_spec_LastTurn_j3  t5)
def m_spec_LastTurn_l1 : Nat → (List S_impl_Version) → Int → Int → Int → Option Int
  | 0, _, _, _, _ => none
  | n1 + 1, t0, t1, t5, t6 =>
    bif decide (t6 < (t0.length : Int)) then ((m_spec_VersionsOk t0).bind fun x10 =>
      m_spec_LastTurn_j1  (m_spec_LastTurn_l1  n1) t0 t1 t5 t6 x10)
    else (m_spec_LastTurn_j1  (m_spec_LastTurn_l1  n1) t0 t1 t5 t6 false)
def m_spec_LastTurn (a0 : (List S_impl_Version)) (a1 : Int) : Option Int :=
  m_spec_LastTurn_l1  (1000000000) a0 a1 (0 : Int) (0 : Int)
theorem c_spec_LastTurn (a0 : (List S_impl_Version)) (a1 : Int) (r : Int) (h : m_spec_LastTurn a0 a1 = some r) : Ret Try.prog f_spec_LastTurn [e_Limpl_Version a0, e_int a1] (e_int r) := by
  refine Does.goG [] F_spec_LastTurn rfl e_spec_LastTurn n_spec_LastTurn rfl (rvs := [.tmp 4]) rfl rfl ?_
  intro w0 ok0 lent ρ0
  refine LWP.seq_k fun N1 hN1 => ?_
  refine LWP.region (l := [_]) ?_
  refine LWo.assign (e_int (0 : Int)) rfl (hn := ?_)
  refine LWo.nil (hN1 _ ?_)
  refine LWP.seq_k fun N2 hN2 => ?_
  refine LWP.region (l := [_]) ?_
  refine LWo.assign (e_int (0 : Int)) rfl (hn := ?_)
  refine LWo.nil (hN2 _ ?_)
  refine LWP.join (α := Int) (fun z : Int => [(5, (e_int z))]) (fun z : Int => []) (fun z : Int => m_spec_LastTurn_j3  z) r (fun _ => by simp [hkeys]) ?_ ?_
  ·rintro t5 h
   replace h : m_spec_LastTurn_j3  t5 = some _ := h
   refine LWP.seq_k fun N19 hN19 => ?_
   refine LWP.region (l := [_,_]) ?_
   refine LWo.move (e_int t5) rfl (hn := ?_)
   refine LWo.assign (e_int t5) rfl (hn := ?_)
   refine LWo.nil (hN19 _ ?_)
   obtain rfl := Option.some.inj h
   refine LWP.ret (QG.mk (.inr rfl) (.cons (.tmp (x := (e_int t5)) rfl) (.nil)) (RetOK.one0 (.pure rfl) (by decide)) rfl rfl)
  ·intro N3 hN3
   refine LWP.seq_k fun N4 hN4 => ?_
   refine LWP.region (l := [_]) ?_
   refine LWo.assign (e_int (0 : Int)) rfl (hn := ?_)
   refine LWo.nil (hN4 _ ?_)
   refine LWP.block ?_
   refine LWP.loopM (α := (List S_impl_Version) × Int × Int × Int) (fun z : (List S_impl_Version) × Int × Int × Int => [(0, (e_Limpl_Version z.1)), (1, (e_int z.2.1)), (5, (e_int z.2.2.1)), (6, (e_int z.2.2.2))]) (fun z : (List S_impl_Version) × Int × Int × Int => []) (fun n1 (z : (List S_impl_Version) × Int × Int × Int) => m_spec_LastTurn_l1  n1 z.1 z.2.1 z.2.2.1 z.2.2.2) r _ (a0, a1, (0 : Int), (0 : Int)) h (fun _ => rfl) (fun _ => by simp [hkeys]) ⟨rfl, rfl, rfl, rfl, trivial⟩ trivial ?_
   rintro n1 ⟨t0, t1, t5, t6⟩ h N5 hN5
   replace h : m_spec_LastTurn_l1  (n1 + 1) t0 t1 t5 t6 = some _ := h
   refine LWP.seq_k fun N7 hN7 => ?_
   refine LWP.join (α := (List S_impl_Version) × Int × Int × Int × Bool) (fun z : (List S_impl_Version) × Int × Int × Int × Bool => [(0, (e_Limpl_Version z.1)), (1, (e_int z.2.1)), (5, (e_int z.2.2.1)), (6, (e_int z.2.2.2.1)), (14, (e_bool z.2.2.2.2))]) (fun z : (List S_impl_Version) × Int × Int × Int × Bool => []) (fun z : (List S_impl_Version) × Int × Int × Int × Bool => m_spec_LastTurn_j1  (m_spec_LastTurn_l1  n1) z.1 z.2.1 z.2.2.1 z.2.2.2.1 z.2.2.2.2) r (fun _ => by simp [hkeys]) ?_ ?_
   ·rintro ⟨t0, t1, t5, t6, t14⟩ h
    replace h : m_spec_LastTurn_j1  (m_spec_LastTurn_l1  n1) t0 t1 t5 t6 t14 = some _ := h
    refine LWP.cond_split rfl (fun h11 => ?_) (fun h11 => ?_)
    ·have h := bT h11 h
     refine LWP.skip (hN7 _ ?_)
     refine LWP.join (α := (List S_impl_Version) × Int × Int × Int) (fun z : (List S_impl_Version) × Int × Int × Int => [(0, (e_Limpl_Version z.1)), (1, (e_int z.2.1)), (5, (e_int z.2.2.1)), (6, (e_int z.2.2.2))]) (fun z : (List S_impl_Version) × Int × Int × Int => []) (fun z : (List S_impl_Version) × Int × Int × Int => m_spec_LastTurn_j2  (m_spec_LastTurn_l1  n1) z.1 z.2.1 z.2.2.1 z.2.2.2) r (fun _ => by simp [hkeys]) ?_ ?_
     ·rintro ⟨t0, t1, t5, t6⟩ h
      replace h : m_spec_LastTurn_j2  (m_spec_LastTurn_l1  n1) t0 t1 t5 t6 = some _ := h
      refine LWP.region (l := [_,_,_]) ?_
      refine LWo.move (e_int t6) rfl (hn := ?_)
      refine bk h fun x18 e18 h => ?_
      refine LWo.int _ rfl rfl (add_ck e18) (hn := ?_)
      refine LWo.assign (e_int x18) rfl (hn := ?_)
      refine LWo.nil (hN5 (t0, t1, t5, x18) _ ⟨rfl, rfl, rfl, rfl, trivial⟩ trivial h)
     ·intro N12 hN12
      refine LWP.block ?_
      refine LWP.seq_k fun N13 hN13 => ?_
      refine LWP.region (l := [_,_,_,_,_,_,_]) ?_
      refine LWo.move (e_Limpl_Version t0) rfl (hn := ?_)
      refine LWo.move (e_int t6) rfl (hn := ?_)
      refine bk h fun x14 e14 h => ?_
      refine LWo.indexM (f := e_impl_Version) e14 u_Limpl_Version s_impl_Version rfl rfl (hn := ?_)
      refine LWo.fieldAddr _ u_impl_Version rfl s_int rfl rfl (hn := ?_)
      refine LWo.load1 (c := (e_int x14.Key)) g_int rfl (hn := ?_)
      refine LWo.move (e_int t1) rfl (hn := ?_)
      refine LWo.int _ rfl rfl rfl (hn := ?_)
      refine LWo.nil (hN13 _ ?_)
      refine LWP.cond_split rfl (fun h15 => ?_) (fun h15 => ?_)
      ·have h := bT h15 h
       refine bk h fun x16 e16 h => ?_
       refine bk h fun x17 e17 h => ?_
       refine LWP.drawF (l := [_,_,_,_,_,_,_,_,_,_,_,_,_]) [] [0, 1, 5, 6] [([5], []), ([0], []), ([6], []), ([25, 26], []), ([27], []), ([28], []), ([0], []), ([6], []), ([30, 31], []), ([32], []), ([33], []), ([24, 29, 34], []), ([35], [])] [0, 1, 5, 6] [] mixed (by kernel_rfl) rfl (by decide) ?_
       refine dq 24 rfl (fun _ g u h => LWo.move (e_int t5) u.1 (hn := .nil (zn g))) ?_
       refine dq 25 rfl (fun _ g u h => LWo.move (e_Limpl_Version t0) u.1 (hn := .nil (zn g))) ?_
       refine dq 26 rfl (fun _ g u h => LWo.move (e_int t6) u.1 (hn := .nil (zn g))) ?_
       refine dq 27 rfl (fun _ g u h => LWo.indexM (f := e_impl_Version) e16 u_Limpl_Version s_impl_Version u.1 u.2.1 (hn := .nil (zn g))) ?_
       refine dq 28 rfl (fun _ g u h => LWo.fieldAddr _ u_impl_Version rfl s_int u.1 rfl (hn := .nil (zn g))) ?_
       refine dq 29 rfl (fun _ g u h => LWo.load1 (c := (e_int x16.Born)) g_int u.1 (hn := .nil (zn g))) ?_
       refine dq 30 rfl (fun _ g u h => LWo.move (e_Limpl_Version t0) u.1 (hn := .nil (zn g))) ?_
       refine dq 31 rfl (fun _ g u h => LWo.move (e_int t6) u.1 (hn := .nil (zn g))) ?_
       refine dq 32 rfl (fun _ g u h => LWo.indexM (f := e_impl_Version) e17 u_Limpl_Version s_impl_Version u.1 u.2.1 (hn := .nil (zn g))) ?_
       refine dq 33 rfl (fun _ g u h => LWo.fieldAddr _ u_impl_Version rfl s_int u.1 rfl (hn := .nil (zn g))) ?_
       refine dq 34 rfl (fun _ g u h => LWo.load1 (c := (e_int x17.Died)) g_int u.1 (hn := .nil (zn g))) ?_
       refine dq 35 rfl (fun _ g u h => LWo.max3 u.1 u.2.1 u.2.2.1 (hn := .nil (zn g))) ?_
       refine dq 5 rfl (fun _ g u h => LWo.assign (e_int (maxI (maxI t5 x16.Born) x17.Died)) u.1 (hn := .nil (zn g))) ?_
       refine ⟨rfl, by kernel_rfl, hN12 (t0, t1, (maxI (maxI t5 x16.Born) x17.Died), t6) _ ⟨rfl, rfl, rfl, rfl, trivial⟩ trivial h⟩
      ·have h := bF h15 h
       refine LWP.skip (hN12 (t0, t1, t5, t6) _ ⟨rfl, rfl, rfl, rfl, trivial⟩ trivial h)
    ·have h := bF h11 h
     refine LWP.exit (hN3 t5 _ ⟨rfl, trivial⟩ trivial h)
   ·intro N8 hN8
    refine LWP.region (l := [_,_,_,_,_,_,_,_]) ?_
    refine LWo.move (e_int t6) rfl (hn := ?_)
    refine LWo.move (e_Limpl_Version t0) rfl (hn := ?_)
    refine LWo.lenM (f := e_impl_Version) (l := t0) u_Limpl_Version rfl (hn := ?_)
    refine LWo.int _ rfl rfl rfl (hn := ?_)
    refine LWo.move (e_bool (decide (t6 < (t0.length : Int)))) rfl (hn := ?_)
    refine LWo.byCases (t := 11) _ rfl (fun h9 => ?_) (fun h9 => ?_)
    ·have h := bT h9 h
     refine LWo.guardY (t := 11) rfl h9 rfl rfl ?_
     refine LWo.move (e_Limpl_Version t0) rfl (hn := ?_)
     refine bk h fun x10 e10 h => ?_
     refine LWo.guardY (t := 11) rfl h9 rfl rfl ?_
     refine LWo.vcall rfl rfl (c_spec_VersionsOk _ _ e10) (.same (.nil)) (hn := ?_)
     refine LWo.pickTM (e_bool x10) rfl h9 rfl (hn := ?_)
     refine LWo.nil (hN8 (t0, t1, t5, t6, x10) _ ⟨rfl, rfl, rfl, rfl, rfl, trivial⟩ trivial h)
    ·have h := bF h9 h
     refine LWo.guardNU (t := 11) rfl h9 rfl rfl rfl rfl rfl ?_
     refine LWo.guardNU (t := 11) rfl h9 rfl rfl rfl rfl rfl ?_
     refine LWo.pickFM (e_bool false) rfl h9 rfl (hn := ?_)
     refine LWo.nil (hN8 (t0, t1, t5, t6, false) _ ⟨rfl, rfl, rfl, rfl, rfl, trivial⟩ trivial h)

def m_spec_l3Own (a0 : (List S_impl_Value)) : Option (List S_impl_Value) :=
  (app? ([] : (List S_impl_Value)) a0).bind fun x3 =>
  some x3
theorem c_spec_l3Own (a0 : (List S_impl_Value)) (r : (List S_impl_Value)) (h : m_spec_l3Own a0 = some r) : Ret Try.prog f_spec_l3Own [e_Limpl_Value a0] (.nw 3 (r.map e_impl_Value) false) := by
  refine Does.goG [] F_spec_l3Own rfl e_spec_l3Own n_spec_l3Own rfl (rvs := [.tmp 2]) rfl rfl ?_
  intro w0 ok0 lent ρ0
  refine LWP.seq_k fun N1 hN1 => ?_
  refine LWP.region (l := [_]) ?_
  refine LWo.assign _ rfl (hn := ?_)
  refine LWo.ownNil 2 1002 3 rfl rfl rfl ?_
  refine LWo.known 2 (.own 1002 0 ([] : (List S_impl_Value)).length) rfl ?_
  refine LWo.nil (hN1 _ ?_)
  refine LWP.seq_k fun N2 hN2 => ?_
  refine LWP.region (l := [_,_,_,_]) ?_
  refine LWo.lit0 1003 u_Limpl_Value s_impl_Value z_impl_Value (hn := ?_)
  refine LWo.known 3 (.own 1003 0 ([] : (List S_impl_Value)).length) rfl ?_
  refine LWo.move (e_Limpl_Value a0) rfl (hn := ?_)
  refine bk h fun x3 e3 h => ?_
  refine LWo.appendM (f := e_impl_Value) e3 rfl u_Limpl_Value u_Limpl_Value (fun _ h => by cases h) s_impl_Value i_impl_Value rfl rfl rfl (.sl rfl) rfl rfl (hn := ?_)
  refine LWo.assign (.own 1003 0 (x3).length) rfl (hn := ?_)
  refine LWo.nil (hN2 _ ?_)
  obtain rfl := Option.some.inj h
  refine LWP.ret (QG.mk (.inr rfl) (.cons (.tmp (x := (.own 1003 0 (x3).length)) rfl) (.nil)) (RetOK.one0 (.nwM rfl rfl) (by decide)) rfl rfl)

def m_spec_l13Copy_j1 (o1006 : (List S_impl_Version)) : Option (List S_impl_Version) :=
  some o1006
def m_spec_l13Copy_l1 : Nat → (List S_impl_Version) → Int → (List S_impl_Version) → Option (List S_impl_Version)
  | 0, _, _, _ => none
  | n1 + 1, t0, t4, o1006 =>
    bif decide (t4 < (t0.length : Int)) then ((at? t0 t4).bind fun x12 =>
    lt (x12) fun y13 =>
    (m_spec_l3Own y13.Row).bind fun x15 =>
    lt ({ y13 with Row := x15 }) fun y16 =>
    (app? o1006 ([y16] : (List S_impl_Version))).bind fun x17 =>
    (ckI (t4 + (1 : Int))).bind fun x18 =>
    (m_spec_l13Copy_l1  n1) t0 x18 x17)
    else (m_spec_l13Copy_j1  o1006)
def m_spec_l13Copy (a0 : (List S_impl_Version)) : Option (List S_impl_Version) :=
  m_spec_l13Copy_l1  (((a0.length : Int) - (0 : Int)).toNat + 1) a0 (0 : Int) ([] : (List S_impl_Version))
theorem c_spec_l13Copy (a0 : (List S_impl_Version)) (r : (List S_impl_Version)) (h : m_spec_l13Copy a0 = some r) : Ret Try.prog f_spec_l13Copy [e_Limpl_Version a0] (.nw 4 (r.map e_impl_Version) false) := by
  refine Does.goG [] F_spec_l13Copy rfl e_spec_l13Copy n_spec_l13Copy rfl (rvs := [.tmp 2]) rfl rfl ?_
  intro w0 ok0 lent ρ0
  refine LWP.seq_k fun N1 hN1 => ?_
  refine LWP.region (l := [_]) ?_
  refine LWo.assign _ rfl (hn := ?_)
  refine LWo.ownNil 2 1002 4 rfl rfl rfl ?_
  refine LWo.known 2 (.own 1002 0 ([] : (List S_impl_Version)).length) rfl ?_
  refine LWo.nil (hN1 _ ?_)
  refine LWP.seq_k fun N2 hN2 => ?_
  refine LWP.region (l := [_,_]) ?_
  refine LWo.lit0 1006 u_Limpl_Version s_impl_Version z_impl_Version (hn := ?_)
  refine LWo.known 6 (.own 1006 0 ([] : (List S_impl_Version)).length) rfl ?_
  refine LWo.assign (.own 1006 0 (([] : (List S_impl_Version))).length) rfl (hn := ?_)
  refine LWo.nil (hN2 _ ?_)
  refine LWP.join (α := (List S_impl_Version)) (fun z : (List S_impl_Version) => [(3, (.own 1006 0 (z).length))]) (fun z : (List S_impl_Version) => [(1006, (lob 4 e_impl_Version z))]) (fun z : (List S_impl_Version) => m_spec_l13Copy_j1  z) r (fun _ => by simp [hkeys]) ?_ ?_
  ·rintro o1006 h
   replace h : m_spec_l13Copy_j1  o1006 = some _ := h
   refine LWP.seq_k fun N19 hN19 => ?_
   refine LWP.region (l := [_,_]) ?_
   refine LWo.move (.own 1006 0 (o1006).length) rfl (hn := ?_)
   refine LWo.assign (.own 1006 0 (o1006).length) rfl (hn := ?_)
   refine LWo.nil (hN19 _ ?_)
   obtain rfl := Option.some.inj h
   refine LWP.ret (QG.mk (.inr rfl) (.cons (.tmp (x := (.own 1006 0 (o1006).length)) rfl) (.nil)) (RetOK.one0 (.nwM rfl rfl) (by decide)) rfl rfl)
  ·intro N3 hN3
   refine LWP.seq_k fun N4 hN4 => ?_
   refine LWP.region (l := [_]) ?_
   refine LWo.assign (e_int (0 : Int)) rfl (hn := ?_)
   refine LWo.nil (hN4 _ ?_)
   refine LWP.block ?_
   refine LWP.loopM (α := (List S_impl_Version) × Int × (List S_impl_Version)) (fun z : (List S_impl_Version) × Int × (List S_impl_Version) => [(0, (e_Limpl_Version z.1)), (3, (.own 1006 0 (z.2.2).length)), (4, (e_int z.2.1))]) (fun z : (List S_impl_Version) × Int × (List S_impl_Version) => [(1006, (lob 4 e_impl_Version z.2.2))]) (fun n1 (z : (List S_impl_Version) × Int × (List S_impl_Version)) => m_spec_l13Copy_l1  n1 z.1 z.2.1 z.2.2) r _ (a0, (0 : Int), ([] : (List S_impl_Version))) h (fun _ => rfl) (fun _ => by simp [hkeys]) ⟨rfl, rfl, rfl, trivial⟩ ⟨rfl, trivial⟩ ?_
   rintro n1 ⟨t0, t4, o1006⟩ h N5 hN5
   replace h : m_spec_l13Copy_l1  (n1 + 1) t0 t4 o1006 = some _ := h
   refine LWP.seq_k fun N7 hN7 => ?_
   refine LWP.seq_k fun N8 hN8 => ?_
   refine LWP.region (l := [_,_,_,_]) ?_
   refine LWo.move (e_int t4) rfl (hn := ?_)
   refine LWo.move (e_Limpl_Version t0) rfl (hn := ?_)
   refine LWo.lenM (f := e_impl_Version) (l := t0) u_Limpl_Version rfl (hn := ?_)
   refine LWo.int _ rfl rfl rfl (hn := ?_)
   refine LWo.nil (hN8 _ ?_)
   refine LWP.cond_split rfl (fun h9 => ?_) (fun h9 => ?_)
   ·have h := bT h9 h
    refine LWP.skip (hN7 _ ?_)
    refine LWP.seq_k fun N10 hN10 => ?_
    refine LWP.block ?_
    refine LWP.seq_k fun N11 hN11 => ?_
    refine LWP.region (l := [_,_,_,_,_,_]) ?_
    refine LWo.move (e_Limpl_Version t0) rfl (hn := ?_)
    refine LWo.move (e_int t4) rfl (hn := ?_)
    refine bk h fun x12 e12 h => ?_
    refine LWo.indexM (f := e_impl_Version) e12 u_Limpl_Version s_impl_Version rfl rfl (hn := ?_)
    refine LWo.loadN ((e_impl_Version x12)).cells g_impl_Version s_impl_Version rfl (Nat.le_of_ble_eq_true rfl) rfl (hn := ?_)
    refine LWo.alloc_impl_Version 5 rfl (hn := ?_)
    refine lk h fun y13 e13 h => ?_
    refine LWo.storeW (y := (⟨(0 : Int), (0 : Int), (0 : Int), []⟩ : S_impl_Version)) y13 s_impl_Version rfl rfl rfl rfl rfl rfl (by rw [e13]; exact .refl) rfl (hn := ?_)
    refine LWo.nil (hN11 _ ?_)
    refine LWP.seq_k fun N14 hN14 => ?_
    refine LWP.region (l := [_,_,_,_,_]) ?_
    refine LWo.fieldPtr u_impl_Version rfl s_Limpl_Value rfl rfl (hn := ?_)
    refine LWo.loadV1 (e_Limpl_Value y13.Row)  g_Limpl_Value rfl rfl rfl (hn := ?_)
    refine bk h fun x15 e15 h => ?_
    refine LWo.vcall rfl rfl (c_spec_l3Own _ _ e15) (.same (.nil)) (hn := ?_)
    refine LWo.fieldPtr u_impl_Version rfl s_Limpl_Value rfl rfl (hn := ?_)
    refine lk h fun y16 e16 h => ?_
    refine LWo.storeW (y := y13) y16 s_Limpl_Value rfl rfl rfl rfl rfl rfl (by rw [e16]; exact .refl) rfl (hn := ?_)
    refine LWo.nil (hN14 _ ?_)
    refine LWP.region (l := [_,_,_,_,_]) ?_
    refine LWo.move (.own 1006 0 (o1006).length) rfl (hn := ?_)
    refine LWo.loadVN ((e_impl_Version y16)).cells  g_impl_Version s_impl_Version rfl rfl rfl rfl (hn := ?_)
    refine LWo.lit (ops := [_]) [(e_impl_Version y16)] u_Limpl_Version s_impl_Version z_impl_Version rfl rfl rfl rfl rfl rfl (hn := ?_)
    refine bk h fun x17 e17 h => ?_
    refine LWo.appendM (f := e_impl_Version) e17 rfl u_Limpl_Version u_Limpl_Version (fun _ h => by cases h) s_impl_Version i_impl_Version rfl rfl rfl (.sl rfl) rfl rfl (hn := ?_)
    refine LWo.assign (.own 1006 0 (x17).length) rfl (hn := ?_)
    refine LWo.nil (hN10 _ ?_)
    refine LWP.region (l := [_,_,_]) ?_
    refine LWo.move (e_int t4) rfl (hn := ?_)
    refine bk h fun x18 e18 h => ?_
    refine LWo.int _ rfl rfl (add_ck e18) (hn := ?_)
    refine LWo.assign (e_int x18) rfl (hn := ?_)
    refine LWo.nil (hN5 (t0, x18, x17) _ ⟨rfl, rfl, rfl, trivial⟩ ⟨rfl, trivial⟩ h)
   ·have h := bF h9 h
    refine LWP.exit (hN3 o1006 _ ⟨rfl, trivial⟩ ⟨rfl, trivial⟩ h)

def m_spec_l13Written_j6 (o1011 : (List S_impl_Version)) : Option (List S_impl_Version) :=
  some o1011
def m_spec_l13Written_j5 (t2 : Int) (t4 : S_impl_Write) (t8 : Bool) (o1011 : (List S_impl_Version)) : Option (List S_impl_Version) :=
  bif (!t8) then ((m_spec_l3Own t4.Row).bind fun x32 =>
    (app? o1011 ([(⟨t4.Key, t2, (0 : Int), x32⟩ : S_impl_Version)] : (List S_impl_Version))).bind fun x33 =>
    m_spec_l13Written_j6  x33)
  else (m_spec_l13Written_j6  o1011)
def m_spec_l13Written_j4 (k1 : (List S_impl_Version) → Int → S_impl_Write → Bool → Int → (List S_impl_Version) → Option (List S_impl_Version)) (t0 : (List S_impl_Version)) (t2 : Int) (t4 : S_impl_Write) (t8 : Bool) (t9 : Int) (o10 : S_impl_Version) (o1011 : (List S_impl_Version)) : Option (List S_impl_Version) :=
  (app? o1011 ([o10] : (List S_impl_Version))).bind fun x27 =>
  (ckI (t9 + (1 : Int))).bind fun x28 =>
  k1 t0 t2 t4 t8 x28 x27
def m_spec_l13Written_j3 (k1 : (List S_impl_Version) → Int → S_impl_Write → Bool → Int → (List S_impl_Version) → Option (List S_impl_Version)) (t0 : (List S_impl_Version)) (t2 : Int) (t4 : S_impl_Write) (t8 : Bool) (t9 : Int) (t52 : Bool) (o10 : S_impl_Version) (o1011 : (List S_impl_Version)) : Option (List S_impl_Version) :=
  bif t52 then (lt ({ o10 with Died := t2 }) fun y26 =>
    m_spec_l13Written_j4  k1 t0 t2 t4 t8 t9 y26 o1011)
  else (m_spec_l13Written_j4  k1 t0 t2 t4 t8 t9 o10 o1011)
def m_spec_l13Written_j2 (k1 : (List S_impl_Version) → Int → S_impl_Write → Bool → Int → (List S_impl_Version) → Option (List S_impl_Version)) (t0 : (List S_impl_Version)) (t2 : Int) (t4 : S_impl_Write) (t8 : Bool) (t9 : Int) (o10 : S_impl_Version) (o1011 : (List S_impl_Version)) : Option (List S_impl_Version) :=
  bif (o10.Key == t4.Key) then (m_spec_l13Written_j3  k1 t0 t2 t4 t8 t9 (o10.Died == (0 : Int)) o10 o1011)
  else (m_spec_l13Written_j3  k1 t0 t2 t4 t8 t9 false o10 o1011)
def m_spec_l13Written_j1 (k1 : (List S_impl_Version) → Int → S_impl_Write → Bool → Int → (List S_impl_Version) → Option (List S_impl_Version)) (t0 : (List S_impl_Version)) (t2 : Int) (t4 : S_impl_Write) (t8 : Bool) (t9 : Int) (t32 : Bool) (o10 : S_impl_Version) (o1011 : (List S_impl_Version)) : Option (List S_impl_Version) :=
  bif t32 then ((m_spec_l3Own t4.Row).bind fun x20 =>
    (app? o1011 ([(⟨t4.Key, t2, (0 : Int), x20⟩ : S_impl_Version)] : (List S_impl_Version))).bind fun x21 =>
    m_spec_l13Written_j2  k1 t0 t2 t4 true t9 o10 x21)
  else (m_spec_l13Written_j2  k1 t0 t2 t4 t8 t9 o10 o1011)
def m_spec_l13Written_l1 : Nat → (List S_impl_Version) → Int → S_impl_Write → Bool → Int → (List S_impl_Version) → Option (List S_impl_Version)
  | 0, _, _, _, _, _, _ => none
  | n1 + 1, t0, t2, t4, t8, t9, o1011 =>
    bif decide (t9 < (t0.length : Int)) then ((at? t0 t9).bind fun x13 =>
    lt (x13) fun y14 =>
    bif decide (y14.Key > t4.Key) then (m_spec_l13Written_j1  (m_spec_l13Written_l1  n1) t0 t2 t4 t8 t9 (!t8) y14 o1011)
    else (m_spec_l13Written_j1  (m_spec_l13Written_l1  n1) t0 t2 t4 t8 t9 false y14 o1011))
    else (m_spec_l13Written_j5  t2 t4 t8 o1011)
def m_spec_l13Written (a0 : (List S_impl_Version)) (a1 : S_impl_Write) (a2 : Int) : Option (List S_impl_Version) :=
  m_spec_l13Written_l1  (((a0.length : Int) - (0 : Int)).toNat + 1) a0 a2 a1 a1.Gone (0 : Int) ([] : (List S_impl_Version))
theorem c_spec_l13Written (a0 : (List S_impl_Version)) (a1 : S_impl_Write) (a2 : Int) (r : (List S_impl_Version)) (h : m_spec_l13Written a0 a1 a2 = some r) : Ret Try.prog f_spec_l13Written [e_Limpl_Version a0, e_impl_Write a1, e_int a2] (.nw 4 (r.map e_impl_Version) false) := by
  refine Does.goG [] F_spec_l13Written rfl e_spec_l13Written n_spec_l13Written rfl (rvs := [.tmp 6]) rfl rfl ?_
  intro w0 ok0 lent ρ0
  refine LWP.seq_k fun N1 hN1 => ?_
  refine LWP.region (l := [_,_]) ?_
  refine LWo.boxF (e_impl_Write a1) rfl rfl rfl (hn := ?_)
  refine LWo.assign _ rfl (hn := ?_)
  refine LWo.ownNil 6 1006 4 rfl rfl rfl ?_
  refine LWo.known 6 (.own 1006 0 ([] : (List S_impl_Version)).length) rfl ?_
  refine LWo.nil (hN1 _ ?_)
  refine LWP.seq_k fun N2 hN2 => ?_
  refine LWP.region (l := [_,_]) ?_
  refine LWo.lit0 1011 u_Limpl_Version s_impl_Version z_impl_Version (hn := ?_)
  refine LWo.known 11 (.own 1011 0 ([] : (List S_impl_Version)).length) rfl ?_
  refine LWo.assign (.own 1011 0 (([] : (List S_impl_Version))).length) rfl (hn := ?_)
  refine LWo.nil (hN2 _ ?_)
  refine LWP.seq_k fun N3 hN3 => ?_
  refine LWP.region (l := [_,_,_]) ?_
  refine LWo.fieldAddr _ u_impl_Write rfl s_bool rfl rfl (hn := ?_)
  refine LWo.load1 (c := (e_bool a1.Gone)) g_bool rfl (hn := ?_)
  refine LWo.assign (e_bool a1.Gone) rfl (hn := ?_)
  refine LWo.nil (hN3 _ ?_)
  refine LWP.join (α := Int × S_impl_Write × Bool × (List S_impl_Version)) (fun z : Int × S_impl_Write × Bool × (List S_impl_Version) => [(2, (e_int z.1)), (4, (.fp (e_impl_Write z.2.1).cells)), (7, (.own 1011 0 (z.2.2.2).length)), (8, (e_bool z.2.2.1))]) (fun z : Int × S_impl_Write × Bool × (List S_impl_Version) => [(1011, (lob 4 e_impl_Version z.2.2.2))]) (fun z : Int × S_impl_Write × Bool × (List S_impl_Version) => m_spec_l13Written_j5  z.1 z.2.1 z.2.2.1 z.2.2.2) r (fun _ => by simp [hkeys]) ?_ ?_
  ·rintro ⟨t2, t4, t8, o1011⟩ h
   replace h : m_spec_l13Written_j5  t2 t4 t8 o1011 = some _ := h
   refine LWP.join (α := (List S_impl_Version)) (fun z : (List S_impl_Version) => [(7, (.own 1011 0 (z).length))]) (fun z : (List S_impl_Version) => [(1011, (lob 4 e_impl_Version z))]) (fun z : (List S_impl_Version) => m_spec_l13Written_j6  z) r (fun _ => by simp [hkeys]) ?_ ?_
   ·rintro o1011 h
    replace h : m_spec_l13Written_j6  o1011 = some _ := h
    refine LWP.seq_k fun N34 hN34 => ?_
    refine LWP.region (l := [_,_]) ?_
    refine LWo.move (.own 1011 0 (o1011).length) rfl (hn := ?_)
    refine LWo.assign (.own 1011 0 (o1011).length) rfl (hn := ?_)
    refine LWo.nil (hN34 _ ?_)
    obtain rfl := Option.some.inj h
    refine LWP.ret (QG.mk (.inr rfl) (.cons (.tmp (x := (.own 1011 0 (o1011).length)) rfl) (.nil)) (RetOK.one0 (.nwM rfl rfl) (by decide)) rfl rfl)
   ·intro N29 hN29
    refine LWP.seq_k fun N30 hN30 => ?_
    refine LWP.region (l := [_,_]) ?_
    refine LWo.move (e_bool t8) rfl (hn := ?_)
    refine LWo.not rfl (hn := ?_)
    refine LWo.nil (hN30 _ ?_)
    refine LWP.cond_split rfl (fun h31 => ?_) (fun h31 => ?_)
    ·have h := bT h31 h
     refine bk h fun x32 e32 h => ?_
     refine bk h fun x33 e33 h => ?_
     refine LWP.drawF (l := [_,_,_,_,_,_,_,_,_,_,_]) [(1011, 1011)] [2, 4, 7] [([7], []), ([4], []), ([62], []), ([2], []), ([4], []), ([65], []), ([66], []), ([63, 64, 67], []), ([68], []), ([61, 69], [1011]), ([70], [])] [7] [1011] mixed (by kernel_rfl) rfl (by decide) ?_
     refine dq 61 rfl (fun _ g u h => LWo.move (.own 1011 0 (o1011).length) u.1 (hn := .nil (zn g))) ?_
     refine dq 62 rfl (fun _ g u h => LWo.fieldAddr _ u_impl_Write rfl s_int u.1 rfl (hn := .nil (zn g))) ?_
     refine dq 63 rfl (fun _ g u h => LWo.load1 (c := (e_int t4.Key)) g_int u.1 (hn := .nil (zn g))) ?_
     refine dq 64 rfl (fun _ g u h => LWo.move (e_int t2) u.1 (hn := .nil (zn g))) ?_
     refine dq 65 rfl (fun _ g u h => LWo.fieldAddr _ u_impl_Write rfl s_Limpl_Value u.1 rfl (hn := .nil (zn g))) ?_
     refine dq 66 rfl (fun _ g u h => LWo.load1 (c := (e_Limpl_Value t4.Row)) g_Limpl_Value u.1 (hn := .nil (zn g))) ?_
     refine dq 67 rfl (fun _ g u h => LWo.vcall rfl (av1 u.1) (c_spec_l3Own _ _ e32) (.same (.nil)) (hn := .nil (zn g))) ?_
     refine dq 68 rfl (fun _ g u h => LWo.build_impl_Version (parts := [_, _, _]) (⟨t4.Key, t2, (0 : Int), x32⟩ : S_impl_Version) (pv3 u.1 u.2.1 u.2.2.1) rfl rfl .refl (hn := .nil (zn g))) ?_
     refine dq 69 rfl (fun _ g u h => LWo.lit (ops := [_]) [(e_impl_Version (⟨t4.Key, t2, (0 : Int), x32⟩ : S_impl_Version))] u_Limpl_Version s_impl_Version z_impl_Version (lv1 u.1) rfl rfl rfl rfl rfl (hn := .nil (zn g))) ?_
     refine ⟨rfl, .make 70 _ 1011 _, (by exact (goodC rfl goodN)), fun _ g u h => LWo.appendM (f := e_impl_Version) e33 rfl u_Limpl_Version u_Limpl_Version (fun _ h => by cases h) s_impl_Version i_impl_Version rfl u.1 h.1 (.sl u.2.1) (lone_of g rfl) rfl (hn := LWo.nil ⟨rfl, .inl rfl, Ef.good_ok (e := .make 70 _ 1011 _) (by exact (goodC rfl goodN)) g⟩), ?_⟩
     refine dq 7 rfl (fun _ g u h => LWo.assign (.own 1011 0 (x33).length) u.1 (hn := .nil (zn g))) ?_
     refine ⟨rfl, by kernel_rfl, hN29 x33 _ ⟨rfl, trivial⟩ ⟨rfl, trivial⟩ h⟩
    ·have h := bF h31 h
     refine LWP.skip (hN29 o1011 _ ⟨rfl, trivial⟩ ⟨rfl, trivial⟩ h)
  ·intro N4 hN4
   refine LWP.seq_k fun N5 hN5 => ?_
   refine LWP.region (l := [_]) ?_
   refine LWo.assign (e_int (0 : Int)) rfl (hn := ?_)
   refine LWo.nil (hN5 _ ?_)
   refine LWP.block ?_
   refine LWP.loopM (α := (List S_impl_Version) × Int × S_impl_Write × Bool × Int × (List S_impl_Version)) (fun z : (List S_impl_Version) × Int × S_impl_Write × Bool × Int × (List S_impl_Version) => [(0, (e_Limpl_Version z.1)), (2, (e_int z.2.1)), (4, (.fp (e_impl_Write z.2.2.1).cells)), (7, (.own 1011 0 (z.2.2.2.2.2).length)), (8, (e_bool z.2.2.2.1)), (9, (e_int z.2.2.2.2.1))]) (fun z : (List S_impl_Version) × Int × S_impl_Write × Bool × Int × (List S_impl_Version) => [(1011, (lob 4 e_impl_Version z.2.2.2.2.2))]) (fun n1 (z : (List S_impl_Version) × Int × S_impl_Write × Bool × Int × (List S_impl_Version)) => m_spec_l13Written_l1  n1 z.1 z.2.1 z.2.2.1 z.2.2.2.1 z.2.2.2.2.1 z.2.2.2.2.2) r _ (a0, a2, a1, a1.Gone, (0 : Int), ([] : (List S_impl_Version))) h (fun _ => rfl) (fun _ => by simp [hkeys]) ⟨rfl, rfl, rfl, rfl, rfl, rfl, trivial⟩ ⟨rfl, trivial⟩ ?_
   rintro n1 ⟨t0, t2, t4, t8, t9, o1011⟩ h N6 hN6
   replace h : m_spec_l13Written_l1  (n1 + 1) t0 t2 t4 t8 t9 o1011 = some _ := h
   refine LWP.seq_k fun N8 hN8 => ?_
   refine LWP.seq_k fun N9 hN9 => ?_
   refine LWP.region (l := [_,_,_,_]) ?_
   refine LWo.move (e_int t9) rfl (hn := ?_)
   refine LWo.move (e_Limpl_Version t0) rfl (hn := ?_)
   refine LWo.lenM (f := e_impl_Version) (l := t0) u_Limpl_Version rfl (hn := ?_)
   refine LWo.int _ rfl rfl rfl (hn := ?_)
   refine LWo.nil (hN9 _ ?_)
   refine LWP.cond_split rfl (fun h10 => ?_) (fun h10 => ?_)
   ·have h := bT h10 h
    refine LWP.skip (hN8 _ ?_)
    refine LWP.seq_k fun N11 hN11 => ?_
    refine LWP.block ?_
    refine LWP.seq_k fun N12 hN12 => ?_
    refine LWP.region (l := [_,_,_,_,_,_]) ?_
    refine LWo.move (e_Limpl_Version t0) rfl (hn := ?_)
    refine LWo.move (e_int t9) rfl (hn := ?_)
    refine bk h fun x13 e13 h => ?_
    refine LWo.indexM (f := e_impl_Version) e13 u_Limpl_Version s_impl_Version rfl rfl (hn := ?_)
    refine LWo.loadN ((e_impl_Version x13)).cells g_impl_Version s_impl_Version rfl (Nat.le_of_ble_eq_true rfl) rfl (hn := ?_)
    refine LWo.alloc_impl_Version 10 rfl (hn := ?_)
    refine lk h fun y14 e14 h => ?_
    refine LWo.storeW (y := (⟨(0 : Int), (0 : Int), (0 : Int), []⟩ : S_impl_Version)) y14 s_impl_Version rfl rfl rfl rfl rfl rfl (by rw [e14]; exact .refl) rfl (hn := ?_)
    refine LWo.nil (hN12 _ ?_)
    refine LWP.join (α := (List S_impl_Version) × Int × S_impl_Write × Bool × Int × S_impl_Version × (List S_impl_Version)) (fun z : (List S_impl_Version) × Int × S_impl_Write × Bool × Int × S_impl_Version × (List S_impl_Version) => [(0, (e_Limpl_Version z.1)), (2, (e_int z.2.1)), (4, (.fp (e_impl_Write z.2.2.1).cells)), (7, (.own 1011 0 (z.2.2.2.2.2.2).length)), (8, (e_bool z.2.2.2.1)), (9, (e_int z.2.2.2.2.1)), (10, (.ptr 10 0 0))]) (fun z : (List S_impl_Version) × Int × S_impl_Write × Bool × Int × S_impl_Version × (List S_impl_Version) => [(10, (vob 4 e_impl_Version z.2.2.2.2.2.1)), (1011, (lob 4 e_impl_Version z.2.2.2.2.2.2))]) (fun z : (List S_impl_Version) × Int × S_impl_Write × Bool × Int × S_impl_Version × (List S_impl_Version) => m_spec_l13Written_j2  (m_spec_l13Written_l1  n1) z.1 z.2.1 z.2.2.1 z.2.2.2.1 z.2.2.2.2.1 z.2.2.2.2.2.1 z.2.2.2.2.2.2) r (fun _ => by simp [hkeys]) ?_ ?_
    ·rintro ⟨t0, t2, t4, t8, t9, o10, o1011⟩ h
     replace h : m_spec_l13Written_j2  (m_spec_l13Written_l1  n1) t0 t2 t4 t8 t9 o10 o1011 = some _ := h
     refine LWP.join (α := (List S_impl_Version) × Int × S_impl_Write × Bool × Int × S_impl_Version × (List S_impl_Version)) (fun z : (List S_impl_Version) × Int × S_impl_Write × Bool × Int × S_impl_Version × (List S_impl_Version) => [(0, (e_Limpl_Version z.1)), (2, (e_int z.2.1)), (4, (.fp (e_impl_Write z.2.2.1).cells)), (7, (.own 1011 0 (z.2.2.2.2.2.2).length)), (8, (e_bool z.2.2.2.1)), (9, (e_int z.2.2.2.2.1)), (10, (.ptr 10 0 0))]) (fun z : (List S_impl_Version) × Int × S_impl_Write × Bool × Int × S_impl_Version × (List S_impl_Version) => [(10, (vob 4 e_impl_Version z.2.2.2.2.2.1)), (1011, (lob 4 e_impl_Version z.2.2.2.2.2.2))]) (fun z : (List S_impl_Version) × Int × S_impl_Write × Bool × Int × S_impl_Version × (List S_impl_Version) => m_spec_l13Written_j4  (m_spec_l13Written_l1  n1) z.1 z.2.1 z.2.2.1 z.2.2.2.1 z.2.2.2.2.1 z.2.2.2.2.2.1 z.2.2.2.2.2.2) r (fun _ => by simp [hkeys]) ?_ ?_
     ·rintro ⟨t0, t2, t4, t8, t9, o10, o1011⟩ h
      replace h : m_spec_l13Written_j4  (m_spec_l13Written_l1  n1) t0 t2 t4 t8 t9 o10 o1011 = some _ := h
      refine LWP.region (l := [_,_,_,_,_]) ?_
      refine LWo.move (.own 1011 0 (o1011).length) rfl (hn := ?_)
      refine LWo.loadVN ((e_impl_Version o10)).cells  g_impl_Version s_impl_Version rfl rfl rfl rfl (hn := ?_)
      refine LWo.lit (ops := [_]) [(e_impl_Version o10)] u_Limpl_Version s_impl_Version z_impl_Version rfl rfl rfl rfl rfl rfl (hn := ?_)
      refine bk h fun x27 e27 h => ?_
      refine LWo.appendM (f := e_impl_Version) e27 rfl u_Limpl_Version u_Limpl_Version (fun _ h => by cases h) s_impl_Version i_impl_Version rfl rfl rfl (.sl rfl) rfl rfl (hn := ?_)
      refine LWo.assign (.own 1011 0 (x27).length) rfl (hn := ?_)
      refine LWo.nil (hN11 _ ?_)
      refine LWP.region (l := [_,_,_]) ?_
      refine LWo.move (e_int t9) rfl (hn := ?_)
      refine bk h fun x28 e28 h => ?_
      refine LWo.int _ rfl rfl (add_ck e28) (hn := ?_)
      refine LWo.assign (e_int x28) rfl (hn := ?_)
      refine LWo.nil (hN6 (t0, t2, t4, t8, x28, x27) _ ⟨rfl, rfl, rfl, rfl, rfl, rfl, trivial⟩ ⟨rfl, trivial⟩ h)
     ·intro N22 hN22
      refine LWP.join (α := (List S_impl_Version) × Int × S_impl_Write × Bool × Int × Bool × S_impl_Version × (List S_impl_Version)) (fun z : (List S_impl_Version) × Int × S_impl_Write × Bool × Int × Bool × S_impl_Version × (List S_impl_Version) => [(0, (e_Limpl_Version z.1)), (2, (e_int z.2.1)), (4, (.fp (e_impl_Write z.2.2.1).cells)), (7, (.own 1011 0 (z.2.2.2.2.2.2.2).length)), (8, (e_bool z.2.2.2.1)), (9, (e_int z.2.2.2.2.1)), (10, (.ptr 10 0 0)), (52, (e_bool z.2.2.2.2.2.1))]) (fun z : (List S_impl_Version) × Int × S_impl_Write × Bool × Int × Bool × S_impl_Version × (List S_impl_Version) => [(10, (vob 4 e_impl_Version z.2.2.2.2.2.2.1)), (1011, (lob 4 e_impl_Version z.2.2.2.2.2.2.2))]) (fun z : (List S_impl_Version) × Int × S_impl_Write × Bool × Int × Bool × S_impl_Version × (List S_impl_Version) => m_spec_l13Written_j3  (m_spec_l13Written_l1  n1) z.1 z.2.1 z.2.2.1 z.2.2.2.1 z.2.2.2.2.1 z.2.2.2.2.2.1 z.2.2.2.2.2.2.1 z.2.2.2.2.2.2.2) r (fun _ => by simp [hkeys]) ?_ ?_
      ·rintro ⟨t0, t2, t4, t8, t9, t52, o10, o1011⟩ h
       replace h : m_spec_l13Written_j3  (m_spec_l13Written_l1  n1) t0 t2 t4 t8 t9 t52 o10 o1011 = some _ := h
       refine LWP.cond_split rfl (fun h25 => ?_) (fun h25 => ?_)
       ·have h := bT h25 h
        refine LWP.region (l := [_,_,_]) ?_
        refine LWo.move (e_int t2) rfl (hn := ?_)
        refine LWo.fieldPtr u_impl_Version rfl s_int rfl rfl (hn := ?_)
        refine lk h fun y26 e26 h => ?_
        refine LWo.storeW (y := o10) y26 s_int rfl rfl rfl rfl rfl rfl (by rw [e26]; exact .refl) rfl (hn := ?_)
        refine LWo.nil (hN22 (t0, t2, t4, t8, t9, y26, o1011) _ ⟨rfl, rfl, rfl, rfl, rfl, rfl, rfl, trivial⟩ ⟨rfl, rfl, trivial⟩ h)
       ·have h := bF h25 h
        refine LWP.skip (hN22 (t0, t2, t4, t8, t9, o10, o1011) _ ⟨rfl, rfl, rfl, rfl, rfl, rfl, rfl, trivial⟩ ⟨rfl, rfl, trivial⟩ h)
      ·intro N23 hN23
       refine LWP.region (l := [_,_,_,_,_,_,_,_,_,_]) ?_
       refine LWo.fieldPtr u_impl_Version rfl s_int rfl rfl (hn := ?_)
       refine LWo.loadV1 (e_int o10.Key)  g_int rfl rfl rfl (hn := ?_)
       refine LWo.fieldAddr _ u_impl_Write rfl s_int rfl rfl (hn := ?_)
       refine LWo.load1 (c := (e_int t4.Key)) g_int rfl (hn := ?_)
       refine LWo.int _ rfl rfl rfl (hn := ?_)
       refine LWo.move (e_bool (o10.Key == t4.Key)) rfl (hn := ?_)
       refine LWo.byCases (t := 48) _ rfl (fun h24 => ?_) (fun h24 => ?_)
       ·have h := bT h24 h
        refine LWo.guardY (t := 48) rfl h24 rfl rfl ?_
        refine LWo.fieldPtr u_impl_Version rfl s_int rfl rfl (hn := ?_)
        refine LWo.guardY (t := 48) rfl h24 rfl rfl ?_
        refine LWo.loadV1 (e_int o10.Died)  g_int rfl rfl rfl (hn := ?_)
        refine LWo.guardY (t := 48) rfl h24 rfl rfl ?_
        refine LWo.int _ rfl rfl rfl (hn := ?_)
        refine LWo.pickTM (e_bool (o10.Died == (0 : Int))) rfl h24 rfl (hn := ?_)
        refine LWo.nil (hN23 (t0, t2, t4, t8, t9, (o10.Died == (0 : Int)), o10, o1011) _ ⟨rfl, rfl, rfl, rfl, rfl, rfl, rfl, rfl, trivial⟩ ⟨rfl, rfl, trivial⟩ h)
       ·have h := bF h24 h
        refine LWo.guardNU (t := 48) rfl h24 rfl rfl rfl rfl rfl ?_
        refine LWo.guardNU (t := 48) rfl h24 rfl rfl rfl rfl rfl ?_
        refine LWo.guardNU (t := 48) rfl h24 rfl rfl rfl rfl rfl ?_
        refine LWo.pickFM (e_bool false) rfl h24 rfl (hn := ?_)
        refine LWo.nil (hN23 (t0, t2, t4, t8, t9, false, o10, o1011) _ ⟨rfl, rfl, rfl, rfl, rfl, rfl, rfl, rfl, trivial⟩ ⟨rfl, rfl, trivial⟩ h)
    ·intro N15 hN15
     refine LWP.join (α := (List S_impl_Version) × Int × S_impl_Write × Bool × Int × Bool × S_impl_Version × (List S_impl_Version)) (fun z : (List S_impl_Version) × Int × S_impl_Write × Bool × Int × Bool × S_impl_Version × (List S_impl_Version) => [(0, (e_Limpl_Version z.1)), (2, (e_int z.2.1)), (4, (.fp (e_impl_Write z.2.2.1).cells)), (7, (.own 1011 0 (z.2.2.2.2.2.2.2).length)), (8, (e_bool z.2.2.2.1)), (9, (e_int z.2.2.2.2.1)), (10, (.ptr 10 0 0)), (32, (e_bool z.2.2.2.2.2.1))]) (fun z : (List S_impl_Version) × Int × S_impl_Write × Bool × Int × Bool × S_impl_Version × (List S_impl_Version) => [(10, (vob 4 e_impl_Version z.2.2.2.2.2.2.1)), (1011, (lob 4 e_impl_Version z.2.2.2.2.2.2.2))]) (fun z : (List S_impl_Version) × Int × S_impl_Write × Bool × Int × Bool × S_impl_Version × (List S_impl_Version) => m_spec_l13Written_j1  (m_spec_l13Written_l1  n1) z.1 z.2.1 z.2.2.1 z.2.2.2.1 z.2.2.2.2.1 z.2.2.2.2.2.1 z.2.2.2.2.2.2.1 z.2.2.2.2.2.2.2) r (fun _ => by simp [hkeys]) ?_ ?_
     ·rintro ⟨t0, t2, t4, t8, t9, t32, o10, o1011⟩ h
      replace h : m_spec_l13Written_j1  (m_spec_l13Written_l1  n1) t0 t2 t4 t8 t9 t32 o10 o1011 = some _ := h
      refine LWP.cond_split rfl (fun h18 => ?_) (fun h18 => ?_)
      ·have h := bT h18 h
       refine LWP.seq_k fun N19 hN19 => ?_
       refine bk h fun x20 e20 h => ?_
       refine bk h fun x21 e21 h => ?_
       refine LWP.drawF (l := [_,_,_,_,_,_,_,_,_,_,_]) [(1011, 1011)] [0, 2, 4, 7, 9, 10] [([7], []), ([4], []), ([34], []), ([2], []), ([4], []), ([37], []), ([38], []), ([35, 36, 39], []), ([40], []), ([33, 41], [1011]), ([42], [])] [0, 2, 4, 7, 9, 10] [10, 1011] mixed (by kernel_rfl) rfl (by decide) ?_
       refine dq 33 rfl (fun _ g u h => LWo.move (.own 1011 0 (o1011).length) u.1 (hn := .nil (zn g))) ?_
       refine dq 34 rfl (fun _ g u h => LWo.fieldAddr _ u_impl_Write rfl s_int u.1 rfl (hn := .nil (zn g))) ?_
       refine dq 35 rfl (fun _ g u h => LWo.load1 (c := (e_int t4.Key)) g_int u.1 (hn := .nil (zn g))) ?_
       refine dq 36 rfl (fun _ g u h => LWo.move (e_int t2) u.1 (hn := .nil (zn g))) ?_
       refine dq 37 rfl (fun _ g u h => LWo.fieldAddr _ u_impl_Write rfl s_Limpl_Value u.1 rfl (hn := .nil (zn g))) ?_
       refine dq 38 rfl (fun _ g u h => LWo.load1 (c := (e_Limpl_Value t4.Row)) g_Limpl_Value u.1 (hn := .nil (zn g))) ?_
       refine dq 39 rfl (fun _ g u h => LWo.vcall rfl (av1 u.1) (c_spec_l3Own _ _ e20) (.same (.nil)) (hn := .nil (zn g))) ?_
       refine dq 40 rfl (fun _ g u h => LWo.build_impl_Version (parts := [_, _, _]) (⟨t4.Key, t2, (0 : Int), x20⟩ : S_impl_Version) (pv3 u.1 u.2.1 u.2.2.1) rfl rfl .refl (hn := .nil (zn g))) ?_
       refine dq 41 rfl (fun _ g u h => LWo.lit (ops := [_]) [(e_impl_Version (⟨t4.Key, t2, (0 : Int), x20⟩ : S_impl_Version))] u_Limpl_Version s_impl_Version z_impl_Version (lv1 u.1) rfl rfl rfl rfl rfl (hn := .nil (zn g))) ?_
       refine ⟨rfl, .make 42 _ 1011 _, (by exact (goodC rfl goodN)), fun _ g u h => LWo.appendM (f := e_impl_Version) e21 rfl u_Limpl_Version u_Limpl_Version (fun _ h => by cases h) s_impl_Version i_impl_Version rfl u.1 h.1 (.sl u.2.1) (lone_of g rfl) rfl (hn := LWo.nil ⟨rfl, .inl rfl, Ef.good_ok (e := .make 42 _ 1011 _) (by exact (goodC rfl goodN)) g⟩), ?_⟩
       refine dq 7 rfl (fun _ g u h => LWo.assign (.own 1011 0 (x21).length) u.1 (hn := .nil (zn g))) ?_
       refine ⟨rfl, by kernel_rfl, hN19 _ ?_⟩
       refine LWP.region (l := [_]) ?_
       refine LWo.assign (e_bool true) rfl (hn := ?_)
       refine LWo.nil (hN15 (t0, t2, t4, true, t9, o10, x21) _ ⟨rfl, rfl, rfl, rfl, rfl, rfl, rfl, trivial⟩ ⟨rfl, rfl, trivial⟩ h)
      ·have h := bF h18 h
       refine LWP.skip (hN15 (t0, t2, t4, t8, t9, o10, o1011) _ ⟨rfl, rfl, rfl, rfl, rfl, rfl, rfl, trivial⟩ ⟨rfl, rfl, trivial⟩ h)
     ·intro N16 hN16
      refine LWP.region (l := [_,_,_,_,_,_,_,_,_]) ?_
      refine LWo.fieldPtr u_impl_Version rfl s_int rfl rfl (hn := ?_)
      refine LWo.loadV1 (e_int y14.Key)  g_int rfl rfl rfl (hn := ?_)
      refine LWo.fieldAddr _ u_impl_Write rfl s_int rfl rfl (hn := ?_)
      refine LWo.load1 (c := (e_int t4.Key)) g_int rfl (hn := ?_)
      refine LWo.int _ rfl rfl rfl (hn := ?_)
      refine LWo.move (e_bool (decide (y14.Key > t4.Key))) rfl (hn := ?_)
      refine LWo.byCases (t := 29) _ rfl (fun h17 => ?_) (fun h17 => ?_)
      ·have h := bT h17 h
       refine LWo.guardY (t := 29) rfl h17 rfl rfl ?_
       refine LWo.move (e_bool t8) rfl (hn := ?_)
       refine LWo.guardY (t := 29) rfl h17 rfl rfl ?_
       refine LWo.not rfl (hn := ?_)
       refine LWo.pickTM (e_bool (!t8)) rfl h17 rfl (hn := ?_)
       refine LWo.nil (hN16 (t0, t2, t4, t8, t9, (!t8), y14, o1011) _ ⟨rfl, rfl, rfl, rfl, rfl, rfl, rfl, rfl, trivial⟩ ⟨rfl, rfl, trivial⟩ h)
      ·have h := bF h17 h
       refine LWo.guardNU (t := 29) rfl h17 rfl rfl rfl rfl rfl ?_
       refine LWo.guardNU (t := 29) rfl h17 rfl rfl rfl rfl rfl ?_
       refine LWo.pickFM (e_bool false) rfl h17 rfl (hn := ?_)
       refine LWo.nil (hN16 (t0, t2, t4, t8, t9, false, y14, o1011) _ ⟨rfl, rfl, rfl, rfl, rfl, rfl, rfl, rfl, trivial⟩ ⟨rfl, rfl, trivial⟩ h)
   ·have h := bF h10 h
    refine LWP.exit (hN4 (t2, t4, t8, o1011) _ ⟨rfl, rfl, rfl, rfl, trivial⟩ ⟨rfl, trivial⟩ h)

def m_spec_WrittenAt_j3 (o1036 : (List S_impl_Version)) : Option ((List S_impl_Version) × Bool) :=
  bif decide ((o1036.length : Int) > (60 : Int)) then (some (([] : (List S_impl_Version)), false))
  else (some (o1036, true))
def m_spec_WrittenAt_l2 : Nat → (List S_impl_Write) → Int → Int → (List S_impl_Version) → Option ((List S_impl_Version) × Bool)
  | 0, _, _, _, _ => none
  | n2 + 1, t1, t2, t10, o1036 =>
    bif decide (t10 < (t1.length : Int)) then ((at? t1 t10).bind fun x34 =>
    (m_spec_l13Written o1036 x34 t2).bind fun x35 =>
    (ckI (t10 + (1 : Int))).bind fun x36 =>
    (m_spec_WrittenAt_l2  n2) t1 t2 x36 x35)
    else (m_spec_WrittenAt_j3  o1036)
def m_spec_WrittenAt_j2 (t0 : (List S_impl_Version)) (t1 : (List S_impl_Write)) (t2 : Int) : Option ((List S_impl_Version) × Bool) :=
  (m_spec_l13Copy t0).bind fun x25 =>
  m_spec_WrittenAt_l2  (((t1.length : Int) - (0 : Int)).toNat + 1) t1 t2 (0 : Int) x25
def m_spec_WrittenAt_l1 : Nat → (List S_impl_Version) → (List S_impl_Write) → Int → Int → Option ((List S_impl_Version) × Bool)
  | 0, _, _, _, _ => none
  | n1 + 1, t0, t1, t2, t8 =>
    bif decide (t8 < (5 : Int)) then ((m_spec_LastTurn t0 t8).bind fun x20 =>
    bif decide (x20 ≥ t2) then (some (([] : (List S_impl_Version)), false))
    else ((ckI (t8 + (1 : Int))).bind fun x23 =>
    (m_spec_WrittenAt_l1  n1) t0 t1 t2 x23))
    else (m_spec_WrittenAt_j2  t0 t1 t2)
def m_spec_WrittenAt_j1 (t0 : (List S_impl_Version)) (t1 : (List S_impl_Write)) (t2 : Int) (t23 : Bool) : Option ((List S_impl_Version) × Bool) :=
  bif t23 then (some (([] : (List S_impl_Version)), false))
  else (m_spec_WrittenAt_l1  (((5 : Int) - (0 : Int)).toNat + 1) t0 t1 t2 (0 : Int))
def m_spec_WrittenAt (a0 : (List S_impl_Version)) (a1 : (List S_impl_Write)) (a2 : Int) : Option ((List S_impl_Version) × Bool) :=
  (m_spec_VersionsOk a0).bind fun x4 =>
  bif (!x4) then (m_spec_WrittenAt_j1  a0 a1 a2 true)
  else ((m_spec_WritesOk a1).bind fun x6 =>
    bif (!x6) then (m_spec_WrittenAt_j1  a0 a1 a2 true)
    else ((m_spec_l1In a2 (1 : Int) (40 : Int)).bind fun x8 =>
      m_spec_WrittenAt_j1  a0 a1 a2 (!x8)))
theorem c_spec_WrittenAt (a0 : (List S_impl_Version)) (a1 : (List S_impl_Write)) (a2 : Int) (r : ((List S_impl_Version) × Bool)) (h : m_spec_WrittenAt a0 a1 a2 = some r) : Ret Try.prog f_spec_WrittenAt [e_Limpl_Version a0, e_Limpl_Write a1, e_int a2] (.tup [.nw 4 (r.1.map e_impl_Version) false, e_bool r.2]) := by
  refine Does.goG [] F_spec_WrittenAt rfl e_spec_WrittenAt n_spec_WrittenAt rfl (rvs := [.tmp 6, .tmp 7]) rfl rfl ?_
  intro w0 ok0 lent ρ0
  refine LWP.seq_k fun N1 hN1 => ?_
  refine LWP.region (l := [_,_]) ?_
  refine LWo.assign _ rfl (hn := ?_)
  refine LWo.ownNil 6 1006 4 rfl rfl rfl ?_
  refine LWo.known 6 (.own 1006 0 ([] : (List S_impl_Version)).length) rfl ?_
  refine LWo.assign (e_bool false) rfl (hn := ?_)
  refine LWo.nil (hN1 _ ?_)
  refine LWP.seq_k fun N2 hN2 => ?_
  refine LWP.join (α := (List S_impl_Version) × (List S_impl_Write) × Int × Bool) (fun z : (List S_impl_Version) × (List S_impl_Write) × Int × Bool => [(0, (e_Limpl_Version z.1)), (1, (e_Limpl_Write z.2.1)), (2, (e_int z.2.2.1)), (23, (e_bool z.2.2.2))]) (fun z : (List S_impl_Version) × (List S_impl_Write) × Int × Bool => []) (fun z : (List S_impl_Version) × (List S_impl_Write) × Int × Bool => m_spec_WrittenAt_j1  z.1 z.2.1 z.2.2.1 z.2.2.2) r (fun _ => by simp [hkeys]) ?_ ?_
  ·rintro ⟨t0, t1, t2, t23⟩ h
   replace h : m_spec_WrittenAt_j1  t0 t1 t2 t23 = some _ := h
   refine LWP.cond_split rfl (fun h9 => ?_) (fun h9 => ?_)
   ·have h := bT h9 h
    refine LWP.seq_k fun N10 hN10 => ?_
    refine LWP.region (l := [_,_,_]) ?_
    refine LWo.lit0 1024 u_Limpl_Version s_impl_Version z_impl_Version (hn := ?_)
    refine LWo.known 24 (.own 1024 0 ([] : (List S_impl_Version)).length) rfl ?_
    refine LWo.assign (.own 1024 0 (([] : (List S_impl_Version))).length) rfl (hn := ?_)
    refine LWo.assign (e_bool false) rfl (hn := ?_)
    refine LWo.nil (hN10 _ ?_)
    obtain rfl := Option.some.inj h
    refine LWP.ret (QG.mk (.inr rfl) (.cons (.tmp (x := (.own 1024 0 (([] : (List S_impl_Version))).length)) rfl) (.cons (.tmp (x := (e_bool false)) rfl) (.nil))) (RetOK.many0 (.cons (.nwM rfl rfl) (.cons (.pure rfl) (.nil))) (by simp) (by decide)) rfl rfl)
   ·have h := bF h9 h
    refine LWP.skip (hN2 _ ?_)
    refine LWP.join (α := (List S_impl_Version) × (List S_impl_Write) × Int) (fun z : (List S_impl_Version) × (List S_impl_Write) × Int => [(0, (e_Limpl_Version z.1)), (1, (e_Limpl_Write z.2.1)), (2, (e_int z.2.2))]) (fun z : (List S_impl_Version) × (List S_impl_Write) × Int => []) (fun z : (List S_impl_Version) × (List S_impl_Write) × Int => m_spec_WrittenAt_j2  z.1 z.2.1 z.2.2) r (fun _ => by simp [hkeys]) ?_ ?_
    ·rintro ⟨t0, t1, t2⟩ h
     replace h : m_spec_WrittenAt_j2  t0 t1 t2 = some _ := h
     refine LWP.seq_k fun N24 hN24 => ?_
     refine LWP.region (l := [_,_,_]) ?_
     refine LWo.move (e_Limpl_Version t0) rfl (hn := ?_)
     refine bk h fun x25 e25 h => ?_
     refine LWo.ncall (e := e_impl_Version) 1036 rfl rfl (c_spec_l13Copy _ _ e25) (.same (.nil)) rfl (hn := ?_)
     refine LWo.assign (.own 1036 0 (x25).length) rfl (hn := ?_)
     refine LWo.nil (hN24 _ ?_)
     refine LWP.join (α := (List S_impl_Version)) (fun z : (List S_impl_Version) => [(9, (.own 1036 0 (z).length))]) (fun z : (List S_impl_Version) => [(1036, (lob 4 e_impl_Version z))]) (fun z : (List S_impl_Version) => m_spec_WrittenAt_j3  z) r (fun _ => by simp [hkeys]) ?_ ?_
     ·rintro o1036 h
      replace h : m_spec_WrittenAt_j3  o1036 = some _ := h
      refine LWP.seq_k fun N37 hN37 => ?_
      refine LWP.seq_k fun N38 hN38 => ?_
      refine LWP.region (l := [_,_,_]) ?_
      refine LWo.move (.own 1036 0 (o1036).length) rfl (hn := ?_)
      refine LWo.lenO u_Limpl_Version rfl (hn := ?_)
      refine LWo.int _ rfl rfl rfl (hn := ?_)
      refine LWo.nil (hN38 _ ?_)
      refine LWP.cond_split rfl (fun h39 => ?_) (fun h39 => ?_)
      ·have h := bT h39 h
       refine LWP.seq_k fun N40 hN40 => ?_
       refine LWP.region (l := [_,_,_]) ?_
       refine LWo.lit0 1053 u_Limpl_Version s_impl_Version z_impl_Version (hn := ?_)
       refine LWo.known 53 (.own 1053 0 ([] : (List S_impl_Version)).length) rfl ?_
       refine LWo.assign (.own 1053 0 (([] : (List S_impl_Version))).length) rfl (hn := ?_)
       refine LWo.assign (e_bool false) rfl (hn := ?_)
       refine LWo.nil (hN40 _ ?_)
       obtain rfl := Option.some.inj h
       refine LWP.ret (QG.mk (.inr rfl) (.cons (.tmp (x := (.own 1053 0 (([] : (List S_impl_Version))).length)) rfl) (.cons (.tmp (x := (e_bool false)) rfl) (.nil))) (RetOK.many0 (.cons (.nwM rfl rfl) (.cons (.pure rfl) (.nil))) (by simp) (by decide)) rfl rfl)
      ·have h := bF h39 h
       refine LWP.skip (hN37 _ ?_)
       refine LWP.seq_k fun N41 hN41 => ?_
       refine LWP.region (l := [_,_,_]) ?_
       refine LWo.move (.own 1036 0 (o1036).length) rfl (hn := ?_)
       refine LWo.assign (.own 1036 0 (o1036).length) rfl (hn := ?_)
       refine LWo.assign (e_bool true) rfl (hn := ?_)
       refine LWo.nil (hN41 _ ?_)
       obtain rfl := Option.some.inj h
       refine LWP.ret (QG.mk (.inr rfl) (.cons (.tmp (x := (.own 1036 0 (o1036).length)) rfl) (.cons (.tmp (x := (e_bool true)) rfl) (.nil))) (RetOK.many0 (.cons (.nwM rfl rfl) (.cons (.pure rfl) (.nil))) (by simp) (by decide)) rfl rfl)
     ·intro N26 hN26
      refine LWP.seq_k fun N27 hN27 => ?_
      refine LWP.region (l := [_]) ?_
      refine LWo.assign (e_int (0 : Int)) rfl (hn := ?_)
      refine LWo.nil (hN27 _ ?_)
      refine LWP.block ?_
      refine LWP.loopM (α := (List S_impl_Write) × Int × Int × (List S_impl_Version)) (fun z : (List S_impl_Write) × Int × Int × (List S_impl_Version) => [(1, (e_Limpl_Write z.1)), (2, (e_int z.2.1)), (9, (.own 1036 0 (z.2.2.2).length)), (10, (e_int z.2.2.1))]) (fun z : (List S_impl_Write) × Int × Int × (List S_impl_Version) => [(1036, (lob 4 e_impl_Version z.2.2.2))]) (fun n2 (z : (List S_impl_Write) × Int × Int × (List S_impl_Version)) => m_spec_WrittenAt_l2  n2 z.1 z.2.1 z.2.2.1 z.2.2.2) r _ (t1, t2, (0 : Int), x25) h (fun _ => rfl) (fun _ => by simp [hkeys]) ⟨rfl, rfl, rfl, rfl, trivial⟩ ⟨rfl, trivial⟩ ?_
      rintro n2 ⟨t1, t2, t10, o1036⟩ h N28 hN28
      replace h : m_spec_WrittenAt_l2  (n2 + 1) t1 t2 t10 o1036 = some _ := h
      refine LWP.seq_k fun N30 hN30 => ?_
      refine LWP.seq_k fun N31 hN31 => ?_
      refine LWP.region (l := [_,_,_,_]) ?_
      refine LWo.move (e_int t10) rfl (hn := ?_)
      refine LWo.move (e_Limpl_Write t1) rfl (hn := ?_)
      refine LWo.lenM (f := e_impl_Write) (l := t1) u_Limpl_Write rfl (hn := ?_)
      refine LWo.int _ rfl rfl rfl (hn := ?_)
      refine LWo.nil (hN31 _ ?_)
      refine LWP.cond_split rfl (fun h32 => ?_) (fun h32 => ?_)
      ·have h := bT h32 h
       refine LWP.skip (hN30 _ ?_)
       refine LWP.seq_k fun N33 hN33 => ?_
       refine LWP.block ?_
       refine LWP.region (l := [_,_,_,_,_,_,_,_]) ?_
       refine LWo.move (.own 1036 0 (o1036).length) rfl (hn := ?_)
       refine LWo.move (e_Limpl_Write t1) rfl (hn := ?_)
       refine LWo.move (e_int t10) rfl (hn := ?_)
       refine bk h fun x34 e34 h => ?_
       refine LWo.indexM (f := e_impl_Write) e34 u_Limpl_Write s_impl_Write rfl rfl (hn := ?_)
       refine LWo.loadN ((e_impl_Write x34)).cells g_impl_Write s_impl_Write rfl (Nat.le_of_ble_eq_true rfl) rfl (hn := ?_)
       refine LWo.move (e_int t2) rfl (hn := ?_)
       refine bk h fun x35 e35 h => ?_
       refine LWo.frzL (f := e_impl_Version) (l := o1036) [9, 43] 1036 rfl rfl ⟨rfl, rfl, trivial⟩ ?_
       refine LWo.ncall (e := e_impl_Version) 1049 rfl rfl (c_spec_l13Written _ _ _ _ e35) (.same (.same (.same (.nil)))) rfl (hn := ?_)
       refine LWo.assign (.own 1049 0 (x35).length) rfl (hn := ?_)
       refine LWo.nil (hN33 _ ?_)
       refine LWP.region (l := [_,_,_]) ?_
       refine LWo.move (e_int t10) rfl (hn := ?_)
       refine bk h fun x36 e36 h => ?_
       refine LWo.int _ rfl rfl (add_ck e36) (hn := ?_)
       refine LWo.assign (e_int x36) rfl (hn := ?_)
       refine LWo.rekey 9 1049 1036 rfl rfl rfl rfl rfl rfl ?_
       refine LWo.nil (hN28 (t1, t2, x36, x35) _ ⟨rfl, rfl, rfl, rfl, trivial⟩ ⟨rfl, trivial⟩ h)
      ·have h := bF h32 h
       refine LWP.exit (hN26 o1036 _ ⟨rfl, trivial⟩ ⟨rfl, trivial⟩ h)
    ·intro N11 hN11
     refine LWP.seq_k fun N12 hN12 => ?_
     refine LWP.region (l := [_]) ?_
     refine LWo.assign (e_int (0 : Int)) rfl (hn := ?_)
     refine LWo.nil (hN12 _ ?_)
     refine LWP.block ?_
     refine LWP.loopM (α := (List S_impl_Version) × (List S_impl_Write) × Int × Int) (fun z : (List S_impl_Version) × (List S_impl_Write) × Int × Int => [(0, (e_Limpl_Version z.1)), (1, (e_Limpl_Write z.2.1)), (2, (e_int z.2.2.1)), (8, (e_int z.2.2.2))]) (fun z : (List S_impl_Version) × (List S_impl_Write) × Int × Int => []) (fun n1 (z : (List S_impl_Version) × (List S_impl_Write) × Int × Int) => m_spec_WrittenAt_l1  n1 z.1 z.2.1 z.2.2.1 z.2.2.2) r _ (t0, t1, t2, (0 : Int)) h (fun _ => rfl) (fun _ => by simp [hkeys]) ⟨rfl, rfl, rfl, rfl, trivial⟩ trivial ?_
     rintro n1 ⟨t0, t1, t2, t8⟩ h N13 hN13
     replace h : m_spec_WrittenAt_l1  (n1 + 1) t0 t1 t2 t8 = some _ := h
     refine LWP.seq_k fun N15 hN15 => ?_
     refine LWP.seq_k fun N16 hN16 => ?_
     refine LWP.region (l := [_,_]) ?_
     refine LWo.move (e_int t8) rfl (hn := ?_)
     refine LWo.int _ rfl rfl rfl (hn := ?_)
     refine LWo.nil (hN16 _ ?_)
     refine LWP.cond_split rfl (fun h17 => ?_) (fun h17 => ?_)
     ·have h := bT h17 h
      refine LWP.skip (hN15 _ ?_)
      refine LWP.seq_k fun N18 hN18 => ?_
      refine LWP.block ?_
      refine LWP.seq_k fun N19 hN19 => ?_
      refine LWP.region (l := [_,_,_,_,_]) ?_
      refine LWo.move (e_Limpl_Version t0) rfl (hn := ?_)
      refine LWo.move (e_int t8) rfl (hn := ?_)
      refine bk h fun x20 e20 h => ?_
      refine LWo.vcall rfl rfl (c_spec_LastTurn _ _ _ e20) (.same (.same (.nil))) (hn := ?_)
      refine LWo.move (e_int t2) rfl (hn := ?_)
      refine LWo.int _ rfl rfl rfl (hn := ?_)
      refine LWo.nil (hN19 _ ?_)
      refine LWP.cond_split rfl (fun h21 => ?_) (fun h21 => ?_)
      ·have h := bT h21 h
       refine LWP.seq_k fun N22 hN22 => ?_
       refine LWP.region (l := [_,_,_]) ?_
       refine LWo.lit0 1034 u_Limpl_Version s_impl_Version z_impl_Version (hn := ?_)
       refine LWo.known 34 (.own 1034 0 ([] : (List S_impl_Version)).length) rfl ?_
       refine LWo.assign (.own 1034 0 (([] : (List S_impl_Version))).length) rfl (hn := ?_)
       refine LWo.assign (e_bool false) rfl (hn := ?_)
       refine LWo.nil (hN22 _ ?_)
       obtain rfl := Option.some.inj h
       refine LWP.ret (QG.mk (.inr rfl) (.cons (.tmp (x := (.own 1034 0 (([] : (List S_impl_Version))).length)) rfl) (.cons (.tmp (x := (e_bool false)) rfl) (.nil))) (RetOK.many0 (.cons (.nwM rfl rfl) (.cons (.pure rfl) (.nil))) (by simp) (by decide)) rfl rfl)
      ·have h := bF h21 h
       refine LWP.skip (hN18 _ ?_)
       refine LWP.region (l := [_,_,_]) ?_
       refine LWo.move (e_int t8) rfl (hn := ?_)
       refine bk h fun x23 e23 h => ?_
       refine LWo.int _ rfl rfl (add_ck e23) (hn := ?_)
       refine LWo.assign (e_int x23) rfl (hn := ?_)
       refine LWo.nil (hN13 (t0, t1, t2, x23) _ ⟨rfl, rfl, rfl, rfl, trivial⟩ trivial h)
     ·have h := bF h17 h
      refine LWP.exit (hN11 (t0, t1, t2) _ ⟨rfl, rfl, rfl, trivial⟩ trivial h)
  ·intro N3 hN3
   refine LWP.region (l := [_,_,_,_,_,_,_,_,_,_,_,_,_]) ?_
   refine LWo.move (e_Limpl_Version a0) rfl (hn := ?_)
   refine bk h fun x4 e4 h => ?_
   refine LWo.vcall rfl rfl (c_spec_VersionsOk _ _ e4) (.same (.nil)) (hn := ?_)
   refine LWo.not rfl (hn := ?_)
   refine LWo.move (e_bool (!x4)) rfl (hn := ?_)
   refine LWo.byCases (t := 14) _ rfl (fun h5 => ?_) (fun h5 => ?_)
   ·have h := bT h5 h
    refine LWo.guardNU (t := 14) rfl h5 rfl rfl rfl rfl rfl ?_
    refine LWo.guardNU (t := 14) rfl h5 rfl rfl rfl rfl rfl ?_
    refine LWo.guardNU (t := 14) rfl h5 rfl rfl rfl rfl rfl ?_
    refine LWo.pickTM (e_bool true) rfl h5 rfl (hn := ?_)
    refine LWo.move (e_bool true) rfl (hn := ?_)
    refine LWo.guardNU (t := 19) rfl rfl rfl rfl rfl rfl rfl ?_
    refine LWo.guardNU (t := 19) rfl rfl rfl rfl rfl rfl rfl ?_
    refine LWo.guardNU (t := 19) rfl rfl rfl rfl rfl rfl rfl ?_
    refine LWo.pickTM (e_bool true) rfl rfl rfl (hn := ?_)
    refine LWo.nil (hN3 (a0, a1, a2, true) _ ⟨rfl, rfl, rfl, rfl, trivial⟩ trivial h)
   ·have h := bF h5 h
    refine LWo.guardY (t := 14) rfl h5 rfl rfl ?_
    refine LWo.move (e_Limpl_Write a1) rfl (hn := ?_)
    refine bk h fun x6 e6 h => ?_
    refine LWo.guardY (t := 14) rfl h5 rfl rfl ?_
    refine LWo.vcall rfl rfl (c_spec_WritesOk _ _ e6) (.same (.nil)) (hn := ?_)
    refine LWo.guardY (t := 14) rfl h5 rfl rfl ?_
    refine LWo.not rfl (hn := ?_)
    refine LWo.pickFM (e_bool (!x6)) rfl h5 rfl (hn := ?_)
    refine LWo.move (e_bool (!x6)) rfl (hn := ?_)
    refine LWo.byCases (t := 19) _ rfl (fun h7 => ?_) (fun h7 => ?_)
    ·have h := bT h7 h
     refine LWo.guardNU (t := 19) rfl h7 rfl rfl rfl rfl rfl ?_
     refine LWo.guardNU (t := 19) rfl h7 rfl rfl rfl rfl rfl ?_
     refine LWo.guardNU (t := 19) rfl h7 rfl rfl rfl rfl rfl ?_
     refine LWo.pickTM (e_bool true) rfl h7 rfl (hn := ?_)
     refine LWo.nil (hN3 (a0, a1, a2, true) _ ⟨rfl, rfl, rfl, rfl, trivial⟩ trivial h)
    ·have h := bF h7 h
     refine LWo.guardY (t := 19) rfl h7 rfl rfl ?_
     refine LWo.move (e_int a2) rfl (hn := ?_)
     refine bk h fun x8 e8 h => ?_
     refine LWo.guardY (t := 19) rfl h7 rfl rfl ?_
     refine LWo.vcall rfl rfl (c_spec_l1In _ _ _ _ e8) (.same (.same (.same (.nil)))) (hn := ?_)
     refine LWo.guardY (t := 19) rfl h7 rfl rfl ?_
     refine LWo.not rfl (hn := ?_)
     refine LWo.pickFM (e_bool (!x8)) rfl h7 rfl (hn := ?_)
     refine LWo.nil (hN3 (a0, a1, a2, (!x8)) _ ⟨rfl, rfl, rfl, rfl, trivial⟩ trivial h)

def m_spec_LogRun_j2 (t3 : (List S_impl_Version)) : Option (List S_impl_Version) :=
  some t3
def m_spec_LogRun_j1 (k1 : (List S_impl_Entry) → (List S_impl_Version) → Int → Option (List S_impl_Version)) (t0 : (List S_impl_Entry)) (t3 : (List S_impl_Version)) (t4 : Int) (t13 : Bool) : Option (List S_impl_Version) :=
  bif t13 then ((at? t0 t4).bind fun x13 =>
  (at? t0 t4).bind fun x14 =>
  (m_spec_WrittenAt t3 x13.Writes x14.Time).bind fun x15 =>
  (ckI (t4 + (1 : Int))).bind fun x16 =>
  k1 t0 x15.1 x16)
  else (m_spec_LogRun_j2  t3)
def m_spec_LogRun_l1 : Nat → (List S_impl_Entry) → (List S_impl_Version) → Int → Option (List S_impl_Version)
  | 0, _, _, _ => none
  | n1 + 1, t0, t3, t4 =>
    bif decide (t4 < (t0.length : Int)) then ((m_spec_LogOk t0).bind fun x10 =>
      m_spec_LogRun_j1  (m_spec_LogRun_l1  n1) t0 t3 t4 x10)
    else (m_spec_LogRun_j1  (m_spec_LogRun_l1  n1) t0 t3 t4 false)
def m_spec_LogRun (a0 : (List S_impl_Entry)) : Option (List S_impl_Version) :=
  m_spec_LogRun_l1  (1000000000) a0 ([] : (List S_impl_Version)) (0 : Int)
theorem c_spec_LogRun (a0 : (List S_impl_Entry)) (r : (List S_impl_Version)) (h : m_spec_LogRun a0 = some r) : Ret Try.prog f_spec_LogRun [e_Limpl_Entry a0] (e_Limpl_Version r) := by
  refine Does.goG [] F_spec_LogRun rfl e_spec_LogRun n_spec_LogRun rfl (rvs := [.tmp 2]) rfl rfl ?_
  intro w0 ok0 lent ρ0
  refine LWP.seq_k fun N1 hN1 => ?_
  refine LWP.region (l := [_]) ?_
  refine LWo.assign _ rfl (hn := ?_)
  refine LWo.weakT 2 (e_Limpl_Version ([] : (List S_impl_Version))) rfl .nil ?_
  refine LWo.nil (hN1 _ ?_)
  refine LWP.seq_k fun N2 hN2 => ?_
  refine LWP.region (l := [_,_]) ?_
  refine LWo.lit0 1005 u_Limpl_Version s_impl_Version z_impl_Version (hn := ?_)
  refine LWo.known 5 (.own 1005 0 ([] : (List S_impl_Version)).length) rfl ?_
  refine LWo.frzL (f := e_impl_Version) (l := ([] : (List S_impl_Version))) [5] 1005 rfl rfl ⟨rfl, trivial⟩ ?_
  refine LWo.assign (e_Limpl_Version ([] : (List S_impl_Version))) rfl (hn := ?_)
  refine LWo.nil (hN2 _ ?_)
  refine LWP.join (α := (List S_impl_Version)) (fun z : (List S_impl_Version) => [(3, (e_Limpl_Version z))]) (fun z : (List S_impl_Version) => []) (fun z : (List S_impl_Version) => m_spec_LogRun_j2  z) r (fun _ => by simp [hkeys]) ?_ ?_
  ·rintro t3 h
   replace h : m_spec_LogRun_j2  t3 = some _ := h
   refine LWP.seq_k fun N17 hN17 => ?_
   refine LWP.region (l := [_,_]) ?_
   refine LWo.move (e_Limpl_Version t3) rfl (hn := ?_)
   refine LWo.assign (e_Limpl_Version t3) rfl (hn := ?_)
   refine LWo.nil (hN17 _ ?_)
   obtain rfl := Option.some.inj h
   refine LWP.ret (QG.mk (.inr rfl) (.cons (.tmp (x := (e_Limpl_Version t3)) rfl) (.nil)) (RetOK.one0 (.pure rfl) (by decide)) rfl rfl)
  ·intro N3 hN3
   refine LWP.seq_k fun N4 hN4 => ?_
   refine LWP.region (l := [_]) ?_
   refine LWo.assign (e_int (0 : Int)) rfl (hn := ?_)
   refine LWo.nil (hN4 _ ?_)
   refine LWP.block ?_
   refine LWP.loopM (α := (List S_impl_Entry) × (List S_impl_Version) × Int) (fun z : (List S_impl_Entry) × (List S_impl_Version) × Int => [(0, (e_Limpl_Entry z.1)), (3, (e_Limpl_Version z.2.1)), (4, (e_int z.2.2))]) (fun z : (List S_impl_Entry) × (List S_impl_Version) × Int => []) (fun n1 (z : (List S_impl_Entry) × (List S_impl_Version) × Int) => m_spec_LogRun_l1  n1 z.1 z.2.1 z.2.2) r _ (a0, ([] : (List S_impl_Version)), (0 : Int)) h (fun _ => rfl) (fun _ => by simp [hkeys]) ⟨rfl, rfl, rfl, trivial⟩ trivial ?_
   rintro n1 ⟨t0, t3, t4⟩ h N5 hN5
   replace h : m_spec_LogRun_l1  (n1 + 1) t0 t3 t4 = some _ := h
   refine LWP.seq_k fun N7 hN7 => ?_
   refine LWP.join (α := (List S_impl_Entry) × (List S_impl_Version) × Int × Bool) (fun z : (List S_impl_Entry) × (List S_impl_Version) × Int × Bool => [(0, (e_Limpl_Entry z.1)), (3, (e_Limpl_Version z.2.1)), (4, (e_int z.2.2.1)), (13, (e_bool z.2.2.2))]) (fun z : (List S_impl_Entry) × (List S_impl_Version) × Int × Bool => []) (fun z : (List S_impl_Entry) × (List S_impl_Version) × Int × Bool => m_spec_LogRun_j1  (m_spec_LogRun_l1  n1) z.1 z.2.1 z.2.2.1 z.2.2.2) r (fun _ => by simp [hkeys]) ?_ ?_
   ·rintro ⟨t0, t3, t4, t13⟩ h
    replace h : m_spec_LogRun_j1  (m_spec_LogRun_l1  n1) t0 t3 t4 t13 = some _ := h
    refine LWP.cond_split rfl (fun h11 => ?_) (fun h11 => ?_)
    ·have h := bT h11 h
     refine LWP.skip (hN7 _ ?_)
     refine LWP.seq_k fun N12 hN12 => ?_
     refine LWP.block ?_
     refine bk h fun x13 e13 h => ?_
     refine bk h fun x14 e14 h => ?_
     refine bk h fun x15 e15 h => ?_
     refine LWP.drawF (l := [_,_,_,_,_,_,_,_,_,_,_,_,_,_,_,_]) [] [0, 3, 4] [([3], []), ([0], []), ([4], []), ([18, 19], []), ([20], []), ([21], []), ([0], []), ([4], []), ([23, 24], []), ([25], []), ([26], []), ([17, 22, 27], []), ([28], []), ([16], []), ([16], []), ([29], [])] [0, 3, 4] [] mixed (by kernel_rfl) rfl (by decide) ?_
     refine dq 17 rfl (fun _ g u h => LWo.move (e_Limpl_Version t3) u.1 (hn := .nil (zn g))) ?_
     refine dq 18 rfl (fun _ g u h => LWo.move (e_Limpl_Entry t0) u.1 (hn := .nil (zn g))) ?_
     refine dq 19 rfl (fun _ g u h => LWo.move (e_int t4) u.1 (hn := .nil (zn g))) ?_
     refine dq 20 rfl (fun _ g u h => LWo.indexM (f := e_impl_Entry) e13 u_Limpl_Entry s_impl_Entry u.1 u.2.1 (hn := .nil (zn g))) ?_
     refine dq 21 rfl (fun _ g u h => LWo.fieldAddr _ u_impl_Entry rfl s_Limpl_Write u.1 rfl (hn := .nil (zn g))) ?_
     refine dq 22 rfl (fun _ g u h => LWo.load1 (c := (e_Limpl_Write x13.Writes)) g_Limpl_Write u.1 (hn := .nil (zn g))) ?_
     refine dq 23 rfl (fun _ g u h => LWo.move (e_Limpl_Entry t0) u.1 (hn := .nil (zn g))) ?_
     refine dq 24 rfl (fun _ g u h => LWo.move (e_int t4) u.1 (hn := .nil (zn g))) ?_
     refine dq 25 rfl (fun _ g u h => LWo.indexM (f := e_impl_Entry) e14 u_Limpl_Entry s_impl_Entry u.1 u.2.1 (hn := .nil (zn g))) ?_
     refine dq 26 rfl (fun _ g u h => LWo.fieldAddr _ u_impl_Entry rfl s_int u.1 rfl (hn := .nil (zn g))) ?_
     refine dq 27 rfl (fun _ g u h => LWo.load1 (c := (e_int x14.Time)) g_int u.1 (hn := .nil (zn g))) ?_
     refine dq 28 rfl (fun _ g u h => LWo.vcall rfl (av3 u.1 u.2.1 u.2.2.1) (c_spec_WrittenAt _ _ _ _ e15) (.same (.same (.same (.nil)))) (hn := .nil (zn g))) ?_
     refine dq 16 rfl (fun _ g u h => LWo.move (.tup [(e_Limpl_Version x15.1), (e_bool x15.2)]) u.1 (hn := .nil (zn g))) ?_
     refine dq 29 rfl (fun _ g u h => LWo.extract (e_Limpl_Version x15.1) u.1 rfl (hn := .nil (zn g))) ?_
     refine dq 30 rfl (fun _ g u h => LWo.extract (e_bool x15.2) u.1 rfl (hn := .nil (zn g))) ?_
     refine dq 3 rfl (fun _ g u h => LWo.assign (e_Limpl_Version x15.1) u.1 (hn := .nil (zn g))) ?_
     refine ⟨rfl, by kernel_rfl, hN12 _ ?_⟩
     refine LWP.region (l := [_,_,_]) ?_
     refine LWo.move (e_int t4) rfl (hn := ?_)
     refine bk h fun x16 e16 h => ?_
     refine LWo.int _ rfl rfl (add_ck e16) (hn := ?_)
     refine LWo.assign (e_int x16) rfl (hn := ?_)
     refine LWo.nil (hN5 (t0, x15.1, x16) _ ⟨rfl, rfl, rfl, trivial⟩ trivial h)
    ·have h := bF h11 h
     refine LWP.exit (hN3 t3 _ ⟨rfl, trivial⟩ trivial h)
   ·intro N8 hN8
    refine LWP.region (l := [_,_,_,_,_,_,_,_]) ?_
    refine LWo.move (e_int t4) rfl (hn := ?_)
    refine LWo.move (e_Limpl_Entry t0) rfl (hn := ?_)
    refine LWo.lenM (f := e_impl_Entry) (l := t0) u_Limpl_Entry rfl (hn := ?_)
    refine LWo.int _ rfl rfl rfl (hn := ?_)
    refine LWo.move (e_bool (decide (t4 < (t0.length : Int)))) rfl (hn := ?_)
    refine LWo.byCases (t := 10) _ rfl (fun h9 => ?_) (fun h9 => ?_)
    ·have h := bT h9 h
     refine LWo.guardY (t := 10) rfl h9 rfl rfl ?_
     refine LWo.move (e_Limpl_Entry t0) rfl (hn := ?_)
     refine bk h fun x10 e10 h => ?_
     refine LWo.guardY (t := 10) rfl h9 rfl rfl ?_
     refine LWo.vcall rfl rfl (c_spec_LogOk _ _ e10) (.same (.nil)) (hn := ?_)
     refine LWo.pickTM (e_bool x10) rfl h9 rfl (hn := ?_)
     refine LWo.nil (hN8 (t0, t3, t4, x10) _ ⟨rfl, rfl, rfl, rfl, trivial⟩ trivial h)
    ·have h := bF h9 h
     refine LWo.guardNU (t := 10) rfl h9 rfl rfl rfl rfl rfl ?_
     refine LWo.guardNU (t := 10) rfl h9 rfl rfl rfl rfl rfl ?_
     refine LWo.pickFM (e_bool false) rfl h9 rfl (hn := ?_)
     refine LWo.nil (hN8 (t0, t3, t4, false) _ ⟨rfl, rfl, rfl, rfl, trivial⟩ trivial h)
end Go.Proofs.Ytkgmomocjkmipaa
