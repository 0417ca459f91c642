/- Mirrors of functions, and that the functions return what the mirrors say. -/
import Derived.Test.YtijihchddhikhaaXW5
set_option linter.unusedVariables false
set_option linter.unusedSimpArgs false
set_option linter.unnecessarySimpa false
namespace Go.Proofs.Ytijihchddhikhaa
open Go.Proofs Go.Lift Go.RowKit
def m_laws_sameRows_j1  : Option Bool :=
  some true
def m_laws_sameRows_l1 : Nat → (List (List S_impl_Value)) → (List (List S_impl_Value)) → Int → Option Bool
  | 0, _, _, _ => none
  | n1 + 1, t0, t1, t5 =>
    bif decide (t5 < (t0.length : Int)) then ((at? t0 t5).bind fun x15 =>
    (at? t1 t5).bind fun x16 =>
    (m_laws_sameRow x15 x16).bind fun x17 =>
    bif (!x17) then (some false)
    else ((ckI (t5 + (1 : Int))).bind fun x20 =>
    (m_laws_sameRows_l1  n1) t0 t1 x20))
    else (m_laws_sameRows_j1  )
def m_laws_sameRows (a0 : (List (List S_impl_Value))) (a1 : (List (List S_impl_Value))) : Option Bool :=
  bif ((a0.length : Int) != (a1.length : Int)) then (some false)
  else (m_laws_sameRows_l1  (((a0.length : Int) - (0 : Int)).toNat + 1) a0 a1 (0 : Int))
theorem c_laws_sameRows (a0 : (List (List S_impl_Value))) (a1 : (List (List S_impl_Value))) (r : Bool) (h : m_laws_sameRows a0 a1 = some r) : Ret Try.prog f_laws_sameRows [e_LLimpl_Value a0, e_LLimpl_Value a1] (e_bool r) := by
  refine Does.goG [] F_laws_sameRows rfl e_laws_sameRows n_laws_sameRows rfl (rvs := [.tmp 4]) rfl rfl ?_
  intro w0 ok0 lent ρ0
  refine LWP.seq_k fun N1 hN1 => ?_
  refine LWP.region (l := [_]) ?_
  refine LWo.assign (e_bool false) rfl (hn := ?_)
  refine LWo.nil (hN1 _ ?_)
  refine LWP.seq_k fun N2 hN2 => ?_
  refine LWP.seq_k fun N3 hN3 => ?_
  refine LWP.region (l := [_,_,_,_,_]) ?_
  refine LWo.move (e_LLimpl_Value a0) rfl (hn := ?_)
  refine LWo.lenM (f := e_Limpl_Value) (l := a0) u_LLimpl_Value rfl (hn := ?_)
  refine LWo.move (e_LLimpl_Value a1) rfl (hn := ?_)
  refine LWo.lenM (f := e_Limpl_Value) (l := a1) u_LLimpl_Value rfl (hn := ?_)
  refine LWo.int _ rfl rfl rfl (hn := ?_)
  refine LWo.nil (hN3 _ ?_)
  refine LWP.cond_split rfl (fun h4 => ?_) (fun h4 => ?_)
  ·have h := bT h4 h
   refine LWP.seq_k fun N5 hN5 => ?_
   refine LWP.region (l := [_]) ?_
   refine LWo.assign (e_bool false) rfl (hn := ?_)
   refine LWo.nil (hN5 _ ?_)
   obtain rfl := Option.some.inj h
   refine LWP.ret (QG.mk (.inr rfl) (.cons (.tmp (x := (e_bool false)) rfl) (.nil)) (RetOK.one0 (.pure rfl) (by decide)) rfl rfl)
  ·have h := bF h4 h
   refine LWP.skip (hN2 _ ?_)
   refine LWP.join (α := Unit) (fun z : Unit => []) (fun z : Unit => []) (fun z : Unit => m_laws_sameRows_j1  ) r (fun _ => by simp [hkeys]) ?_ ?_
   ·rintro _ h
    replace h : m_laws_sameRows_j1   = some _ := h
    refine LWP.seq_k fun N21 hN21 => ?_
    refine LWP.region (l := [_]) ?_
    refine LWo.assign (e_bool true) rfl (hn := ?_)
    refine LWo.nil (hN21 _ ?_)
    obtain rfl := Option.some.inj h
    refine LWP.ret (QG.mk (.inr rfl) (.cons (.tmp (x := (e_bool true)) rfl) (.nil)) (RetOK.one0 (.pure rfl) (by decide)) rfl rfl)
   ·intro N6 hN6
    refine LWP.seq_k fun N7 hN7 => ?_
    refine LWP.region (l := [_]) ?_
    refine LWo.assign (e_int (0 : Int)) rfl (hn := ?_)
    refine LWo.nil (hN7 _ ?_)
    refine LWP.block ?_
    refine LWP.loopM (α := (List (List S_impl_Value)) × (List (List S_impl_Value)) × Int) (fun z : (List (List S_impl_Value)) × (List (List S_impl_Value)) × Int => [(0, (e_LLimpl_Value z.1)), (1, (e_LLimpl_Value z.2.1)), (5, (e_int z.2.2))]) (fun z : (List (List S_impl_Value)) × (List (List S_impl_Value)) × Int => []) (fun n1 (z : (List (List S_impl_Value)) × (List (List S_impl_Value)) × Int) => m_laws_sameRows_l1  n1 z.1 z.2.1 z.2.2) r _ (a0, a1, (0 : Int)) h (fun _ => rfl) (fun _ => by simp [hkeys]) ⟨rfl, rfl, rfl, trivial⟩ trivial ?_
    rintro n1 ⟨t0, t1, t5⟩ h N8 hN8
    replace h : m_laws_sameRows_l1  (n1 + 1) t0 t1 t5 = some _ := h
    refine LWP.seq_k fun N10 hN10 => ?_
    refine LWP.seq_k fun N11 hN11 => ?_
    refine LWP.region (l := [_,_,_,_]) ?_
    refine LWo.move (e_int t5) rfl (hn := ?_)
    refine LWo.move (e_LLimpl_Value t0) rfl (hn := ?_)
    refine LWo.lenM (f := e_Limpl_Value) (l := t0) u_LLimpl_Value rfl (hn := ?_)
    refine LWo.int _ rfl rfl rfl (hn := ?_)
    refine LWo.nil (hN11 _ ?_)
    refine LWP.cond_split rfl (fun h12 => ?_) (fun h12 => ?_)
    ·have h := bT h12 h
     refine LWP.skip (hN10 _ ?_)
     refine LWP.seq_k fun N13 hN13 => ?_
     refine LWP.block ?_
     refine LWP.seq_k fun N14 hN14 => ?_
     refine bk h fun x15 e15 h => ?_
     refine bk h fun x16 e16 h => ?_
     refine bk h fun x17 e17 h => ?_
     refine LWP.drawF (l := [_,_,_,_,_,_,_,_,_,_]) [] [0, 1, 5] [([0], []), ([5], []), ([17, 18], []), ([19], []), ([1], []), ([5], []), ([21, 22], []), ([23], []), ([20, 24], []), ([25], [])] [0, 1, 5, 26] [] mixed (by kernel_rfl) rfl (by decide) ?_
     refine dq 17 rfl (fun _ g u h => LWo.move (e_LLimpl_Value t0) u.1 (hn := .nil (zn g))) ?_
     refine dq 18 rfl (fun _ g u h => LWo.move (e_int t5) u.1 (hn := .nil (zn g))) ?_
     refine dq 19 rfl (fun _ g u h => LWo.indexM (f := e_Limpl_Value) e15 u_LLimpl_Value s_Limpl_Value u.1 u.2.1 (hn := .nil (zn g))) ?_
     refine dq 20 rfl (fun _ g u h => LWo.load1 (c := (e_Limpl_Value x15)) g_Limpl_Value u.1 (hn := .nil (zn g))) ?_
     refine dq 21 rfl (fun _ g u h => LWo.move (e_LLimpl_Value t1) u.1 (hn := .nil (zn g))) ?_
     refine dq 22 rfl (fun _ g u h => LWo.move (e_int t5) u.1 (hn := .nil (zn g))) ?_
     refine dq 23 rfl (fun _ g u h => LWo.indexM (f := e_Limpl_Value) e16 u_LLimpl_Value s_Limpl_Value u.1 u.2.1 (hn := .nil (zn g))) ?_
     refine dq 24 rfl (fun _ g u h => LWo.load1 (c := (e_Limpl_Value x16)) g_Limpl_Value u.1 (hn := .nil (zn g))) ?_
     refine dq 25 rfl (fun _ g u h => LWo.vcall rfl (av2 u.1 u.2.1) (c_laws_sameRow _ _ _ e17) (.same (.same (.nil))) (hn := .nil (zn g))) ?_
     refine dq 26 rfl (fun _ g u h => LWo.not u.1 (hn := .nil (zn g))) ?_
     refine ⟨rfl, by kernel_rfl, hN14 _ ?_⟩
     refine LWP.cond_split rfl (fun h18 => ?_) (fun h18 => ?_)
     ·have h := bT h18 h
      refine LWP.seq_k fun N19 hN19 => ?_
      refine LWP.region (l := [_]) ?_
      refine LWo.assign (e_bool false) rfl (hn := ?_)
      refine LWo.nil (hN19 _ ?_)
      obtain rfl := Option.some.inj h
      refine LWP.ret (QG.mk (.inr rfl) (.cons (.tmp (x := (e_bool false)) rfl) (.nil)) (RetOK.one0 (.pure rfl) (by decide)) rfl rfl)
     ·have h := bF h18 h
      refine LWP.skip (hN13 _ ?_)
      refine LWP.region (l := [_,_,_]) ?_
      refine LWo.move (e_int t5) rfl (hn := ?_)
      refine bk h fun x20 e20 h => ?_
      refine LWo.int _ rfl rfl (add_ck e20) (hn := ?_)
      refine LWo.assign (e_int x20) rfl (hn := ?_)
      refine LWo.nil (hN8 (t0, t1, x20) _ ⟨rfl, rfl, rfl, trivial⟩ trivial h)
    ·have h := bF h12 h
     refine LWP.exit (hN6 () _ trivial trivial h)

def m_laws_FnFollowed_j5 (t2 : Bool) : Option Bool :=
  some t2
def m_laws_FnFollowed_j4 (t3 : (List S_impl_Entry)) (o1075 : (List Int)) : Option Bool :=
  (m_impl_Followed t3 o1075).bind fun x63 =>
  (m_laws_sameLog x63 t3).bind fun x64 =>
  bif x64 then ((m_laws_alive ).bind fun x66 =>
    m_laws_FnFollowed_j5  x66)
  else (m_laws_FnFollowed_j5  false)
def m_laws_FnFollowed_l2 : Nat → (List S_impl_Entry) → Int → (List Int) → Option Bool
  | 0, _, _, _ => none
  | n2 + 1, t3, t8, o1075 =>
    bif decide (t8 < (t3.length : Int)) then ((app? o1075 ([t8] : (List Int))).bind fun x60 =>
    (ckI (t8 + (1 : Int))).bind fun x61 =>
    (m_laws_FnFollowed_l2  n2) t3 x61 x60)
    else (m_laws_FnFollowed_j4  t3 o1075)
def m_laws_FnFollowed_j3 (t3 : (List S_impl_Entry)) (t4 : (List Int)) : Option Bool :=
  (app? ([] : (List Int)) t4).bind fun x51 =>
  m_laws_FnFollowed_l2  (((t3.length : Int) - (0 : Int)).toNat + 1) t3 (0 : Int) x51
def m_laws_FnFollowed_l1 : Nat → (List S_impl_Entry) → (List Int) → (List S_impl_Entry) → Int → Option Bool
  | 0, _, _, _, _ => none
  | n1 + 1, t3, t4, t5, t6 =>
    bif decide (t6 < (t5.length : Int)) then ((m_impl_LogRun t5).bind fun x40 =>
    (at? t5 t6).bind fun x41 =>
    (m_impl_RowsAt x40 x41.Time).bind fun x42 =>
    (m_impl_LogRun t3).bind fun x43 =>
    (at? t5 t6).bind fun x44 =>
    (m_impl_RowsAt x43 x44.Time).bind fun x45 =>
    (m_laws_sameRows x42 x45).bind fun x46 =>
    bif (!x46) then (some false)
    else ((ckI (t6 + (1 : Int))).bind fun x49 =>
    (m_laws_FnFollowed_l1  n1) t3 t4 t5 x49))
    else (m_laws_FnFollowed_j3  t3 t4)
def m_laws_FnFollowed_j2 (t3 : (List S_impl_Entry)) (t4 : (List Int)) (t5 : (List S_impl_Entry)) (t50 : Bool) : Option Bool :=
  bif t50 then (some false)
  else (m_laws_FnFollowed_l1  (((t5.length : Int) - (0 : Int)).toNat + 1) t3 t4 t5 (0 : Int))
def m_laws_FnFollowed_j1 (t2 : Bool) : Option Bool :=
  some t2
def m_laws_FnFollowed (a0 : (List UInt8)) : Option Bool :=
  bif decide ((a0.length : Int) > (1048576 : Int)) then (some true)
  else ((m_spec_DrawFollowed a0).bind fun x7 =>
  (m_impl_Followed x7.1 x7.2).bind fun x9 =>
  (m_spec_Followed x7.1 x7.2).bind fun x12 =>
  (m_laws_sameLog x9 x12).bind fun x13 =>
  bif (!x13) then (some false)
  else ((m_impl_LogOk x7.1).bind fun x18 =>
  bif (!x18) then (bif ((x9.length : Int) == (0 : Int)) then ((m_laws_alive ).bind fun x22 =>
      m_laws_FnFollowed_j1  x22)
    else (m_laws_FnFollowed_j1  false))
  else (bif decide ((x9.length : Int) > (x7.1.length : Int)) then (m_laws_FnFollowed_j2  x7.1 x7.2 x9 true)
  else ((cut? x7.1 (0 : Int) (x9.length : Int)).bind fun x26 =>
    (app? ([] : (List S_impl_Entry)) x26).bind fun x27 =>
    (m_laws_sameLog x9 x27).bind fun x28 =>
    m_laws_FnFollowed_j2  x7.1 x7.2 x9 (!x28)))))
theorem c_laws_FnFollowed (a0 : (List UInt8)) (r : Bool) (h : m_laws_FnFollowed a0 = some r) : Ret Try.prog f_laws_FnFollowed [e_Luint8 a0] (e_bool r) := by
  refine Does.goG [] F_laws_FnFollowed rfl e_laws_FnFollowed n_laws_FnFollowed rfl (rvs := [.tmp 2]) rfl rfl ?_
  intro w0 ok0 lent ρ0
  refine LWP.seq_k fun N1 hN1 => ?_
  refine LWP.region (l := [_]) ?_
  refine LWo.assign (e_bool false) rfl (hn := ?_)
  refine LWo.nil (hN1 _ ?_)
  refine LWP.seq_k fun N2 hN2 => ?_
  refine LWP.seq_k fun N3 hN3 => ?_
  refine LWP.region (l := [_,_,_]) ?_
  refine LWo.move (e_Luint8 a0) rfl (hn := ?_)
  refine LWo.lenM (f := e_uint8) (l := a0) u_Luint8 rfl (hn := ?_)
  refine LWo.int _ rfl rfl rfl (hn := ?_)
  refine LWo.nil (hN3 _ ?_)
  refine LWP.cond_split rfl (fun h4 => ?_) (fun h4 => ?_)
  ·have h := bT h4 h
   refine LWP.seq_k fun N5 hN5 => ?_
   refine LWP.region (l := [_]) ?_
   refine LWo.assign (e_bool true) rfl (hn := ?_)
   refine LWo.nil (hN5 _ ?_)
   obtain rfl := Option.some.inj h
   refine LWP.ret (QG.mk (.inr rfl) (.cons (.tmp (x := (e_bool true)) rfl) (.nil)) (RetOK.one0 (.pure rfl) (by decide)) rfl rfl)
  ·have h := bF h4 h
   refine LWP.skip (hN2 _ ?_)
   refine LWP.seq_k fun N6 hN6 => ?_
   refine LWP.region (l := [_,_,_,_,_,_,_]) ?_
   refine LWo.move (e_Luint8 a0) rfl (hn := ?_)
   refine bk h fun x7 e7 h => ?_
   refine LWo.vcall rfl rfl (c_spec_DrawFollowed _ _ e7) (.same (.nil)) (hn := ?_)
   refine LWo.move (.tup [(e_Limpl_Entry x7.1), (e_Lint x7.2)]) rfl (hn := ?_)
   refine LWo.extract (e_Limpl_Entry x7.1) rfl rfl (hn := ?_)
   refine LWo.extract (e_Lint x7.2) rfl rfl (hn := ?_)
   refine LWo.assign (e_Limpl_Entry x7.1) rfl (hn := ?_)
   refine LWo.assign (e_Lint x7.2) rfl (hn := ?_)
   refine LWo.nil (hN6 _ ?_)
   refine LWP.seq_k fun N8 hN8 => ?_
   refine LWP.region (l := [_,_,_,_]) ?_
   refine LWo.move (e_Limpl_Entry x7.1) rfl (hn := ?_)
   refine LWo.move (e_Lint x7.2) rfl (hn := ?_)
   refine bk h fun x9 e9 h => ?_
   refine LWo.vcall rfl rfl (c_impl_Followed _ _ _ e9) (.same (.same (.nil))) (hn := ?_)
   refine LWo.assign (e_Limpl_Entry x9) rfl (hn := ?_)
   refine LWo.nil (hN8 _ ?_)
   refine LWP.seq_k fun N10 hN10 => ?_
   refine LWP.seq_k fun N11 hN11 => ?_
   refine LWP.region (l := [_,_,_,_,_,_]) ?_
   refine LWo.move (e_Limpl_Entry x9) rfl (hn := ?_)
   refine LWo.move (e_Limpl_Entry x7.1) rfl (hn := ?_)
   refine LWo.move (e_Lint x7.2) rfl (hn := ?_)
   refine bk h fun x12 e12 h => ?_
   refine LWo.vcall rfl rfl (c_spec_Followed _ _ _ e12) (.same (.same (.nil))) (hn := ?_)
   refine bk h fun x13 e13 h => ?_
   refine LWo.vcall rfl rfl (c_laws_sameLog _ _ _ e13) (.same (.same (.nil))) (hn := ?_)
   refine LWo.not rfl (hn := ?_)
   refine LWo.nil (hN11 _ ?_)
   refine LWP.cond_split rfl (fun h14 => ?_) (fun h14 => ?_)
   ·have h := bT h14 h
    refine LWP.seq_k fun N15 hN15 => ?_
    refine LWP.region (l := [_]) ?_
    refine LWo.assign (e_bool false) rfl (hn := ?_)
    refine LWo.nil (hN15 _ ?_)
    obtain rfl := Option.some.inj h
    refine LWP.ret (QG.mk (.inr rfl) (.cons (.tmp (x := (e_bool false)) rfl) (.nil)) (RetOK.one0 (.pure rfl) (by decide)) rfl rfl)
   ·have h := bF h14 h
    refine LWP.skip (hN10 _ ?_)
    refine LWP.seq_k fun N16 hN16 => ?_
    refine LWP.seq_k fun N17 hN17 => ?_
    refine LWP.region (l := [_,_,_]) ?_
    refine LWo.move (e_Limpl_Entry x7.1) rfl (hn := ?_)
    refine bk h fun x18 e18 h => ?_
    refine LWo.vcall rfl rfl (c_impl_LogOk _ _ e18) (.same (.nil)) (hn := ?_)
    refine LWo.not rfl (hn := ?_)
    refine LWo.nil (hN17 _ ?_)
    refine LWP.cond_split rfl (fun h19 => ?_) (fun h19 => ?_)
    ·have h := bT h19 h
     refine LWP.join (α := Bool) (fun z : Bool => [(2, (e_bool z))]) (fun z : Bool => []) (fun z : Bool => m_laws_FnFollowed_j1  z) r (fun _ => by simp [hkeys]) ?_ ?_
     ·rintro t2 h
      replace h : m_laws_FnFollowed_j1  t2 = some _ := h
      obtain rfl := Option.some.inj h
      refine LWP.ret (QG.mk (.inr rfl) (.cons (.tmp (x := (e_bool t2)) rfl) (.nil)) (RetOK.one0 (.pure rfl) (by decide)) rfl rfl)
     ·intro N20 hN20
      refine LWP.region (l := [_,_,_,_,_,_,_]) ?_
      refine LWo.move (e_Limpl_Entry x9) rfl (hn := ?_)
      refine LWo.lenM (f := e_impl_Entry) (l := x9) u_Limpl_Entry rfl (hn := ?_)
      refine LWo.int _ rfl rfl rfl (hn := ?_)
      refine LWo.move (e_bool ((x9.length : Int) == (0 : Int))) rfl (hn := ?_)
      refine LWo.byCases (t := 32) _ rfl (fun h21 => ?_) (fun h21 => ?_)
      ·have h := bT h21 h
       refine bk h fun x22 e22 h => ?_
       refine LWo.guardY (t := 32) rfl h21 rfl rfl ?_
       refine LWo.vcall rfl rfl (c_laws_alive  _ e22) (.nil) (hn := ?_)
       refine LWo.pickTM (e_bool x22) rfl h21 rfl (hn := ?_)
       refine LWo.assign (e_bool x22) rfl (hn := ?_)
       refine LWo.nil (hN20 x22 _ ⟨rfl, trivial⟩ trivial h)
      ·have h := bF h21 h
       refine LWo.guardNU (t := 32) rfl h21 rfl rfl rfl rfl rfl ?_
       refine LWo.pickFM (e_bool false) rfl h21 rfl (hn := ?_)
       refine LWo.assign (e_bool false) rfl (hn := ?_)
       refine LWo.nil (hN20 false _ ⟨rfl, trivial⟩ trivial h)
    ·have h := bF h19 h
     refine LWP.skip (hN16 _ ?_)
     refine LWP.seq_k fun N23 hN23 => ?_
     refine LWP.join (α := (List S_impl_Entry) × (List Int) × (List S_impl_Entry) × Bool) (fun z : (List S_impl_Entry) × (List Int) × (List S_impl_Entry) × Bool => [(3, (e_Limpl_Entry z.1)), (4, (e_Lint z.2.1)), (5, (e_Limpl_Entry z.2.2.1)), (50, (e_bool z.2.2.2))]) (fun z : (List S_impl_Entry) × (List Int) × (List S_impl_Entry) × Bool => []) (fun z : (List S_impl_Entry) × (List Int) × (List S_impl_Entry) × Bool => m_laws_FnFollowed_j2  z.1 z.2.1 z.2.2.1 z.2.2.2) r (fun _ => by simp [hkeys]) ?_ ?_
     ·rintro ⟨t3, t4, t5, t50⟩ h
      replace h : m_laws_FnFollowed_j2  t3 t4 t5 t50 = some _ := h
      refine LWP.cond_split rfl (fun h29 => ?_) (fun h29 => ?_)
      ·have h := bT h29 h
       refine LWP.seq_k fun N30 hN30 => ?_
       refine LWP.region (l := [_]) ?_
       refine LWo.assign (e_bool false) rfl (hn := ?_)
       refine LWo.nil (hN30 _ ?_)
       obtain rfl := Option.some.inj h
       refine LWP.ret (QG.mk (.inr rfl) (.cons (.tmp (x := (e_bool false)) rfl) (.nil)) (RetOK.one0 (.pure rfl) (by decide)) rfl rfl)
      ·have h := bF h29 h
       refine LWP.skip (hN23 _ ?_)
       refine LWP.join (α := (List S_impl_Entry) × (List Int)) (fun z : (List S_impl_Entry) × (List Int) => [(3, (e_Limpl_Entry z.1)), (4, (e_Lint z.2))]) (fun z : (List S_impl_Entry) × (List Int) => []) (fun z : (List S_impl_Entry) × (List Int) => m_laws_FnFollowed_j3  z.1 z.2) r (fun _ => by simp [hkeys]) ?_ ?_
       ·rintro ⟨t3, t4⟩ h
        replace h : m_laws_FnFollowed_j3  t3 t4 = some _ := h
        refine LWP.seq_k fun N50 hN50 => ?_
        refine LWP.region (l := [_,_,_,_]) ?_
        refine LWo.lit0 1075 u_Lint s_int z_int (hn := ?_)
        refine LWo.known 75 (.own 1075 0 ([] : (List Int)).length) rfl ?_
        refine LWo.move (e_Lint t4) rfl (hn := ?_)
        refine bk h fun x51 e51 h => ?_
        refine LWo.appendM (f := e_int) e51 rfl u_Lint u_Lint (fun _ h => by cases h) s_int i_int rfl rfl rfl (.sl rfl) rfl rfl (hn := ?_)
        refine LWo.assign (.own 1075 0 (x51).length) rfl (hn := ?_)
        refine LWo.nil (hN50 _ ?_)
        refine LWP.join (α := (List S_impl_Entry) × (List Int)) (fun z : (List S_impl_Entry) × (List Int) => [(3, (e_Limpl_Entry z.1)), (7, (.own 1075 0 (z.2).length))]) (fun z : (List S_impl_Entry) × (List Int) => [(1075, (lob 1 e_int z.2))]) (fun z : (List S_impl_Entry) × (List Int) => m_laws_FnFollowed_j4  z.1 z.2) r (fun _ => by simp [hkeys]) ?_ ?_
        ·rintro ⟨t3, o1075⟩ h
         replace h : m_laws_FnFollowed_j4  t3 o1075 = some _ := h
         refine LWP.join (α := Bool) (fun z : Bool => [(2, (e_bool z))]) (fun z : Bool => []) (fun z : Bool => m_laws_FnFollowed_j5  z) r (fun _ => by simp [hkeys]) ?_ ?_
         ·rintro t2 h
          replace h : m_laws_FnFollowed_j5  t2 = some _ := h
          obtain rfl := Option.some.inj h
          refine LWP.ret (QG.mk (.inr rfl) (.cons (.tmp (x := (e_bool t2)) rfl) (.nil)) (RetOK.one0 (.pure rfl) (by decide)) rfl rfl)
         ·intro N62 hN62
          refine LWP.region (l := [_,_,_,_,_,_,_,_,_]) ?_
          refine LWo.move (e_Limpl_Entry t3) rfl (hn := ?_)
          refine LWo.move (.own 1075 0 (o1075).length) rfl (hn := ?_)
          refine bk h fun x63 e63 h => ?_
          refine LWo.frzL (f := e_int) (l := o1075) [7, 89] 1075 rfl rfl ⟨rfl, rfl, trivial⟩ ?_
          refine LWo.vcall rfl rfl (c_impl_Followed _ _ _ e63) (.same (.same (.nil))) (hn := ?_)
          refine LWo.move (e_Limpl_Entry t3) rfl (hn := ?_)
          refine bk h fun x64 e64 h => ?_
          refine LWo.vcall rfl rfl (c_laws_sameLog _ _ _ e64) (.same (.same (.nil))) (hn := ?_)
          refine LWo.move (e_bool x64) rfl (hn := ?_)
          refine LWo.byCases (t := 93) _ rfl (fun h65 => ?_) (fun h65 => ?_)
          ·have h := bT h65 h
           refine bk h fun x66 e66 h => ?_
           refine LWo.guardY (t := 93) rfl h65 rfl rfl ?_
           refine LWo.vcall rfl rfl (c_laws_alive  _ e66) (.nil) (hn := ?_)
           refine LWo.pickTM (e_bool x66) rfl h65 rfl (hn := ?_)
           refine LWo.assign (e_bool x66) rfl (hn := ?_)
           refine LWo.nil (hN62 x66 _ ⟨rfl, trivial⟩ trivial h)
          ·have h := bF h65 h
           refine LWo.guardNU (t := 93) rfl h65 rfl rfl rfl rfl rfl ?_
           refine LWo.pickFM (e_bool false) rfl h65 rfl (hn := ?_)
           refine LWo.assign (e_bool false) rfl (hn := ?_)
           refine LWo.nil (hN62 false _ ⟨rfl, trivial⟩ trivial h)
        ·intro N52 hN52
         refine LWP.seq_k fun N53 hN53 => ?_
         refine LWP.region (l := [_]) ?_
         refine LWo.assign (e_int (0 : Int)) rfl (hn := ?_)
         refine LWo.nil (hN53 _ ?_)
         refine LWP.block ?_
         refine LWP.loopM (α := (List S_impl_Entry) × Int × (List Int)) (fun z : (List S_impl_Entry) × Int × (List Int) => [(3, (e_Limpl_Entry z.1)), (7, (.own 1075 0 (z.2.2).length)), (8, (e_int z.2.1))]) (fun z : (List S_impl_Entry) × Int × (List Int) => [(1075, (lob 1 e_int z.2.2))]) (fun n2 (z : (List S_impl_Entry) × Int × (List Int)) => m_laws_FnFollowed_l2  n2 z.1 z.2.1 z.2.2) r _ (t3, (0 : Int), x51) h (fun _ => rfl) (fun _ => by simp [hkeys]) ⟨rfl, rfl, rfl, trivial⟩ ⟨rfl, trivial⟩ ?_
         rintro n2 ⟨t3, t8, o1075⟩ h N54 hN54
         replace h : m_laws_FnFollowed_l2  (n2 + 1) t3 t8 o1075 = some _ := h
         refine LWP.seq_k fun N56 hN56 => ?_
         refine LWP.seq_k fun N57 hN57 => ?_
         refine LWP.region (l := [_,_,_,_]) ?_
         refine LWo.move (e_int t8) rfl (hn := ?_)
         refine LWo.move (e_Limpl_Entry t3) rfl (hn := ?_)
         refine LWo.lenM (f := e_impl_Entry) (l := t3) u_Limpl_Entry rfl (hn := ?_)
         refine LWo.int _ rfl rfl rfl (hn := ?_)
         refine LWo.nil (hN57 _ ?_)
         refine LWP.cond_split rfl (fun h58 => ?_) (fun h58 => ?_)
         ·have h := bT h58 h
          refine LWP.skip (hN56 _ ?_)
          refine LWP.seq_k fun N59 hN59 => ?_
          refine LWP.block ?_
          refine LWP.region (l := [_,_,_,_,_]) ?_
          refine LWo.move (.own 1075 0 (o1075).length) rfl (hn := ?_)
          refine LWo.move (e_int t8) rfl (hn := ?_)
          refine LWo.lit (ops := [_]) [(e_int t8)] u_Lint s_int z_int rfl rfl rfl rfl rfl rfl (hn := ?_)
          refine bk h fun x60 e60 h => ?_
          refine LWo.appendM (f := e_int) e60 rfl u_Lint u_Lint (fun _ h => by cases h) s_int i_int rfl rfl rfl (.sl rfl) rfl rfl (hn := ?_)
          refine LWo.assign (.own 1075 0 (x60).length) rfl (hn := ?_)
          refine LWo.nil (hN59 _ ?_)
          refine LWP.region (l := [_,_,_]) ?_
          refine LWo.move (e_int t8) rfl (hn := ?_)
          refine bk h fun x61 e61 h => ?_
          refine LWo.int _ rfl rfl (add_ck e61) (hn := ?_)
          refine LWo.assign (e_int x61) rfl (hn := ?_)
          refine LWo.nil (hN54 (t3, x61, x60) _ ⟨rfl, rfl, rfl, trivial⟩ ⟨rfl, trivial⟩ h)
         ·have h := bF h58 h
          refine LWP.exit (hN52 (t3, o1075) _ ⟨rfl, rfl, trivial⟩ ⟨rfl, trivial⟩ h)
       ·intro N31 hN31
        refine LWP.seq_k fun N32 hN32 => ?_
        refine LWP.region (l := [_]) ?_
        refine LWo.assign (e_int (0 : Int)) rfl (hn := ?_)
        refine LWo.nil (hN32 _ ?_)
        refine LWP.block ?_
        refine LWP.loopM (α := (List S_impl_Entry) × (List Int) × (List S_impl_Entry) × Int) (fun z : (List S_impl_Entry) × (List Int) × (List S_impl_Entry) × Int => [(3, (e_Limpl_Entry z.1)), (4, (e_Lint z.2.1)), (5, (e_Limpl_Entry z.2.2.1)), (6, (e_int z.2.2.2))]) (fun z : (List S_impl_Entry) × (List Int) × (List S_impl_Entry) × Int => []) (fun n1 (z : (List S_impl_Entry) × (List Int) × (List S_impl_Entry) × Int) => m_laws_FnFollowed_l1  n1 z.1 z.2.1 z.2.2.1 z.2.2.2) r _ (t3, t4, t5, (0 : Int)) h (fun _ => rfl) (fun _ => by simp [hkeys]) ⟨rfl, rfl, rfl, rfl, trivial⟩ trivial ?_
        rintro n1 ⟨t3, t4, t5, t6⟩ h N33 hN33
        replace h : m_laws_FnFollowed_l1  (n1 + 1) t3 t4 t5 t6 = some _ := h
        refine LWP.seq_k fun N35 hN35 => ?_
        refine LWP.seq_k fun N36 hN36 => ?_
        refine LWP.region (l := [_,_,_,_]) ?_
        refine LWo.move (e_int t6) rfl (hn := ?_)
        refine LWo.move (e_Limpl_Entry t5) rfl (hn := ?_)
        refine LWo.lenM (f := e_impl_Entry) (l := t5) u_Limpl_Entry rfl (hn := ?_)
        refine LWo.int _ rfl rfl rfl (hn := ?_)
        refine LWo.nil (hN36 _ ?_)
        refine LWP.cond_split rfl (fun h37 => ?_) (fun h37 => ?_)
        ·have h := bT h37 h
         refine LWP.skip (hN35 _ ?_)
         refine LWP.seq_k fun N38 hN38 => ?_
         refine LWP.block ?_
         refine LWP.seq_k fun N39 hN39 => ?_
         refine bk h fun x40 e40 h => ?_
         refine bk h fun x41 e41 h => ?_
         refine bk h fun x42 e42 h => ?_
         refine bk h fun x43 e43 h => ?_
         refine bk h fun x44 e44 h => ?_
         refine bk h fun x45 e45 h => ?_
         refine bk h fun x46 e46 h => ?_
         refine LWP.drawF (l := [_,_,_,_,_,_,_,_,_,_,_,_,_,_,_,_,_,_]) [] [3, 4, 5, 6] [([5], []), ([57], []), ([5], []), ([6], []), ([59, 60], []), ([61], []), ([62], []), ([58, 63], []), ([3], []), ([65], []), ([5], []), ([6], []), ([67, 68], []), ([69], []), ([70], []), ([66, 71], []), ([64, 72], []), ([73], [])] [3, 4, 5, 6, 74] [] mixed (by kernel_rfl) rfl (by decide) ?_
         refine dq 57 rfl (fun _ g u h => LWo.move (e_Limpl_Entry t5) u.1 (hn := .nil (zn g))) ?_
         refine dq 58 rfl (fun _ g u h => LWo.vcall rfl (av1 u.1) (c_impl_LogRun _ _ e40) (.same (.nil)) (hn := .nil (zn g))) ?_
         refine dq 59 rfl (fun _ g u h => LWo.move (e_Limpl_Entry t5) u.1 (hn := .nil (zn g))) ?_
         refine dq 60 rfl (fun _ g u h => LWo.move (e_int t6) u.1 (hn := .nil (zn g))) ?_
         refine dq 61 rfl (fun _ g u h => LWo.indexM (f := e_impl_Entry) e41 u_Limpl_Entry s_impl_Entry u.1 u.2.1 (hn := .nil (zn g))) ?_
         refine dq 62 rfl (fun _ g u h => LWo.fieldAddr _ u_impl_Entry rfl s_int u.1 rfl (hn := .nil (zn g))) ?_
         refine dq 63 rfl (fun _ g u h => LWo.load1 (c := (e_int x41.Time)) g_int u.1 (hn := .nil (zn g))) ?_
         refine dq 64 rfl (fun _ g u h => LWo.vcall rfl (av2 u.1 u.2.1) (c_impl_RowsAt _ _ _ e42) (.same (.same (.nil))) (hn := .nil (zn g))) ?_
         refine dq 65 rfl (fun _ g u h => LWo.move (e_Limpl_Entry t3) u.1 (hn := .nil (zn g))) ?_
         refine dq 66 rfl (fun _ g u h => LWo.vcall rfl (av1 u.1) (c_impl_LogRun _ _ e43) (.same (.nil)) (hn := .nil (zn g))) ?_
         refine dq 67 rfl (fun _ g u h => LWo.move (e_Limpl_Entry t5) u.1 (hn := .nil (zn g))) ?_
         refine dq 68 rfl (fun _ g u h => LWo.move (e_int t6) u.1 (hn := .nil (zn g))) ?_
         refine dq 69 rfl (fun _ g u h => LWo.indexM (f := e_impl_Entry) e44 u_Limpl_Entry s_impl_Entry u.1 u.2.1 (hn := .nil (zn g))) ?_
         refine dq 70 rfl (fun _ g u h => LWo.fieldAddr _ u_impl_Entry rfl s_int u.1 rfl (hn := .nil (zn g))) ?_
         refine dq 71 rfl (fun _ g u h => LWo.load1 (c := (e_int x44.Time)) g_int u.1 (hn := .nil (zn g))) ?_
         refine dq 72 rfl (fun _ g u h => LWo.vcall rfl (av2 u.1 u.2.1) (c_impl_RowsAt _ _ _ e45) (.same (.same (.nil))) (hn := .nil (zn g))) ?_
         refine dq 73 rfl (fun _ g u h => LWo.vcall rfl (av2 u.1 u.2.1) (c_laws_sameRows _ _ _ e46) (.same (.same (.nil))) (hn := .nil (zn g))) ?_
         refine dq 74 rfl (fun _ g u h => LWo.not u.1 (hn := .nil (zn g))) ?_
         refine ⟨rfl, by kernel_rfl, hN39 _ ?_⟩
         refine LWP.cond_split rfl (fun h47 => ?_) (fun h47 => ?_)
         ·have h := bT h47 h
          refine LWP.seq_k fun N48 hN48 => ?_
          refine LWP.region (l := [_]) ?_
          refine LWo.assign (e_bool false) rfl (hn := ?_)
          refine LWo.nil (hN48 _ ?_)
          obtain rfl := Option.some.inj h
          refine LWP.ret (QG.mk (.inr rfl) (.cons (.tmp (x := (e_bool false)) rfl) (.nil)) (RetOK.one0 (.pure rfl) (by decide)) rfl rfl)
         ·have h := bF h47 h
          refine LWP.skip (hN38 _ ?_)
          refine LWP.region (l := [_,_,_]) ?_
          refine LWo.move (e_int t6) rfl (hn := ?_)
          refine bk h fun x49 e49 h => ?_
          refine LWo.int _ rfl rfl (add_ck e49) (hn := ?_)
          refine LWo.assign (e_int x49) rfl (hn := ?_)
          refine LWo.nil (hN33 (t3, t4, t5, x49) _ ⟨rfl, rfl, rfl, rfl, trivial⟩ trivial h)
        ·have h := bF h37 h
         refine LWP.exit (hN31 (t3, t4) _ ⟨rfl, rfl, trivial⟩ trivial h)
     ·intro N24 hN24
      refine LWP.region (l := [_,_,_,_,_,_,_,_,_,_,_,_,_,_,_,_]) ?_
      refine LWo.move (e_Limpl_Entry x9) rfl (hn := ?_)
      refine LWo.lenM (f := e_impl_Entry) (l := x9) u_Limpl_Entry rfl (hn := ?_)
      refine LWo.move (e_Limpl_Entry x7.1) rfl (hn := ?_)
      refine LWo.lenM (f := e_impl_Entry) (l := x7.1) u_Limpl_Entry rfl (hn := ?_)
      refine LWo.int _ rfl rfl rfl (hn := ?_)
      refine LWo.move (e_bool (decide ((x9.length : Int) > (x7.1.length : Int)))) rfl (hn := ?_)
      refine LWo.byCases (t := 40) _ rfl (fun h25 => ?_) (fun h25 => ?_)
      ·have h := bT h25 h
       refine LWo.guardNU (t := 40) rfl h25 rfl rfl rfl rfl rfl ?_
       refine LWo.guardNU (t := 40) rfl h25 rfl rfl rfl rfl rfl ?_
       refine LWo.guardNU (t := 40) rfl h25 rfl rfl rfl rfl rfl ?_
       refine LWo.guardNU (t := 40) rfl h25 rfl rfl rfl rfl rfl ?_
       refine LWo.guardNU (t := 40) rfl h25 rfl rfl rfl rfl rfl ?_
       refine LWo.guardNU (t := 40) rfl h25 rfl rfl rfl rfl rfl ?_
       refine LWo.guardNU (t := 40) rfl h25 rfl rfl rfl rfl rfl ?_
       refine LWo.guardNU (t := 40) rfl h25 rfl rfl rfl rfl rfl ?_
       refine LWo.guardNU (t := 40) rfl h25 rfl rfl rfl rfl rfl ?_
       refine LWo.pickTM (e_bool true) rfl h25 rfl (hn := ?_)
       refine LWo.nil (hN24 (x7.1, x7.2, x9, true) _ ⟨rfl, rfl, rfl, rfl, trivial⟩ trivial h)
      ·have h := bF h25 h
       refine LWo.guardY (t := 40) rfl h25 rfl rfl ?_
       refine LWo.move (e_Limpl_Entry x9) rfl (hn := ?_)
       refine LWo.guardY (t := 40) rfl h25 rfl rfl ?_
       refine LWo.lit0 1042 u_Limpl_Entry s_impl_Entry z_impl_Entry (hn := ?_)
       refine LWo.known 42 (.own 1042 0 ([] : (List S_impl_Entry)).length) rfl ?_
       refine LWo.guardY (t := 40) rfl h25 rfl rfl ?_
       refine LWo.move (e_Limpl_Entry x7.1) rfl (hn := ?_)
       refine LWo.guardY (t := 40) rfl h25 rfl rfl ?_
       refine LWo.move (e_Limpl_Entry x9) rfl (hn := ?_)
       refine LWo.guardY (t := 40) rfl h25 rfl rfl ?_
       refine LWo.lenM (f := e_impl_Entry) (l := x9) u_Limpl_Entry rfl (hn := ?_)
       refine bk h fun x26 e26 h => ?_
       refine LWo.guardY (t := 40) rfl h25 rfl rfl ?_
       refine LWo.cutM (f := e_impl_Entry) e26 u_Limpl_Entry s_impl_Entry rfl rfl ⟨_, rfl⟩ (hn := ?_)
       refine bk h fun x27 e27 h => ?_
       refine LWo.guardY (t := 40) rfl h25 rfl rfl ?_
       refine LWo.appendM (f := e_impl_Entry) e27 rfl u_Limpl_Entry u_Limpl_Entry (fun _ h => by cases h) s_impl_Entry i_impl_Entry rfl rfl rfl (.sl rfl) rfl rfl (hn := ?_)
       refine bk h fun x28 e28 h => ?_
       refine LWo.guardY (t := 40) rfl h25 rfl rfl ?_
       refine LWo.wcall rfl rfl (c_laws_sameLog _ _ _ e28) (.same (.viewM rfl rfl rfl (.nil))) rfl (hn := ?_)
       refine LWo.guardY (t := 40) rfl h25 rfl rfl ?_
       refine LWo.not rfl (hn := ?_)
       refine LWo.pickFM (e_bool (!x28)) rfl h25 rfl (hn := ?_)
       refine LWo.nil (hN24 (x7.1, x7.2, x9, (!x28)) _ ⟨rfl, rfl, rfl, rfl, trivial⟩ trivial h)
end Go.Proofs.Ytijihchddhikhaa
