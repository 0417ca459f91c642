/- Mirrors of functions, and that the functions return what the mirrors say. -/
import Derived.Test.YtijihchddhikhaaXW5
set_option linter.unusedVariables false
set_option linter.unusedSimpArgs false
set_option linter.unnecessarySimpa false
namespace Go.Proofs.Ytijihchddhikhaa
open Go.Proofs Go.Lift Go.RowKit
def m_laws_sameRows_j1  : Option Bool :=
  some true
def m_laws_sameRows_l1 : Nat → (List (List S_impl_Value)) → (List (List S_impl_Value)) → Int → Option Bool
  | 0, _, _, _ => none
  | n1 + 1, t0, t1, t5 =>
    bif decide (t5 < (t0.length : Int)) then ((at? t0 t5).bind fun x15 =>
    (at? t1 t5).bind fun x16 =>
    (m_laws_sameRow x15 x16).bind fun x17 =>
    bif (!x17) then (some false)
    else ((ckI (t5 + (1 : Int))).bind fun x20 =>
    (m_laws_sameRows_l1  n1) t0 t1 x20))
    else (m_laws_sameRows_j1  )
def m_laws_sameRows (a0 : (List (List S_impl_Value))) (a1 : (List (List S_impl_Value))) : Option Bool :=
  bif ((a0.length : Int) != (a1.length : Int)) then (some false)
  else (m_laws_sameRows_l1  (((a0.length : Int) - (0 : Int)).toNat + 1) a0 a1 (0 : Int))
theorem c_laws_sameRows (a0 : (List (List S_impl_Value))) (a1 : (List (List S_impl_Value))) (r : Bool) (h : m_laws_sameRows a0 a1 = some r) : Ret Try.prog f_laws_sameRows [e_LLimpl_Value a0, e_LLimpl_Value a1] (e_bool r) := by
  refine Does.goG [] F_laws_sameRows rfl e_laws_sameRows n_laws_sameRows rfl (rvs := [.tmp 4]) rfl rfl ?_
  intro w0 ok0 lent ρ0
  refine LWP.seq_k fun N1 hN1 => ?_
  refine LWP.region (l := [_]) ?_
  refine LWo.assign (e_bool false) rfl (hn := ?_)
  refine LWo.nil (hN1 _ ?_)
  refine LWP.seq_k fun N2 hN2 => ?_
  refine LWP.seq_k fun N3 hN3 => ?_
  refine LWP.region (l := [_,_,_,_,_]) ?_
  refine LWo.move (e_LLimpl_Value a0) rfl (hn := ?_)
  refine LWo.lenM (f := e_Limpl_Value) (l := a0) u_LLimpl_Value rfl (hn := ?_)
  refine LWo.move (e_LLimpl_Value a1) rfl (hn := ?_)
  refine LWo.lenM (f := e_Limpl_Value) (l := a1) u_LLimpl_Value rfl (hn := ?_)
  refine LWo.int _ rfl rfl rfl (hn := ?_)
  refine LWo.nil (hN3 _ ?_)
  refine LWP.cond_split rfl (fun h4 => ?_) (fun h4 => ?_)
  ·have h := bT h4 h
   refine LWP.seq_k fun N5 hN5 => ?_
   refine LWP.region (l := [_]) ?_
   refine LWo.assign (e_bool false) rfl (hn := ?_)
   refine LWo.nil (hN5 _ ?_)
   obtain rfl := Option.some.inj h
   refine LWP.ret (QG.mk (.inr rfl) (.cons (.tmp (x := (e_bool false)) rfl) (.nil)) (RetOK.one0 (.pure rfl) (by decide)) rfl rfl)
  ·have h := bF h4 h
   refine LWP.skip (hN2 _ ?_)
   refine LWP.join (α := Unit) (fun z : Unit => []) (fun z : Unit => []) (fun z : Unit => m_laws_sameRows_j1  ) r (fun _ => by simp [hkeys]) ?_ ?_
   ·rintro _ h
    replace h : m_laws_sameRows_j1   = some _ := h
    refine LWP.seq_k fun N21 hN21 => ?_
    refine LWP.region (l := [_]) ?_
    refine LWo.assign (e_bool true) rfl (hn := ?_)
    refine LWo.nil (hN21 _ ?_)
    obtain rfl := Option.some.inj h
    refine LWP.ret (QG.mk (.inr rfl) (.cons (.tmp (x := (e_bool true)) rfl) (.nil)) (RetOK.one0 (.pure rfl) (by decide)) rfl rfl)
   ·intro N6 hN6
    refine LWP.seq_k fun N7 hN7 => ?_
    refine LWP.region (l := [_]) ?_
    refine LWo.assign (e_int (0 : Int)) rfl (hn := ?_)
    refine LWo.nil (hN7 _ ?_)
    refine LWP.block ?_
    refine LWP.loopM (α := (List (List S_impl_Value)) × (List (List S_impl_Value)) × Int) (fun z : (List (List S_impl_Value)) × (List (List S_impl_Value)) × Int => [(0, (e_LLimpl_Value z.1)), (1, (e_LLimpl_Value z.2.1)), (5, (e_int z.2.2))]) (fun z : (List (List S_impl_Value)) × (List (List S_impl_Value)) × Int => []) (fun n1 (z : (List (List S_impl_Value)) × (List (List S_impl_Value)) × Int) => m_laws_sameRows_l1  n1 z.1 z.2.1 z.2.2) r _ (a0, a1, (0 : Int)) h (fun _ => rfl) (fun _ => by simp [hkeys]) ⟨rfl, rfl, rfl, trivial⟩ trivial ?_
    rintro n1 ⟨t0, t1, t5⟩ h N8 hN8
    replace h : m_laws_sameRows_l1  (n1 + 1) t0 t1 t5 = some _ := h
    refine LWP.seq_k fun N10 hN10 => ?_
    refine LWP.seq_k fun N11 hN11 => ?_
    refine LWP.region (l := [_,_,_,_]) ?_
    refine LWo.move (e_int t5) rfl (hn := ?_)
    refine LWo.move (e_LLimpl_Value t0) rfl (hn := ?_)
    refine LWo.lenM (f := e_Limpl_Value) (l := t0) u_LLimpl_Value rfl (hn := ?_)
    refine LWo.int _ rfl rfl rfl (hn := ?_)
    refine LWo.nil (hN11 _ ?_)
    refine LWP.cond_split rfl (fun h12 => ?_) (fun h12 => ?_)
    ·have h := bT h12 h
     refine LWP.skip (hN10 _ ?_)
     refine LWP.seq_k fun N13 hN13 => ?_
     refine LWP.block ?_
     refine LWP.seq_k fun N14 hN14 => ?_
     refine bk h fun x15 e15 h => ?_
     refine bk h fun x16 e16 h => ?_
     refine bk h fun x17 e17 h => ?_
     refine LWP.drawF (l := [_,_,_,_,_,_,_,_,_,_]) [] [0, 1, 5] [([0], []), ([5], []), ([17, 18], []), ([19], []), ([1], []), ([5], []), ([21, 22], []), ([23], []), ([20, 24], []), ([25], [])] [0, 1, 5, 26] [] mixed (by kernel_rfl) rfl (by decide) ?_
     refine dq 17 rfl (fun _ g u h => LWo.move (e_LLimpl_Value t0) u.1 (hn := .nil (zn g))) ?_
     refine dq 18 rfl (fun _ g u h => LWo.move (e_int t5) u.1 (hn := .nil (zn g))) ?_
     refine dq 19 rfl (fun _ g u h => LWo.indexM (f := e_Limpl_Value) e15 u_LLimpl_Value s_Limpl_Value u.1 u.2.1 (hn := .nil (zn g))) ?_
     refine dq 20 rfl (fun _ g u h => LWo.load1 (c := (e_Limpl_Value x15)) g_Limpl_Value u.1 (hn := .nil (zn g))) ?_
     refine dq 21 rfl (fun _ g u h => LWo.move (e_LLimpl_Value t1) u.1 (hn := .nil (zn g))) ?_
     refine dq 22 rfl (fun _ g u h => LWo.move (e_int t5) u.1 (hn := .nil (zn g))) ?_
     refine dq 23 rfl (fun _ g u h => LWo.indexM (f := e_Limpl_Value) e16 u_LLimpl_Value s_Limpl_Value u.1 u.2.1 (hn := .nil (zn g))) ?_
     refine dq 24 rfl (fun _ g u h => LWo.load1 (c := (e_Limpl_Value x16)) g_Limpl_Value u.1 (hn := .nil (zn g))) ?_
     refine dq 25 rfl (fun _ g u h => LWo.vcall rfl (av2 u.1 u.2.1) (c_laws_sameRow _ _ _ e17) (.same (.same (.nil))) (hn := .nil (zn g))) ?_
     refine dq 26 rfl (fun _ g u h => LWo.not u.1 (hn := .nil (zn g))) ?_
     refine ⟨rfl, by kernel_rfl, hN14 _ ?_⟩
     refine LWP.cond_split rfl (fun h18 => ?_) (fun h18 => ?_)
     ·have h := bT h18 h
      refine LWP.seq_k fun N19 hN19 => ?_
      refine LWP.region (l := [_]) ?_
      refine LWo.assign (e_bool false) rfl (hn := ?_)
      refine LWo.nil (hN19 _ ?_)
      obtain rfl := Option.some.inj h
      refine LWP.ret (QG.mk (.inr rfl) (.cons (.tmp (x := (e_bool false)) rfl) (.nil)) (RetOK.one0 (.pure rfl) (by decide)) rfl rfl)
     ·have h := bF h18 h
      refine LWP.skip (hN13 _ ?_)
      refine LWP.region (l := [_,_,_]) ?_
      refine LWo.move (e_int t5) rfl (hn := ?_)
      refine bk h fun x20 e20 h => ?_
      refine LWo.int _ rfl rfl (add_ck e20) (hn := ?_)
      refine LWo.assign (e_int x20) rfl (hn := ?_)
      refine LWo.nil (hN8 (t0, t1, x20) _ ⟨rfl, rfl, rfl, trivial⟩ trivial h)
    ·have h := bF h12 h
     refine LWP.exit (hN6 () _ trivial trivial h)

def m_laws_FnLogCut_j3 (t2 : Bool) : Option Bool :=
  some t2
def m_laws_FnLogCut_j2 (t3 : (List S_impl_Entry)) (t5 : (List S_impl_Entry)) : Option Bool :=
  (cut? t3 (0 : Int) (t5.length : Int)).bind fun x41 =>
  (app? ([] : (List S_impl_Entry)) x41).bind fun x42 =>
  (m_laws_sameLog t5 x42).bind fun x43 =>
  bif x43 then ((m_laws_alive ).bind fun x45 =>
    m_laws_FnLogCut_j3  x45)
  else (m_laws_FnLogCut_j3  false)
def m_laws_FnLogCut_l1 : Nat → (List S_impl_Entry) → Int → (List S_impl_Entry) → Int → Option Bool
  | 0, _, _, _, _ => none
  | n1 + 1, t3, t4, t5, t6 =>
    bif decide (t6 ≤ t4) then ((m_impl_LogRun t5).bind fun x32 =>
    (m_impl_RowsAt x32 t6).bind fun x33 =>
    (m_impl_LogRun t3).bind fun x34 =>
    (m_impl_RowsAt x34 t6).bind fun x35 =>
    (m_laws_sameRows x33 x35).bind fun x36 =>
    bif (!x36) then (some false)
    else ((ckI (t6 + (1 : Int))).bind fun x39 =>
    (m_laws_FnLogCut_l1  n1) t3 t4 t5 x39))
    else (m_laws_FnLogCut_j2  t3 t5)
def m_laws_FnLogCut_j1 (t2 : Bool) : Option Bool :=
  some t2
def m_laws_FnLogCut (a0 : (List UInt8)) : Option Bool :=
  bif decide ((a0.length : Int) > (1048576 : Int)) then (some true)
  else ((m_spec_DrawLogCut a0).bind fun x7 =>
  (m_impl_LogCut x7.1 x7.2).bind fun x9 =>
  (m_spec_LogCut x7.1 x7.2).bind fun x12 =>
  (m_laws_sameLog x9 x12).bind fun x13 =>
  bif (!x13) then (some false)
  else ((m_impl_LogOk x7.1).bind fun x18 =>
  bif (!x18) then (bif ((x9.length : Int) == (0 : Int)) then ((m_laws_alive ).bind fun x22 =>
      m_laws_FnLogCut_j1  x22)
    else (m_laws_FnLogCut_j1  false))
  else (m_laws_FnLogCut_l1  ((x7.2 - (0 : Int)).toNat + 2) x7.1 x7.2 x9 (0 : Int))))
theorem c_laws_FnLogCut (a0 : (List UInt8)) (r : Bool) (h : m_laws_FnLogCut a0 = some r) : Ret Try.prog f_laws_FnLogCut [e_Luint8 a0] (e_bool r) := by
  refine Does.goG [] F_laws_FnLogCut rfl e_laws_FnLogCut n_laws_FnLogCut rfl (rvs := [.tmp 2]) rfl rfl ?_
  intro w0 ok0 lent ρ0
  refine LWP.seq_k fun N1 hN1 => ?_
  refine LWP.region (l := [_]) ?_
  refine LWo.assign (e_bool false) rfl (hn := ?_)
  refine LWo.nil (hN1 _ ?_)
  refine LWP.seq_k fun N2 hN2 => ?_
  refine LWP.seq_k fun N3 hN3 => ?_
  refine LWP.region (l := [_,_,_]) ?_
  refine LWo.move (e_Luint8 a0) rfl (hn := ?_)
  refine LWo.lenM (f := e_uint8) (l := a0) u_Luint8 rfl (hn := ?_)
  refine LWo.int _ rfl rfl rfl (hn := ?_)
  refine LWo.nil (hN3 _ ?_)
  refine LWP.cond_split rfl (fun h4 => ?_) (fun h4 => ?_)
  ·have h := bT h4 h
   refine LWP.seq_k fun N5 hN5 => ?_
   refine LWP.region (l := [_]) ?_
   refine LWo.assign (e_bool true) rfl (hn := ?_)
   refine LWo.nil (hN5 _ ?_)
   obtain rfl := Option.some.inj h
   refine LWP.ret (QG.mk (.inr rfl) (.cons (.tmp (x := (e_bool true)) rfl) (.nil)) (RetOK.one0 (.pure rfl) (by decide)) rfl rfl)
  ·have h := bF h4 h
   refine LWP.skip (hN2 _ ?_)
   refine LWP.seq_k fun N6 hN6 => ?_
   refine LWP.region (l := [_,_,_,_,_,_,_]) ?_
   refine LWo.move (e_Luint8 a0) rfl (hn := ?_)
   refine bk h fun x7 e7 h => ?_
   refine LWo.vcall rfl rfl (c_spec_DrawLogCut _ _ e7) (.same (.nil)) (hn := ?_)
   refine LWo.move (.tup [(e_Limpl_Entry x7.1), (e_int x7.2)]) rfl (hn := ?_)
   refine LWo.extract (e_Limpl_Entry x7.1) rfl rfl (hn := ?_)
   refine LWo.extract (e_int x7.2) rfl rfl (hn := ?_)
   refine LWo.assign (e_Limpl_Entry x7.1) rfl (hn := ?_)
   refine LWo.assign (e_int x7.2) rfl (hn := ?_)
   refine LWo.nil (hN6 _ ?_)
   refine LWP.seq_k fun N8 hN8 => ?_
   refine LWP.region (l := [_,_,_,_]) ?_
   refine LWo.move (e_Limpl_Entry x7.1) rfl (hn := ?_)
   refine LWo.move (e_int x7.2) rfl (hn := ?_)
   refine bk h fun x9 e9 h => ?_
   refine LWo.vcall rfl rfl (c_impl_LogCut _ _ _ e9) (.same (.same (.nil))) (hn := ?_)
   refine LWo.assign (e_Limpl_Entry x9) rfl (hn := ?_)
   refine LWo.nil (hN8 _ ?_)
   refine LWP.seq_k fun N10 hN10 => ?_
   refine LWP.seq_k fun N11 hN11 => ?_
   refine LWP.region (l := [_,_,_,_,_,_]) ?_
   refine LWo.move (e_Limpl_Entry x9) rfl (hn := ?_)
   refine LWo.move (e_Limpl_Entry x7.1) rfl (hn := ?_)
   refine LWo.move (e_int x7.2) rfl (hn := ?_)
   refine bk h fun x12 e12 h => ?_
   refine LWo.vcall rfl rfl (c_spec_LogCut _ _ _ e12) (.same (.same (.nil))) (hn := ?_)
   refine bk h fun x13 e13 h => ?_
   refine LWo.vcall rfl rfl (c_laws_sameLog _ _ _ e13) (.same (.same (.nil))) (hn := ?_)
   refine LWo.not rfl (hn := ?_)
   refine LWo.nil (hN11 _ ?_)
   refine LWP.cond_split rfl (fun h14 => ?_) (fun h14 => ?_)
   ·have h := bT h14 h
    refine LWP.seq_k fun N15 hN15 => ?_
    refine LWP.region (l := [_]) ?_
    refine LWo.assign (e_bool false) rfl (hn := ?_)
    refine LWo.nil (hN15 _ ?_)
    obtain rfl := Option.some.inj h
    refine LWP.ret (QG.mk (.inr rfl) (.cons (.tmp (x := (e_bool false)) rfl) (.nil)) (RetOK.one0 (.pure rfl) (by decide)) rfl rfl)
   ·have h := bF h14 h
    refine LWP.skip (hN10 _ ?_)
    refine LWP.seq_k fun N16 hN16 => ?_
    refine LWP.seq_k fun N17 hN17 => ?_
    refine LWP.region (l := [_,_,_]) ?_
    refine LWo.move (e_Limpl_Entry x7.1) rfl (hn := ?_)
    refine bk h fun x18 e18 h => ?_
    refine LWo.vcall rfl rfl (c_impl_LogOk _ _ e18) (.same (.nil)) (hn := ?_)
    refine LWo.not rfl (hn := ?_)
    refine LWo.nil (hN17 _ ?_)
    refine LWP.cond_split rfl (fun h19 => ?_) (fun h19 => ?_)
    ·have h := bT h19 h
     refine LWP.join (α := Bool) (fun z : Bool => [(2, (e_bool z))]) (fun z : Bool => []) (fun z : Bool => m_laws_FnLogCut_j1  z) r (fun _ => by simp [hkeys]) ?_ ?_
     ·rintro t2 h
      replace h : m_laws_FnLogCut_j1  t2 = some _ := h
      obtain rfl := Option.some.inj h
      refine LWP.ret (QG.mk (.inr rfl) (.cons (.tmp (x := (e_bool t2)) rfl) (.nil)) (RetOK.one0 (.pure rfl) (by decide)) rfl rfl)
     ·intro N20 hN20
      refine LWP.region (l := [_,_,_,_,_,_,_]) ?_
      refine LWo.move (e_Limpl_Entry x9) rfl (hn := ?_)
      refine LWo.lenM (f := e_impl_Entry) (l := x9) u_Limpl_Entry rfl (hn := ?_)
      refine LWo.int _ rfl rfl rfl (hn := ?_)
      refine LWo.move (e_bool ((x9.length : Int) == (0 : Int))) rfl (hn := ?_)
      refine LWo.byCases (t := 30) _ rfl (fun h21 => ?_) (fun h21 => ?_)
      ·have h := bT h21 h
       refine bk h fun x22 e22 h => ?_
       refine LWo.guardY (t := 30) rfl h21 rfl rfl ?_
       refine LWo.vcall rfl rfl (c_laws_alive  _ e22) (.nil) (hn := ?_)
       refine LWo.pickTM (e_bool x22) rfl h21 rfl (hn := ?_)
       refine LWo.assign (e_bool x22) rfl (hn := ?_)
       refine LWo.nil (hN20 x22 _ ⟨rfl, trivial⟩ trivial h)
      ·have h := bF h21 h
       refine LWo.guardNU (t := 30) rfl h21 rfl rfl rfl rfl rfl ?_
       refine LWo.pickFM (e_bool false) rfl h21 rfl (hn := ?_)
       refine LWo.assign (e_bool false) rfl (hn := ?_)
       refine LWo.nil (hN20 false _ ⟨rfl, trivial⟩ trivial h)
    ·have h := bF h19 h
     refine LWP.skip (hN16 _ ?_)
     refine LWP.join (α := (List S_impl_Entry) × (List S_impl_Entry)) (fun z : (List S_impl_Entry) × (List S_impl_Entry) => [(3, (e_Limpl_Entry z.1)), (5, (e_Limpl_Entry z.2))]) (fun z : (List S_impl_Entry) × (List S_impl_Entry) => []) (fun z : (List S_impl_Entry) × (List S_impl_Entry) => m_laws_FnLogCut_j2  z.1 z.2) r (fun _ => by simp [hkeys]) ?_ ?_
     ·rintro ⟨t3, t5⟩ h
      replace h : m_laws_FnLogCut_j2  t3 t5 = some _ := h
      refine LWP.join (α := Bool) (fun z : Bool => [(2, (e_bool z))]) (fun z : Bool => []) (fun z : Bool => m_laws_FnLogCut_j3  z) r (fun _ => by simp [hkeys]) ?_ ?_
      ·rintro t2 h
       replace h : m_laws_FnLogCut_j3  t2 = some _ := h
       obtain rfl := Option.some.inj h
       refine LWP.ret (QG.mk (.inr rfl) (.cons (.tmp (x := (e_bool t2)) rfl) (.nil)) (RetOK.one0 (.pure rfl) (by decide)) rfl rfl)
      ·intro N40 hN40
       refine LWP.region (l := [_,_,_,_,_,_,_,_,_,_,_,_]) ?_
       refine LWo.move (e_Limpl_Entry t5) rfl (hn := ?_)
       refine LWo.lit0 1049 u_Limpl_Entry s_impl_Entry z_impl_Entry (hn := ?_)
       refine LWo.known 49 (.own 1049 0 ([] : (List S_impl_Entry)).length) rfl ?_
       refine LWo.move (e_Limpl_Entry t3) rfl (hn := ?_)
       refine LWo.move (e_Limpl_Entry t5) rfl (hn := ?_)
       refine LWo.lenM (f := e_impl_Entry) (l := t5) u_Limpl_Entry rfl (hn := ?_)
       refine bk h fun x41 e41 h => ?_
       refine LWo.cutM (f := e_impl_Entry) e41 u_Limpl_Entry s_impl_Entry rfl rfl ⟨_, rfl⟩ (hn := ?_)
       refine bk h fun x42 e42 h => ?_
       refine LWo.appendM (f := e_impl_Entry) e42 rfl u_Limpl_Entry u_Limpl_Entry (fun _ h => by cases h) s_impl_Entry i_impl_Entry rfl rfl rfl (.sl rfl) rfl rfl (hn := ?_)
       refine bk h fun x43 e43 h => ?_
       refine LWo.wcall rfl rfl (c_laws_sameLog _ _ _ e43) (.same (.viewM rfl rfl rfl (.nil))) rfl (hn := ?_)
       refine LWo.move (e_bool x43) rfl (hn := ?_)
       refine LWo.byCases (t := 56) _ rfl (fun h44 => ?_) (fun h44 => ?_)
       ·have h := bT h44 h
        refine bk h fun x45 e45 h => ?_
        refine LWo.guardY (t := 56) rfl h44 rfl rfl ?_
        refine LWo.vcall rfl rfl (c_laws_alive  _ e45) (.nil) (hn := ?_)
        refine LWo.pickTM (e_bool x45) rfl h44 rfl (hn := ?_)
        refine LWo.assign (e_bool x45) rfl (hn := ?_)
        refine LWo.nil (hN40 x45 _ ⟨rfl, trivial⟩ trivial h)
       ·have h := bF h44 h
        refine LWo.guardNU (t := 56) rfl h44 rfl rfl rfl rfl rfl ?_
        refine LWo.pickFM (e_bool false) rfl h44 rfl (hn := ?_)
        refine LWo.assign (e_bool false) rfl (hn := ?_)
        refine LWo.nil (hN40 false _ ⟨rfl, trivial⟩ trivial h)
     ·intro N23 hN23
      refine LWP.seq_k fun N24 hN24 => ?_
      refine LWP.region (l := [_]) ?_
      refine LWo.assign (e_int (0 : Int)) rfl (hn := ?_)
      refine LWo.nil (hN24 _ ?_)
      refine LWP.block ?_
      refine LWP.loopM (α := (List S_impl_Entry) × Int × (List S_impl_Entry) × Int) (fun z : (List S_impl_Entry) × Int × (List S_impl_Entry) × Int => [(3, (e_Limpl_Entry z.1)), (4, (e_int z.2.1)), (5, (e_Limpl_Entry z.2.2.1)), (6, (e_int z.2.2.2))]) (fun z : (List S_impl_Entry) × Int × (List S_impl_Entry) × Int => []) (fun n1 (z : (List S_impl_Entry) × Int × (List S_impl_Entry) × Int) => m_laws_FnLogCut_l1  n1 z.1 z.2.1 z.2.2.1 z.2.2.2) r _ (x7.1, x7.2, x9, (0 : Int)) h (fun _ => rfl) (fun _ => by simp [hkeys]) ⟨rfl, rfl, rfl, rfl, trivial⟩ trivial ?_
      rintro n1 ⟨t3, t4, t5, t6⟩ h N25 hN25
      replace h : m_laws_FnLogCut_l1  (n1 + 1) t3 t4 t5 t6 = some _ := h
      refine LWP.seq_k fun N27 hN27 => ?_
      refine LWP.seq_k fun N28 hN28 => ?_
      refine LWP.region (l := [_,_,_]) ?_
      refine LWo.move (e_int t6) rfl (hn := ?_)
      refine LWo.move (e_int t4) rfl (hn := ?_)
      refine LWo.int _ rfl rfl rfl (hn := ?_)
      refine LWo.nil (hN28 _ ?_)
      refine LWP.cond_split rfl (fun h29 => ?_) (fun h29 => ?_)
      ·have h := bT h29 h
       refine LWP.skip (hN27 _ ?_)
       refine LWP.seq_k fun N30 hN30 => ?_
       refine LWP.block ?_
       refine LWP.seq_k fun N31 hN31 => ?_
       refine LWP.region (l := [_,_,_,_,_,_,_,_,_,_]) ?_
       refine LWo.move (e_Limpl_Entry t5) rfl (hn := ?_)
       refine bk h fun x32 e32 h => ?_
       refine LWo.vcall rfl rfl (c_impl_LogRun _ _ e32) (.same (.nil)) (hn := ?_)
       refine LWo.move (e_int t6) rfl (hn := ?_)
       refine bk h fun x33 e33 h => ?_
       refine LWo.vcall rfl rfl (c_impl_RowsAt _ _ _ e33) (.same (.same (.nil))) (hn := ?_)
       refine LWo.move (e_Limpl_Entry t3) rfl (hn := ?_)
       refine bk h fun x34 e34 h => ?_
       refine LWo.vcall rfl rfl (c_impl_LogRun _ _ e34) (.same (.nil)) (hn := ?_)
       refine LWo.move (e_int t6) rfl (hn := ?_)
       refine bk h fun x35 e35 h => ?_
       refine LWo.vcall rfl rfl (c_impl_RowsAt _ _ _ e35) (.same (.same (.nil))) (hn := ?_)
       refine bk h fun x36 e36 h => ?_
       refine LWo.vcall rfl rfl (c_laws_sameRows _ _ _ e36) (.same (.same (.nil))) (hn := ?_)
       refine LWo.not rfl (hn := ?_)
       refine LWo.nil (hN31 _ ?_)
       refine LWP.cond_split rfl (fun h37 => ?_) (fun h37 => ?_)
       ·have h := bT h37 h
        refine LWP.seq_k fun N38 hN38 => ?_
        refine LWP.region (l := [_]) ?_
        refine LWo.assign (e_bool false) rfl (hn := ?_)
        refine LWo.nil (hN38 _ ?_)
        obtain rfl := Option.some.inj h
        refine LWP.ret (QG.mk (.inr rfl) (.cons (.tmp (x := (e_bool false)) rfl) (.nil)) (RetOK.one0 (.pure rfl) (by decide)) rfl rfl)
       ·have h := bF h37 h
        refine LWP.skip (hN30 _ ?_)
        refine LWP.region (l := [_,_,_]) ?_
        refine LWo.move (e_int t6) rfl (hn := ?_)
        refine bk h fun x39 e39 h => ?_
        refine LWo.int _ rfl rfl (add_ck e39) (hn := ?_)
        refine LWo.assign (e_int x39) rfl (hn := ?_)
        refine LWo.nil (hN25 (t3, t4, t5, x39) _ ⟨rfl, rfl, rfl, rfl, trivial⟩ trivial h)
      ·have h := bF h29 h
       refine LWP.exit (hN23 (t3, t5) _ ⟨rfl, rfl, trivial⟩ trivial h)
end Go.Proofs.Ytijihchddhikhaa
