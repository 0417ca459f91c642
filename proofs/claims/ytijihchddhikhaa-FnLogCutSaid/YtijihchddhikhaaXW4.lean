/- Mirrors of functions, and that the functions return what the mirrors say. -/
import Derived.Test.YtijihchddhikhaaXW3
set_option linter.unusedVariables false
set_option linter.unusedSimpArgs false
set_option linter.unnecessarySimpa false
namespace Go.Proofs.Ytijihchddhikhaa
open Go.Proofs Go.Lift Go.RowKit
def m_spec_LogCut_j3 (o1007 : (List S_impl_Entry)) : Option (List S_impl_Entry) :=
  (m_spec_l18Copy o1007).bind fun x20 =>
  some x20
def m_spec_LogCut_j2 (k1 : (List S_impl_Entry) → Int → Int → (List S_impl_Entry) → Option (List S_impl_Entry)) (t0 : (List S_impl_Entry)) (t1 : Int) (t6 : Int) (o1007 : (List S_impl_Entry)) : Option (List S_impl_Entry) :=
  (ckI (t6 + (1 : Int))).bind fun x18 =>
  k1 t0 t1 x18 o1007
def m_spec_LogCut_j1 (k1 : (List S_impl_Entry) → Int → Int → (List S_impl_Entry) → Option (List S_impl_Entry)) (t0 : (List S_impl_Entry)) (t1 : Int) (t6 : Int) (t15 : Bool) (o1007 : (List S_impl_Entry)) : Option (List S_impl_Entry) :=
  bif t15 then ((at? t0 t6).bind fun x14 =>
  bif decide (x14.Time ≤ t1) then ((at? t0 t6).bind fun x16 =>
  (app? o1007 ([x16] : (List S_impl_Entry))).bind fun x17 =>
  m_spec_LogCut_j2  k1 t0 t1 t6 x17)
  else (m_spec_LogCut_j2  k1 t0 t1 t6 o1007))
  else (m_spec_LogCut_j3  o1007)
def m_spec_LogCut_l1 : Nat → (List S_impl_Entry) → Int → Int → (List S_impl_Entry) → Option (List S_impl_Entry)
  | 0, _, _, _, _ => none
  | n1 + 1, t0, t1, t6, o1007 =>
    bif decide (t6 < (t0.length : Int)) then ((m_spec_LogOk t0).bind fun x10 =>
      m_spec_LogCut_j1  (m_spec_LogCut_l1  n1) t0 t1 t6 x10 o1007)
    else (m_spec_LogCut_j1  (m_spec_LogCut_l1  n1) t0 t1 t6 false o1007)
def m_spec_LogCut (a0 : (List S_impl_Entry)) (a1 : Int) : Option (List S_impl_Entry) :=
  m_spec_LogCut_l1  (1000000000) a0 a1 (0 : Int) ([] : (List S_impl_Entry))
theorem c_spec_LogCut (a0 : (List S_impl_Entry)) (a1 : Int) (r : (List S_impl_Entry)) (h : m_spec_LogCut a0 a1 = some r) : Ret Try.prog f_spec_LogCut [e_Limpl_Entry a0, e_int a1] (.nw 2 (r.map e_impl_Entry) false) := by
  refine Does.goG [] F_spec_LogCut rfl e_spec_LogCut n_spec_LogCut rfl (rvs := [.tmp 4]) rfl rfl ?_
  intro w0 ok0 lent ρ0
  refine LWP.seq_k fun N1 hN1 => ?_
  refine LWP.region (l := [_]) ?_
  refine LWo.assign _ rfl (hn := ?_)
  refine LWo.ownNil 4 1004 2 rfl rfl rfl ?_
  refine LWo.known 4 (.own 1004 0 ([] : (List S_impl_Entry)).length) rfl ?_
  refine LWo.nil (hN1 _ ?_)
  refine LWP.seq_k fun N2 hN2 => ?_
  refine LWP.region (l := [_,_]) ?_
  refine LWo.lit0 1007 u_Limpl_Entry s_impl_Entry z_impl_Entry (hn := ?_)
  refine LWo.known 7 (.own 1007 0 ([] : (List S_impl_Entry)).length) rfl ?_
  refine LWo.assign (.own 1007 0 (([] : (List S_impl_Entry))).length) rfl (hn := ?_)
  refine LWo.nil (hN2 _ ?_)
  refine LWP.join (α := (List S_impl_Entry)) (fun z : (List S_impl_Entry) => [(5, (.own 1007 0 (z).length))]) (fun z : (List S_impl_Entry) => [(1007, (lob 2 e_impl_Entry z))]) (fun z : (List S_impl_Entry) => m_spec_LogCut_j3  z) r (fun _ => by simp [hkeys]) ?_ ?_
  ·rintro o1007 h
   replace h : m_spec_LogCut_j3  o1007 = some _ := h
   refine LWP.seq_k fun N19 hN19 => ?_
   refine LWP.region (l := [_,_,_]) ?_
   refine LWo.move (.own 1007 0 (o1007).length) rfl (hn := ?_)
   refine bk h fun x20 e20 h => ?_
   refine LWo.frzL (f := e_impl_Entry) (l := o1007) [5, 32] 1007 rfl rfl ⟨rfl, rfl, trivial⟩ ?_
   refine LWo.ncall (e := e_impl_Entry) 1033 rfl rfl (c_spec_l18Copy _ _ e20) (.same (.nil)) rfl (hn := ?_)
   refine LWo.assign (.own 1033 0 (x20).length) rfl (hn := ?_)
   refine LWo.nil (hN19 _ ?_)
   obtain rfl := Option.some.inj h
   refine LWP.ret (QG.mk (.inr rfl) (.cons (.tmp (x := (.own 1033 0 (x20).length)) rfl) (.nil)) (RetOK.one0 (.nwM rfl rfl) (by decide)) rfl rfl)
  ·intro N3 hN3
   refine LWP.seq_k fun N4 hN4 => ?_
   refine LWP.region (l := [_]) ?_
   refine LWo.assign (e_int (0 : Int)) rfl (hn := ?_)
   refine LWo.nil (hN4 _ ?_)
   refine LWP.block ?_
   refine LWP.loopM (α := (List S_impl_Entry) × Int × Int × (List S_impl_Entry)) (fun z : (List S_impl_Entry) × Int × Int × (List S_impl_Entry) => [(0, (e_Limpl_Entry z.1)), (1, (e_int z.2.1)), (5, (.own 1007 0 (z.2.2.2).length)), (6, (e_int z.2.2.1))]) (fun z : (List S_impl_Entry) × Int × Int × (List S_impl_Entry) => [(1007, (lob 2 e_impl_Entry z.2.2.2))]) (fun n1 (z : (List S_impl_Entry) × Int × Int × (List S_impl_Entry)) => m_spec_LogCut_l1  n1 z.1 z.2.1 z.2.2.1 z.2.2.2) r _ (a0, a1, (0 : Int), ([] : (List S_impl_Entry))) h (fun _ => rfl) (fun _ => by simp [hkeys]) ⟨rfl, rfl, rfl, rfl, trivial⟩ ⟨rfl, trivial⟩ ?_
   rintro n1 ⟨t0, t1, t6, o1007⟩ h N5 hN5
   replace h : m_spec_LogCut_l1  (n1 + 1) t0 t1 t6 o1007 = some _ := h
   refine LWP.seq_k fun N7 hN7 => ?_
   refine LWP.join (α := (List S_impl_Entry) × Int × Int × Bool × (List S_impl_Entry)) (fun z : (List S_impl_Entry) × Int × Int × Bool × (List S_impl_Entry) => [(0, (e_Limpl_Entry z.1)), (1, (e_int z.2.1)), (5, (.own 1007 0 (z.2.2.2.2).length)), (6, (e_int z.2.2.1)), (15, (e_bool z.2.2.2.1))]) (fun z : (List S_impl_Entry) × Int × Int × Bool × (List S_impl_Entry) => [(1007, (lob 2 e_impl_Entry z.2.2.2.2))]) (fun z : (List S_impl_Entry) × Int × Int × Bool × (List S_impl_Entry) => m_spec_LogCut_j1  (m_spec_LogCut_l1  n1) z.1 z.2.1 z.2.2.1 z.2.2.2.1 z.2.2.2.2) r (fun _ => by simp [hkeys]) ?_ ?_
   ·rintro ⟨t0, t1, t6, t15, o1007⟩ h
    replace h : m_spec_LogCut_j1  (m_spec_LogCut_l1  n1) t0 t1 t6 t15 o1007 = some _ := h
    refine LWP.cond_split rfl (fun h11 => ?_) (fun h11 => ?_)
    ·have h := bT h11 h
     refine LWP.skip (hN7 _ ?_)
     refine LWP.join (α := (List S_impl_Entry) × Int × Int × (List S_impl_Entry)) (fun z : (List S_impl_Entry) × Int × Int × (List S_impl_Entry) => [(0, (e_Limpl_Entry z.1)), (1, (e_int z.2.1)), (5, (.own 1007 0 (z.2.2.2).length)), (6, (e_int z.2.2.1))]) (fun z : (List S_impl_Entry) × Int × Int × (List S_impl_Entry) => [(1007, (lob 2 e_impl_Entry z.2.2.2))]) (fun z : (List S_impl_Entry) × Int × Int × (List S_impl_Entry) => m_spec_LogCut_j2  (m_spec_LogCut_l1  n1) z.1 z.2.1 z.2.2.1 z.2.2.2) r (fun _ => by simp [hkeys]) ?_ ?_
     ·rintro ⟨t0, t1, t6, o1007⟩ h
      replace h : m_spec_LogCut_j2  (m_spec_LogCut_l1  n1) t0 t1 t6 o1007 = some _ := h
      refine LWP.region (l := [_,_,_]) ?_
      refine LWo.move (e_int t6) rfl (hn := ?_)
      refine bk h fun x18 e18 h => ?_
      refine LWo.int _ rfl rfl (add_ck e18) (hn := ?_)
      refine LWo.assign (e_int x18) rfl (hn := ?_)
      refine LWo.nil (hN5 (t0, t1, x18, o1007) _ ⟨rfl, rfl, rfl, rfl, trivial⟩ ⟨rfl, trivial⟩ h)
     ·intro N12 hN12
      refine LWP.block ?_
      refine LWP.seq_k fun N13 hN13 => ?_
      refine LWP.region (l := [_,_,_,_,_,_,_]) ?_
      refine LWo.move (e_Limpl_Entry t0) rfl (hn := ?_)
      refine LWo.move (e_int t6) rfl (hn := ?_)
      refine bk h fun x14 e14 h => ?_
      refine LWo.indexM (f := e_impl_Entry) e14 u_Limpl_Entry s_impl_Entry rfl rfl (hn := ?_)
      refine LWo.fieldAddr _ u_impl_Entry rfl s_int rfl rfl (hn := ?_)
      refine LWo.load1 (c := (e_int x14.Time)) g_int rfl (hn := ?_)
      refine LWo.move (e_int t1) rfl (hn := ?_)
      refine LWo.int _ rfl rfl rfl (hn := ?_)
      refine LWo.nil (hN13 _ ?_)
      refine LWP.cond_split rfl (fun h15 => ?_) (fun h15 => ?_)
      ·have h := bT h15 h
       refine LWP.region (l := [_,_,_,_,_,_,_,_]) ?_
       refine LWo.move (.own 1007 0 (o1007).length) rfl (hn := ?_)
       refine LWo.move (e_Limpl_Entry t0) rfl (hn := ?_)
       refine LWo.move (e_int t6) rfl (hn := ?_)
       refine bk h fun x16 e16 h => ?_
       refine LWo.indexM (f := e_impl_Entry) e16 u_Limpl_Entry s_impl_Entry rfl rfl (hn := ?_)
       refine LWo.loadN ((e_impl_Entry x16)).cells g_impl_Entry s_impl_Entry rfl (Nat.le_of_ble_eq_true rfl) rfl (hn := ?_)
       refine LWo.lit (ops := [_]) [(e_impl_Entry x16)] u_Limpl_Entry s_impl_Entry z_impl_Entry rfl rfl rfl rfl rfl rfl (hn := ?_)
       refine bk h fun x17 e17 h => ?_
       refine LWo.appendM (f := e_impl_Entry) e17 rfl u_Limpl_Entry u_Limpl_Entry (fun _ h => by cases h) s_impl_Entry i_impl_Entry rfl rfl rfl (.sl rfl) rfl rfl (hn := ?_)
       refine LWo.assign (.own 1007 0 (x17).length) rfl (hn := ?_)
       refine LWo.nil (hN12 (t0, t1, t6, x17) _ ⟨rfl, rfl, rfl, rfl, trivial⟩ ⟨rfl, trivial⟩ h)
      ·have h := bF h15 h
       refine LWP.skip (hN12 (t0, t1, t6, o1007) _ ⟨rfl, rfl, rfl, rfl, trivial⟩ ⟨rfl, trivial⟩ h)
    ·have h := bF h11 h
     refine LWP.exit (hN3 o1007 _ ⟨rfl, trivial⟩ ⟨rfl, trivial⟩ h)
   ·intro N8 hN8
    refine LWP.region (l := [_,_,_,_,_,_,_,_]) ?_
    refine LWo.move (e_int t6) rfl (hn := ?_)
    refine LWo.move (e_Limpl_Entry t0) rfl (hn := ?_)
    refine LWo.lenM (f := e_impl_Entry) (l := t0) u_Limpl_Entry rfl (hn := ?_)
    refine LWo.int _ rfl rfl rfl (hn := ?_)
    refine LWo.move (e_bool (decide (t6 < (t0.length : Int)))) rfl (hn := ?_)
    refine LWo.byCases (t := 12) _ rfl (fun h9 => ?_) (fun h9 => ?_)
    ·have h := bT h9 h
     refine LWo.guardY (t := 12) rfl h9 rfl rfl ?_
     refine LWo.move (e_Limpl_Entry t0) rfl (hn := ?_)
     refine bk h fun x10 e10 h => ?_
     refine LWo.guardY (t := 12) rfl h9 rfl rfl ?_
     refine LWo.vcall rfl rfl (c_spec_LogOk _ _ e10) (.same (.nil)) (hn := ?_)
     refine LWo.pickTM (e_bool x10) rfl h9 rfl (hn := ?_)
     refine LWo.nil (hN8 (t0, t1, t6, x10, o1007) _ ⟨rfl, rfl, rfl, rfl, rfl, trivial⟩ ⟨rfl, trivial⟩ h)
    ·have h := bF h9 h
     refine LWo.guardNU (t := 12) rfl h9 rfl rfl rfl rfl rfl ?_
     refine LWo.guardNU (t := 12) rfl h9 rfl rfl rfl rfl rfl ?_
     refine LWo.pickFM (e_bool false) rfl h9 rfl (hn := ?_)
     refine LWo.nil (hN8 (t0, t1, t6, false, o1007) _ ⟨rfl, rfl, rfl, rfl, rfl, trivial⟩ ⟨rfl, trivial⟩ h)

def m_laws_sameRow_j1  : Option Bool :=
  some true
def m_laws_sameRow_l1 : Nat → (List S_impl_Value) → (List S_impl_Value) → Int → Option Bool
  | 0, _, _, _ => none
  | n1 + 1, t0, t1, t5 =>
    bif decide (t5 < (t0.length : Int)) then ((at? t0 t5).bind fun x15 =>
    (at? t1 t5).bind fun x16 =>
    bif (!(decide (x15 = x16))) then (some false)
    else ((ckI (t5 + (1 : Int))).bind fun x19 =>
    (m_laws_sameRow_l1  n1) t0 t1 x19))
    else (m_laws_sameRow_j1  )
def m_laws_sameRow (a0 : (List S_impl_Value)) (a1 : (List S_impl_Value)) : Option Bool :=
  bif ((a0.length : Int) != (a1.length : Int)) then (some false)
  else (m_laws_sameRow_l1  (((a0.length : Int) - (0 : Int)).toNat + 1) a0 a1 (0 : Int))
theorem c_laws_sameRow (a0 : (List S_impl_Value)) (a1 : (List S_impl_Value)) (r : Bool) (h : m_laws_sameRow a0 a1 = some r) : Ret Try.prog f_laws_sameRow [e_Limpl_Value a0, e_Limpl_Value a1] (e_bool r) := by
  refine Does.goG [] F_laws_sameRow rfl e_laws_sameRow n_laws_sameRow rfl (rvs := [.tmp 4]) rfl rfl ?_
  intro w0 ok0 lent ρ0
  refine LWP.seq_k fun N1 hN1 => ?_
  refine LWP.region (l := [_]) ?_
  refine LWo.assign (e_bool false) rfl (hn := ?_)
  refine LWo.nil (hN1 _ ?_)
  refine LWP.seq_k fun N2 hN2 => ?_
  refine LWP.seq_k fun N3 hN3 => ?_
  refine LWP.region (l := [_,_,_,_,_]) ?_
  refine LWo.move (e_Limpl_Value a0) rfl (hn := ?_)
  refine LWo.lenM (f := e_impl_Value) (l := a0) u_Limpl_Value rfl (hn := ?_)
  refine LWo.move (e_Limpl_Value a1) rfl (hn := ?_)
  refine LWo.lenM (f := e_impl_Value) (l := a1) u_Limpl_Value rfl (hn := ?_)
  refine LWo.int _ rfl rfl rfl (hn := ?_)
  refine LWo.nil (hN3 _ ?_)
  refine LWP.cond_split rfl (fun h4 => ?_) (fun h4 => ?_)
  ·have h := bT h4 h
   refine LWP.seq_k fun N5 hN5 => ?_
   refine LWP.region (l := [_]) ?_
   refine LWo.assign (e_bool false) rfl (hn := ?_)
   refine LWo.nil (hN5 _ ?_)
   obtain rfl := Option.some.inj h
   refine LWP.ret (QG.mk (.inr rfl) (.cons (.tmp (x := (e_bool false)) rfl) (.nil)) (RetOK.one0 (.pure rfl) (by decide)) rfl rfl)
  ·have h := bF h4 h
   refine LWP.skip (hN2 _ ?_)
   refine LWP.join (α := Unit) (fun z : Unit => []) (fun z : Unit => []) (fun z : Unit => m_laws_sameRow_j1  ) r (fun _ => by simp [hkeys]) ?_ ?_
   ·rintro _ h
    replace h : m_laws_sameRow_j1   = some _ := h
    refine LWP.seq_k fun N20 hN20 => ?_
    refine LWP.region (l := [_]) ?_
    refine LWo.assign (e_bool true) rfl (hn := ?_)
    refine LWo.nil (hN20 _ ?_)
    obtain rfl := Option.some.inj h
    refine LWP.ret (QG.mk (.inr rfl) (.cons (.tmp (x := (e_bool true)) rfl) (.nil)) (RetOK.one0 (.pure rfl) (by decide)) rfl rfl)
   ·intro N6 hN6
    refine LWP.seq_k fun N7 hN7 => ?_
    refine LWP.region (l := [_]) ?_
    refine LWo.assign (e_int (0 : Int)) rfl (hn := ?_)
    refine LWo.nil (hN7 _ ?_)
    refine LWP.block ?_
    refine LWP.loopM (α := (List S_impl_Value) × (List S_impl_Value) × Int) (fun z : (List S_impl_Value) × (List S_impl_Value) × Int => [(0, (e_Limpl_Value z.1)), (1, (e_Limpl_Value z.2.1)), (5, (e_int z.2.2))]) (fun z : (List S_impl_Value) × (List S_impl_Value) × Int => []) (fun n1 (z : (List S_impl_Value) × (List S_impl_Value) × Int) => m_laws_sameRow_l1  n1 z.1 z.2.1 z.2.2) r _ (a0, a1, (0 : Int)) h (fun _ => rfl) (fun _ => by simp [hkeys]) ⟨rfl, rfl, rfl, trivial⟩ trivial ?_
    rintro n1 ⟨t0, t1, t5⟩ h N8 hN8
    replace h : m_laws_sameRow_l1  (n1 + 1) t0 t1 t5 = some _ := h
    refine LWP.seq_k fun N10 hN10 => ?_
    refine LWP.seq_k fun N11 hN11 => ?_
    refine LWP.region (l := [_,_,_,_]) ?_
    refine LWo.move (e_int t5) rfl (hn := ?_)
    refine LWo.move (e_Limpl_Value t0) rfl (hn := ?_)
    refine LWo.lenM (f := e_impl_Value) (l := t0) u_Limpl_Value rfl (hn := ?_)
    refine LWo.int _ rfl rfl rfl (hn := ?_)
    refine LWo.nil (hN11 _ ?_)
    refine LWP.cond_split rfl (fun h12 => ?_) (fun h12 => ?_)
    ·have h := bT h12 h
     refine LWP.skip (hN10 _ ?_)
     refine LWP.seq_k fun N13 hN13 => ?_
     refine LWP.block ?_
     refine LWP.seq_k fun N14 hN14 => ?_
     refine bk h fun x15 e15 h => ?_
     refine bk h fun x16 e16 h => ?_
     refine LWP.drawF (l := [_,_,_,_,_,_,_,_,_]) [] [0, 1, 5] [([0], []), ([5], []), ([17, 18], []), ([19], []), ([1], []), ([5], []), ([21, 22], []), ([23], []), ([20, 24], [])] [0, 1, 5, 25] [] mixed (by kernel_rfl) rfl (by decide) ?_
     refine dq 17 rfl (fun _ g u h => LWo.move (e_Limpl_Value t0) u.1 (hn := .nil (zn g))) ?_
     refine dq 18 rfl (fun _ g u h => LWo.move (e_int t5) u.1 (hn := .nil (zn g))) ?_
     refine dq 19 rfl (fun _ g u h => LWo.indexM (f := e_impl_Value) e15 u_Limpl_Value s_impl_Value u.1 u.2.1 (hn := .nil (zn g))) ?_
     refine dq 20 rfl (fun _ g u h => LWo.loadN ((e_impl_Value x15)).cells g_impl_Value s_impl_Value u.1 (Nat.le_of_ble_eq_true rfl) rfl (hn := .nil (zn g))) ?_
     refine dq 21 rfl (fun _ g u h => LWo.move (e_Limpl_Value t1) u.1 (hn := .nil (zn g))) ?_
     refine dq 22 rfl (fun _ g u h => LWo.move (e_int t5) u.1 (hn := .nil (zn g))) ?_
     refine dq 23 rfl (fun _ g u h => LWo.indexM (f := e_impl_Value) e16 u_Limpl_Value s_impl_Value u.1 u.2.1 (hn := .nil (zn g))) ?_
     refine dq 24 rfl (fun _ g u h => LWo.loadN ((e_impl_Value x16)).cells g_impl_Value s_impl_Value u.1 (Nat.le_of_ble_eq_true rfl) rfl (hn := .nil (zn g))) ?_
     refine dq 25 rfl (fun _ g u h => LWo.ne_impl_Value _ _ u.1 u.2.1 (hn := .nil (zn g))) ?_
     refine ⟨rfl, by kernel_rfl, hN14 _ ?_⟩
     refine LWP.cond_split rfl (fun h17 => ?_) (fun h17 => ?_)
     ·have h := bT h17 h
      refine LWP.seq_k fun N18 hN18 => ?_
      refine LWP.region (l := [_]) ?_
      refine LWo.assign (e_bool false) rfl (hn := ?_)
      refine LWo.nil (hN18 _ ?_)
      obtain rfl := Option.some.inj h
      refine LWP.ret (QG.mk (.inr rfl) (.cons (.tmp (x := (e_bool false)) rfl) (.nil)) (RetOK.one0 (.pure rfl) (by decide)) rfl rfl)
     ·have h := bF h17 h
      refine LWP.skip (hN13 _ ?_)
      refine LWP.region (l := [_,_,_]) ?_
      refine LWo.move (e_int t5) rfl (hn := ?_)
      refine bk h fun x19 e19 h => ?_
      refine LWo.int _ rfl rfl (add_ck e19) (hn := ?_)
      refine LWo.assign (e_int x19) rfl (hn := ?_)
      refine LWo.nil (hN8 (t0, t1, x19) _ ⟨rfl, rfl, rfl, trivial⟩ trivial h)
    ·have h := bF h12 h
     refine LWP.exit (hN6 () _ trivial trivial h)

def m_laws_sameWrites_j2  : Option Bool :=
  some true
def m_laws_sameWrites_j1 (k1 : (List S_impl_Write) → (List S_impl_Write) → Int → Option Bool) (t0 : (List S_impl_Write)) (t1 : (List S_impl_Write)) (t5 : Int) (t54 : Bool) : Option Bool :=
  bif t54 then (some false)
  else ((ckI (t5 + (1 : Int))).bind fun x26 =>
  k1 t0 t1 x26)
def m_laws_sameWrites_l1 : Nat → (List S_impl_Write) → (List S_impl_Write) → Int → Option Bool
  | 0, _, _, _ => none
  | n1 + 1, t0, t1, t5 =>
    bif decide (t5 < (t0.length : Int)) then ((at? t0 t5).bind fun x15 =>
    (at? t1 t5).bind fun x16 =>
    bif (x15.Key != x16.Key) then (m_laws_sameWrites_j1  (m_laws_sameWrites_l1  n1) t0 t1 t5 true)
    else ((at? t0 t5).bind fun x18 =>
      (at? t1 t5).bind fun x19 =>
      bif (x18.Gone != x19.Gone) then (m_laws_sameWrites_j1  (m_laws_sameWrites_l1  n1) t0 t1 t5 true)
      else ((at? t0 t5).bind fun x21 =>
        (at? t1 t5).bind fun x22 =>
        (m_laws_sameRow x21.Row x22.Row).bind fun x23 =>
        m_laws_sameWrites_j1  (m_laws_sameWrites_l1  n1) t0 t1 t5 (!x23))))
    else (m_laws_sameWrites_j2  )
def m_laws_sameWrites (a0 : (List S_impl_Write)) (a1 : (List S_impl_Write)) : Option Bool :=
  bif ((a0.length : Int) != (a1.length : Int)) then (some false)
  else (m_laws_sameWrites_l1  (((a0.length : Int) - (0 : Int)).toNat + 1) a0 a1 (0 : Int))
theorem c_laws_sameWrites (a0 : (List S_impl_Write)) (a1 : (List S_impl_Write)) (r : Bool) (h : m_laws_sameWrites a0 a1 = some r) : Ret Try.prog f_laws_sameWrites [e_Limpl_Write a0, e_Limpl_Write a1] (e_bool r) := by
  refine Does.goG [] F_laws_sameWrites rfl e_laws_sameWrites n_laws_sameWrites rfl (rvs := [.tmp 4]) rfl rfl ?_
  intro w0 ok0 lent ρ0
  refine LWP.seq_k fun N1 hN1 => ?_
  refine LWP.region (l := [_]) ?_
  refine LWo.assign (e_bool false) rfl (hn := ?_)
  refine LWo.nil (hN1 _ ?_)
  refine LWP.seq_k fun N2 hN2 => ?_
  refine LWP.seq_k fun N3 hN3 => ?_
  refine LWP.region (l := [_,_,_,_,_]) ?_
  refine LWo.move (e_Limpl_Write a0) rfl (hn := ?_)
  refine LWo.lenM (f := e_impl_Write) (l := a0) u_Limpl_Write rfl (hn := ?_)
  refine LWo.move (e_Limpl_Write a1) rfl (hn := ?_)
  refine LWo.lenM (f := e_impl_Write) (l := a1) u_Limpl_Write rfl (hn := ?_)
  refine LWo.int _ rfl rfl rfl (hn := ?_)
  refine LWo.nil (hN3 _ ?_)
  refine LWP.cond_split rfl (fun h4 => ?_) (fun h4 => ?_)
  ·have h := bT h4 h
   refine LWP.seq_k fun N5 hN5 => ?_
   refine LWP.region (l := [_]) ?_
   refine LWo.assign (e_bool false) rfl (hn := ?_)
   refine LWo.nil (hN5 _ ?_)
   obtain rfl := Option.some.inj h
   refine LWP.ret (QG.mk (.inr rfl) (.cons (.tmp (x := (e_bool false)) rfl) (.nil)) (RetOK.one0 (.pure rfl) (by decide)) rfl rfl)
  ·have h := bF h4 h
   refine LWP.skip (hN2 _ ?_)
   refine LWP.join (α := Unit) (fun z : Unit => []) (fun z : Unit => []) (fun z : Unit => m_laws_sameWrites_j2  ) r (fun _ => by simp [hkeys]) ?_ ?_
   ·rintro _ h
    replace h : m_laws_sameWrites_j2   = some _ := h
    refine LWP.seq_k fun N27 hN27 => ?_
    refine LWP.region (l := [_]) ?_
    refine LWo.assign (e_bool true) rfl (hn := ?_)
    refine LWo.nil (hN27 _ ?_)
    obtain rfl := Option.some.inj h
    refine LWP.ret (QG.mk (.inr rfl) (.cons (.tmp (x := (e_bool true)) rfl) (.nil)) (RetOK.one0 (.pure rfl) (by decide)) rfl rfl)
   ·intro N6 hN6
    refine LWP.seq_k fun N7 hN7 => ?_
    refine LWP.region (l := [_]) ?_
    refine LWo.assign (e_int (0 : Int)) rfl (hn := ?_)
    refine LWo.nil (hN7 _ ?_)
    refine LWP.block ?_
    refine LWP.loopM (α := (List S_impl_Write) × (List S_impl_Write) × Int) (fun z : (List S_impl_Write) × (List S_impl_Write) × Int => [(0, (e_Limpl_Write z.1)), (1, (e_Limpl_Write z.2.1)), (5, (e_int z.2.2))]) (fun z : (List S_impl_Write) × (List S_impl_Write) × Int => []) (fun n1 (z : (List S_impl_Write) × (List S_impl_Write) × Int) => m_laws_sameWrites_l1  n1 z.1 z.2.1 z.2.2) r _ (a0, a1, (0 : Int)) h (fun _ => rfl) (fun _ => by simp [hkeys]) ⟨rfl, rfl, rfl, trivial⟩ trivial ?_
    rintro n1 ⟨t0, t1, t5⟩ h N8 hN8
    replace h : m_laws_sameWrites_l1  (n1 + 1) t0 t1 t5 = some _ := h
    refine LWP.seq_k fun N10 hN10 => ?_
    refine LWP.seq_k fun N11 hN11 => ?_
    refine LWP.region (l := [_,_,_,_]) ?_
    refine LWo.move (e_int t5) rfl (hn := ?_)
    refine LWo.move (e_Limpl_Write t0) rfl (hn := ?_)
    refine LWo.lenM (f := e_impl_Write) (l := t0) u_Limpl_Write rfl (hn := ?_)
    refine LWo.int _ rfl rfl rfl (hn := ?_)
    refine LWo.nil (hN11 _ ?_)
    refine LWP.cond_split rfl (fun h12 => ?_) (fun h12 => ?_)
    ·have h := bT h12 h
     refine LWP.skip (hN10 _ ?_)
     refine LWP.seq_k fun N13 hN13 => ?_
     refine LWP.block ?_
     refine LWP.join (α := (List S_impl_Write) × (List S_impl_Write) × Int × Bool) (fun z : (List S_impl_Write) × (List S_impl_Write) × Int × Bool => [(0, (e_Limpl_Write z.1)), (1, (e_Limpl_Write z.2.1)), (5, (e_int z.2.2.1)), (54, (e_bool z.2.2.2))]) (fun z : (List S_impl_Write) × (List S_impl_Write) × Int × Bool => []) (fun z : (List S_impl_Write) × (List S_impl_Write) × Int × Bool => m_laws_sameWrites_j1  (m_laws_sameWrites_l1  n1) z.1 z.2.1 z.2.2.1 z.2.2.2) r (fun _ => by simp [hkeys]) ?_ ?_
     ·rintro ⟨t0, t1, t5, t54⟩ h
      replace h : m_laws_sameWrites_j1  (m_laws_sameWrites_l1  n1) t0 t1 t5 t54 = some _ := h
      refine LWP.cond_split rfl (fun h24 => ?_) (fun h24 => ?_)
      ·have h := bT h24 h
       refine LWP.seq_k fun N25 hN25 => ?_
       refine LWP.region (l := [_]) ?_
       refine LWo.assign (e_bool false) rfl (hn := ?_)
       refine LWo.nil (hN25 _ ?_)
       obtain rfl := Option.some.inj h
       refine LWP.ret (QG.mk (.inr rfl) (.cons (.tmp (x := (e_bool false)) rfl) (.nil)) (RetOK.one0 (.pure rfl) (by decide)) rfl rfl)
      ·have h := bF h24 h
       refine LWP.skip (hN13 _ ?_)
       refine LWP.region (l := [_,_,_]) ?_
       refine LWo.move (e_int t5) rfl (hn := ?_)
       refine bk h fun x26 e26 h => ?_
       refine LWo.int _ rfl rfl (add_ck e26) (hn := ?_)
       refine LWo.assign (e_int x26) rfl (hn := ?_)
       refine LWo.nil (hN8 (t0, t1, x26) _ ⟨rfl, rfl, rfl, trivial⟩ trivial h)
     ·intro N14 hN14
      refine bk h fun x15 e15 h => ?_
      refine bk h fun x16 e16 h => ?_
      refine bS ((x15.Key != x16.Key)) (fun h17 => ?_) (fun h17 => ?_)
      ·have h := bT h17 h
       refine LWP.drawF (l := [_,_,_,_,_,_,_,_,_,_,_,_,_,_,_,_,_,_,_,_,_,_,_,_,_,_,_,_,_,_,_,_,_,_,_,_,_,_]) [] [0, 1, 5] [([0], []), ([5], []), ([17, 18], []), ([19], []), ([20], []), ([1], []), ([5], []), ([22, 23], []), ([24], []), ([25], []), ([21, 26], []), ([27], []), ([0, 28], []), ([5, 28], []), ([28, 29, 30], []), ([28, 31], []), ([28, 32], []), ([1, 28], []), ([5, 28], []), ([28, 34, 35], []), ([28, 36], []), ([28, 37], []), ([28, 33, 38], []), ([28, 39], []), ([40], []), ([0, 41], []), ([5, 41], []), ([41, 42, 43], []), ([41, 44], []), ([41, 45], []), ([1, 41], []), ([5, 41], []), ([41, 47, 48], []), ([41, 49], []), ([41, 50], []), ([41, 46, 51], []), ([41, 52], []), ([41, 53], [])] [0, 1, 5, 54] [] mixed (by kernel_rfl) rfl (by decide) ?_
       refine dq 17 rfl (fun _ g u h => LWo.move (e_Limpl_Write t0) u.1 (hn := .nil (zn g))) ?_
       refine dq 18 rfl (fun _ g u h => LWo.move (e_int t5) u.1 (hn := .nil (zn g))) ?_
       refine dq 19 rfl (fun _ g u h => LWo.indexM (f := e_impl_Write) e15 u_Limpl_Write s_impl_Write u.1 u.2.1 (hn := .nil (zn g))) ?_
       refine dq 20 rfl (fun _ g u h => LWo.fieldAddr _ u_impl_Write rfl s_int u.1 rfl (hn := .nil (zn g))) ?_
       refine dq 21 rfl (fun _ g u h => LWo.load1 (c := (e_int x15.Key)) g_int u.1 (hn := .nil (zn g))) ?_
       refine dq 22 rfl (fun _ g u h => LWo.move (e_Limpl_Write t1) u.1 (hn := .nil (zn g))) ?_
       refine dq 23 rfl (fun _ g u h => LWo.move (e_int t5) u.1 (hn := .nil (zn g))) ?_
       refine dq 24 rfl (fun _ g u h => LWo.indexM (f := e_impl_Write) e16 u_Limpl_Write s_impl_Write u.1 u.2.1 (hn := .nil (zn g))) ?_
       refine dq 25 rfl (fun _ g u h => LWo.fieldAddr _ u_impl_Write rfl s_int u.1 rfl (hn := .nil (zn g))) ?_
       refine dq 26 rfl (fun _ g u h => LWo.load1 (c := (e_int x16.Key)) g_int u.1 (hn := .nil (zn g))) ?_
       refine dq 27 rfl (fun _ g u h => LWo.int _ u.1 u.2.1 rfl (hn := .nil (zn g))) ?_
       refine dq 28 rfl (fun _ g u h => LWo.move (e_bool (x15.Key != x16.Key)) u.1 (hn := .nil (zn g))) ?_
       refine dq 29 rfl (fun _ g u h => LWo.guardNU (t := 28) u.2.1 h17 rfl rfl rfl rfl rfl (.nil (zn g))) ?_
       refine dq 30 rfl (fun _ g u h => LWo.guardNU (t := 28) u.2.1 h17 rfl rfl rfl rfl rfl (.nil (zn g))) ?_
       refine dq 31 rfl (fun _ g u h => LWo.guardNU (t := 28) u.1 h17 rfl rfl rfl rfl rfl (.nil (zn g))) ?_
       refine dq 32 rfl (fun _ g u h => LWo.guardNU (t := 28) u.1 h17 rfl rfl rfl rfl rfl (.nil (zn g))) ?_
       refine dq 33 rfl (fun _ g u h => LWo.guardNU (t := 28) u.1 h17 rfl rfl rfl rfl rfl (.nil (zn g))) ?_
       refine dq 34 rfl (fun _ g u h => LWo.guardNU (t := 28) u.2.1 h17 rfl rfl rfl rfl rfl (.nil (zn g))) ?_
       refine dq 35 rfl (fun _ g u h => LWo.guardNU (t := 28) u.2.1 h17 rfl rfl rfl rfl rfl (.nil (zn g))) ?_
       refine dq 36 rfl (fun _ g u h => LWo.guardNU (t := 28) u.1 h17 rfl rfl rfl rfl rfl (.nil (zn g))) ?_
       refine dq 37 rfl (fun _ g u h => LWo.guardNU (t := 28) u.1 h17 rfl rfl rfl rfl rfl (.nil (zn g))) ?_
       refine dq 38 rfl (fun _ g u h => LWo.guardNU (t := 28) u.1 h17 rfl rfl rfl rfl rfl (.nil (zn g))) ?_
       refine dq 39 rfl (fun _ g u h => LWo.guardNU (t := 28) u.1 h17 rfl rfl rfl rfl rfl (.nil (zn g))) ?_
       refine dq 40 rfl (fun _ g u h => LWo.pickTM (e_bool true) u.1 h17 rfl (hn := .nil (zn g))) ?_
       refine dq 41 rfl (fun _ g u h => LWo.move (e_bool true) u.1 (hn := .nil (zn g))) ?_
       refine dq 42 rfl (fun _ g u h => LWo.guardNU (t := 41) u.2.1 rfl rfl rfl rfl rfl rfl (.nil (zn g))) ?_
       refine dq 43 rfl (fun _ g u h => LWo.guardNU (t := 41) u.2.1 rfl rfl rfl rfl rfl rfl (.nil (zn g))) ?_
       refine dq 44 rfl (fun _ g u h => LWo.guardNU (t := 41) u.1 rfl rfl rfl rfl rfl rfl (.nil (zn g))) ?_
       refine dq 45 rfl (fun _ g u h => LWo.guardNU (t := 41) u.1 rfl rfl rfl rfl rfl rfl (.nil (zn g))) ?_
       refine dq 46 rfl (fun _ g u h => LWo.guardNU (t := 41) u.1 rfl rfl rfl rfl rfl rfl (.nil (zn g))) ?_
       refine dq 47 rfl (fun _ g u h => LWo.guardNU (t := 41) u.2.1 rfl rfl rfl rfl rfl rfl (.nil (zn g))) ?_
       refine dq 48 rfl (fun _ g u h => LWo.guardNU (t := 41) u.2.1 rfl rfl rfl rfl rfl rfl (.nil (zn g))) ?_
       refine dq 49 rfl (fun _ g u h => LWo.guardNU (t := 41) u.1 rfl rfl rfl rfl rfl rfl (.nil (zn g))) ?_
       refine dq 50 rfl (fun _ g u h => LWo.guardNU (t := 41) u.1 rfl rfl rfl rfl rfl rfl (.nil (zn g))) ?_
       refine dq 51 rfl (fun _ g u h => LWo.guardNU (t := 41) u.1 rfl rfl rfl rfl rfl rfl (.nil (zn g))) ?_
       refine dq 52 rfl (fun _ g u h => LWo.guardNU (t := 41) u.1 rfl rfl rfl rfl rfl rfl (.nil (zn g))) ?_
       refine dq 53 rfl (fun _ g u h => LWo.guardNU (t := 41) u.1 rfl rfl rfl rfl rfl rfl (.nil (zn g))) ?_
       refine dq 54 rfl (fun _ g u h => LWo.pickTM (e_bool true) u.1 rfl rfl (hn := .nil (zn g))) ?_
       refine ⟨rfl, by kernel_rfl, hN14 (t0, t1, t5, true) _ ⟨rfl, rfl, rfl, rfl, trivial⟩ trivial h⟩
      ·have h := bF h17 h
       refine bk h fun x18 e18 h => ?_
       refine bk h fun x19 e19 h => ?_
       refine bS ((x18.Gone != x19.Gone)) (fun h20 => ?_) (fun h20 => ?_)
       ·have h := bT h20 h
        refine LWP.drawF (l := [_,_,_,_,_,_,_,_,_,_,_,_,_,_,_,_,_,_,_,_,_,_,_,_,_,_,_,_,_,_,_,_,_,_,_,_,_,_]) [] [0, 1, 5] [([0], []), ([5], []), ([17, 18], []), ([19], []), ([20], []), ([1], []), ([5], []), ([22, 23], []), ([24], []), ([25], []), ([21, 26], []), ([27], []), ([0, 28], []), ([5, 28], []), ([28, 29, 30], []), ([28, 31], []), ([28, 32], []), ([1, 28], []), ([5, 28], []), ([28, 34, 35], []), ([28, 36], []), ([28, 37], []), ([28, 33, 38], []), ([28, 39], []), ([40], []), ([0, 41], []), ([5, 41], []), ([41, 42, 43], []), ([41, 44], []), ([41, 45], []), ([1, 41], []), ([5, 41], []), ([41, 47, 48], []), ([41, 49], []), ([41, 50], []), ([41, 46, 51], []), ([41, 52], []), ([41, 53], [])] [0, 1, 5, 54] [] mixed (by kernel_rfl) rfl (by decide) ?_
        refine dq 17 rfl (fun _ g u h => LWo.move (e_Limpl_Write t0) u.1 (hn := .nil (zn g))) ?_
        refine dq 18 rfl (fun _ g u h => LWo.move (e_int t5) u.1 (hn := .nil (zn g))) ?_
        refine dq 19 rfl (fun _ g u h => LWo.indexM (f := e_impl_Write) e15 u_Limpl_Write s_impl_Write u.1 u.2.1 (hn := .nil (zn g))) ?_
        refine dq 20 rfl (fun _ g u h => LWo.fieldAddr _ u_impl_Write rfl s_int u.1 rfl (hn := .nil (zn g))) ?_
        refine dq 21 rfl (fun _ g u h => LWo.load1 (c := (e_int x15.Key)) g_int u.1 (hn := .nil (zn g))) ?_
        refine dq 22 rfl (fun _ g u h => LWo.move (e_Limpl_Write t1) u.1 (hn := .nil (zn g))) ?_
        refine dq 23 rfl (fun _ g u h => LWo.move (e_int t5) u.1 (hn := .nil (zn g))) ?_
        refine dq 24 rfl (fun _ g u h => LWo.indexM (f := e_impl_Write) e16 u_Limpl_Write s_impl_Write u.1 u.2.1 (hn := .nil (zn g))) ?_
        refine dq 25 rfl (fun _ g u h => LWo.fieldAddr _ u_impl_Write rfl s_int u.1 rfl (hn := .nil (zn g))) ?_
        refine dq 26 rfl (fun _ g u h => LWo.load1 (c := (e_int x16.Key)) g_int u.1 (hn := .nil (zn g))) ?_
        refine dq 27 rfl (fun _ g u h => LWo.int _ u.1 u.2.1 rfl (hn := .nil (zn g))) ?_
        refine dq 28 rfl (fun _ g u h => LWo.move (e_bool (x15.Key != x16.Key)) u.1 (hn := .nil (zn g))) ?_
        refine dq 29 rfl (fun _ g u h => LWo.guardY (t := 28) u.2.1 h17 rfl rfl (LWo.move (e_Limpl_Write t0) u.1 (hn := .nil (zn g)))) ?_
        refine dq 30 rfl (fun _ g u h => LWo.guardY (t := 28) u.2.1 h17 rfl rfl (LWo.move (e_int t5) u.1 (hn := .nil (zn g)))) ?_
        refine dq 31 rfl (fun _ g u h => LWo.guardY (t := 28) u.1 h17 rfl rfl (LWo.indexM (f := e_impl_Write) e18 u_Limpl_Write s_impl_Write u.2.1 u.2.2.1 (hn := .nil (zn g)))) ?_
        refine dq 32 rfl (fun _ g u h => LWo.guardY (t := 28) u.1 h17 rfl rfl (LWo.fieldAddr _ u_impl_Write rfl s_bool u.2.1 rfl (hn := .nil (zn g)))) ?_
        refine dq 33 rfl (fun _ g u h => LWo.guardY (t := 28) u.1 h17 rfl rfl (LWo.load1 (c := (e_bool x18.Gone)) g_bool u.2.1 (hn := .nil (zn g)))) ?_
        refine dq 34 rfl (fun _ g u h => LWo.guardY (t := 28) u.2.1 h17 rfl rfl (LWo.move (e_Limpl_Write t1) u.1 (hn := .nil (zn g)))) ?_
        refine dq 35 rfl (fun _ g u h => LWo.guardY (t := 28) u.2.1 h17 rfl rfl (LWo.move (e_int t5) u.1 (hn := .nil (zn g)))) ?_
        refine dq 36 rfl (fun _ g u h => LWo.guardY (t := 28) u.1 h17 rfl rfl (LWo.indexM (f := e_impl_Write) e19 u_Limpl_Write s_impl_Write u.2.1 u.2.2.1 (hn := .nil (zn g)))) ?_
        refine dq 37 rfl (fun _ g u h => LWo.guardY (t := 28) u.1 h17 rfl rfl (LWo.fieldAddr _ u_impl_Write rfl s_bool u.2.1 rfl (hn := .nil (zn g)))) ?_
        refine dq 38 rfl (fun _ g u h => LWo.guardY (t := 28) u.1 h17 rfl rfl (LWo.load1 (c := (e_bool x19.Gone)) g_bool u.2.1 (hn := .nil (zn g)))) ?_
        refine dq 39 rfl (fun _ g u h => LWo.guardY (t := 28) u.1 h17 rfl rfl (LWo.boolNe u_bool u.2.1 u.2.2.1 (hn := .nil (zn g)))) ?_
        refine dq 40 rfl (fun _ g u h => LWo.pickFM (e_bool (x18.Gone != x19.Gone)) u.1 h17 u.2.1 (hn := .nil (zn g))) ?_
        refine dq 41 rfl (fun _ g u h => LWo.move (e_bool (x18.Gone != x19.Gone)) u.1 (hn := .nil (zn g))) ?_
        refine dq 42 rfl (fun _ g u h => LWo.guardNU (t := 41) u.2.1 h20 rfl rfl rfl rfl rfl (.nil (zn g))) ?_
        refine dq 43 rfl (fun _ g u h => LWo.guardNU (t := 41) u.2.1 h20 rfl rfl rfl rfl rfl (.nil (zn g))) ?_
        refine dq 44 rfl (fun _ g u h => LWo.guardNU (t := 41) u.1 h20 rfl rfl rfl rfl rfl (.nil (zn g))) ?_
        refine dq 45 rfl (fun _ g u h => LWo.guardNU (t := 41) u.1 h20 rfl rfl rfl rfl rfl (.nil (zn g))) ?_
        refine dq 46 rfl (fun _ g u h => LWo.guardNU (t := 41) u.1 h20 rfl rfl rfl rfl rfl (.nil (zn g))) ?_
        refine dq 47 rfl (fun _ g u h => LWo.guardNU (t := 41) u.2.1 h20 rfl rfl rfl rfl rfl (.nil (zn g))) ?_
        refine dq 48 rfl (fun _ g u h => LWo.guardNU (t := 41) u.2.1 h20 rfl rfl rfl rfl rfl (.nil (zn g))) ?_
        refine dq 49 rfl (fun _ g u h => LWo.guardNU (t := 41) u.1 h20 rfl rfl rfl rfl rfl (.nil (zn g))) ?_
        refine dq 50 rfl (fun _ g u h => LWo.guardNU (t := 41) u.1 h20 rfl rfl rfl rfl rfl (.nil (zn g))) ?_
        refine dq 51 rfl (fun _ g u h => LWo.guardNU (t := 41) u.1 h20 rfl rfl rfl rfl rfl (.nil (zn g))) ?_
        refine dq 52 rfl (fun _ g u h => LWo.guardNU (t := 41) u.1 h20 rfl rfl rfl rfl rfl (.nil (zn g))) ?_
        refine dq 53 rfl (fun _ g u h => LWo.guardNU (t := 41) u.1 h20 rfl rfl rfl rfl rfl (.nil (zn g))) ?_
        refine dq 54 rfl (fun _ g u h => LWo.pickTM (e_bool true) u.1 h20 rfl (hn := .nil (zn g))) ?_
        refine ⟨rfl, by kernel_rfl, hN14 (t0, t1, t5, true) _ ⟨rfl, rfl, rfl, rfl, trivial⟩ trivial h⟩
       ·have h := bF h20 h
        refine bk h fun x21 e21 h => ?_
        refine bk h fun x22 e22 h => ?_
        refine bk h fun x23 e23 h => ?_
        refine LWP.drawF (l := [_,_,_,_,_,_,_,_,_,_,_,_,_,_,_,_,_,_,_,_,_,_,_,_,_,_,_,_,_,_,_,_,_,_,_,_,_,_]) [] [0, 1, 5] [([0], []), ([5], []), ([17, 18], []), ([19], []), ([20], []), ([1], []), ([5], []), ([22, 23], []), ([24], []), ([25], []), ([21, 26], []), ([27], []), ([0, 28], []), ([5, 28], []), ([28, 29, 30], []), ([28, 31], []), ([28, 32], []), ([1, 28], []), ([5, 28], []), ([28, 34, 35], []), ([28, 36], []), ([28, 37], []), ([28, 33, 38], []), ([28, 39], []), ([40], []), ([0, 41], []), ([5, 41], []), ([41, 42, 43], []), ([41, 44], []), ([41, 45], []), ([1, 41], []), ([5, 41], []), ([41, 47, 48], []), ([41, 49], []), ([41, 50], []), ([41, 46, 51], []), ([41, 52], []), ([41, 53], [])] [0, 1, 5, 54] [] mixed (by kernel_rfl) rfl (by decide) ?_
        refine dq 17 rfl (fun _ g u h => LWo.move (e_Limpl_Write t0) u.1 (hn := .nil (zn g))) ?_
        refine dq 18 rfl (fun _ g u h => LWo.move (e_int t5) u.1 (hn := .nil (zn g))) ?_
        refine dq 19 rfl (fun _ g u h => LWo.indexM (f := e_impl_Write) e15 u_Limpl_Write s_impl_Write u.1 u.2.1 (hn := .nil (zn g))) ?_
        refine dq 20 rfl (fun _ g u h => LWo.fieldAddr _ u_impl_Write rfl s_int u.1 rfl (hn := .nil (zn g))) ?_
        refine dq 21 rfl (fun _ g u h => LWo.load1 (c := (e_int x15.Key)) g_int u.1 (hn := .nil (zn g))) ?_
        refine dq 22 rfl (fun _ g u h => LWo.move (e_Limpl_Write t1) u.1 (hn := .nil (zn g))) ?_
        refine dq 23 rfl (fun _ g u h => LWo.move (e_int t5) u.1 (hn := .nil (zn g))) ?_
        refine dq 24 rfl (fun _ g u h => LWo.indexM (f := e_impl_Write) e16 u_Limpl_Write s_impl_Write u.1 u.2.1 (hn := .nil (zn g))) ?_
        refine dq 25 rfl (fun _ g u h => LWo.fieldAddr _ u_impl_Write rfl s_int u.1 rfl (hn := .nil (zn g))) ?_
        refine dq 26 rfl (fun _ g u h => LWo.load1 (c := (e_int x16.Key)) g_int u.1 (hn := .nil (zn g))) ?_
        refine dq 27 rfl (fun _ g u h => LWo.int _ u.1 u.2.1 rfl (hn := .nil (zn g))) ?_
        refine dq 28 rfl (fun _ g u h => LWo.move (e_bool (x15.Key != x16.Key)) u.1 (hn := .nil (zn g))) ?_
        refine dq 29 rfl (fun _ g u h => LWo.guardY (t := 28) u.2.1 h17 rfl rfl (LWo.move (e_Limpl_Write t0) u.1 (hn := .nil (zn g)))) ?_
        refine dq 30 rfl (fun _ g u h => LWo.guardY (t := 28) u.2.1 h17 rfl rfl (LWo.move (e_int t5) u.1 (hn := .nil (zn g)))) ?_
        refine dq 31 rfl (fun _ g u h => LWo.guardY (t := 28) u.1 h17 rfl rfl (LWo.indexM (f := e_impl_Write) e18 u_Limpl_Write s_impl_Write u.2.1 u.2.2.1 (hn := .nil (zn g)))) ?_
        refine dq 32 rfl (fun _ g u h => LWo.guardY (t := 28) u.1 h17 rfl rfl (LWo.fieldAddr _ u_impl_Write rfl s_bool u.2.1 rfl (hn := .nil (zn g)))) ?_
        refine dq 33 rfl (fun _ g u h => LWo.guardY (t := 28) u.1 h17 rfl rfl (LWo.load1 (c := (e_bool x18.Gone)) g_bool u.2.1 (hn := .nil (zn g)))) ?_
        refine dq 34 rfl (fun _ g u h => LWo.guardY (t := 28) u.2.1 h17 rfl rfl (LWo.move (e_Limpl_Write t1) u.1 (hn := .nil (zn g)))) ?_
        refine dq 35 rfl (fun _ g u h => LWo.guardY (t := 28) u.2.1 h17 rfl rfl (LWo.move (e_int t5) u.1 (hn := .nil (zn g)))) ?_
        refine dq 36 rfl (fun _ g u h => LWo.guardY (t := 28) u.1 h17 rfl rfl (LWo.indexM (f := e_impl_Write) e19 u_Limpl_Write s_impl_Write u.2.1 u.2.2.1 (hn := .nil (zn g)))) ?_
        refine dq 37 rfl (fun _ g u h => LWo.guardY (t := 28) u.1 h17 rfl rfl (LWo.fieldAddr _ u_impl_Write rfl s_bool u.2.1 rfl (hn := .nil (zn g)))) ?_
        refine dq 38 rfl (fun _ g u h => LWo.guardY (t := 28) u.1 h17 rfl rfl (LWo.load1 (c := (e_bool x19.Gone)) g_bool u.2.1 (hn := .nil (zn g)))) ?_
        refine dq 39 rfl (fun _ g u h => LWo.guardY (t := 28) u.1 h17 rfl rfl (LWo.boolNe u_bool u.2.1 u.2.2.1 (hn := .nil (zn g)))) ?_
        refine dq 40 rfl (fun _ g u h => LWo.pickFM (e_bool (x18.Gone != x19.Gone)) u.1 h17 u.2.1 (hn := .nil (zn g))) ?_
        refine dq 41 rfl (fun _ g u h => LWo.move (e_bool (x18.Gone != x19.Gone)) u.1 (hn := .nil (zn g))) ?_
        refine dq 42 rfl (fun _ g u h => LWo.guardY (t := 41) u.2.1 h20 rfl rfl (LWo.move (e_Limpl_Write t0) u.1 (hn := .nil (zn g)))) ?_
        refine dq 43 rfl (fun _ g u h => LWo.guardY (t := 41) u.2.1 h20 rfl rfl (LWo.move (e_int t5) u.1 (hn := .nil (zn g)))) ?_
        refine dq 44 rfl (fun _ g u h => LWo.guardY (t := 41) u.1 h20 rfl rfl (LWo.indexM (f := e_impl_Write) e21 u_Limpl_Write s_impl_Write u.2.1 u.2.2.1 (hn := .nil (zn g)))) ?_
        refine dq 45 rfl (fun _ g u h => LWo.guardY (t := 41) u.1 h20 rfl rfl (LWo.fieldAddr _ u_impl_Write rfl s_Limpl_Value u.2.1 rfl (hn := .nil (zn g)))) ?_
        refine dq 46 rfl (fun _ g u h => LWo.guardY (t := 41) u.1 h20 rfl rfl (LWo.load1 (c := (e_Limpl_Value x21.Row)) g_Limpl_Value u.2.1 (hn := .nil (zn g)))) ?_
        refine dq 47 rfl (fun _ g u h => LWo.guardY (t := 41) u.2.1 h20 rfl rfl (LWo.move (e_Limpl_Write t1) u.1 (hn := .nil (zn g)))) ?_
        refine dq 48 rfl (fun _ g u h => LWo.guardY (t := 41) u.2.1 h20 rfl rfl (LWo.move (e_int t5) u.1 (hn := .nil (zn g)))) ?_
        refine dq 49 rfl (fun _ g u h => LWo.guardY (t := 41) u.1 h20 rfl rfl (LWo.indexM (f := e_impl_Write) e22 u_Limpl_Write s_impl_Write u.2.1 u.2.2.1 (hn := .nil (zn g)))) ?_
        refine dq 50 rfl (fun _ g u h => LWo.guardY (t := 41) u.1 h20 rfl rfl (LWo.fieldAddr _ u_impl_Write rfl s_Limpl_Value u.2.1 rfl (hn := .nil (zn g)))) ?_
        refine dq 51 rfl (fun _ g u h => LWo.guardY (t := 41) u.1 h20 rfl rfl (LWo.load1 (c := (e_Limpl_Value x22.Row)) g_Limpl_Value u.2.1 (hn := .nil (zn g)))) ?_
        refine dq 52 rfl (fun _ g u h => LWo.guardY (t := 41) u.1 h20 rfl rfl (LWo.vcall rfl (av2 u.2.1 u.2.2.1) (c_laws_sameRow _ _ _ e23) (.same (.same (.nil))) (hn := .nil (zn g)))) ?_
        refine dq 53 rfl (fun _ g u h => LWo.guardY (t := 41) u.1 h20 rfl rfl (LWo.not u.2.1 (hn := .nil (zn g)))) ?_
        refine dq 54 rfl (fun _ g u h => LWo.pickFM (e_bool (!x23)) u.1 h20 u.2.1 (hn := .nil (zn g))) ?_
        refine ⟨rfl, by kernel_rfl, hN14 (t0, t1, t5, (!x23)) _ ⟨rfl, rfl, rfl, rfl, trivial⟩ trivial h⟩
    ·have h := bF h12 h
     refine LWP.exit (hN6 () _ trivial trivial h)

def m_laws_sameLog_j2  : Option Bool :=
  some true
def m_laws_sameLog_j1 (k1 : (List S_impl_Entry) → (List S_impl_Entry) → Int → Option Bool) (t0 : (List S_impl_Entry)) (t1 : (List S_impl_Entry)) (t5 : Int) (t41 : Bool) : Option Bool :=
  bif t41 then (some false)
  else ((ckI (t5 + (1 : Int))).bind fun x23 =>
  k1 t0 t1 x23)
def m_laws_sameLog_l1 : Nat → (List S_impl_Entry) → (List S_impl_Entry) → Int → Option Bool
  | 0, _, _, _ => none
  | n1 + 1, t0, t1, t5 =>
    bif decide (t5 < (t0.length : Int)) then ((at? t0 t5).bind fun x15 =>
    (at? t1 t5).bind fun x16 =>
    bif (x15.Time != x16.Time) then (m_laws_sameLog_j1  (m_laws_sameLog_l1  n1) t0 t1 t5 true)
    else ((at? t0 t5).bind fun x18 =>
      (at? t1 t5).bind fun x19 =>
      (m_laws_sameWrites x18.Writes x19.Writes).bind fun x20 =>
      m_laws_sameLog_j1  (m_laws_sameLog_l1  n1) t0 t1 t5 (!x20)))
    else (m_laws_sameLog_j2  )
def m_laws_sameLog (a0 : (List S_impl_Entry)) (a1 : (List S_impl_Entry)) : Option Bool :=
  bif ((a0.length : Int) != (a1.length : Int)) then (some false)
  else (m_laws_sameLog_l1  (((a0.length : Int) - (0 : Int)).toNat + 1) a0 a1 (0 : Int))
theorem c_laws_sameLog (a0 : (List S_impl_Entry)) (a1 : (List S_impl_Entry)) (r : Bool) (h : m_laws_sameLog a0 a1 = some r) : Ret Try.prog f_laws_sameLog [e_Limpl_Entry a0, e_Limpl_Entry a1] (e_bool r) := by
  refine Does.goG [] F_laws_sameLog rfl e_laws_sameLog n_laws_sameLog rfl (rvs := [.tmp 4]) rfl rfl ?_
  intro w0 ok0 lent ρ0
  refine LWP.seq_k fun N1 hN1 => ?_
  refine LWP.region (l := [_]) ?_
  refine LWo.assign (e_bool false) rfl (hn := ?_)
  refine LWo.nil (hN1 _ ?_)
  refine LWP.seq_k fun N2 hN2 => ?_
  refine LWP.seq_k fun N3 hN3 => ?_
  refine LWP.region (l := [_,_,_,_,_]) ?_
  refine LWo.move (e_Limpl_Entry a0) rfl (hn := ?_)
  refine LWo.lenM (f := e_impl_Entry) (l := a0) u_Limpl_Entry rfl (hn := ?_)
  refine LWo.move (e_Limpl_Entry a1) rfl (hn := ?_)
  refine LWo.lenM (f := e_impl_Entry) (l := a1) u_Limpl_Entry rfl (hn := ?_)
  refine LWo.int _ rfl rfl rfl (hn := ?_)
  refine LWo.nil (hN3 _ ?_)
  refine LWP.cond_split rfl (fun h4 => ?_) (fun h4 => ?_)
  ·have h := bT h4 h
   refine LWP.seq_k fun N5 hN5 => ?_
   refine LWP.region (l := [_]) ?_
   refine LWo.assign (e_bool false) rfl (hn := ?_)
   refine LWo.nil (hN5 _ ?_)
   obtain rfl := Option.some.inj h
   refine LWP.ret (QG.mk (.inr rfl) (.cons (.tmp (x := (e_bool false)) rfl) (.nil)) (RetOK.one0 (.pure rfl) (by decide)) rfl rfl)
  ·have h := bF h4 h
   refine LWP.skip (hN2 _ ?_)
   refine LWP.join (α := Unit) (fun z : Unit => []) (fun z : Unit => []) (fun z : Unit => m_laws_sameLog_j2  ) r (fun _ => by simp [hkeys]) ?_ ?_
   ·rintro _ h
    replace h : m_laws_sameLog_j2   = some _ := h
    refine LWP.seq_k fun N24 hN24 => ?_
    refine LWP.region (l := [_]) ?_
    refine LWo.assign (e_bool true) rfl (hn := ?_)
    refine LWo.nil (hN24 _ ?_)
    obtain rfl := Option.some.inj h
    refine LWP.ret (QG.mk (.inr rfl) (.cons (.tmp (x := (e_bool true)) rfl) (.nil)) (RetOK.one0 (.pure rfl) (by decide)) rfl rfl)
   ·intro N6 hN6
    refine LWP.seq_k fun N7 hN7 => ?_
    refine LWP.region (l := [_]) ?_
    refine LWo.assign (e_int (0 : Int)) rfl (hn := ?_)
    refine LWo.nil (hN7 _ ?_)
    refine LWP.block ?_
    refine LWP.loopM (α := (List S_impl_Entry) × (List S_impl_Entry) × Int) (fun z : (List S_impl_Entry) × (List S_impl_Entry) × Int => [(0, (e_Limpl_Entry z.1)), (1, (e_Limpl_Entry z.2.1)), (5, (e_int z.2.2))]) (fun z : (List S_impl_Entry) × (List S_impl_Entry) × Int => []) (fun n1 (z : (List S_impl_Entry) × (List S_impl_Entry) × Int) => m_laws_sameLog_l1  n1 z.1 z.2.1 z.2.2) r _ (a0, a1, (0 : Int)) h (fun _ => rfl) (fun _ => by simp [hkeys]) ⟨rfl, rfl, rfl, trivial⟩ trivial ?_
    rintro n1 ⟨t0, t1, t5⟩ h N8 hN8
    replace h : m_laws_sameLog_l1  (n1 + 1) t0 t1 t5 = some _ := h
    refine LWP.seq_k fun N10 hN10 => ?_
    refine LWP.seq_k fun N11 hN11 => ?_
    refine LWP.region (l := [_,_,_,_]) ?_
    refine LWo.move (e_int t5) rfl (hn := ?_)
    refine LWo.move (e_Limpl_Entry t0) rfl (hn := ?_)
    refine LWo.lenM (f := e_impl_Entry) (l := t0) u_Limpl_Entry rfl (hn := ?_)
    refine LWo.int _ rfl rfl rfl (hn := ?_)
    refine LWo.nil (hN11 _ ?_)
    refine LWP.cond_split rfl (fun h12 => ?_) (fun h12 => ?_)
    ·have h := bT h12 h
     refine LWP.skip (hN10 _ ?_)
     refine LWP.seq_k fun N13 hN13 => ?_
     refine LWP.block ?_
     refine LWP.join (α := (List S_impl_Entry) × (List S_impl_Entry) × Int × Bool) (fun z : (List S_impl_Entry) × (List S_impl_Entry) × Int × Bool => [(0, (e_Limpl_Entry z.1)), (1, (e_Limpl_Entry z.2.1)), (5, (e_int z.2.2.1)), (41, (e_bool z.2.2.2))]) (fun z : (List S_impl_Entry) × (List S_impl_Entry) × Int × Bool => []) (fun z : (List S_impl_Entry) × (List S_impl_Entry) × Int × Bool => m_laws_sameLog_j1  (m_laws_sameLog_l1  n1) z.1 z.2.1 z.2.2.1 z.2.2.2) r (fun _ => by simp [hkeys]) ?_ ?_
     ·rintro ⟨t0, t1, t5, t41⟩ h
      replace h : m_laws_sameLog_j1  (m_laws_sameLog_l1  n1) t0 t1 t5 t41 = some _ := h
      refine LWP.cond_split rfl (fun h21 => ?_) (fun h21 => ?_)
      ·have h := bT h21 h
       refine LWP.seq_k fun N22 hN22 => ?_
       refine LWP.region (l := [_]) ?_
       refine LWo.assign (e_bool false) rfl (hn := ?_)
       refine LWo.nil (hN22 _ ?_)
       obtain rfl := Option.some.inj h
       refine LWP.ret (QG.mk (.inr rfl) (.cons (.tmp (x := (e_bool false)) rfl) (.nil)) (RetOK.one0 (.pure rfl) (by decide)) rfl rfl)
      ·have h := bF h21 h
       refine LWP.skip (hN13 _ ?_)
       refine LWP.region (l := [_,_,_]) ?_
       refine LWo.move (e_int t5) rfl (hn := ?_)
       refine bk h fun x23 e23 h => ?_
       refine LWo.int _ rfl rfl (add_ck e23) (hn := ?_)
       refine LWo.assign (e_int x23) rfl (hn := ?_)
       refine LWo.nil (hN8 (t0, t1, x23) _ ⟨rfl, rfl, rfl, trivial⟩ trivial h)
     ·intro N14 hN14
      refine bk h fun x15 e15 h => ?_
      refine bk h fun x16 e16 h => ?_
      refine bS ((x15.Time != x16.Time)) (fun h17 => ?_) (fun h17 => ?_)
      ·have h := bT h17 h
       refine LWP.drawF (l := [_,_,_,_,_,_,_,_,_,_,_,_,_,_,_,_,_,_,_,_,_,_,_,_,_]) [] [0, 1, 5] [([0], []), ([5], []), ([17, 18], []), ([19], []), ([20], []), ([1], []), ([5], []), ([22, 23], []), ([24], []), ([25], []), ([21, 26], []), ([27], []), ([0, 28], []), ([5, 28], []), ([28, 29, 30], []), ([28, 31], []), ([28, 32], []), ([1, 28], []), ([5, 28], []), ([28, 34, 35], []), ([28, 36], []), ([28, 37], []), ([28, 33, 38], []), ([28, 39], []), ([28, 40], [])] [0, 1, 5, 41] [] mixed (by kernel_rfl) rfl (by decide) ?_
       refine dq 17 rfl (fun _ g u h => LWo.move (e_Limpl_Entry t0) u.1 (hn := .nil (zn g))) ?_
       refine dq 18 rfl (fun _ g u h => LWo.move (e_int t5) u.1 (hn := .nil (zn g))) ?_
       refine dq 19 rfl (fun _ g u h => LWo.indexM (f := e_impl_Entry) e15 u_Limpl_Entry s_impl_Entry u.1 u.2.1 (hn := .nil (zn g))) ?_
       refine dq 20 rfl (fun _ g u h => LWo.fieldAddr _ u_impl_Entry rfl s_int u.1 rfl (hn := .nil (zn g))) ?_
       refine dq 21 rfl (fun _ g u h => LWo.load1 (c := (e_int x15.Time)) g_int u.1 (hn := .nil (zn g))) ?_
       refine dq 22 rfl (fun _ g u h => LWo.move (e_Limpl_Entry t1) u.1 (hn := .nil (zn g))) ?_
       refine dq 23 rfl (fun _ g u h => LWo.move (e_int t5) u.1 (hn := .nil (zn g))) ?_
       refine dq 24 rfl (fun _ g u h => LWo.indexM (f := e_impl_Entry) e16 u_Limpl_Entry s_impl_Entry u.1 u.2.1 (hn := .nil (zn g))) ?_
       refine dq 25 rfl (fun _ g u h => LWo.fieldAddr _ u_impl_Entry rfl s_int u.1 rfl (hn := .nil (zn g))) ?_
       refine dq 26 rfl (fun _ g u h => LWo.load1 (c := (e_int x16.Time)) g_int u.1 (hn := .nil (zn g))) ?_
       refine dq 27 rfl (fun _ g u h => LWo.int _ u.1 u.2.1 rfl (hn := .nil (zn g))) ?_
       refine dq 28 rfl (fun _ g u h => LWo.move (e_bool (x15.Time != x16.Time)) u.1 (hn := .nil (zn g))) ?_
       refine dq 29 rfl (fun _ g u h => LWo.guardNU (t := 28) u.2.1 h17 rfl rfl rfl rfl rfl (.nil (zn g))) ?_
       refine dq 30 rfl (fun _ g u h => LWo.guardNU (t := 28) u.2.1 h17 rfl rfl rfl rfl rfl (.nil (zn g))) ?_
       refine dq 31 rfl (fun _ g u h => LWo.guardNU (t := 28) u.1 h17 rfl rfl rfl rfl rfl (.nil (zn g))) ?_
       refine dq 32 rfl (fun _ g u h => LWo.guardNU (t := 28) u.1 h17 rfl rfl rfl rfl rfl (.nil (zn g))) ?_
       refine dq 33 rfl (fun _ g u h => LWo.guardNU (t := 28) u.1 h17 rfl rfl rfl rfl rfl (.nil (zn g))) ?_
       refine dq 34 rfl (fun _ g u h => LWo.guardNU (t := 28) u.2.1 h17 rfl rfl rfl rfl rfl (.nil (zn g))) ?_
       refine dq 35 rfl (fun _ g u h => LWo.guardNU (t := 28) u.2.1 h17 rfl rfl rfl rfl rfl (.nil (zn g))) ?_
       refine dq 36 rfl (fun _ g u h => LWo.guardNU (t := 28) u.1 h17 rfl rfl rfl rfl rfl (.nil (zn g))) ?_
       refine dq 37 rfl (fun _ g u h => LWo.guardNU (t := 28) u.1 h17 rfl rfl rfl rfl rfl (.nil (zn g))) ?_
       refine dq 38 rfl (fun _ g u h => LWo.guardNU (t := 28) u.1 h17 rfl rfl rfl rfl rfl (.nil (zn g))) ?_
       refine dq 39 rfl (fun _ g u h => LWo.guardNU (t := 28) u.1 h17 rfl rfl rfl rfl rfl (.nil (zn g))) ?_
       refine dq 40 rfl (fun _ g u h => LWo.guardNU (t := 28) u.1 h17 rfl rfl rfl rfl rfl (.nil (zn g))) ?_
       refine dq 41 rfl (fun _ g u h => LWo.pickTM (e_bool true) u.1 h17 rfl (hn := .nil (zn g))) ?_
       refine ⟨rfl, by kernel_rfl, hN14 (t0, t1, t5, true) _ ⟨rfl, rfl, rfl, rfl, trivial⟩ trivial h⟩
      ·have h := bF h17 h
       refine bk h fun x18 e18 h => ?_
       refine bk h fun x19 e19 h => ?_
       refine bk h fun x20 e20 h => ?_
       refine LWP.drawF (l := [_,_,_,_,_,_,_,_,_,_,_,_,_,_,_,_,_,_,_,_,_,_,_,_,_]) [] [0, 1, 5] [([0], []), ([5], []), ([17, 18], []), ([19], []), ([20], []), ([1], []), ([5], []), ([22, 23], []), ([24], []), ([25], []), ([21, 26], []), ([27], []), ([0, 28], []), ([5, 28], []), ([28, 29, 30], []), ([28, 31], []), ([28, 32], []), ([1, 28], []), ([5, 28], []), ([28, 34, 35], []), ([28, 36], []), ([28, 37], []), ([28, 33, 38], []), ([28, 39], []), ([28, 40], [])] [0, 1, 5, 41] [] mixed (by kernel_rfl) rfl (by decide) ?_
       refine dq 17 rfl (fun _ g u h => LWo.move (e_Limpl_Entry t0) u.1 (hn := .nil (zn g))) ?_
       refine dq 18 rfl (fun _ g u h => LWo.move (e_int t5) u.1 (hn := .nil (zn g))) ?_
       refine dq 19 rfl (fun _ g u h => LWo.indexM (f := e_impl_Entry) e15 u_Limpl_Entry s_impl_Entry u.1 u.2.1 (hn := .nil (zn g))) ?_
       refine dq 20 rfl (fun _ g u h => LWo.fieldAddr _ u_impl_Entry rfl s_int u.1 rfl (hn := .nil (zn g))) ?_
       refine dq 21 rfl (fun _ g u h => LWo.load1 (c := (e_int x15.Time)) g_int u.1 (hn := .nil (zn g))) ?_
       refine dq 22 rfl (fun _ g u h => LWo.move (e_Limpl_Entry t1) u.1 (hn := .nil (zn g))) ?_
       refine dq 23 rfl (fun _ g u h => LWo.move (e_int t5) u.1 (hn := .nil (zn g))) ?_
       refine dq 24 rfl (fun _ g u h => LWo.indexM (f := e_impl_Entry) e16 u_Limpl_Entry s_impl_Entry u.1 u.2.1 (hn := .nil (zn g))) ?_
       refine dq 25 rfl (fun _ g u h => LWo.fieldAddr _ u_impl_Entry rfl s_int u.1 rfl (hn := .nil (zn g))) ?_
       refine dq 26 rfl (fun _ g u h => LWo.load1 (c := (e_int x16.Time)) g_int u.1 (hn := .nil (zn g))) ?_
       refine dq 27 rfl (fun _ g u h => LWo.int _ u.1 u.2.1 rfl (hn := .nil (zn g))) ?_
       refine dq 28 rfl (fun _ g u h => LWo.move (e_bool (x15.Time != x16.Time)) u.1 (hn := .nil (zn g))) ?_
       refine dq 29 rfl (fun _ g u h => LWo.guardY (t := 28) u.2.1 h17 rfl rfl (LWo.move (e_Limpl_Entry t0) u.1 (hn := .nil (zn g)))) ?_
       refine dq 30 rfl (fun _ g u h => LWo.guardY (t := 28) u.2.1 h17 rfl rfl (LWo.move (e_int t5) u.1 (hn := .nil (zn g)))) ?_
       refine dq 31 rfl (fun _ g u h => LWo.guardY (t := 28) u.1 h17 rfl rfl (LWo.indexM (f := e_impl_Entry) e18 u_Limpl_Entry s_impl_Entry u.2.1 u.2.2.1 (hn := .nil (zn g)))) ?_
       refine dq 32 rfl (fun _ g u h => LWo.guardY (t := 28) u.1 h17 rfl rfl (LWo.fieldAddr _ u_impl_Entry rfl s_Limpl_Write u.2.1 rfl (hn := .nil (zn g)))) ?_
       refine dq 33 rfl (fun _ g u h => LWo.guardY (t := 28) u.1 h17 rfl rfl (LWo.load1 (c := (e_Limpl_Write x18.Writes)) g_Limpl_Write u.2.1 (hn := .nil (zn g)))) ?_
       refine dq 34 rfl (fun _ g u h => LWo.guardY (t := 28) u.2.1 h17 rfl rfl (LWo.move (e_Limpl_Entry t1) u.1 (hn := .nil (zn g)))) ?_
       refine dq 35 rfl (fun _ g u h => LWo.guardY (t := 28) u.2.1 h17 rfl rfl (LWo.move (e_int t5) u.1 (hn := .nil (zn g)))) ?_
       refine dq 36 rfl (fun _ g u h => LWo.guardY (t := 28) u.1 h17 rfl rfl (LWo.indexM (f := e_impl_Entry) e19 u_Limpl_Entry s_impl_Entry u.2.1 u.2.2.1 (hn := .nil (zn g)))) ?_
       refine dq 37 rfl (fun _ g u h => LWo.guardY (t := 28) u.1 h17 rfl rfl (LWo.fieldAddr _ u_impl_Entry rfl s_Limpl_Write u.2.1 rfl (hn := .nil (zn g)))) ?_
       refine dq 38 rfl (fun _ g u h => LWo.guardY (t := 28) u.1 h17 rfl rfl (LWo.load1 (c := (e_Limpl_Write x19.Writes)) g_Limpl_Write u.2.1 (hn := .nil (zn g)))) ?_
       refine dq 39 rfl (fun _ g u h => LWo.guardY (t := 28) u.1 h17 rfl rfl (LWo.vcall rfl (av2 u.2.1 u.2.2.1) (c_laws_sameWrites _ _ _ e20) (.same (.same (.nil))) (hn := .nil (zn g)))) ?_
       refine dq 40 rfl (fun _ g u h => LWo.guardY (t := 28) u.1 h17 rfl rfl (LWo.not u.2.1 (hn := .nil (zn g)))) ?_
       refine dq 41 rfl (fun _ g u h => LWo.pickFM (e_bool (!x20)) u.1 h17 u.2.1 (hn := .nil (zn g))) ?_
       refine ⟨rfl, by kernel_rfl, hN14 (t0, t1, t5, (!x20)) _ ⟨rfl, rfl, rfl, rfl, trivial⟩ trivial h⟩
    ·have h := bF h12 h
     refine LWP.exit (hN6 () _ trivial trivial h)

def m_impl_ValueOk (a0 : S_impl_Value) : Option Bool :=
  (m_impl_Value_ok a0).bind fun x3 =>
  some x3
theorem c_impl_ValueOk (a0 : S_impl_Value) (r : Bool) (h : m_impl_ValueOk a0 = some r) : Ret Try.prog f_impl_ValueOk [e_impl_Value a0] (e_bool r) := by
  refine Does.goG [] F_impl_ValueOk rfl e_impl_ValueOk n_impl_ValueOk rfl (rvs := [.tmp 2]) rfl rfl ?_
  intro w0 ok0 lent ρ0
  refine LWP.seq_k fun N1 hN1 => ?_
  refine LWP.region (l := [_,_]) ?_
  refine LWo.boxF (e_impl_Value a0) rfl rfl rfl (hn := ?_)
  refine LWo.assign (e_bool false) rfl (hn := ?_)
  refine LWo.nil (hN1 _ ?_)
  refine LWP.seq_k fun N2 hN2 => ?_
  refine LWP.region (l := [_,_,_]) ?_
  refine LWo.loadN ((e_impl_Value a0)).cells g_impl_Value s_impl_Value rfl (Nat.le_of_ble_eq_true rfl) rfl (hn := ?_)
  refine bk h fun x3 e3 h => ?_
  refine LWo.vcall rfl rfl (c_impl_Value_ok _ _ e3) (.same (.nil)) (hn := ?_)
  refine LWo.assign (e_bool x3) rfl (hn := ?_)
  refine LWo.nil (hN2 _ ?_)
  obtain rfl := Option.some.inj h
  refine LWP.ret (QG.mk (.inr rfl) (.cons (.tmp (x := (e_bool x3)) rfl) (.nil)) (RetOK.one0 (.pure rfl) (by decide)) rfl rfl)

def m_laws_alive_j1 (t0 : Bool) : Option Bool :=
  some t0
def m_laws_alive  : Option Bool :=
  (m_impl_ValueOk (⟨(1 : Int), (3 : Int), (⟨#[]⟩ : ByteArray)⟩ : S_impl_Value)).bind fun x3 =>
  bif x3 then ((m_impl_ValueOk (⟨(9 : Int), (0 : Int), (⟨#[]⟩ : ByteArray)⟩ : S_impl_Value)).bind fun x5 =>
    m_laws_alive_j1  (!x5))
  else (m_laws_alive_j1  false)
theorem c_laws_alive  (r : Bool) (h : m_laws_alive  = some r) : Ret Try.prog f_laws_alive [] (e_bool r) := by
  refine Does.goG [] F_laws_alive rfl e_laws_alive n_laws_alive rfl (rvs := [.tmp 0]) rfl rfl ?_
  intro w0 ok0 lent ρ0
  refine LWP.seq_k fun N1 hN1 => ?_
  refine LWP.region (l := [_]) ?_
  refine LWo.assign (e_bool false) rfl (hn := ?_)
  refine LWo.nil (hN1 _ ?_)
  refine LWP.join (α := Bool) (fun z : Bool => [(0, (e_bool z))]) (fun z : Bool => []) (fun z : Bool => m_laws_alive_j1  z) r (fun _ => by simp [hkeys]) ?_ ?_
  ·rintro t0 h
   replace h : m_laws_alive_j1  t0 = some _ := h
   obtain rfl := Option.some.inj h
   refine LWP.ret (QG.mk (.inr rfl) (.cons (.tmp (x := (e_bool t0)) rfl) (.nil)) (RetOK.one0 (.pure rfl) (by decide)) rfl rfl)
  ·intro N2 hN2
   refine LWP.region (l := [_,_,_,_,_,_,_,_]) ?_
   refine LWo.build_impl_Value (parts := [_, _]) (⟨(1 : Int), (3 : Int), (⟨#[]⟩ : ByteArray)⟩ : S_impl_Value) rfl rfl rfl .refl (hn := ?_)
   refine bk h fun x3 e3 h => ?_
   refine LWo.vcall rfl rfl (c_impl_ValueOk _ _ e3) (.same (.nil)) (hn := ?_)
   refine LWo.move (e_bool x3) rfl (hn := ?_)
   refine LWo.byCases (t := 3) _ rfl (fun h4 => ?_) (fun h4 => ?_)
   ·have h := bT h4 h
    refine LWo.guardY (t := 3) rfl h4 rfl rfl ?_
    refine LWo.build_impl_Value (parts := [_]) (⟨(9 : Int), (0 : Int), (⟨#[]⟩ : ByteArray)⟩ : S_impl_Value) rfl rfl rfl .refl (hn := ?_)
    refine bk h fun x5 e5 h => ?_
    refine LWo.guardY (t := 3) rfl h4 rfl rfl ?_
    refine LWo.vcall rfl rfl (c_impl_ValueOk _ _ e5) (.same (.nil)) (hn := ?_)
    refine LWo.guardY (t := 3) rfl h4 rfl rfl ?_
    refine LWo.not rfl (hn := ?_)
    refine LWo.pickTM (e_bool (!x5)) rfl h4 rfl (hn := ?_)
    refine LWo.assign (e_bool (!x5)) rfl (hn := ?_)
    refine LWo.nil (hN2 (!x5) _ ⟨rfl, trivial⟩ trivial h)
   ·have h := bF h4 h
    refine LWo.guardNU (t := 3) rfl h4 rfl rfl rfl rfl rfl ?_
    refine LWo.guardNU (t := 3) rfl h4 rfl rfl rfl rfl rfl ?_
    refine LWo.guardNU (t := 3) rfl h4 rfl rfl rfl rfl rfl ?_
    refine LWo.pickFM (e_bool false) rfl h4 rfl (hn := ?_)
    refine LWo.assign (e_bool false) rfl (hn := ?_)
    refine LWo.nil (hN2 false _ ⟨rfl, trivial⟩ trivial h)

theorem cc_slices_Clip_Limpl_Version_impl_Version (xs : List LV) : Does Try.prog f_slices_Clip_Limpl_Version_impl_Version [.own 0 0 xs.length] [(0, { kind := .fro, sz := 4, elems := xs })] (fun r h => r = .nw 4 xs false ∧ h = []) := by
  refine Does.go [0] F_slices_Clip_Limpl_Version_impl_Version rfl e_slices_Clip_Limpl_Version_impl_Version n_slices_Clip_Limpl_Version_impl_Version rfl (ts := [2]) rfl rfl rfl ?_
  intro w0 ok0 lent ρ0
  refine LWP.seq_k fun N1 hN1 => ?_
  refine LWP.region (l := [_]) ?_
  refine LWo.assign _ rfl (hn := ?_)
  refine LWo.nil (hN1 _ ?_)
  refine LWP.seq_k fun N2 hN2 => ?_
  refine LWP.region (l := [_,_,_,_,_,_,_]) ?_
  refine LWo.move _ rfl (hn := ?_)
  refine LWo.move _ rfl (hn := ?_)
  refine LWo.len u_Limpl_Version rfl (hn := ?_)
  refine LWo.move _ rfl (hn := ?_)
  refine LWo.len u_Limpl_Version rfl (hn := ?_)
  refine LWo.cutOwn (l := 0) (h := xs.length) u_Limpl_Version s_impl_Version rfl rfl rfl rfl ⟨_, rfl⟩ ⟨_, _, rfl, Nat.le_refl _, Nat.le_refl _⟩ (.inr (by simp)) (Nat.zero_le _) (Nat.le_refl _) rfl rfl (hn := ?_)
  refine LWo.assign _ rfl (hn := ?_)
  refine LWo.nil (hN2 _ ?_)
  refine LWP.ret (QRet.own1 (.inr rfl) rfl rfl rfl rfl (by simp) ⟨?_, rfl⟩)
  clear hN1 hN2
  exact congrArg (fun l => LV.nw 4 l false) (by simp)
def m_slices_Clip_Limpl_Version_impl_Version_o (o0 : List S_impl_Version) : Option (List S_impl_Version) := some o0
theorem c_slices_Clip_Limpl_Version_impl_Version_o (o0 : List S_impl_Version) (r : List S_impl_Version) (h : m_slices_Clip_Limpl_Version_impl_Version_o o0 = some r) : Does Try.prog f_slices_Clip_Limpl_Version_impl_Version [.own 0 0 o0.length] [(0, lob 4 e_impl_Version o0)] (fun x hh => x = .nw 4 (r.map e_impl_Version) false ∧ hh = []) := by
  cases h
  have := cc_slices_Clip_Limpl_Version_impl_Version (o0.map e_impl_Version)
  rw [List.length_map] at this
  exact this



def m_slices_Clip_Limpl_Version_impl_Version (a0 : (List S_impl_Version)) : Option (List S_impl_Version) :=
  (cut3? a0 (0 : Int) (a0.length : Int) (a0.length : Int)).bind fun x3 =>
  some x3
theorem c_slices_Clip_Limpl_Version_impl_Version (a0 : (List S_impl_Version)) (r : (List S_impl_Version)) (h : m_slices_Clip_Limpl_Version_impl_Version a0 = some r) : Ret Try.prog f_slices_Clip_Limpl_Version_impl_Version [e_Limpl_Version a0] (e_Limpl_Version r) := by
  refine Does.goG [] F_slices_Clip_Limpl_Version_impl_Version rfl e_slices_Clip_Limpl_Version_impl_Version n_slices_Clip_Limpl_Version_impl_Version rfl (rvs := [.tmp 2]) rfl rfl ?_
  intro w0 ok0 lent ρ0
  refine LWP.seq_k fun N1 hN1 => ?_
  refine LWP.region (l := [_]) ?_
  refine LWo.assign _ rfl (hn := ?_)
  refine LWo.weakT 2 (e_Limpl_Version ([] : (List S_impl_Version))) rfl .nil ?_
  refine LWo.nil (hN1 _ ?_)
  refine LWP.seq_k fun N2 hN2 => ?_
  refine LWP.region (l := [_,_,_,_,_,_,_]) ?_
  refine LWo.move (e_Limpl_Version a0) rfl (hn := ?_)
  refine LWo.move (e_Limpl_Version a0) rfl (hn := ?_)
  refine LWo.lenM (f := e_impl_Version) (l := a0) u_Limpl_Version rfl (hn := ?_)
  refine LWo.move (e_Limpl_Version a0) rfl (hn := ?_)
  refine LWo.lenM (f := e_impl_Version) (l := a0) u_Limpl_Version rfl (hn := ?_)
  refine bk h fun x3 e3 h => ?_
  refine LWo.cutM3 (f := e_impl_Version) e3 u_Limpl_Version s_impl_Version rfl rfl ⟨_, rfl⟩ ⟨_, rfl⟩ (hn := ?_)
  refine LWo.assign (e_Limpl_Version x3) rfl (hn := ?_)
  refine LWo.nil (hN2 _ ?_)
  obtain rfl := Option.some.inj h
  refine LWP.ret (QG.mk (.inr rfl) (.cons (.tmp (x := (e_Limpl_Version x3)) rfl) (.nil)) (RetOK.one0 (.pure rfl) (by decide)) rfl rfl)

def m_impl_versionsCopy_j1 (o1003 : (List S_impl_Version)) : Option (List S_impl_Version) :=
  (m_slices_Clip_Limpl_Version_impl_Version_o o1003).bind fun x20 =>
  some x20
def m_impl_versionsCopy_l1 : Nat → (List S_impl_Version) → Int → Int → (List S_impl_Version) → Option (List S_impl_Version)
  | 0, _, _, _, _ => none
  | n1 + 1, t6, t7, t8, o1003 =>
    bif decide (t8 < t7) then ((at? t6 t8).bind fun x12 =>
    lt (x12) fun y13 =>
    (m_impl_clone_impl_Value y13.Row).bind fun x15 =>
    lt ({ y13 with Row := x15 }) fun y16 =>
    (app? o1003 ([y16] : (List S_impl_Version))).bind fun x17 =>
    (ckI (t8 + (1 : Int))).bind fun x18 =>
    (m_impl_versionsCopy_l1  n1) t6 t7 x18 x17)
    else (m_impl_versionsCopy_j1  o1003)
def m_impl_versionsCopy (a0 : (List S_impl_Version)) : Option (List S_impl_Version) :=
  m_impl_versionsCopy_l1  (((a0.length : Int) - (0 : Int)).toNat + 1) a0 (a0.length : Int) (0 : Int) ([] : (List S_impl_Version))
theorem c_impl_versionsCopy (a0 : (List S_impl_Version)) (r : (List S_impl_Version)) (h : m_impl_versionsCopy a0 = some r) : Ret Try.prog f_impl_versionsCopy [e_Limpl_Version a0] (.nw 4 (r.map e_impl_Version) false) := by
  refine Does.goG [] F_impl_versionsCopy rfl e_impl_versionsCopy n_impl_versionsCopy rfl (rvs := [.tmp 2]) rfl rfl ?_
  intro w0 ok0 lent ρ0
  refine LWP.seq_k fun N1 hN1 => ?_
  refine LWP.region (l := [_]) ?_
  refine LWo.assign _ rfl (hn := ?_)
  refine LWo.ownNil 2 1002 4 rfl rfl rfl ?_
  refine LWo.known 2 (.own 1002 0 ([] : (List S_impl_Version)).length) rfl ?_
  refine LWo.nil (hN1 _ ?_)
  refine LWP.seq_k fun N2 hN2 => ?_
  refine LWP.region (l := [_]) ?_
  refine LWo.assign _ rfl (hn := ?_)
  refine LWo.ownNil 3 1003 4 rfl rfl rfl ?_
  refine LWo.known 3 (.own 1003 0 ([] : (List S_impl_Version)).length) rfl ?_
  refine LWo.nil (hN2 _ ?_)
  refine LWP.join (α := (List S_impl_Version)) (fun z : (List S_impl_Version) => [(3, (.own 1003 0 (z).length))]) (fun z : (List S_impl_Version) => [(1003, (lob 4 e_impl_Version z))]) (fun z : (List S_impl_Version) => m_impl_versionsCopy_j1  z) r (fun _ => by simp [hkeys]) ?_ ?_
  ·rintro o1003 h
   replace h : m_impl_versionsCopy_j1  o1003 = some _ := h
   refine LWP.seq_k fun N19 hN19 => ?_
   refine LWP.region (l := [_,_,_]) ?_
   refine LWo.move (.own 1003 0 (o1003).length) rfl (hn := ?_)
   refine bk h fun x20 e20 h => ?_
   refine LWo.tcallN (e := e_impl_Version) (e' := e_impl_Version) 1022 rfl rfl (c_slices_Clip_Limpl_Version_impl_Version_o _ _ e20) (fun _ => rfl) rfl rfl rfl rfl (hn := ?_)
   refine LWo.assign (.own 1022 0 (x20).length) rfl (hn := ?_)
   refine LWo.nil (hN19 _ ?_)
   obtain rfl := Option.some.inj h
   refine LWP.ret (QG.mk (.inr rfl) (.cons (.tmp (x := (.own 1022 0 (x20).length)) rfl) (.nil)) (RetOK.one0 (.nwM rfl rfl) (by decide)) rfl rfl)
  ·intro N3 hN3
   refine LWP.seq_k fun N4 hN4 => ?_
   refine LWP.region (l := [_,_,_]) ?_
   refine LWo.move (e_Limpl_Version a0) rfl (hn := ?_)
   refine LWo.lenM (f := e_impl_Version) (l := a0) u_Limpl_Version rfl (hn := ?_)
   refine LWo.move (e_int (0 : Int)) rfl (hn := ?_)
   refine LWo.nil (hN4 _ ?_)
   refine LWP.block ?_
   refine LWP.loopM (α := (List S_impl_Version) × Int × Int × (List S_impl_Version)) (fun z : (List S_impl_Version) × Int × Int × (List S_impl_Version) => [(3, (.own 1003 0 (z.2.2.2).length)), (6, (e_Limpl_Version z.1)), (7, (e_int z.2.1)), (8, (e_int z.2.2.1))]) (fun z : (List S_impl_Version) × Int × Int × (List S_impl_Version) => [(1003, (lob 4 e_impl_Version z.2.2.2))]) (fun n1 (z : (List S_impl_Version) × Int × Int × (List S_impl_Version)) => m_impl_versionsCopy_l1  n1 z.1 z.2.1 z.2.2.1 z.2.2.2) r _ (a0, (a0.length : Int), (0 : Int), ([] : (List S_impl_Version))) h (fun _ => rfl) (fun _ => by simp [hkeys]) ⟨rfl, rfl, rfl, rfl, trivial⟩ ⟨rfl, trivial⟩ ?_
   rintro n1 ⟨t6, t7, t8, o1003⟩ h N5 hN5
   replace h : m_impl_versionsCopy_l1  (n1 + 1) t6 t7 t8 o1003 = some _ := h
   refine LWP.seq_k fun N7 hN7 => ?_
   refine LWP.region (l := [_]) ?_
   refine LWo.int _ rfl rfl rfl (hn := ?_)
   refine LWo.nil (hN7 _ ?_)
   refine LWP.seq_k fun N8 hN8 => ?_
   refine LWP.cond_split rfl (fun h9 => ?_) (fun h9 => ?_)
   ·have h := bT h9 h
    refine LWP.skip (hN8 _ ?_)
    refine LWP.seq_k fun N10 hN10 => ?_
    refine LWP.block ?_
    refine LWP.seq_k fun N11 hN11 => ?_
    refine LWP.region (l := [_,_,_,_]) ?_
    refine bk h fun x12 e12 h => ?_
    refine LWo.indexM (f := e_impl_Version) e12 u_Limpl_Version s_impl_Version rfl rfl (hn := ?_)
    refine LWo.loadN ((e_impl_Version x12)).cells g_impl_Version s_impl_Version rfl (Nat.le_of_ble_eq_true rfl) rfl (hn := ?_)
    refine LWo.alloc_impl_Version 5 rfl (hn := ?_)
    refine lk h fun y13 e13 h => ?_
    refine LWo.storeW (y := (⟨(0 : Int), (0 : Int), (0 : Int), []⟩ : S_impl_Version)) y13 s_impl_Version rfl rfl rfl rfl rfl rfl (by rw [e13]; exact .refl) rfl (hn := ?_)
    refine LWo.nil (hN11 _ ?_)
    refine LWP.seq_k fun N14 hN14 => ?_
    refine LWP.region (l := [_,_,_,_,_]) ?_
    refine LWo.fieldPtr u_impl_Version rfl s_Limpl_Value rfl rfl (hn := ?_)
    refine LWo.loadV1 (e_Limpl_Value y13.Row)  g_Limpl_Value rfl rfl rfl (hn := ?_)
    refine bk h fun x15 e15 h => ?_
    refine LWo.vcall rfl rfl (c_impl_clone_impl_Value _ _ e15) (.same (.nil)) (hn := ?_)
    refine LWo.fieldPtr u_impl_Version rfl s_Limpl_Value rfl rfl (hn := ?_)
    refine lk h fun y16 e16 h => ?_
    refine LWo.storeW (y := y13) y16 s_Limpl_Value rfl rfl rfl rfl rfl rfl (by rw [e16]; exact .refl) rfl (hn := ?_)
    refine LWo.nil (hN14 _ ?_)
    refine LWP.region (l := [_,_,_,_,_]) ?_
    refine LWo.move (.own 1003 0 (o1003).length) rfl (hn := ?_)
    refine LWo.loadVN ((e_impl_Version y16)).cells  g_impl_Version s_impl_Version rfl rfl rfl rfl (hn := ?_)
    refine LWo.lit (ops := [_]) [(e_impl_Version y16)] u_Limpl_Version s_impl_Version z_impl_Version rfl rfl rfl rfl rfl rfl (hn := ?_)
    refine bk h fun x17 e17 h => ?_
    refine LWo.appendM (f := e_impl_Version) e17 rfl u_Limpl_Version u_Limpl_Version (fun _ h => by cases h) s_impl_Version i_impl_Version rfl rfl rfl (.sl rfl) rfl rfl (hn := ?_)
    refine LWo.assign (.own 1003 0 (x17).length) rfl (hn := ?_)
    refine LWo.nil (hN10 _ ?_)
    refine LWP.region (l := [_,_]) ?_
    refine bk h fun x18 e18 h => ?_
    refine LWo.int _ rfl rfl (add_ck e18) (hn := ?_)
    refine LWo.move (e_int x18) rfl (hn := ?_)
    refine LWo.nil (hN5 (t6, t7, x18, x17) _ ⟨rfl, rfl, rfl, rfl, trivial⟩ ⟨rfl, trivial⟩ h)
   ·have h := bF h9 h
    refine LWP.exit (hN3 o1003 _ ⟨rfl, trivial⟩ ⟨rfl, trivial⟩ h)

def m_slices_insertionSortCmpFunc_impl_Version_j2 (p3 : S_impl_Version → S_impl_Version → Option Int) (k1 : Int → Int → Int → (List S_impl_Version) → Option (List S_impl_Version)) (t1 : Int) (t2 : Int) (t8 : Int) (o0 : (List S_impl_Version)) : Option (List S_impl_Version) :=
  (ckI (t8 + (1 : Int))).bind fun x36 =>
  k1 t1 t2 x36 o0
def m_slices_insertionSortCmpFunc_impl_Version_j1 (p3 : S_impl_Version → S_impl_Version → Option Int) (k1 : Int → Int → Int → (List S_impl_Version) → Option (List S_impl_Version)) (k2 : Int → Int → Int → Int → (List S_impl_Version) → Option (List S_impl_Version)) (t1 : Int) (t2 : Int) (t8 : Int) (t9 : Int) (t34 : Bool) (o0 : (List S_impl_Version)) : Option (List S_impl_Version) :=
  bif t34 then ((ckI (t9 - (1 : Int))).bind fun x23 =>
  (ckI (t9 - (1 : Int))).bind fun x24 =>
  (at? o0 x24).bind fun x25 =>
  (at? o0 x24).bind fun x26 =>
  (at? o0 t9).bind fun x27 =>
  (at? o0 t9).bind fun x28 =>
  (at? o0 t9).bind fun x29 =>
  (at? o0 t9).bind fun x30 =>
  lt (x26) fun y31 =>
  (at? (o0.set (t9).toNat y31) x23).bind fun x32 =>
  (at? (o0.set (t9).toNat y31) x23).bind fun x33 =>
  lt (x28) fun y34 =>
  (ckI (t9 - (1 : Int))).bind fun x35 =>
  k2 t1 t2 t8 x35 ((o0.set (t9).toNat y31).set (x23).toNat y34))
  else (m_slices_insertionSortCmpFunc_impl_Version_j2 p3 k1 t1 t2 t8 o0)
def m_slices_insertionSortCmpFunc_impl_Version_l2 (p3 : S_impl_Version → S_impl_Version → Option Int) (k1 : Int → Int → Int → (List S_impl_Version) → Option (List S_impl_Version)) : Nat → Int → Int → Int → Int → (List S_impl_Version) → Option (List S_impl_Version)
  | 0, _, _, _, _, _ => none
  | n2 + 1, t1, t2, t8, t9, o0 =>
    bif decide (t9 > t1) then ((at? o0 t9).bind fun x15 =>
      (at? o0 t9).bind fun x16 =>
      (ckI (t9 - (1 : Int))).bind fun x17 =>
      (at? o0 x17).bind fun x18 =>
      (at? o0 x17).bind fun x19 =>
      (p3 x16 x19).bind fun x20 =>
      m_slices_insertionSortCmpFunc_impl_Version_j1 p3 k1 (m_slices_insertionSortCmpFunc_impl_Version_l2 p3 k1 n2) t1 t2 t8 t9 (decide (x20 < (0 : Int))) o0)
    else (m_slices_insertionSortCmpFunc_impl_Version_j1 p3 k1 (m_slices_insertionSortCmpFunc_impl_Version_l2 p3 k1 n2) t1 t2 t8 t9 false o0)
def m_slices_insertionSortCmpFunc_impl_Version_l1 (p3 : S_impl_Version → S_impl_Version → Option Int) : Nat → Int → Int → Int → (List S_impl_Version) → Option (List S_impl_Version)
  | 0, _, _, _, _ => none
  | n1 + 1, t1, t2, t8, o0 =>
    bif decide (t8 < t2) then (m_slices_insertionSortCmpFunc_impl_Version_l2 p3 (m_slices_insertionSortCmpFunc_impl_Version_l1 p3 n1) (1000000000) t1 t2 t8 t8 o0)
    else (some o0)
def m_slices_insertionSortCmpFunc_impl_Version (o0 : (List S_impl_Version)) (a1 : Int) (a2 : Int) (p3 : S_impl_Version → S_impl_Version → Option Int) : Option (List S_impl_Version) :=
  (ckI (a1 + (1 : Int))).bind fun x2 =>
  m_slices_insertionSortCmpFunc_impl_Version_l1 p3 ((a2 - x2).toNat + 1) a1 a2 x2 o0
theorem c_slices_insertionSortCmpFunc_impl_Version (o0 : (List S_impl_Version)) (a1 : Int) (a2 : Int) (p3 : S_impl_Version → S_impl_Version → Option Int) (f3 : FuncId) (q3 : List LV) (hq3 : ∀ k, LV.at?.atL k q3 = false) (hf3 : ∀ a0 a1 v, p3 a0 a1 = some v → Ret Try.prog f3 (e_impl_Version a0 :: e_impl_Version a1 :: q3) (e_int v)) (r : (List S_impl_Version)) (h : m_slices_insertionSortCmpFunc_impl_Version o0 a1 a2 p3 = some r) : Does Try.prog f_slices_insertionSortCmpFunc_impl_Version [.own 0 0 o0.length, e_int a1, e_int a2, .clo f3 q3] [(0, (lob 4 e_impl_Version o0))] (fun x hh => x = .tup [] ∧ hh = [(0, (lob 4 e_impl_Version r))]) := by
  refine Does.goG [0] F_slices_insertionSortCmpFunc_impl_Version rfl e_slices_insertionSortCmpFunc_impl_Version n_slices_insertionSortCmpFunc_impl_Version rfl (rvs := []) rfl rfl ?_
  intro w0 ok0 lent ρ0
  refine LWP.seq_k fun N1 hN1 => ?_
  refine LWP.region (l := [_,_,_]) ?_
  refine LWo.move (e_int a1) rfl (hn := ?_)
  refine bk h fun x2 e2 h => ?_
  refine LWo.int _ rfl rfl (add_ck e2) (hn := ?_)
  refine LWo.assign (e_int x2) rfl (hn := ?_)
  refine LWo.nil (hN1 _ ?_)
  refine LWP.block ?_
  refine LWP.loopM (α := Int × Int × Int × (List S_impl_Version)) (fun z : Int × Int × Int × (List S_impl_Version) => [(0, (.own 0 0 (z.2.2.2).length)), (1, (e_int z.1)), (2, (e_int z.2.1)), (3, (.clo f3 q3)), (8, (e_int z.2.2.1))]) (fun z : Int × Int × Int × (List S_impl_Version) => [(0, (lob 4 e_impl_Version z.2.2.2))]) (fun n1 (z : Int × Int × Int × (List S_impl_Version)) => m_slices_insertionSortCmpFunc_impl_Version_l1 p3 n1 z.1 z.2.1 z.2.2.1 z.2.2.2) r _ (a1, a2, x2, o0) h (fun _ => rfl) (fun _ => by simp [hkeys]) ⟨rfl, rfl, rfl, rfl, rfl, trivial⟩ ⟨rfl, trivial⟩ ?_
  rintro n1 ⟨t1, t2, t8, o0⟩ h N3 hN3
  replace h : m_slices_insertionSortCmpFunc_impl_Version_l1 p3 (n1 + 1) t1 t2 t8 o0 = some _ := h
  refine LWP.seq_k fun N5 hN5 => ?_
  refine LWP.seq_k fun N6 hN6 => ?_
  refine LWP.region (l := [_,_,_]) ?_
  refine LWo.move (e_int t8) rfl (hn := ?_)
  refine LWo.move (e_int t2) rfl (hn := ?_)
  refine LWo.int _ rfl rfl rfl (hn := ?_)
  refine LWo.nil (hN6 _ ?_)
  refine LWP.cond_split rfl (fun h7 => ?_) (fun h7 => ?_)
  ·have h := bT h7 h
   refine LWP.skip (hN5 _ ?_)
   refine LWP.join (α := Int × Int × Int × (List S_impl_Version)) (fun z : Int × Int × Int × (List S_impl_Version) => [(0, (.own 0 0 (z.2.2.2).length)), (1, (e_int z.1)), (2, (e_int z.2.1)), (3, (.clo f3 q3)), (8, (e_int z.2.2.1))]) (fun z : Int × Int × Int × (List S_impl_Version) => [(0, (lob 4 e_impl_Version z.2.2.2))]) (fun z : Int × Int × Int × (List S_impl_Version) => m_slices_insertionSortCmpFunc_impl_Version_j2 p3 (m_slices_insertionSortCmpFunc_impl_Version_l1 p3 n1) z.1 z.2.1 z.2.2.1 z.2.2.2) r (fun _ => by simp [hkeys]) ?_ ?_
   ·rintro ⟨t1, t2, t8, o0⟩ h
    replace h : m_slices_insertionSortCmpFunc_impl_Version_j2 p3 (m_slices_insertionSortCmpFunc_impl_Version_l1 p3 n1) t1 t2 t8 o0 = some _ := h
    refine LWP.region (l := [_,_,_]) ?_
    refine LWo.move (e_int t8) rfl (hn := ?_)
    refine bk h fun x36 e36 h => ?_
    refine LWo.int _ rfl rfl (add_ck e36) (hn := ?_)
    refine LWo.assign (e_int x36) rfl (hn := ?_)
    refine LWo.nil (hN3 (t1, t2, x36, o0) _ ⟨rfl, rfl, rfl, rfl, rfl, trivial⟩ ⟨rfl, trivial⟩ h)
   ·intro N8 hN8
    refine LWP.block ?_
    refine LWP.seq_k fun N9 hN9 => ?_
    refine LWP.region (l := [_,_]) ?_
    refine LWo.move (e_int t8) rfl (hn := ?_)
    refine LWo.assign (e_int t8) rfl (hn := ?_)
    refine LWo.nil (hN9 _ ?_)
    refine LWP.block ?_
    refine LWP.loopM (α := Int × Int × Int × Int × (List S_impl_Version)) (fun z : Int × Int × Int × Int × (List S_impl_Version) => [(0, (.own 0 0 (z.2.2.2.2).length)), (1, (e_int z.1)), (2, (e_int z.2.1)), (3, (.clo f3 q3)), (8, (e_int z.2.2.1)), (9, (e_int z.2.2.2.1))]) (fun z : Int × Int × Int × Int × (List S_impl_Version) => [(0, (lob 4 e_impl_Version z.2.2.2.2))]) (fun n2 (z : Int × Int × Int × Int × (List S_impl_Version)) => m_slices_insertionSortCmpFunc_impl_Version_l2 p3 (m_slices_insertionSortCmpFunc_impl_Version_l1 p3 n1) n2 z.1 z.2.1 z.2.2.1 z.2.2.2.1 z.2.2.2.2) r _ (t1, t2, t8, t8, o0) h (fun _ => rfl) (fun _ => by simp [hkeys]) ⟨rfl, rfl, rfl, rfl, rfl, rfl, trivial⟩ ⟨rfl, trivial⟩ ?_
    rintro n2 ⟨t1, t2, t8, t9, o0⟩ h N10 hN10
    replace h : m_slices_insertionSortCmpFunc_impl_Version_l2 p3 (m_slices_insertionSortCmpFunc_impl_Version_l1 p3 n1) (n2 + 1) t1 t2 t8 t9 o0 = some _ := h
    refine LWP.seq_k fun N12 hN12 => ?_
    refine LWP.join (α := Int × Int × Int × Int × Bool × (List S_impl_Version)) (fun z : Int × Int × Int × Int × Bool × (List S_impl_Version) => [(0, (.own 0 0 (z.2.2.2.2.2).length)), (1, (e_int z.1)), (2, (e_int z.2.1)), (3, (.clo f3 q3)), (8, (e_int z.2.2.1)), (9, (e_int z.2.2.2.1)), (34, (e_bool z.2.2.2.2.1))]) (fun z : Int × Int × Int × Int × Bool × (List S_impl_Version) => [(0, (lob 4 e_impl_Version z.2.2.2.2.2))]) (fun z : Int × Int × Int × Int × Bool × (List S_impl_Version) => m_slices_insertionSortCmpFunc_impl_Version_j1 p3 (m_slices_insertionSortCmpFunc_impl_Version_l1 p3 n1) (m_slices_insertionSortCmpFunc_impl_Version_l2 p3 (m_slices_insertionSortCmpFunc_impl_Version_l1 p3 n1) n2) z.1 z.2.1 z.2.2.1 z.2.2.2.1 z.2.2.2.2.1 z.2.2.2.2.2) r (fun _ => by simp [hkeys]) ?_ ?_
    ·rintro ⟨t1, t2, t8, t9, t34, o0⟩ h
     replace h : m_slices_insertionSortCmpFunc_impl_Version_j1 p3 (m_slices_insertionSortCmpFunc_impl_Version_l1 p3 n1) (m_slices_insertionSortCmpFunc_impl_Version_l2 p3 (m_slices_insertionSortCmpFunc_impl_Version_l1 p3 n1) n2) t1 t2 t8 t9 t34 o0 = some _ := h
     refine LWP.cond_split rfl (fun h21 => ?_) (fun h21 => ?_)
     ·have h := bT h21 h
      refine LWP.skip (hN12 _ ?_)
      refine LWP.seq_k fun N22 hN22 => ?_
      refine LWP.block ?_
      refine bk h fun x23 e23 h => ?_
      refine bk h fun x24 e24 h => ?_
      refine bk h fun x25 e25 h => ?_
      refine bk h fun x26 e26 h => ?_
      refine bk h fun x27 e27 h => ?_
      refine bk h fun x28 e28 h => ?_
      refine bk h fun x29 e29 h => ?_
      refine bk h fun x30 e30 h => ?_
      refine lk h fun y31 e31 h => ?_
      refine bk h fun x32 e32 h => ?_
      refine bk h fun x33 e33 h => ?_
      refine lk h fun y34 e34 h => ?_
      refine LWP.drawF (l := [_,_,_,_,_,_,_,_,_,_,_,_,_,_,_,_,_,_]) [] [0, 1, 2, 3, 8, 9] [([0], []), ([9], []), ([0], []), ([9], []), ([40], []), ([0], []), ([9], []), ([43], []), ([42, 44], [0]), ([45], [0]), ([0], []), ([9], []), ([47, 48], [0]), ([49], [0]), ([37, 38], [0]), ([46, 51], [0]), ([39, 41], [0]), ([50, 52], [0])] [0, 1, 2, 3, 8, 9] [0] mixed (by kernel_rfl) rfl (by decide) ?_
      refine dq 37 rfl (fun _ g u h => LWo.move (.own 0 0 (o0).length) u.1 (hn := .nil (zn g))) ?_
      refine dq 38 rfl (fun _ g u h => LWo.move (e_int t9) u.1 (hn := .nil (zn g))) ?_
      refine dq 39 rfl (fun _ g u h => LWo.move (.own 0 0 (o0).length) u.1 (hn := .nil (zn g))) ?_
      refine dq 40 rfl (fun _ g u h => LWo.move (e_int t9) u.1 (hn := .nil (zn g))) ?_
      refine dq 41 rfl (fun _ g u h => LWo.int _ u.1 rfl (sub_ck e23) (hn := .nil (zn g))) ?_
      refine dq 42 rfl (fun _ g u h => LWo.move (.own 0 0 (o0).length) u.1 (hn := .nil (zn g))) ?_
      refine dq 43 rfl (fun _ g u h => LWo.move (e_int t9) u.1 (hn := .nil (zn g))) ?_
      refine dq 44 rfl (fun _ g u h => LWo.int _ u.1 rfl (sub_ck e24) (hn := .nil (zn g))) ?_
      refine dq 45 rfl (fun _ g u h => LWo.indexO e25 rfl u_Limpl_Version s_impl_Version u.1 u.2.1 h.1 (hn := .nil (zn g))) ?_
      refine dq 46 rfl (fun _ g u h => LWo.loadON ((e_impl_Version x26)).cells e26 g_impl_Version s_impl_Version u.1 h.1 rfl rfl (hn := .nil (zn g))) ?_
      refine dq 47 rfl (fun _ g u h => LWo.move (.own 0 0 (o0).length) u.1 (hn := .nil (zn g))) ?_
      refine dq 48 rfl (fun _ g u h => LWo.move (e_int t9) u.1 (hn := .nil (zn g))) ?_
      refine dq 49 rfl (fun _ g u h => LWo.indexO e27 rfl u_Limpl_Version s_impl_Version u.1 u.2.1 h.1 (hn := .nil (zn g))) ?_
      refine dq 50 rfl (fun _ g u h => LWo.loadON ((e_impl_Version x28)).cells e28 g_impl_Version s_impl_Version u.1 h.1 rfl rfl (hn := .nil (zn g))) ?_
      refine dq 51 rfl (fun _ g u h => LWo.indexO e29 rfl u_Limpl_Version s_impl_Version u.1 u.2.1 h.1 (hn := .nil (zn g))) ?_
      refine ⟨rfl, .upd none .junk 0 _, (fun _ h => by cases h), fun _ g u h => LWo.storeO y31 e30 s_impl_Version u.2.1 u.1 rfl rfl rfl h.1 rfl (by rw [e31]; rfl) (hn := LWo.nil ⟨rfl, .inl rfl, Ef.good_ok (e := .upd none .junk 0 _) (fun _ h => by cases h) g⟩), ?_⟩
      refine dq 52 rfl (fun _ g u h => LWo.indexO e32 List.length_set.symm u_Limpl_Version s_impl_Version u.1 u.2.1 h.1 (hn := .nil (zn g))) ?_
      refine ⟨rfl, .upd none .junk 0 _, (fun _ h => by cases h), fun _ g u h => LWo.storeO y34 e33 s_impl_Version u.2.1 u.1 rfl rfl rfl h.1 rfl (by rw [e34]; rfl) (hn := LWo.nil ⟨rfl, .inl rfl, Ef.good_ok (e := .upd none .junk 0 _) (fun _ h => by cases h) g⟩), ?_⟩
      refine ⟨rfl, by kernel_rfl, hN22 _ ?_⟩
      refine LWP.region (l := [_,_,_]) ?_
      refine LWo.move (e_int t9) rfl (hn := ?_)
      refine bk h fun x35 e35 h => ?_
      refine LWo.int _ rfl rfl (sub_ck e35) (hn := ?_)
      refine LWo.assign (e_int x35) rfl (hn := ?_)
      refine LWo.nil (hN10 (t1, t2, t8, x35, ((o0.set (t9).toNat y31).set (x23).toNat y34)) _ ⟨(congrArg (LV.own 0 0) (List.length_set.symm.trans List.length_set.symm)), rfl, rfl, rfl, rfl, rfl, trivial⟩ ⟨rfl, trivial⟩ h)
     ·have h := bF h21 h
      refine LWP.exit (hN8 (t1, t2, t8, o0) _ ⟨rfl, rfl, rfl, rfl, rfl, trivial⟩ ⟨rfl, trivial⟩ h)
    ·intro N13 hN13
     refine bS (decide (t9 > t1)) (fun h14 => ?_) (fun h14 => ?_)
     ·have h := bT h14 h
      refine bk h fun x15 e15 h => ?_
      refine bk h fun x16 e16 h => ?_
      refine bk h fun x17 e17 h => ?_
      refine bk h fun x18 e18 h => ?_
      refine bk h fun x19 e19 h => ?_
      refine bk h fun x20 e20 h => ?_
      refine LWP.drawF (l := [_,_,_,_,_,_,_,_,_,_,_,_,_,_,_,_,_]) [] [0, 1, 2, 3, 8, 9] [([9], []), ([1], []), ([18, 19], []), ([20], []), ([3, 21], []), ([0, 21], []), ([9, 21], []), ([21, 23, 24], [0]), ([21, 25], [0]), ([0, 21], []), ([9, 21], []), ([21, 28], []), ([21, 27, 29], [0]), ([21, 30], [0]), ([21, 22, 26, 31], []), ([21, 32], []), ([21, 33], [])] [0, 1, 2, 3, 8, 9, 34] [0] mixed (by kernel_rfl) rfl (by decide) ?_
      refine dq 18 rfl (fun _ g u h => LWo.move (e_int t9) u.1 (hn := .nil (zn g))) ?_
      refine dq 19 rfl (fun _ g u h => LWo.move (e_int t1) u.1 (hn := .nil (zn g))) ?_
      refine dq 20 rfl (fun _ g u h => LWo.int _ u.1 u.2.1 rfl (hn := .nil (zn g))) ?_
      refine dq 21 rfl (fun _ g u h => LWo.move (e_bool (decide (t9 > t1))) u.1 (hn := .nil (zn g))) ?_
      refine dq 22 rfl (fun _ g u h => LWo.guardY (t := 21) u.2.1 h14 rfl rfl (LWo.move (.clo f3 q3) u.1 (hn := .nil (zn g)))) ?_
      refine dq 23 rfl (fun _ g u h => LWo.guardY (t := 21) u.2.1 h14 rfl rfl (LWo.move (.own 0 0 (o0).length) u.1 (hn := .nil (zn g)))) ?_
      refine dq 24 rfl (fun _ g u h => LWo.guardY (t := 21) u.2.1 h14 rfl rfl (LWo.move (e_int t9) u.1 (hn := .nil (zn g)))) ?_
      refine dq 25 rfl (fun _ g u h => LWo.guardY (t := 21) u.1 h14 rfl rfl (LWo.indexO e15 rfl u_Limpl_Version s_impl_Version u.2.1 u.2.2.1 h.1 (hn := .nil (zn g)))) ?_
      refine dq 26 rfl (fun _ g u h => LWo.guardY (t := 21) u.1 h14 rfl rfl (LWo.loadON ((e_impl_Version x16)).cells e16 g_impl_Version s_impl_Version u.2.1 h.1 rfl rfl (hn := .nil (zn g)))) ?_
      refine dq 27 rfl (fun _ g u h => LWo.guardY (t := 21) u.2.1 h14 rfl rfl (LWo.move (.own 0 0 (o0).length) u.1 (hn := .nil (zn g)))) ?_
      refine dq 28 rfl (fun _ g u h => LWo.guardY (t := 21) u.2.1 h14 rfl rfl (LWo.move (e_int t9) u.1 (hn := .nil (zn g)))) ?_
      refine dq 29 rfl (fun _ g u h => LWo.guardY (t := 21) u.1 h14 rfl rfl (LWo.int _ u.2.1 rfl (sub_ck e17) (hn := .nil (zn g)))) ?_
      refine dq 30 rfl (fun _ g u h => LWo.guardY (t := 21) u.1 h14 rfl rfl (LWo.indexO e18 rfl u_Limpl_Version s_impl_Version u.2.1 u.2.2.1 h.1 (hn := .nil (zn g)))) ?_
      refine dq 31 rfl (fun _ g u h => LWo.guardY (t := 21) u.1 h14 rfl rfl (LWo.loadON ((e_impl_Version x19)).cells e19 g_impl_Version s_impl_Version u.2.1 h.1 rfl rfl (hn := .nil (zn g)))) ?_
      refine dq 32 rfl (fun _ g u h => LWo.guardY (t := 21) u.1 h14 rfl rfl (LWo.vcall u.2.1 (avq2 u.2.2.1 u.2.2.2.1) (hf3 _ _ _ e20) .refl (hn := .nil (zn g)))) ?_
      refine dq 33 rfl (fun _ g u h => LWo.guardY (t := 21) u.1 h14 rfl rfl (LWo.int _ u.2.1 rfl rfl (hn := .nil (zn g)))) ?_
      refine dq 34 rfl (fun _ g u h => LWo.pickTM (e_bool (decide (x20 < (0 : Int)))) u.1 h14 u.2.1 (hn := .nil (zn g))) ?_
      refine ⟨rfl, by kernel_rfl, hN13 (t1, t2, t8, t9, decide (x20 < (0 : Int)), o0) _ ⟨rfl, rfl, rfl, rfl, rfl, rfl, rfl, trivial⟩ ⟨rfl, trivial⟩ h⟩
     ·have h := bF h14 h
      refine LWP.drawF (l := [_,_,_,_,_,_,_,_,_,_,_,_,_,_,_,_,_]) [] [0, 1, 2, 3, 8, 9] [([9], []), ([1], []), ([18, 19], []), ([20], []), ([3, 21], []), ([0, 21], []), ([9, 21], []), ([21, 23, 24], []), ([21, 25], []), ([0, 21], []), ([9, 21], []), ([21, 28], []), ([21, 27, 29], []), ([21, 30], []), ([21, 22, 26, 31], []), ([21, 32], []), ([21, 33], [])] [0, 1, 2, 3, 8, 9, 34] [0] mixed (by kernel_rfl) rfl (by decide) ?_
      refine dq 18 rfl (fun _ g u h => LWo.move (e_int t9) u.1 (hn := .nil (zn g))) ?_
      refine dq 19 rfl (fun _ g u h => LWo.move (e_int t1) u.1 (hn := .nil (zn g))) ?_
      refine dq 20 rfl (fun _ g u h => LWo.int _ u.1 u.2.1 rfl (hn := .nil (zn g))) ?_
      refine dq 21 rfl (fun _ g u h => LWo.move (e_bool (decide (t9 > t1))) u.1 (hn := .nil (zn g))) ?_
      refine dq 22 rfl (fun _ g u h => LWo.guardNU (t := 21) u.2.1 h14 rfl rfl rfl rfl rfl (.nil (zn g))) ?_
      refine dq 23 rfl (fun _ g u h => LWo.guardNU (t := 21) u.2.1 h14 rfl rfl rfl rfl rfl (.nil (zn g))) ?_
      refine dq 24 rfl (fun _ g u h => LWo.guardNU (t := 21) u.2.1 h14 rfl rfl rfl rfl rfl (.nil (zn g))) ?_
      refine dq 25 rfl (fun _ g u h => LWo.guardNU (t := 21) u.1 h14 rfl rfl rfl rfl rfl (.nil (zn g))) ?_
      refine dq 26 rfl (fun _ g u h => LWo.guardNU (t := 21) u.1 h14 rfl rfl rfl rfl rfl (.nil (zn g))) ?_
      refine dq 27 rfl (fun _ g u h => LWo.guardNU (t := 21) u.2.1 h14 rfl rfl rfl rfl rfl (.nil (zn g))) ?_
      refine dq 28 rfl (fun _ g u h => LWo.guardNU (t := 21) u.2.1 h14 rfl rfl rfl rfl rfl (.nil (zn g))) ?_
      refine dq 29 rfl (fun _ g u h => LWo.guardNU (t := 21) u.1 h14 rfl rfl rfl rfl rfl (.nil (zn g))) ?_
      refine dq 30 rfl (fun _ g u h => LWo.guardNU (t := 21) u.1 h14 rfl rfl rfl rfl rfl (.nil (zn g))) ?_
      refine dq 31 rfl (fun _ g u h => LWo.guardNU (t := 21) u.1 h14 rfl rfl rfl rfl rfl (.nil (zn g))) ?_
      refine dq 32 rfl (fun _ g u h => LWo.guardNU (t := 21) u.1 h14 rfl rfl rfl rfl rfl (.nil (zn g))) ?_
      refine dq 33 rfl (fun _ g u h => LWo.guardNU (t := 21) u.1 h14 rfl rfl rfl rfl rfl (.nil (zn g))) ?_
      refine dq 34 rfl (fun _ g u h => LWo.pickFM (e_bool false) u.1 h14 rfl (hn := .nil (zn g))) ?_
      refine ⟨rfl, by kernel_rfl, hN13 (t1, t2, t8, t9, false, o0) _ ⟨rfl, rfl, rfl, rfl, rfl, rfl, rfl, trivial⟩ ⟨rfl, trivial⟩ h⟩
  ·have h := bF h7 h
   obtain rfl := Option.some.inj h
   refine LWP.exit (QG.mk (.inl rfl) (.nil) (RetOK.many1 (.nil) (by simp) (by decide) rfl rfl rfl rfl rfl) rfl rfl)
theorem k_slices_insertionSortCmpFunc_impl_Version (o0 : (List S_impl_Version)) (a1 : Int) (a2 : Int) (p3 : S_impl_Version → S_impl_Version → Option Int) (f3 : FuncId) (q3 : List LV) (hq3 : ∀ k, LV.at?.atL k q3 = false) (hf3 : ∀ a0 a1 v, p3 a0 a1 = some v → Ret Try.prog f3 (e_impl_Version a0 :: e_impl_Version a1 :: q3) (e_int v)) (r : (List S_impl_Version)) (h : m_slices_insertionSortCmpFunc_impl_Version o0 a1 a2 p3 = some r) (k : Nat) : Does Try.prog f_slices_insertionSortCmpFunc_impl_Version [.own k 0 o0.length, e_int a1, e_int a2, .clo f3 q3] [(k, (lob 4 e_impl_Version o0))] (fun x hh => x = .tup [] ∧ hh = [(k, (lob 4 e_impl_Version r))]) :=
  Does.nameO (c_slices_insertionSortCmpFunc_impl_Version o0 a1 a2 p3 f3 q3 hq3 hf3 r h) (fun k => (atC rfl (atC rfl (atC (hq3 k) (atN _))))) k

def m_slices_swapRangeCmpFunc_impl_Version_l1 (p4 : S_impl_Version → S_impl_Version → Option Int) : Nat → Int → Int → Int → Int → (List S_impl_Version) → Option (List S_impl_Version)
  | 0, _, _, _, _, _ => none
  | n1 + 1, t1, t2, t3, t10, o0 =>
    bif decide (t10 < t3) then ((ckI (t1 + t10)).bind fun x8 =>
    (ckI (t2 + t10)).bind fun x9 =>
    (ckI (t2 + t10)).bind fun x10 =>
    (at? o0 x10).bind fun x11 =>
    (at? o0 x10).bind fun x12 =>
    (ckI (t1 + t10)).bind fun x13 =>
    (at? o0 x13).bind fun x14 =>
    (at? o0 x13).bind fun x15 =>
    (at? o0 x8).bind fun x16 =>
    (at? o0 x8).bind fun x17 =>
    lt (x12) fun y18 =>
    (at? (o0.set (x8).toNat y18) x9).bind fun x19 =>
    (at? (o0.set (x8).toNat y18) x9).bind fun x20 =>
    lt (x15) fun y21 =>
    (ckI (t10 + (1 : Int))).bind fun x22 =>
    (m_slices_swapRangeCmpFunc_impl_Version_l1 p4 n1) t1 t2 t3 x22 ((o0.set (x8).toNat y18).set (x9).toNat y21))
    else (some o0)
def m_slices_swapRangeCmpFunc_impl_Version (o0 : (List S_impl_Version)) (a1 : Int) (a2 : Int) (a3 : Int) (p4 : S_impl_Version → S_impl_Version → Option Int) : Option (List S_impl_Version) :=
  m_slices_swapRangeCmpFunc_impl_Version_l1 p4 ((a3 - (0 : Int)).toNat + 1) a1 a2 a3 (0 : Int) o0
theorem c_slices_swapRangeCmpFunc_impl_Version (o0 : (List S_impl_Version)) (a1 : Int) (a2 : Int) (a3 : Int) (p4 : S_impl_Version → S_impl_Version → Option Int) (f4 : FuncId) (q4 : List LV) (hq4 : ∀ k, LV.at?.atL k q4 = false) (hf4 : ∀ a0 a1 v, p4 a0 a1 = some v → Ret Try.prog f4 (e_impl_Version a0 :: e_impl_Version a1 :: q4) (e_int v)) (r : (List S_impl_Version)) (h : m_slices_swapRangeCmpFunc_impl_Version o0 a1 a2 a3 p4 = some r) : Does Try.prog f_slices_swapRangeCmpFunc_impl_Version [.own 0 0 o0.length, e_int a1, e_int a2, e_int a3, .clo f4 q4] [(0, (lob 4 e_impl_Version o0))] (fun x hh => x = .tup [] ∧ hh = [(0, (lob 4 e_impl_Version r))]) := by
  refine Does.goG [0] F_slices_swapRangeCmpFunc_impl_Version rfl e_slices_swapRangeCmpFunc_impl_Version n_slices_swapRangeCmpFunc_impl_Version rfl (rvs := []) rfl rfl ?_
  intro w0 ok0 lent ρ0
  refine LWP.seq_k fun N1 hN1 => ?_
  refine LWP.region (l := [_]) ?_
  refine LWo.assign (e_int (0 : Int)) rfl (hn := ?_)
  refine LWo.nil (hN1 _ ?_)
  refine LWP.block ?_
  refine LWP.loopM (α := Int × Int × Int × Int × (List S_impl_Version)) (fun z : Int × Int × Int × Int × (List S_impl_Version) => [(0, (.own 0 0 (z.2.2.2.2).length)), (1, (e_int z.1)), (2, (e_int z.2.1)), (3, (e_int z.2.2.1)), (10, (e_int z.2.2.2.1))]) (fun z : Int × Int × Int × Int × (List S_impl_Version) => [(0, (lob 4 e_impl_Version z.2.2.2.2))]) (fun n1 (z : Int × Int × Int × Int × (List S_impl_Version)) => m_slices_swapRangeCmpFunc_impl_Version_l1 p4 n1 z.1 z.2.1 z.2.2.1 z.2.2.2.1 z.2.2.2.2) r _ (a1, a2, a3, (0 : Int), o0) h (fun _ => rfl) (fun _ => by simp [hkeys]) ⟨rfl, rfl, rfl, rfl, rfl, trivial⟩ ⟨rfl, trivial⟩ ?_
  rintro n1 ⟨t1, t2, t3, t10, o0⟩ h N2 hN2
  replace h : m_slices_swapRangeCmpFunc_impl_Version_l1 p4 (n1 + 1) t1 t2 t3 t10 o0 = some _ := h
  refine LWP.seq_k fun N4 hN4 => ?_
  refine LWP.seq_k fun N5 hN5 => ?_
  refine LWP.region (l := [_,_,_]) ?_
  refine LWo.move (e_int t10) rfl (hn := ?_)
  refine LWo.move (e_int t3) rfl (hn := ?_)
  refine LWo.int _ rfl rfl rfl (hn := ?_)
  refine LWo.nil (hN5 _ ?_)
  refine LWP.cond_split rfl (fun h6 => ?_) (fun h6 => ?_)
  ·have h := bT h6 h
   refine LWP.skip (hN4 _ ?_)
   refine LWP.seq_k fun N7 hN7 => ?_
   refine LWP.block ?_
   refine bk h fun x8 e8 h => ?_
   refine bk h fun x9 e9 h => ?_
   refine bk h fun x10 e10 h => ?_
   refine bk h fun x11 e11 h => ?_
   refine bk h fun x12 e12 h => ?_
   refine bk h fun x13 e13 h => ?_
   refine bk h fun x14 e14 h => ?_
   refine bk h fun x15 e15 h => ?_
   refine bk h fun x16 e16 h => ?_
   refine bk h fun x17 e17 h => ?_
   refine lk h fun y18 e18 h => ?_
   refine bk h fun x19 e19 h => ?_
   refine bk h fun x20 e20 h => ?_
   refine lk h fun y21 e21 h => ?_
   refine LWP.drawF (l := [_,_,_,_,_,_,_,_,_,_,_,_,_,_,_,_,_,_,_,_,_,_,_,_]) [] [0, 1, 2, 3, 10] [([0], []), ([1], []), ([10], []), ([17, 18], []), ([0], []), ([2], []), ([10], []), ([21, 22], []), ([0], []), ([2], []), ([10], []), ([25, 26], []), ([24, 27], [0]), ([28], [0]), ([0], []), ([1], []), ([10], []), ([31, 32], []), ([30, 33], [0]), ([34], [0]), ([16, 19], [0]), ([29, 36], [0]), ([20, 23], [0]), ([35, 37], [0])] [0, 1, 2, 3, 10] [0] mixed (by kernel_rfl) rfl (by decide) ?_
   refine dq 16 rfl (fun _ g u h => LWo.move (.own 0 0 (o0).length) u.1 (hn := .nil (zn g))) ?_
   refine dq 17 rfl (fun _ g u h => LWo.move (e_int t1) u.1 (hn := .nil (zn g))) ?_
   refine dq 18 rfl (fun _ g u h => LWo.move (e_int t10) u.1 (hn := .nil (zn g))) ?_
   refine dq 19 rfl (fun _ g u h => LWo.int _ u.1 u.2.1 (add_ck e8) (hn := .nil (zn g))) ?_
   refine dq 20 rfl (fun _ g u h => LWo.move (.own 0 0 (o0).length) u.1 (hn := .nil (zn g))) ?_
   refine dq 21 rfl (fun _ g u h => LWo.move (e_int t2) u.1 (hn := .nil (zn g))) ?_
   refine dq 22 rfl (fun _ g u h => LWo.move (e_int t10) u.1 (hn := .nil (zn g))) ?_
   refine dq 23 rfl (fun _ g u h => LWo.int _ u.1 u.2.1 (add_ck e9) (hn := .nil (zn g))) ?_
   refine dq 24 rfl (fun _ g u h => LWo.move (.own 0 0 (o0).length) u.1 (hn := .nil (zn g))) ?_
   refine dq 25 rfl (fun _ g u h => LWo.move (e_int t2) u.1 (hn := .nil (zn g))) ?_
   refine dq 26 rfl (fun _ g u h => LWo.move (e_int t10) u.1 (hn := .nil (zn g))) ?_
   refine dq 27 rfl (fun _ g u h => LWo.int _ u.1 u.2.1 (add_ck e10) (hn := .nil (zn g))) ?_
   refine dq 28 rfl (fun _ g u h => LWo.indexO e11 rfl u_Limpl_Version s_impl_Version u.1 u.2.1 h.1 (hn := .nil (zn g))) ?_
   refine dq 29 rfl (fun _ g u h => LWo.loadON ((e_impl_Version x12)).cells e12 g_impl_Version s_impl_Version u.1 h.1 rfl rfl (hn := .nil (zn g))) ?_
   refine dq 30 rfl (fun _ g u h => LWo.move (.own 0 0 (o0).length) u.1 (hn := .nil (zn g))) ?_
   refine dq 31 rfl (fun _ g u h => LWo.move (e_int t1) u.1 (hn := .nil (zn g))) ?_
   refine dq 32 rfl (fun _ g u h => LWo.move (e_int t10) u.1 (hn := .nil (zn g))) ?_
   refine dq 33 rfl (fun _ g u h => LWo.int _ u.1 u.2.1 (add_ck e13) (hn := .nil (zn g))) ?_
   refine dq 34 rfl (fun _ g u h => LWo.indexO e14 rfl u_Limpl_Version s_impl_Version u.1 u.2.1 h.1 (hn := .nil (zn g))) ?_
   refine dq 35 rfl (fun _ g u h => LWo.loadON ((e_impl_Version x15)).cells e15 g_impl_Version s_impl_Version u.1 h.1 rfl rfl (hn := .nil (zn g))) ?_
   refine dq 36 rfl (fun _ g u h => LWo.indexO e16 rfl u_Limpl_Version s_impl_Version u.1 u.2.1 h.1 (hn := .nil (zn g))) ?_
   refine ⟨rfl, .upd none .junk 0 _, (fun _ h => by cases h), fun _ g u h => LWo.storeO y18 e17 s_impl_Version u.2.1 u.1 rfl rfl rfl h.1 rfl (by rw [e18]; rfl) (hn := LWo.nil ⟨rfl, .inl rfl, Ef.good_ok (e := .upd none .junk 0 _) (fun _ h => by cases h) g⟩), ?_⟩
   refine dq 37 rfl (fun _ g u h => LWo.indexO e19 List.length_set.symm u_Limpl_Version s_impl_Version u.1 u.2.1 h.1 (hn := .nil (zn g))) ?_
   refine ⟨rfl, .upd none .junk 0 _, (fun _ h => by cases h), fun _ g u h => LWo.storeO y21 e20 s_impl_Version u.2.1 u.1 rfl rfl rfl h.1 rfl (by rw [e21]; rfl) (hn := LWo.nil ⟨rfl, .inl rfl, Ef.good_ok (e := .upd none .junk 0 _) (fun _ h => by cases h) g⟩), ?_⟩
   refine ⟨rfl, by kernel_rfl, hN7 _ ?_⟩
   refine LWP.region (l := [_,_,_]) ?_
   refine LWo.move (e_int t10) rfl (hn := ?_)
   refine bk h fun x22 e22 h => ?_
   refine LWo.int _ rfl rfl (add_ck e22) (hn := ?_)
   refine LWo.assign (e_int x22) rfl (hn := ?_)
   refine LWo.nil (hN2 (t1, t2, t3, x22, ((o0.set (x8).toNat y18).set (x9).toNat y21)) _ ⟨(congrArg (LV.own 0 0) (List.length_set.symm.trans List.length_set.symm)), rfl, rfl, rfl, rfl, trivial⟩ ⟨rfl, trivial⟩ h)
  ·have h := bF h6 h
   obtain rfl := Option.some.inj h
   refine LWP.exit (QG.mk (.inl rfl) (.nil) (RetOK.many1 (.nil) (by simp) (by decide) rfl rfl rfl rfl rfl) rfl rfl)
theorem k_slices_swapRangeCmpFunc_impl_Version (o0 : (List S_impl_Version)) (a1 : Int) (a2 : Int) (a3 : Int) (p4 : S_impl_Version → S_impl_Version → Option Int) (f4 : FuncId) (q4 : List LV) (hq4 : ∀ k, LV.at?.atL k q4 = false) (hf4 : ∀ a0 a1 v, p4 a0 a1 = some v → Ret Try.prog f4 (e_impl_Version a0 :: e_impl_Version a1 :: q4) (e_int v)) (r : (List S_impl_Version)) (h : m_slices_swapRangeCmpFunc_impl_Version o0 a1 a2 a3 p4 = some r) (k : Nat) : Does Try.prog f_slices_swapRangeCmpFunc_impl_Version [.own k 0 o0.length, e_int a1, e_int a2, e_int a3, .clo f4 q4] [(k, (lob 4 e_impl_Version o0))] (fun x hh => x = .tup [] ∧ hh = [(k, (lob 4 e_impl_Version r))]) :=
  Does.nameO (c_slices_swapRangeCmpFunc_impl_Version o0 a1 a2 a3 p4 f4 q4 hq4 hf4 r h) (fun k => (atC rfl (atC rfl (atC rfl (atC (hq4 k) (atN _)))))) k

def m_slices_rotateCmpFunc_impl_Version_j1 (p4 : S_impl_Version → S_impl_Version → Option Int) (t2 : Int) (t10 : Int) (o0 : (List S_impl_Version)) : Option (List S_impl_Version) :=
  (ckI (t2 - t10)).bind fun x25 =>
  (m_slices_swapRangeCmpFunc_impl_Version o0 x25 t2 t10 p4).bind fun x26 =>
  (lenQ x26.length o0.length ()).bind fun u27 =>
  some x26
def m_slices_rotateCmpFunc_impl_Version_l1 (p4 : S_impl_Version → S_impl_Version → Option Int) : Nat → Int → Int → Int → (List S_impl_Version) → Option (List S_impl_Version)
  | 0, _, _, _, _ => none
  | n1 + 1, t2, t10, t11, o0 =>
    bif (t10 != t11) then (bif decide (t10 > t11) then ((ckI (t2 - t10)).bind fun x14 =>
      (m_slices_swapRangeCmpFunc_impl_Version o0 x14 t2 t11 p4).bind fun x15 =>
      (lenQ x15.length o0.length ()).bind fun u16 =>
      (ckI (t10 - t11)).bind fun x17 =>
      (m_slices_rotateCmpFunc_impl_Version_l1 p4 n1) t2 x17 t11 x15)
    else ((ckI (t2 - t10)).bind fun x19 =>
      (ckI (t2 + t11)).bind fun x20 =>
      (ckI (x20 - t10)).bind fun x21 =>
      (m_slices_swapRangeCmpFunc_impl_Version o0 x19 x21 t10 p4).bind fun x22 =>
      (lenQ x22.length o0.length ()).bind fun u23 =>
      (ckI (t11 - t10)).bind fun x24 =>
      (m_slices_rotateCmpFunc_impl_Version_l1 p4 n1) t2 t10 x24 x22))
    else (m_slices_rotateCmpFunc_impl_Version_j1 p4 t2 t10 o0)
def m_slices_rotateCmpFunc_impl_Version (o0 : (List S_impl_Version)) (a1 : Int) (a2 : Int) (a3 : Int) (p4 : S_impl_Version → S_impl_Version → Option Int) : Option (List S_impl_Version) :=
  (ckI (a2 - a1)).bind fun x2 =>
  (ckI (a3 - a2)).bind fun x4 =>
  m_slices_rotateCmpFunc_impl_Version_l1 p4 (1000000000) a2 x2 x4 o0
theorem c_slices_rotateCmpFunc_impl_Version (o0 : (List S_impl_Version)) (a1 : Int) (a2 : Int) (a3 : Int) (p4 : S_impl_Version → S_impl_Version → Option Int) (f4 : FuncId) (q4 : List LV) (hq4 : ∀ k, LV.at?.atL k q4 = false) (hf4 : ∀ a0 a1 v, p4 a0 a1 = some v → Ret Try.prog f4 (e_impl_Version a0 :: e_impl_Version a1 :: q4) (e_int v)) (r : (List S_impl_Version)) (h : m_slices_rotateCmpFunc_impl_Version o0 a1 a2 a3 p4 = some r) : Does Try.prog f_slices_rotateCmpFunc_impl_Version [.own 0 0 o0.length, e_int a1, e_int a2, e_int a3, .clo f4 q4] [(0, (lob 4 e_impl_Version o0))] (fun x hh => x = .tup [] ∧ hh = [(0, (lob 4 e_impl_Version r))]) := by
  refine Does.goG [0] F_slices_rotateCmpFunc_impl_Version rfl e_slices_rotateCmpFunc_impl_Version n_slices_rotateCmpFunc_impl_Version rfl (rvs := []) rfl rfl ?_
  intro w0 ok0 lent ρ0
  refine LWP.seq_k fun N1 hN1 => ?_
  refine LWP.region (l := [_,_,_,_]) ?_
  refine LWo.move (e_int a2) rfl (hn := ?_)
  refine LWo.move (e_int a1) rfl (hn := ?_)
  refine bk h fun x2 e2 h => ?_
  refine LWo.int _ rfl rfl (sub_ck e2) (hn := ?_)
  refine LWo.assign (e_int x2) rfl (hn := ?_)
  refine LWo.nil (hN1 _ ?_)
  refine LWP.seq_k fun N3 hN3 => ?_
  refine LWP.region (l := [_,_,_,_]) ?_
  refine LWo.move (e_int a3) rfl (hn := ?_)
  refine LWo.move (e_int a2) rfl (hn := ?_)
  refine bk h fun x4 e4 h => ?_
  refine LWo.int _ rfl rfl (sub_ck e4) (hn := ?_)
  refine LWo.assign (e_int x4) rfl (hn := ?_)
  refine LWo.nil (hN3 _ ?_)
  refine LWP.join (α := Int × Int × (List S_impl_Version)) (fun z : Int × Int × (List S_impl_Version) => [(0, (.own 0 0 (z.2.2).length)), (2, (e_int z.1)), (4, (.clo f4 q4)), (10, (e_int z.2.1))]) (fun z : Int × Int × (List S_impl_Version) => [(0, (lob 4 e_impl_Version z.2.2))]) (fun z : Int × Int × (List S_impl_Version) => m_slices_rotateCmpFunc_impl_Version_j1 p4 z.1 z.2.1 z.2.2) r (fun _ => by simp [hkeys]) ?_ ?_
  ·rintro ⟨t2, t10, o0⟩ h
   replace h : m_slices_rotateCmpFunc_impl_Version_j1 p4 t2 t10 o0 = some _ := h
   refine LWP.region (l := [_,_,_,_,_,_,_,_]) ?_
   refine LWo.move (.own 0 0 (o0).length) rfl (hn := ?_)
   refine LWo.move (e_int t2) rfl (hn := ?_)
   refine LWo.move (e_int t10) rfl (hn := ?_)
   refine bk h fun x25 e25 h => ?_
   refine LWo.int _ rfl rfl (sub_ck e25) (hn := ?_)
   refine LWo.move (e_int t2) rfl (hn := ?_)
   refine LWo.move (e_int t10) rfl (hn := ?_)
   refine LWo.move (.clo f4 q4) rfl (hn := ?_)
   refine bk h fun x26 e26 h => ?_
   refine bk h fun u27 e27 h => ?_
   refine LWo.ucallM (e := e_impl_Version) rfl rfl (k_slices_swapRangeCmpFunc_impl_Version _ _ _ _ _ f4 q4 hq4 hf4 _ e26 0) rfl rfl (some 57) rfl (hn := ?_)
   obtain rfl := Option.some.inj h
   refine LWo.nil (QG.mk (.inl rfl) (.nil) (RetOK.many1 (.nil) (by simp) (by decide) rfl rfl rfl rfl rfl) rfl rfl)
  ·intro N5 hN5
   refine LWP.block ?_
   refine LWP.loopM (α := Int × Int × Int × (List S_impl_Version)) (fun z : Int × Int × Int × (List S_impl_Version) => [(0, (.own 0 0 (z.2.2.2).length)), (2, (e_int z.1)), (4, (.clo f4 q4)), (10, (e_int z.2.1)), (11, (e_int z.2.2.1))]) (fun z : Int × Int × Int × (List S_impl_Version) => [(0, (lob 4 e_impl_Version z.2.2.2))]) (fun n1 (z : Int × Int × Int × (List S_impl_Version)) => m_slices_rotateCmpFunc_impl_Version_l1 p4 n1 z.1 z.2.1 z.2.2.1 z.2.2.2) r _ (a2, x2, x4, o0) h (fun _ => rfl) (fun _ => by simp [hkeys]) ⟨rfl, rfl, rfl, rfl, rfl, trivial⟩ ⟨rfl, trivial⟩ ?_
   rintro n1 ⟨t2, t10, t11, o0⟩ h N6 hN6
   replace h : m_slices_rotateCmpFunc_impl_Version_l1 p4 (n1 + 1) t2 t10 t11 o0 = some _ := h
   refine LWP.seq_k fun N8 hN8 => ?_
   refine LWP.seq_k fun N9 hN9 => ?_
   refine LWP.region (l := [_,_,_]) ?_
   refine LWo.move (e_int t10) rfl (hn := ?_)
   refine LWo.move (e_int t11) rfl (hn := ?_)
   refine LWo.int _ rfl rfl rfl (hn := ?_)
   refine LWo.nil (hN9 _ ?_)
   refine LWP.cond_split rfl (fun h10 => ?_) (fun h10 => ?_)
   ·have h := bT h10 h
    refine LWP.skip (hN8 _ ?_)
    refine LWP.block ?_
    refine LWP.seq_k fun N11 hN11 => ?_
    refine LWP.region (l := [_,_,_]) ?_
    refine LWo.move (e_int t10) rfl (hn := ?_)
    refine LWo.move (e_int t11) rfl (hn := ?_)
    refine LWo.int _ rfl rfl rfl (hn := ?_)
    refine LWo.nil (hN11 _ ?_)
    refine LWP.cond_split rfl (fun h12 => ?_) (fun h12 => ?_)
    ·have h := bT h12 h
     refine LWP.seq_k fun N13 hN13 => ?_
     refine LWP.region (l := [_,_,_,_,_,_,_,_]) ?_
     refine LWo.move (.own 0 0 (o0).length) rfl (hn := ?_)
     refine LWo.move (e_int t2) rfl (hn := ?_)
     refine LWo.move (e_int t10) rfl (hn := ?_)
     refine bk h fun x14 e14 h => ?_
     refine LWo.int _ rfl rfl (sub_ck e14) (hn := ?_)
     refine LWo.move (e_int t2) rfl (hn := ?_)
     refine LWo.move (e_int t11) rfl (hn := ?_)
     refine LWo.move (.clo f4 q4) rfl (hn := ?_)
     refine bk h fun x15 e15 h => ?_
     refine bk h fun u16 e16 h => ?_
     refine LWo.ucallM (e := e_impl_Version) rfl rfl (k_slices_swapRangeCmpFunc_impl_Version _ _ _ _ _ f4 q4 hq4 hf4 _ e15 0) rfl rfl (some 31) rfl (hn := ?_)
     refine LWo.nil (hN13 _ ?_)
     refine LWP.region (l := [_,_,_,_]) ?_
     refine LWo.move (e_int t10) rfl (hn := ?_)
     refine LWo.move (e_int t11) rfl (hn := ?_)
     refine bk h fun x17 e17 h => ?_
     refine LWo.int _ rfl rfl (sub_ck e17) (hn := ?_)
     refine LWo.assign (e_int x17) rfl (hn := ?_)
     refine LWo.nil (hN6 (t2, x17, t11, x15) _ ⟨(congrArg (LV.own 0 0) ((lenQ_some e16).1.symm)), rfl, rfl, rfl, rfl, trivial⟩ ⟨rfl, trivial⟩ h)
    ·have h := bF h12 h
     refine LWP.seq_k fun N18 hN18 => ?_
     refine LWP.region (l := [_,_,_,_,_,_,_,_,_,_,_,_]) ?_
     refine LWo.move (.own 0 0 (o0).length) rfl (hn := ?_)
     refine LWo.move (e_int t2) rfl (hn := ?_)
     refine LWo.move (e_int t10) rfl (hn := ?_)
     refine bk h fun x19 e19 h => ?_
     refine LWo.int _ rfl rfl (sub_ck e19) (hn := ?_)
     refine LWo.move (e_int t2) rfl (hn := ?_)
     refine LWo.move (e_int t11) rfl (hn := ?_)
     refine bk h fun x20 e20 h => ?_
     refine LWo.int _ rfl rfl (add_ck e20) (hn := ?_)
     refine LWo.move (e_int t10) rfl (hn := ?_)
     refine bk h fun x21 e21 h => ?_
     refine LWo.int _ rfl rfl (sub_ck e21) (hn := ?_)
     refine LWo.move (e_int t10) rfl (hn := ?_)
     refine LWo.move (.clo f4 q4) rfl (hn := ?_)
     refine bk h fun x22 e22 h => ?_
     refine bk h fun u23 e23 h => ?_
     refine LWo.ucallM (e := e_impl_Version) rfl rfl (k_slices_swapRangeCmpFunc_impl_Version _ _ _ _ _ f4 q4 hq4 hf4 _ e22 0) rfl rfl (some 46) rfl (hn := ?_)
     refine LWo.nil (hN18 _ ?_)
     refine LWP.region (l := [_,_,_,_]) ?_
     refine LWo.move (e_int t11) rfl (hn := ?_)
     refine LWo.move (e_int t10) rfl (hn := ?_)
     refine bk h fun x24 e24 h => ?_
     refine LWo.int _ rfl rfl (sub_ck e24) (hn := ?_)
     refine LWo.assign (e_int x24) rfl (hn := ?_)
     refine LWo.nil (hN6 (t2, t10, x24, x22) _ ⟨(congrArg (LV.own 0 0) ((lenQ_some e23).1.symm)), rfl, rfl, rfl, rfl, trivial⟩ ⟨rfl, trivial⟩ h)
   ·have h := bF h10 h
    refine LWP.exit (hN5 (t2, t10, o0) _ ⟨rfl, rfl, rfl, rfl, trivial⟩ ⟨rfl, trivial⟩ h)
theorem k_slices_rotateCmpFunc_impl_Version (o0 : (List S_impl_Version)) (a1 : Int) (a2 : Int) (a3 : Int) (p4 : S_impl_Version → S_impl_Version → Option Int) (f4 : FuncId) (q4 : List LV) (hq4 : ∀ k, LV.at?.atL k q4 = false) (hf4 : ∀ a0 a1 v, p4 a0 a1 = some v → Ret Try.prog f4 (e_impl_Version a0 :: e_impl_Version a1 :: q4) (e_int v)) (r : (List S_impl_Version)) (h : m_slices_rotateCmpFunc_impl_Version o0 a1 a2 a3 p4 = some r) (k : Nat) : Does Try.prog f_slices_rotateCmpFunc_impl_Version [.own k 0 o0.length, e_int a1, e_int a2, e_int a3, .clo f4 q4] [(k, (lob 4 e_impl_Version o0))] (fun x hh => x = .tup [] ∧ hh = [(k, (lob 4 e_impl_Version r))]) :=
  Does.nameO (c_slices_rotateCmpFunc_impl_Version o0 a1 a2 a3 p4 f4 q4 hq4 hf4 r h) (fun k => (atC rfl (atC rfl (atC rfl (atC (hq4 k) (atN _)))))) k

def m_slices_symMergeCmpFunc_impl_Version_j13 (rc : ((List S_impl_Version)) → (Int) → (Int) → (Int) → (S_impl_Version → S_impl_Version → Option Int) → Option (List S_impl_Version)) (p4 : S_impl_Version → S_impl_Version → Option Int) (t3 : Int) (t18 : Int) (t24 : Int) (t213 : Bool) (o0 : (List S_impl_Version)) : Option (List S_impl_Version) :=
  bif t213 then ((rc o0 t18 t24 t3 p4).bind fun x147 =>
    (lenQ x147.length o0.length ()).bind fun u148 =>
    some x147)
  else (some o0)
def m_slices_symMergeCmpFunc_impl_Version_j12 (rc : ((List S_impl_Version)) → (Int) → (Int) → (Int) → (S_impl_Version → S_impl_Version → Option Int) → Option (List S_impl_Version)) (p4 : S_impl_Version → S_impl_Version → Option Int) (t3 : Int) (t18 : Int) (t24 : Int) (o0 : (List S_impl_Version)) : Option (List S_impl_Version) :=
  bif decide (t18 < t24) then (m_slices_symMergeCmpFunc_impl_Version_j13 rc p4 t3 t18 t24 (decide (t24 < t3)) o0)
  else (m_slices_symMergeCmpFunc_impl_Version_j13 rc p4 t3 t18 t24 false o0)
def m_slices_symMergeCmpFunc_impl_Version_j11 (rc : ((List S_impl_Version)) → (Int) → (Int) → (Int) → (S_impl_Version → S_impl_Version → Option Int) → Option (List S_impl_Version)) (p4 : S_impl_Version → S_impl_Version → Option Int) (t1 : Int) (t3 : Int) (t18 : Int) (t20 : Int) (t24 : Int) (t199 : Bool) (o0 : (List S_impl_Version)) : Option (List S_impl_Version) :=
  bif t199 then ((rc o0 t1 t20 t18 p4).bind fun x142 =>
    (lenQ x142.length o0.length ()).bind fun u143 =>
    m_slices_symMergeCmpFunc_impl_Version_j12 rc p4 t3 t18 t24 x142)
  else (m_slices_symMergeCmpFunc_impl_Version_j12 rc p4 t3 t18 t24 o0)
def m_slices_symMergeCmpFunc_impl_Version_j10 (rc : ((List S_impl_Version)) → (Int) → (Int) → (Int) → (S_impl_Version → S_impl_Version → Option Int) → Option (List S_impl_Version)) (p4 : S_impl_Version → S_impl_Version → Option Int) (t1 : Int) (t3 : Int) (t18 : Int) (t20 : Int) (t24 : Int) (o0 : (List S_impl_Version)) : Option (List S_impl_Version) :=
  bif decide (t1 < t20) then (m_slices_symMergeCmpFunc_impl_Version_j11 rc p4 t1 t3 t18 t20 t24 (decide (t20 < t18)) o0)
  else (m_slices_symMergeCmpFunc_impl_Version_j11 rc p4 t1 t3 t18 t20 t24 false o0)
def m_slices_symMergeCmpFunc_impl_Version_j9 (rc : ((List S_impl_Version)) → (Int) → (Int) → (Int) → (S_impl_Version → S_impl_Version → Option Int) → Option (List S_impl_Version)) (p4 : S_impl_Version → S_impl_Version → Option Int) (t1 : Int) (t2 : Int) (t3 : Int) (t18 : Int) (t20 : Int) (t24 : Int) (t185 : Bool) (o0 : (List S_impl_Version)) : Option (List S_impl_Version) :=
  bif t185 then ((m_slices_rotateCmpFunc_impl_Version o0 t20 t2 t24 p4).bind fun x136 =>
    (lenQ x136.length o0.length ()).bind fun u137 =>
    m_slices_symMergeCmpFunc_impl_Version_j10 rc p4 t1 t3 t18 t20 t24 x136)
  else (m_slices_symMergeCmpFunc_impl_Version_j10 rc p4 t1 t3 t18 t20 t24 o0)
def m_slices_symMergeCmpFunc_impl_Version_j8 (rc : ((List S_impl_Version)) → (Int) → (Int) → (Int) → (S_impl_Version → S_impl_Version → Option Int) → Option (List S_impl_Version)) (p4 : S_impl_Version → S_impl_Version → Option Int) (t1 : Int) (t2 : Int) (t3 : Int) (t18 : Int) (t19 : Int) (t20 : Int) (o0 : (List S_impl_Version)) : Option (List S_impl_Version) :=
  (ckI (t19 - t20)).bind fun x131 =>
  bif decide (t20 < t2) then (m_slices_symMergeCmpFunc_impl_Version_j9 rc p4 t1 t2 t3 t18 t20 x131 (decide (t2 < x131)) o0)
  else (m_slices_symMergeCmpFunc_impl_Version_j9 rc p4 t1 t2 t3 t18 t20 x131 false o0)
def m_slices_symMergeCmpFunc_impl_Version_l5 (rc : ((List S_impl_Version)) → (Int) → (Int) → (Int) → (S_impl_Version → S_impl_Version → Option Int) → Option (List S_impl_Version)) (p4 : S_impl_Version → S_impl_Version → Option Int) : Nat → Int → Int → Int → Int → Int → Int → Int → Int → (List S_impl_Version) → Option (List S_impl_Version)
  | 0, _, _, _, _, _, _, _, _, _ => none
  | n5 + 1, t1, t2, t3, t18, t19, t20, t21, t22, o0 =>
    bif decide (t20 < t21) then ((ckI (t20 + t21)).bind fun x117 =>
    (uI x117).bind fun x118 =>
    (shrI x118 (1 : Int)).bind fun x119 =>
    (uI x119).bind fun x120 =>
    (ckI (t22 - x120)).bind fun x122 =>
    (at? o0 x122).bind fun x123 =>
    (at? o0 x122).bind fun x124 =>
    (at? o0 x120).bind fun x125 =>
    (at? o0 x120).bind fun x126 =>
    (p4 x124 x126).bind fun x127 =>
    bif (!(decide (x127 < (0 : Int)))) then ((ckI (x120 + (1 : Int))).bind fun x129 =>
      (m_slices_symMergeCmpFunc_impl_Version_l5 rc p4 n5) t1 t2 t3 t18 t19 x129 t21 t22 o0)
    else ((m_slices_symMergeCmpFunc_impl_Version_l5 rc p4 n5) t1 t2 t3 t18 t19 t20 x120 t22 o0))
    else (m_slices_symMergeCmpFunc_impl_Version_j8 rc p4 t1 t2 t3 t18 t19 t20 o0)
def m_slices_symMergeCmpFunc_impl_Version_j7 (rc : ((List S_impl_Version)) → (Int) → (Int) → (Int) → (S_impl_Version → S_impl_Version → Option Int) → Option (List S_impl_Version)) (p4 : S_impl_Version → S_impl_Version → Option Int) (t1 : Int) (t2 : Int) (t3 : Int) (t18 : Int) (t19 : Int) (t20 : Int) (t21 : Int) (o0 : (List S_impl_Version)) : Option (List S_impl_Version) :=
  (ckI (t19 - (1 : Int))).bind fun x109 =>
  m_slices_symMergeCmpFunc_impl_Version_l5 rc p4 ((t21 - t20).toNat + 1) t1 t2 t3 t18 t19 t20 t21 x109 o0
def m_slices_symMergeCmpFunc_impl_Version_j6 (rc : ((List S_impl_Version)) → (Int) → (Int) → (Int) → (S_impl_Version → S_impl_Version → Option Int) → Option (List S_impl_Version)) (p4 : S_impl_Version → S_impl_Version → Option Int) (t1 : Int) (t2 : Int) (t3 : Int) (o0 : (List S_impl_Version)) : Option (List S_impl_Version) :=
  (ckI (t1 + t3)).bind fun x95 =>
  (uI x95).bind fun x96 =>
  (shrI x96 (1 : Int)).bind fun x97 =>
  (uI x97).bind fun x98 =>
  (ckI (x98 + t2)).bind fun x100 =>
  bif decide (t2 > x98) then ((ckI (x100 - t3)).bind fun x106 =>
    m_slices_symMergeCmpFunc_impl_Version_j7 rc p4 t1 t2 t3 x98 x100 x106 x98 o0)
  else (m_slices_symMergeCmpFunc_impl_Version_j7 rc p4 t1 t2 t3 x98 x100 t1 t2 o0)
def m_slices_symMergeCmpFunc_impl_Version_j5 (rc : ((List S_impl_Version)) → (Int) → (Int) → (Int) → (S_impl_Version → S_impl_Version → Option Int) → Option (List S_impl_Version)) (p4 : S_impl_Version → S_impl_Version → Option Int) (o0 : (List S_impl_Version)) : Option (List S_impl_Version) :=
  some o0
def m_slices_symMergeCmpFunc_impl_Version_l4 (rc : ((List S_impl_Version)) → (Int) → (Int) → (Int) → (S_impl_Version → S_impl_Version → Option Int) → Option (List S_impl_Version)) (p4 : S_impl_Version → S_impl_Version → Option Int) : Nat → Int → Int → (List S_impl_Version) → Option (List S_impl_Version)
  | 0, _, _, _ => none
  | n4 + 1, t14, t17, o0 =>
    bif decide (t17 > t14) then ((ckI (t17 - (1 : Int))).bind fun x81 =>
    (ckI (t17 - (1 : Int))).bind fun x82 =>
    (at? o0 x82).bind fun x83 =>
    (at? o0 x82).bind fun x84 =>
    (at? o0 t17).bind fun x85 =>
    (at? o0 t17).bind fun x86 =>
    (at? o0 t17).bind fun x87 =>
    (at? o0 t17).bind fun x88 =>
    lt (x84) fun y89 =>
    (at? (o0.set (t17).toNat y89) x81).bind fun x90 =>
    (at? (o0.set (t17).toNat y89) x81).bind fun x91 =>
    lt (x86) fun y92 =>
    (ckI (t17 - (1 : Int))).bind fun x93 =>
    (m_slices_symMergeCmpFunc_impl_Version_l4 rc p4 n4) t14 x93 ((o0.set (t17).toNat y89).set (x81).toNat y92))
    else (m_slices_symMergeCmpFunc_impl_Version_j5 rc p4 o0)
def m_slices_symMergeCmpFunc_impl_Version_j4 (rc : ((List S_impl_Version)) → (Int) → (Int) → (Int) → (S_impl_Version → S_impl_Version → Option Int) → Option (List S_impl_Version)) (p4 : S_impl_Version → S_impl_Version → Option Int) (t2 : Int) (t14 : Int) (o0 : (List S_impl_Version)) : Option (List S_impl_Version) :=
  m_slices_symMergeCmpFunc_impl_Version_l4 rc p4 ((t2 - t14).toNat + 1) t14 t2 o0
def m_slices_symMergeCmpFunc_impl_Version_l3 (rc : ((List S_impl_Version)) → (Int) → (Int) → (Int) → (S_impl_Version → S_impl_Version → Option Int) → Option (List S_impl_Version)) (p4 : S_impl_Version → S_impl_Version → Option Int) : Nat → Int → Int → Int → (List S_impl_Version) → Option (List S_impl_Version)
  | 0, _, _, _, _ => none
  | n3 + 1, t2, t14, t15, o0 =>
    bif decide (t14 < t15) then ((ckI (t14 + t15)).bind fun x61 =>
    (uI x61).bind fun x62 =>
    (shrI x62 (1 : Int)).bind fun x63 =>
    (uI x63).bind fun x64 =>
    (at? o0 t2).bind fun x66 =>
    (at? o0 t2).bind fun x67 =>
    (at? o0 x64).bind fun x68 =>
    (at? o0 x64).bind fun x69 =>
    (p4 x67 x69).bind fun x70 =>
    bif (!(decide (x70 < (0 : Int)))) then ((ckI (x64 + (1 : Int))).bind fun x72 =>
      (m_slices_symMergeCmpFunc_impl_Version_l3 rc p4 n3) t2 x72 t15 o0)
    else ((m_slices_symMergeCmpFunc_impl_Version_l3 rc p4 n3) t2 t14 x64 o0))
    else (m_slices_symMergeCmpFunc_impl_Version_j4 rc p4 t2 t14 o0)
def m_slices_symMergeCmpFunc_impl_Version_j3 (rc : ((List S_impl_Version)) → (Int) → (Int) → (Int) → (S_impl_Version → S_impl_Version → Option Int) → Option (List S_impl_Version)) (p4 : S_impl_Version → S_impl_Version → Option Int) (t1 : Int) (t2 : Int) (t3 : Int) (o0 : (List S_impl_Version)) : Option (List S_impl_Version) :=
  (ckI (t3 - t2)).bind fun x50 =>
  bif (x50 == (1 : Int)) then (m_slices_symMergeCmpFunc_impl_Version_l3 rc p4 ((t2 - t1).toNat + 1) t2 t1 t2 o0)
  else (m_slices_symMergeCmpFunc_impl_Version_j6 rc p4 t1 t2 t3 o0)
def m_slices_symMergeCmpFunc_impl_Version_j2 (rc : ((List S_impl_Version)) → (Int) → (Int) → (Int) → (S_impl_Version → S_impl_Version → Option Int) → Option (List S_impl_Version)) (p4 : S_impl_Version → S_impl_Version → Option Int) (o0 : (List S_impl_Version)) : Option (List S_impl_Version) :=
  some o0
def m_slices_symMergeCmpFunc_impl_Version_l2 (rc : ((List S_impl_Version)) → (Int) → (Int) → (Int) → (S_impl_Version → S_impl_Version → Option Int) → Option (List S_impl_Version)) (p4 : S_impl_Version → S_impl_Version → Option Int) : Nat → Int → Int → (List S_impl_Version) → Option (List S_impl_Version)
  | 0, _, _, _ => none
  | n2 + 1, t10, t13, o0 =>
    (ckI (t10 - (1 : Int))).bind fun x32 =>
    bif decide (t13 < x32) then ((ckI (t13 + (1 : Int))).bind fun x35 =>
    (ckI (t13 + (1 : Int))).bind fun x36 =>
    (at? o0 x36).bind fun x37 =>
    (at? o0 x36).bind fun x38 =>
    (at? o0 t13).bind fun x39 =>
    (at? o0 t13).bind fun x40 =>
    (at? o0 t13).bind fun x41 =>
    (at? o0 t13).bind fun x42 =>
    lt (x38) fun y43 =>
    (at? (o0.set (t13).toNat y43) x35).bind fun x44 =>
    (at? (o0.set (t13).toNat y43) x35).bind fun x45 =>
    lt (x40) fun y46 =>
    (ckI (t13 + (1 : Int))).bind fun x47 =>
    (m_slices_symMergeCmpFunc_impl_Version_l2 rc p4 n2) t10 x47 ((o0.set (t13).toNat y43).set (x35).toNat y46))
    else (m_slices_symMergeCmpFunc_impl_Version_j2 rc p4 o0)
def m_slices_symMergeCmpFunc_impl_Version_j1 (rc : ((List S_impl_Version)) → (Int) → (Int) → (Int) → (S_impl_Version → S_impl_Version → Option Int) → Option (List S_impl_Version)) (p4 : S_impl_Version → S_impl_Version → Option Int) (t1 : Int) (t10 : Int) (o0 : (List S_impl_Version)) : Option (List S_impl_Version) :=
  m_slices_symMergeCmpFunc_impl_Version_l2 rc p4 (1000000000) t10 t1 o0
def m_slices_symMergeCmpFunc_impl_Version_l1 (rc : ((List S_impl_Version)) → (Int) → (Int) → (Int) → (S_impl_Version → S_impl_Version → Option Int) → Option (List S_impl_Version)) (p4 : S_impl_Version → S_impl_Version → Option Int) : Nat → Int → Int → Int → (List S_impl_Version) → Option (List S_impl_Version)
  | 0, _, _, _, _ => none
  | n1 + 1, t1, t10, t11, o0 =>
    bif decide (t10 < t11) then ((ckI (t10 + t11)).bind fun x14 =>
    (uI x14).bind fun x15 =>
    (shrI x15 (1 : Int)).bind fun x16 =>
    (uI x16).bind fun x17 =>
    (at? o0 x17).bind fun x19 =>
    (at? o0 x17).bind fun x20 =>
    (at? o0 t1).bind fun x21 =>
    (at? o0 t1).bind fun x22 =>
    (p4 x20 x22).bind fun x23 =>
    bif decide (x23 < (0 : Int)) then ((ckI (x17 + (1 : Int))).bind fun x25 =>
      (m_slices_symMergeCmpFunc_impl_Version_l1 rc p4 n1) t1 x25 t11 o0)
    else ((m_slices_symMergeCmpFunc_impl_Version_l1 rc p4 n1) t1 t10 x17 o0))
    else (m_slices_symMergeCmpFunc_impl_Version_j1 rc p4 t1 t10 o0)
def m_slices_symMergeCmpFunc_impl_Version_b (rc : ((List S_impl_Version)) → (Int) → (Int) → (Int) → (S_impl_Version → S_impl_Version → Option Int) → Option (List S_impl_Version)) (o0 : (List S_impl_Version)) (a1 : Int) (a2 : Int) (a3 : Int) (p4 : S_impl_Version → S_impl_Version → Option Int) : Option (List S_impl_Version) :=
  (ckI (a2 - a1)).bind fun x3 =>
  bif (x3 == (1 : Int)) then (m_slices_symMergeCmpFunc_impl_Version_l1 rc p4 ((a3 - a2).toNat + 1) a1 a2 a3 o0)
  else (m_slices_symMergeCmpFunc_impl_Version_j3 rc p4 a1 a2 a3 o0)
def m_slices_symMergeCmpFunc_impl_Version : Nat → ((List S_impl_Version)) → (Int) → (Int) → (Int) → (S_impl_Version → S_impl_Version → Option Int) → Option (List S_impl_Version)
  | 0, _, _, _, _, _ => none
  | fu + 1, o0, a1, a2, a3, p4 => m_slices_symMergeCmpFunc_impl_Version_b (m_slices_symMergeCmpFunc_impl_Version fu) o0 a1 a2 a3 p4
theorem cb_slices_symMergeCmpFunc_impl_Version (rc : ((List S_impl_Version)) → (Int) → (Int) → (Int) → (S_impl_Version → S_impl_Version → Option Int) → Option (List S_impl_Version)) (hrc : ∀ (o0 : (List S_impl_Version)) (a1 : Int) (a2 : Int) (a3 : Int) (p4 : S_impl_Version → S_impl_Version → Option Int) (f4 : FuncId) (q4 : List LV) (hq4 : ∀ k, LV.at?.atL k q4 = false) (hf4 : ∀ a0 a1 v, p4 a0 a1 = some v → Ret Try.prog f4 (e_impl_Version a0 :: e_impl_Version a1 :: q4) (e_int v)) (r : (List S_impl_Version)), rc o0 a1 a2 a3 p4 = some r → Does Try.prog f_slices_symMergeCmpFunc_impl_Version [.own 0 0 o0.length, e_int a1, e_int a2, e_int a3, .clo f4 q4] [(0, (lob 4 e_impl_Version o0))] (fun x hh => x = .tup [] ∧ hh = [(0, (lob 4 e_impl_Version r))])) (o0 : (List S_impl_Version)) (a1 : Int) (a2 : Int) (a3 : Int) (p4 : S_impl_Version → S_impl_Version → Option Int) (f4 : FuncId) (q4 : List LV) (hq4 : ∀ k, LV.at?.atL k q4 = false) (hf4 : ∀ a0 a1 v, p4 a0 a1 = some v → Ret Try.prog f4 (e_impl_Version a0 :: e_impl_Version a1 :: q4) (e_int v)) (r : (List S_impl_Version)) (h : m_slices_symMergeCmpFunc_impl_Version_b rc o0 a1 a2 a3 p4 = some r) : Does Try.prog f_slices_symMergeCmpFunc_impl_Version [.own 0 0 o0.length, e_int a1, e_int a2, e_int a3, .clo f4 q4] [(0, (lob 4 e_impl_Version o0))] (fun x hh => x = .tup [] ∧ hh = [(0, (lob 4 e_impl_Version r))]) := by
  refine Does.goG [0] F_slices_symMergeCmpFunc_impl_Version rfl e_slices_symMergeCmpFunc_impl_Version n_slices_symMergeCmpFunc_impl_Version rfl (rvs := []) rfl rfl ?_
  intro w0 ok0 lent ρ0
  refine LWP.join (α := Int × Int × Int × (List S_impl_Version)) (fun z : Int × Int × Int × (List S_impl_Version) => [(0, (.own 0 0 (z.2.2.2).length)), (1, (e_int z.1)), (2, (e_int z.2.1)), (3, (e_int z.2.2.1)), (4, (.clo f4 q4))]) (fun z : Int × Int × Int × (List S_impl_Version) => [(0, (lob 4 e_impl_Version z.2.2.2))]) (fun z : Int × Int × Int × (List S_impl_Version) => m_slices_symMergeCmpFunc_impl_Version_j3 rc p4 z.1 z.2.1 z.2.2.1 z.2.2.2) r (fun _ => by simp [hkeys]) ?_ ?_
  ·rintro ⟨t1, t2, t3, o0⟩ h
   replace h : m_slices_symMergeCmpFunc_impl_Version_j3 rc p4 t1 t2 t3 o0 = some _ := h
   refine LWP.join (α := Int × Int × Int × (List S_impl_Version)) (fun z : Int × Int × Int × (List S_impl_Version) => [(0, (.own 0 0 (z.2.2.2).length)), (1, (e_int z.1)), (2, (e_int z.2.1)), (3, (e_int z.2.2.1)), (4, (.clo f4 q4))]) (fun z : Int × Int × Int × (List S_impl_Version) => [(0, (lob 4 e_impl_Version z.2.2.2))]) (fun z : Int × Int × Int × (List S_impl_Version) => m_slices_symMergeCmpFunc_impl_Version_j6 rc p4 z.1 z.2.1 z.2.2.1 z.2.2.2) r (fun _ => by simp [hkeys]) ?_ ?_
   ·rintro ⟨t1, t2, t3, o0⟩ h
    replace h : m_slices_symMergeCmpFunc_impl_Version_j6 rc p4 t1 t2 t3 o0 = some _ := h
    refine LWP.seq_k fun N94 hN94 => ?_
    refine LWP.region (l := [_,_,_,_,_,_,_]) ?_
    refine LWo.move (e_int t1) rfl (hn := ?_)
    refine LWo.move (e_int t3) rfl (hn := ?_)
    refine bk h fun x95 e95 h => ?_
    refine LWo.int _ rfl rfl (add_ck e95) (hn := ?_)
    refine bk h fun x96 e96 h => ?_
    refine LWo.convIU e96 u_int u_uint rfl (hn := ?_)
    refine bk h fun x97 e97 h => ?_
    refine LWo.shrU e97 rfl rfl (hn := ?_)
    refine bk h fun x98 e98 h => ?_
    refine LWo.convUI e98 u_uint u_int rfl (hn := ?_)
    refine LWo.assign (e_int x98) rfl (hn := ?_)
    refine LWo.nil (hN94 _ ?_)
    refine LWP.seq_k fun N99 hN99 => ?_
    refine LWP.region (l := [_,_,_,_]) ?_
    refine LWo.move (e_int x98) rfl (hn := ?_)
    refine LWo.move (e_int t2) rfl (hn := ?_)
    refine bk h fun x100 e100 h => ?_
    refine LWo.int _ rfl rfl (add_ck e100) (hn := ?_)
    refine LWo.assign (e_int x100) rfl (hn := ?_)
    refine LWo.nil (hN99 _ ?_)
    refine LWP.seq_k fun N101 hN101 => ?_
    refine LWP.region (l := [_,_]) ?_
    refine LWo.assign (e_int (0 : Int)) rfl (hn := ?_)
    refine LWo.assign (e_int (0 : Int)) rfl (hn := ?_)
    refine LWo.nil (hN101 _ ?_)
    refine LWP.join (α := Int × Int × Int × Int × Int × Int × Int × (List S_impl_Version)) (fun z : Int × Int × Int × Int × Int × Int × Int × (List S_impl_Version) => [(0, (.own 0 0 (z.2.2.2.2.2.2.2).length)), (1, (e_int z.1)), (2, (e_int z.2.1)), (3, (e_int z.2.2.1)), (4, (.clo f4 q4)), (18, (e_int z.2.2.2.1)), (19, (e_int z.2.2.2.2.1)), (20, (e_int z.2.2.2.2.2.1)), (21, (e_int z.2.2.2.2.2.2.1))]) (fun z : Int × Int × Int × Int × Int × Int × Int × (List S_impl_Version) => [(0, (lob 4 e_impl_Version z.2.2.2.2.2.2.2))]) (fun z : Int × Int × Int × Int × Int × Int × Int × (List S_impl_Version) => m_slices_symMergeCmpFunc_impl_Version_j7 rc p4 z.1 z.2.1 z.2.2.1 z.2.2.2.1 z.2.2.2.2.1 z.2.2.2.2.2.1 z.2.2.2.2.2.2.1 z.2.2.2.2.2.2.2) r (fun _ => by simp [hkeys]) ?_ ?_
    ·rintro ⟨t1, t2, t3, t18, t19, t20, t21, o0⟩ h
     replace h : m_slices_symMergeCmpFunc_impl_Version_j7 rc p4 t1 t2 t3 t18 t19 t20 t21 o0 = some _ := h
     refine LWP.seq_k fun N108 hN108 => ?_
     refine LWP.region (l := [_,_,_]) ?_
     refine LWo.move (e_int t19) rfl (hn := ?_)
     refine bk h fun x109 e109 h => ?_
     refine LWo.int _ rfl rfl (sub_ck e109) (hn := ?_)
     refine LWo.assign (e_int x109) rfl (hn := ?_)
     refine LWo.nil (hN108 _ ?_)
     refine LWP.join (α := Int × Int × Int × Int × Int × Int × (List S_impl_Version)) (fun z : Int × Int × Int × Int × Int × Int × (List S_impl_Version) => [(0, (.own 0 0 (z.2.2.2.2.2.2).length)), (1, (e_int z.1)), (2, (e_int z.2.1)), (3, (e_int z.2.2.1)), (4, (.clo f4 q4)), (18, (e_int z.2.2.2.1)), (19, (e_int z.2.2.2.2.1)), (20, (e_int z.2.2.2.2.2.1))]) (fun z : Int × Int × Int × Int × Int × Int × (List S_impl_Version) => [(0, (lob 4 e_impl_Version z.2.2.2.2.2.2))]) (fun z : Int × Int × Int × Int × Int × Int × (List S_impl_Version) => m_slices_symMergeCmpFunc_impl_Version_j8 rc p4 z.1 z.2.1 z.2.2.1 z.2.2.2.1 z.2.2.2.2.1 z.2.2.2.2.2.1 z.2.2.2.2.2.2) r (fun _ => by simp [hkeys]) ?_ ?_
     ·rintro ⟨t1, t2, t3, t18, t19, t20, o0⟩ h
      replace h : m_slices_symMergeCmpFunc_impl_Version_j8 rc p4 t1 t2 t3 t18 t19 t20 o0 = some _ := h
      refine LWP.seq_k fun N130 hN130 => ?_
      refine LWP.region (l := [_,_,_,_]) ?_
      refine LWo.move (e_int t19) rfl (hn := ?_)
      refine LWo.move (e_int t20) rfl (hn := ?_)
      refine bk h fun x131 e131 h => ?_
      refine LWo.int _ rfl rfl (sub_ck e131) (hn := ?_)
      refine LWo.assign (e_int x131) rfl (hn := ?_)
      refine LWo.nil (hN130 _ ?_)
      refine LWP.join (α := Int × Int × Int × Int × Int × (List S_impl_Version)) (fun z : Int × Int × Int × Int × Int × (List S_impl_Version) => [(0, (.own 0 0 (z.2.2.2.2.2).length)), (1, (e_int z.1)), (3, (e_int z.2.1)), (4, (.clo f4 q4)), (18, (e_int z.2.2.1)), (20, (e_int z.2.2.2.1)), (24, (e_int z.2.2.2.2.1))]) (fun z : Int × Int × Int × Int × Int × (List S_impl_Version) => [(0, (lob 4 e_impl_Version z.2.2.2.2.2))]) (fun z : Int × Int × Int × Int × Int × (List S_impl_Version) => m_slices_symMergeCmpFunc_impl_Version_j10 rc p4 z.1 z.2.1 z.2.2.1 z.2.2.2.1 z.2.2.2.2.1 z.2.2.2.2.2) r (fun _ => by simp [hkeys]) ?_ ?_
      ·rintro ⟨t1, t3, t18, t20, t24, o0⟩ h
       replace h : m_slices_symMergeCmpFunc_impl_Version_j10 rc p4 t1 t3 t18 t20 t24 o0 = some _ := h
       refine LWP.join (α := Int × Int × Int × (List S_impl_Version)) (fun z : Int × Int × Int × (List S_impl_Version) => [(0, (.own 0 0 (z.2.2.2).length)), (3, (e_int z.1)), (4, (.clo f4 q4)), (18, (e_int z.2.1)), (24, (e_int z.2.2.1))]) (fun z : Int × Int × Int × (List S_impl_Version) => [(0, (lob 4 e_impl_Version z.2.2.2))]) (fun z : Int × Int × Int × (List S_impl_Version) => m_slices_symMergeCmpFunc_impl_Version_j12 rc p4 z.1 z.2.1 z.2.2.1 z.2.2.2) r (fun _ => by simp [hkeys]) ?_ ?_
       ·rintro ⟨t3, t18, t24, o0⟩ h
        replace h : m_slices_symMergeCmpFunc_impl_Version_j12 rc p4 t3 t18 t24 o0 = some _ := h
        refine LWP.join (α := Int × Int × Int × Bool × (List S_impl_Version)) (fun z : Int × Int × Int × Bool × (List S_impl_Version) => [(0, (.own 0 0 (z.2.2.2.2).length)), (3, (e_int z.1)), (4, (.clo f4 q4)), (18, (e_int z.2.1)), (24, (e_int z.2.2.1)), (213, (e_bool z.2.2.2.1))]) (fun z : Int × Int × Int × Bool × (List S_impl_Version) => [(0, (lob 4 e_impl_Version z.2.2.2.2))]) (fun z : Int × Int × Int × Bool × (List S_impl_Version) => m_slices_symMergeCmpFunc_impl_Version_j13 rc p4 z.1 z.2.1 z.2.2.1 z.2.2.2.1 z.2.2.2.2) r (fun _ => by simp [hkeys]) ?_ ?_
        ·rintro ⟨t3, t18, t24, t213, o0⟩ h
         replace h : m_slices_symMergeCmpFunc_impl_Version_j13 rc p4 t3 t18 t24 t213 o0 = some _ := h
         refine LWP.cond_split rfl (fun h146 => ?_) (fun h146 => ?_)
         ·have h := bT h146 h
          refine LWP.region (l := [_,_,_,_,_,_]) ?_
          refine LWo.move (.own 0 0 (o0).length) rfl (hn := ?_)
          refine LWo.move (e_int t18) rfl (hn := ?_)
          refine LWo.move (e_int t24) rfl (hn := ?_)
          refine LWo.move (e_int t3) rfl (hn := ?_)
          refine LWo.move (.clo f4 q4) rfl (hn := ?_)
          refine bk h fun x147 e147 h => ?_
          refine bk h fun u148 e148 h => ?_
          refine LWo.ucallM (e := e_impl_Version) rfl rfl ((fun k => Does.nameO (hrc _ _ _ _ _ f4 q4 hq4 hf4 _ e147) (fun k => (atC rfl (atC rfl (atC rfl (atC (hq4 k) (atN _)))))) k) 0) rfl rfl (some 219) rfl (hn := ?_)
          obtain rfl := Option.some.inj h
          refine LWo.nil (QG.mk (.inl rfl) (.nil) (RetOK.many1 (.nil) (by simp) (by decide) rfl rfl rfl rfl rfl) rfl rfl)
         ·have h := bF h146 h
          obtain rfl := Option.some.inj h
          refine LWP.skip (QG.mk (.inl rfl) (.nil) (RetOK.many1 (.nil) (by simp) (by decide) rfl rfl rfl rfl rfl) rfl rfl)
        ·intro N144 hN144
         refine LWP.region (l := [_,_,_,_,_,_,_,_]) ?_
         refine LWo.move (e_int t18) rfl (hn := ?_)
         refine LWo.move (e_int t24) rfl (hn := ?_)
         refine LWo.int _ rfl rfl rfl (hn := ?_)
         refine LWo.move (e_bool (decide (t18 < t24))) rfl (hn := ?_)
         refine LWo.byCases (t := 209) _ rfl (fun h145 => ?_) (fun h145 => ?_)
         ·have h := bT h145 h
          refine LWo.guardY (t := 209) rfl h145 rfl rfl ?_
          refine LWo.move (e_int t24) rfl (hn := ?_)
          refine LWo.guardY (t := 209) rfl h145 rfl rfl ?_
          refine LWo.move (e_int t3) rfl (hn := ?_)
          refine LWo.guardY (t := 209) rfl h145 rfl rfl ?_
          refine LWo.int _ rfl rfl rfl (hn := ?_)
          refine LWo.pickTM (e_bool (decide (t24 < t3))) rfl h145 rfl (hn := ?_)
          refine LWo.nil (hN144 (t3, t18, t24, decide (t24 < t3), o0) _ ⟨rfl, rfl, rfl, rfl, rfl, rfl, trivial⟩ ⟨rfl, trivial⟩ h)
         ·have h := bF h145 h
          refine LWo.guardNU (t := 209) rfl h145 rfl rfl rfl rfl rfl ?_
          refine LWo.guardNU (t := 209) rfl h145 rfl rfl rfl rfl rfl ?_
          refine LWo.guardNU (t := 209) rfl h145 rfl rfl rfl rfl rfl ?_
          refine LWo.pickFM (e_bool false) rfl h145 rfl (hn := ?_)
          refine LWo.nil (hN144 (t3, t18, t24, false, o0) _ ⟨rfl, rfl, rfl, rfl, rfl, rfl, trivial⟩ ⟨rfl, trivial⟩ h)
       ·intro N138 hN138
        refine LWP.join (α := Int × Int × Int × Int × Int × Bool × (List S_impl_Version)) (fun z : Int × Int × Int × Int × Int × Bool × (List S_impl_Version) => [(0, (.own 0 0 (z.2.2.2.2.2.2).length)), (1, (e_int z.1)), (3, (e_int z.2.1)), (4, (.clo f4 q4)), (18, (e_int z.2.2.1)), (20, (e_int z.2.2.2.1)), (24, (e_int z.2.2.2.2.1)), (199, (e_bool z.2.2.2.2.2.1))]) (fun z : Int × Int × Int × Int × Int × Bool × (List S_impl_Version) => [(0, (lob 4 e_impl_Version z.2.2.2.2.2.2))]) (fun z : Int × Int × Int × Int × Int × Bool × (List S_impl_Version) => m_slices_symMergeCmpFunc_impl_Version_j11 rc p4 z.1 z.2.1 z.2.2.1 z.2.2.2.1 z.2.2.2.2.1 z.2.2.2.2.2.1 z.2.2.2.2.2.2) r (fun _ => by simp [hkeys]) ?_ ?_
        ·rintro ⟨t1, t3, t18, t20, t24, t199, o0⟩ h
         replace h : m_slices_symMergeCmpFunc_impl_Version_j11 rc p4 t1 t3 t18 t20 t24 t199 o0 = some _ := h
         refine LWP.cond_split rfl (fun h141 => ?_) (fun h141 => ?_)
         ·have h := bT h141 h
          refine LWP.region (l := [_,_,_,_,_,_]) ?_
          refine LWo.move (.own 0 0 (o0).length) rfl (hn := ?_)
          refine LWo.move (e_int t1) rfl (hn := ?_)
          refine LWo.move (e_int t20) rfl (hn := ?_)
          refine LWo.move (e_int t18) rfl (hn := ?_)
          refine LWo.move (.clo f4 q4) rfl (hn := ?_)
          refine bk h fun x142 e142 h => ?_
          refine bk h fun u143 e143 h => ?_
          refine LWo.ucallM (e := e_impl_Version) rfl rfl ((fun k => Does.nameO (hrc _ _ _ _ _ f4 q4 hq4 hf4 _ e142) (fun k => (atC rfl (atC rfl (atC rfl (atC (hq4 k) (atN _)))))) k) 0) rfl rfl (some 205) rfl (hn := ?_)
          refine LWo.nil (hN138 (t3, t18, t24, x142) _ ⟨(congrArg (LV.own 0 0) ((lenQ_some e143).1.symm)), rfl, rfl, rfl, rfl, trivial⟩ ⟨rfl, trivial⟩ h)
         ·have h := bF h141 h
          refine LWP.skip (hN138 (t3, t18, t24, o0) _ ⟨rfl, rfl, rfl, rfl, rfl, trivial⟩ ⟨rfl, trivial⟩ h)
        ·intro N139 hN139
         refine LWP.region (l := [_,_,_,_,_,_,_,_]) ?_
         refine LWo.move (e_int t1) rfl (hn := ?_)
         refine LWo.move (e_int t20) rfl (hn := ?_)
         refine LWo.int _ rfl rfl rfl (hn := ?_)
         refine LWo.move (e_bool (decide (t1 < t20))) rfl (hn := ?_)
         refine LWo.byCases (t := 195) _ rfl (fun h140 => ?_) (fun h140 => ?_)
         ·have h := bT h140 h
          refine LWo.guardY (t := 195) rfl h140 rfl rfl ?_
          refine LWo.move (e_int t20) rfl (hn := ?_)
          refine LWo.guardY (t := 195) rfl h140 rfl rfl ?_
          refine LWo.move (e_int t18) rfl (hn := ?_)
          refine LWo.guardY (t := 195) rfl h140 rfl rfl ?_
          refine LWo.int _ rfl rfl rfl (hn := ?_)
          refine LWo.pickTM (e_bool (decide (t20 < t18))) rfl h140 rfl (hn := ?_)
          refine LWo.nil (hN139 (t1, t3, t18, t20, t24, decide (t20 < t18), o0) _ ⟨rfl, rfl, rfl, rfl, rfl, rfl, rfl, rfl, trivial⟩ ⟨rfl, trivial⟩ h)
         ·have h := bF h140 h
          refine LWo.guardNU (t := 195) rfl h140 rfl rfl rfl rfl rfl ?_
          refine LWo.guardNU (t := 195) rfl h140 rfl rfl rfl rfl rfl ?_
          refine LWo.guardNU (t := 195) rfl h140 rfl rfl rfl rfl rfl ?_
          refine LWo.pickFM (e_bool false) rfl h140 rfl (hn := ?_)
          refine LWo.nil (hN139 (t1, t3, t18, t20, t24, false, o0) _ ⟨rfl, rfl, rfl, rfl, rfl, rfl, rfl, rfl, trivial⟩ ⟨rfl, trivial⟩ h)
      ·intro N132 hN132
       refine LWP.join (α := Int × Int × Int × Int × Int × Int × Bool × (List S_impl_Version)) (fun z : Int × Int × Int × Int × Int × Int × Bool × (List S_impl_Version) => [(0, (.own 0 0 (z.2.2.2.2.2.2.2).length)), (1, (e_int z.1)), (2, (e_int z.2.1)), (3, (e_int z.2.2.1)), (4, (.clo f4 q4)), (18, (e_int z.2.2.2.1)), (20, (e_int z.2.2.2.2.1)), (24, (e_int z.2.2.2.2.2.1)), (185, (e_bool z.2.2.2.2.2.2.1))]) (fun z : Int × Int × Int × Int × Int × Int × Bool × (List S_impl_Version) => [(0, (lob 4 e_impl_Version z.2.2.2.2.2.2.2))]) (fun z : Int × Int × Int × Int × Int × Int × Bool × (List S_impl_Version) => m_slices_symMergeCmpFunc_impl_Version_j9 rc p4 z.1 z.2.1 z.2.2.1 z.2.2.2.1 z.2.2.2.2.1 z.2.2.2.2.2.1 z.2.2.2.2.2.2.1 z.2.2.2.2.2.2.2) r (fun _ => by simp [hkeys]) ?_ ?_
       ·rintro ⟨t1, t2, t3, t18, t20, t24, t185, o0⟩ h
        replace h : m_slices_symMergeCmpFunc_impl_Version_j9 rc p4 t1 t2 t3 t18 t20 t24 t185 o0 = some _ := h
        refine LWP.cond_split rfl (fun h135 => ?_) (fun h135 => ?_)
        ·have h := bT h135 h
         refine LWP.region (l := [_,_,_,_,_,_]) ?_
         refine LWo.move (.own 0 0 (o0).length) rfl (hn := ?_)
         refine LWo.move (e_int t20) rfl (hn := ?_)
         refine LWo.move (e_int t2) rfl (hn := ?_)
         refine LWo.move (e_int t24) rfl (hn := ?_)
         refine LWo.move (.clo f4 q4) rfl (hn := ?_)
         refine bk h fun x136 e136 h => ?_
         refine bk h fun u137 e137 h => ?_
         refine LWo.ucallM (e := e_impl_Version) rfl rfl (k_slices_rotateCmpFunc_impl_Version _ _ _ _ _ f4 q4 hq4 hf4 _ e136 0) rfl rfl (some 191) rfl (hn := ?_)
         refine LWo.nil (hN132 (t1, t3, t18, t20, t24, x136) _ ⟨(congrArg (LV.own 0 0) ((lenQ_some e137).1.symm)), rfl, rfl, rfl, rfl, rfl, rfl, trivial⟩ ⟨rfl, trivial⟩ h)
        ·have h := bF h135 h
         refine LWP.skip (hN132 (t1, t3, t18, t20, t24, o0) _ ⟨rfl, rfl, rfl, rfl, rfl, rfl, rfl, trivial⟩ ⟨rfl, trivial⟩ h)
       ·intro N133 hN133
        refine LWP.region (l := [_,_,_,_,_,_,_,_]) ?_
        refine LWo.move (e_int t20) rfl (hn := ?_)
        refine LWo.move (e_int t2) rfl (hn := ?_)
        refine LWo.int _ rfl rfl rfl (hn := ?_)
        refine LWo.move (e_bool (decide (t20 < t2))) rfl (hn := ?_)
        refine LWo.byCases (t := 181) _ rfl (fun h134 => ?_) (fun h134 => ?_)
        ·have h := bT h134 h
         refine LWo.guardY (t := 181) rfl h134 rfl rfl ?_
         refine LWo.move (e_int t2) rfl (hn := ?_)
         refine LWo.guardY (t := 181) rfl h134 rfl rfl ?_
         refine LWo.move (e_int x131) rfl (hn := ?_)
         refine LWo.guardY (t := 181) rfl h134 rfl rfl ?_
         refine LWo.int _ rfl rfl rfl (hn := ?_)
         refine LWo.pickTM (e_bool (decide (t2 < x131))) rfl h134 rfl (hn := ?_)
         refine LWo.nil (hN133 (t1, t2, t3, t18, t20, x131, decide (t2 < x131), o0) _ ⟨rfl, rfl, rfl, rfl, rfl, rfl, rfl, rfl, rfl, trivial⟩ ⟨rfl, trivial⟩ h)
        ·have h := bF h134 h
         refine LWo.guardNU (t := 181) rfl h134 rfl rfl rfl rfl rfl ?_
         refine LWo.guardNU (t := 181) rfl h134 rfl rfl rfl rfl rfl ?_
         refine LWo.guardNU (t := 181) rfl h134 rfl rfl rfl rfl rfl ?_
         refine LWo.pickFM (e_bool false) rfl h134 rfl (hn := ?_)
         refine LWo.nil (hN133 (t1, t2, t3, t18, t20, x131, false, o0) _ ⟨rfl, rfl, rfl, rfl, rfl, rfl, rfl, rfl, rfl, trivial⟩ ⟨rfl, trivial⟩ h)
     ·intro N110 hN110
      refine LWP.block ?_
      refine LWP.loopM (α := Int × Int × Int × Int × Int × Int × Int × Int × (List S_impl_Version)) (fun z : Int × Int × Int × Int × Int × Int × Int × Int × (List S_impl_Version) => [(0, (.own 0 0 (z.2.2.2.2.2.2.2.2).length)), (1, (e_int z.1)), (2, (e_int z.2.1)), (3, (e_int z.2.2.1)), (4, (.clo f4 q4)), (18, (e_int z.2.2.2.1)), (19, (e_int z.2.2.2.2.1)), (20, (e_int z.2.2.2.2.2.1)), (21, (e_int z.2.2.2.2.2.2.1)), (22, (e_int z.2.2.2.2.2.2.2.1))]) (fun z : Int × Int × Int × Int × Int × Int × Int × Int × (List S_impl_Version) => [(0, (lob 4 e_impl_Version z.2.2.2.2.2.2.2.2))]) (fun n5 (z : Int × Int × Int × Int × Int × Int × Int × Int × (List S_impl_Version)) => m_slices_symMergeCmpFunc_impl_Version_l5 rc p4 n5 z.1 z.2.1 z.2.2.1 z.2.2.2.1 z.2.2.2.2.1 z.2.2.2.2.2.1 z.2.2.2.2.2.2.1 z.2.2.2.2.2.2.2.1 z.2.2.2.2.2.2.2.2) r _ (t1, t2, t3, t18, t19, t20, t21, x109, o0) h (fun _ => rfl) (fun _ => by simp [hkeys]) ⟨rfl, rfl, rfl, rfl, rfl, rfl, rfl, rfl, rfl, rfl, trivial⟩ ⟨rfl, trivial⟩ ?_
      rintro n5 ⟨t1, t2, t3, t18, t19, t20, t21, t22, o0⟩ h N111 hN111
      replace h : m_slices_symMergeCmpFunc_impl_Version_l5 rc p4 (n5 + 1) t1 t2 t3 t18 t19 t20 t21 t22 o0 = some _ := h
      refine LWP.seq_k fun N113 hN113 => ?_
      refine LWP.seq_k fun N114 hN114 => ?_
      refine LWP.region (l := [_,_,_]) ?_
      refine LWo.move (e_int t20) rfl (hn := ?_)
      refine LWo.move (e_int t21) rfl (hn := ?_)
      refine LWo.int _ rfl rfl rfl (hn := ?_)
      refine LWo.nil (hN114 _ ?_)
      refine LWP.cond_split rfl (fun h115 => ?_) (fun h115 => ?_)
      ·have h := bT h115 h
       refine LWP.skip (hN113 _ ?_)
       refine LWP.block ?_
       refine LWP.seq_k fun N116 hN116 => ?_
       refine LWP.region (l := [_,_,_,_,_,_,_]) ?_
       refine LWo.move (e_int t20) rfl (hn := ?_)
       refine LWo.move (e_int t21) rfl (hn := ?_)
       refine bk h fun x117 e117 h => ?_
       refine LWo.int _ rfl rfl (add_ck e117) (hn := ?_)
       refine bk h fun x118 e118 h => ?_
       refine LWo.convIU e118 u_int u_uint rfl (hn := ?_)
       refine bk h fun x119 e119 h => ?_
       refine LWo.shrU e119 rfl rfl (hn := ?_)
       refine bk h fun x120 e120 h => ?_
       refine LWo.convUI e120 u_uint u_int rfl (hn := ?_)
       refine LWo.assign (e_int x120) rfl (hn := ?_)
       refine LWo.nil (hN116 _ ?_)
       refine LWP.seq_k fun N121 hN121 => ?_
       refine bk h fun x122 e122 h => ?_
       refine bk h fun x123 e123 h => ?_
       refine bk h fun x124 e124 h => ?_
       refine bk h fun x125 e125 h => ?_
       refine bk h fun x126 e126 h => ?_
       refine bk h fun x127 e127 h => ?_
       refine LWP.drawF (l := [_,_,_,_,_,_,_,_,_,_,_,_,_,_]) [] [0, 1, 2, 3, 4, 18, 19, 20, 21, 22, 23] [([4], []), ([0], []), ([22], []), ([23], []), ([160, 161], []), ([159, 162], [0]), ([163], [0]), ([0], []), ([23], []), ([165, 166], [0]), ([167], [0]), ([158, 164, 168], []), ([169], []), ([170], [])] [0, 1, 2, 3, 4, 18, 19, 20, 21, 22, 23, 171] [0] mixed (by kernel_rfl) rfl (by decide) ?_
       refine dq 158 rfl (fun _ g u h => LWo.move (.clo f4 q4) u.1 (hn := .nil (zn g))) ?_
       refine dq 159 rfl (fun _ g u h => LWo.move (.own 0 0 (o0).length) u.1 (hn := .nil (zn g))) ?_
       refine dq 160 rfl (fun _ g u h => LWo.move (e_int t22) u.1 (hn := .nil (zn g))) ?_
       refine dq 161 rfl (fun _ g u h => LWo.move (e_int x120) u.1 (hn := .nil (zn g))) ?_
       refine dq 162 rfl (fun _ g u h => LWo.int _ u.1 u.2.1 (sub_ck e122) (hn := .nil (zn g))) ?_
       refine dq 163 rfl (fun _ g u h => LWo.indexO e123 rfl u_Limpl_Version s_impl_Version u.1 u.2.1 h.1 (hn := .nil (zn g))) ?_
       refine dq 164 rfl (fun _ g u h => LWo.loadON ((e_impl_Version x124)).cells e124 g_impl_Version s_impl_Version u.1 h.1 rfl rfl (hn := .nil (zn g))) ?_
       refine dq 165 rfl (fun _ g u h => LWo.move (.own 0 0 (o0).length) u.1 (hn := .nil (zn g))) ?_
       refine dq 166 rfl (fun _ g u h => LWo.move (e_int x120) u.1 (hn := .nil (zn g))) ?_
       refine dq 167 rfl (fun _ g u h => LWo.indexO e125 rfl u_Limpl_Version s_impl_Version u.1 u.2.1 h.1 (hn := .nil (zn g))) ?_
       refine dq 168 rfl (fun _ g u h => LWo.loadON ((e_impl_Version x126)).cells e126 g_impl_Version s_impl_Version u.1 h.1 rfl rfl (hn := .nil (zn g))) ?_
       refine dq 169 rfl (fun _ g u h => LWo.vcall u.1 (avq2 u.2.1 u.2.2.1) (hf4 _ _ _ e127) .refl (hn := .nil (zn g))) ?_
       refine dq 170 rfl (fun _ g u h => LWo.int _ u.1 rfl rfl (hn := .nil (zn g))) ?_
       refine dq 171 rfl (fun _ g u h => LWo.not u.1 (hn := .nil (zn g))) ?_
       refine ⟨rfl, by kernel_rfl, hN121 _ ?_⟩
       refine LWP.cond_split rfl (fun h128 => ?_) (fun h128 => ?_)
       ·have h := bT h128 h
        refine LWP.region (l := [_,_,_]) ?_
        refine LWo.move (e_int x120) rfl (hn := ?_)
        refine bk h fun x129 e129 h => ?_
        refine LWo.int _ rfl rfl (add_ck e129) (hn := ?_)
        refine LWo.assign (e_int x129) rfl (hn := ?_)
        refine LWo.nil (hN111 (t1, t2, t3, t18, t19, x129, t21, t22, o0) _ ⟨rfl, rfl, rfl, rfl, rfl, rfl, rfl, rfl, rfl, rfl, trivial⟩ ⟨rfl, trivial⟩ h)
       ·have h := bF h128 h
        refine LWP.region (l := [_,_]) ?_
        refine LWo.move (e_int x120) rfl (hn := ?_)
        refine LWo.assign (e_int x120) rfl (hn := ?_)
        refine LWo.nil (hN111 (t1, t2, t3, t18, t19, t20, x120, t22, o0) _ ⟨rfl, rfl, rfl, rfl, rfl, rfl, rfl, rfl, rfl, rfl, trivial⟩ ⟨rfl, trivial⟩ h)
      ·have h := bF h115 h
       refine LWP.exit (hN110 (t1, t2, t3, t18, t19, t20, o0) _ ⟨rfl, rfl, rfl, rfl, rfl, rfl, rfl, rfl, trivial⟩ ⟨rfl, trivial⟩ h)
    ·intro N102 hN102
     refine LWP.seq_k fun N103 hN103 => ?_
     refine LWP.region (l := [_,_,_]) ?_
     refine LWo.move (e_int t2) rfl (hn := ?_)
     refine LWo.move (e_int x98) rfl (hn := ?_)
     refine LWo.int _ rfl rfl rfl (hn := ?_)
     refine LWo.nil (hN103 _ ?_)
     refine LWP.cond_split rfl (fun h104 => ?_) (fun h104 => ?_)
     ·have h := bT h104 h
      refine LWP.seq_k fun N105 hN105 => ?_
      refine LWP.region (l := [_,_,_,_]) ?_
      refine LWo.move (e_int x100) rfl (hn := ?_)
      refine LWo.move (e_int t3) rfl (hn := ?_)
      refine bk h fun x106 e106 h => ?_
      refine LWo.int _ rfl rfl (sub_ck e106) (hn := ?_)
      refine LWo.assign (e_int x106) rfl (hn := ?_)
      refine LWo.nil (hN105 _ ?_)
      refine LWP.region (l := [_,_]) ?_
      refine LWo.move (e_int x98) rfl (hn := ?_)
      refine LWo.assign (e_int x98) rfl (hn := ?_)
      refine LWo.nil (hN102 (t1, t2, t3, x98, x100, x106, x98, o0) _ ⟨rfl, rfl, rfl, rfl, rfl, rfl, rfl, rfl, rfl, trivial⟩ ⟨rfl, trivial⟩ h)
     ·have h := bF h104 h
      refine LWP.seq_k fun N107 hN107 => ?_
      refine LWP.region (l := [_,_]) ?_
      refine LWo.move (e_int t1) rfl (hn := ?_)
      refine LWo.assign (e_int t1) rfl (hn := ?_)
      refine LWo.nil (hN107 _ ?_)
      refine LWP.region (l := [_,_]) ?_
      refine LWo.move (e_int t2) rfl (hn := ?_)
      refine LWo.assign (e_int t2) rfl (hn := ?_)
      refine LWo.nil (hN102 (t1, t2, t3, x98, x100, t1, t2, o0) _ ⟨rfl, rfl, rfl, rfl, rfl, rfl, rfl, rfl, rfl, trivial⟩ ⟨rfl, trivial⟩ h)
   ·intro N48 hN48
    refine LWP.seq_k fun N49 hN49 => ?_
    refine LWP.region (l := [_,_,_,_]) ?_
    refine LWo.move (e_int t3) rfl (hn := ?_)
    refine LWo.move (e_int t2) rfl (hn := ?_)
    refine bk h fun x50 e50 h => ?_
    refine LWo.int _ rfl rfl (sub_ck e50) (hn := ?_)
    refine LWo.int _ rfl rfl rfl (hn := ?_)
    refine LWo.nil (hN49 _ ?_)
    refine LWP.cond_split rfl (fun h51 => ?_) (fun h51 => ?_)
    ·have h := bT h51 h
     refine LWP.seq_k fun N52 hN52 => ?_
     refine LWP.region (l := [_,_]) ?_
     refine LWo.move (e_int t1) rfl (hn := ?_)
     refine LWo.assign (e_int t1) rfl (hn := ?_)
     refine LWo.nil (hN52 _ ?_)
     refine LWP.seq_k fun N53 hN53 => ?_
     refine LWP.region (l := [_,_]) ?_
     refine LWo.move (e_int t2) rfl (hn := ?_)
     refine LWo.assign (e_int t2) rfl (hn := ?_)
     refine LWo.nil (hN53 _ ?_)
     refine LWP.join (α := Int × Int × (List S_impl_Version)) (fun z : Int × Int × (List S_impl_Version) => [(0, (.own 0 0 (z.2.2).length)), (2, (e_int z.1)), (14, (e_int z.2.1))]) (fun z : Int × Int × (List S_impl_Version) => [(0, (lob 4 e_impl_Version z.2.2))]) (fun z : Int × Int × (List S_impl_Version) => m_slices_symMergeCmpFunc_impl_Version_j4 rc p4 z.1 z.2.1 z.2.2) r (fun _ => by simp [hkeys]) ?_ ?_
     ·rintro ⟨t2, t14, o0⟩ h
      replace h : m_slices_symMergeCmpFunc_impl_Version_j4 rc p4 t2 t14 o0 = some _ := h
      refine LWP.join (α := (List S_impl_Version)) (fun z : (List S_impl_Version) => []) (fun z : (List S_impl_Version) => [(0, (lob 4 e_impl_Version z))]) (fun z : (List S_impl_Version) => m_slices_symMergeCmpFunc_impl_Version_j5 rc p4 z) r (fun _ => by simp [hkeys]) ?_ ?_
      ·rintro o0 h
       replace h : m_slices_symMergeCmpFunc_impl_Version_j5 rc p4 o0 = some _ := h
       obtain rfl := Option.some.inj h
       refine LWP.ret (QG.mk (.inr rfl) (.nil) (RetOK.many1 (.nil) (by simp) (by decide) rfl rfl rfl rfl rfl) rfl rfl)
      ·intro N73 hN73
       refine LWP.seq_k fun N74 hN74 => ?_
       refine LWP.region (l := [_,_]) ?_
       refine LWo.move (e_int t2) rfl (hn := ?_)
       refine LWo.assign (e_int t2) rfl (hn := ?_)
       refine LWo.nil (hN74 _ ?_)
       refine LWP.block ?_
       refine LWP.loopM (α := Int × Int × (List S_impl_Version)) (fun z : Int × Int × (List S_impl_Version) => [(0, (.own 0 0 (z.2.2).length)), (14, (e_int z.1)), (17, (e_int z.2.1))]) (fun z : Int × Int × (List S_impl_Version) => [(0, (lob 4 e_impl_Version z.2.2))]) (fun n4 (z : Int × Int × (List S_impl_Version)) => m_slices_symMergeCmpFunc_impl_Version_l4 rc p4 n4 z.1 z.2.1 z.2.2) r _ (t14, t2, o0) h (fun _ => rfl) (fun _ => by simp [hkeys]) ⟨rfl, rfl, rfl, trivial⟩ ⟨rfl, trivial⟩ ?_
       rintro n4 ⟨t14, t17, o0⟩ h N75 hN75
       replace h : m_slices_symMergeCmpFunc_impl_Version_l4 rc p4 (n4 + 1) t14 t17 o0 = some _ := h
       refine LWP.seq_k fun N77 hN77 => ?_
       refine LWP.seq_k fun N78 hN78 => ?_
       refine LWP.region (l := [_,_,_]) ?_
       refine LWo.move (e_int t17) rfl (hn := ?_)
       refine LWo.move (e_int t14) rfl (hn := ?_)
       refine LWo.int _ rfl rfl rfl (hn := ?_)
       refine LWo.nil (hN78 _ ?_)
       refine LWP.cond_split rfl (fun h79 => ?_) (fun h79 => ?_)
       ·have h := bT h79 h
        refine LWP.skip (hN77 _ ?_)
        refine LWP.seq_k fun N80 hN80 => ?_
        refine LWP.block ?_
        refine bk h fun x81 e81 h => ?_
        refine bk h fun x82 e82 h => ?_
        refine bk h fun x83 e83 h => ?_
        refine bk h fun x84 e84 h => ?_
        refine bk h fun x85 e85 h => ?_
        refine bk h fun x86 e86 h => ?_
        refine bk h fun x87 e87 h => ?_
        refine bk h fun x88 e88 h => ?_
        refine lk h fun y89 e89 h => ?_
        refine bk h fun x90 e90 h => ?_
        refine bk h fun x91 e91 h => ?_
        refine lk h fun y92 e92 h => ?_
        refine LWP.drawF (l := [_,_,_,_,_,_,_,_,_,_,_,_,_,_,_,_,_,_]) [] [0, 14, 17] [([0], []), ([17], []), ([0], []), ([17], []), ([116], []), ([0], []), ([17], []), ([119], []), ([118, 120], [0]), ([121], [0]), ([0], []), ([17], []), ([123, 124], [0]), ([125], [0]), ([113, 114], [0]), ([122, 127], [0]), ([115, 117], [0]), ([126, 128], [0])] [0, 14, 17] [0] mixed (by kernel_rfl) rfl (by decide) ?_
        refine dq 113 rfl (fun _ g u h => LWo.move (.own 0 0 (o0).length) u.1 (hn := .nil (zn g))) ?_
        refine dq 114 rfl (fun _ g u h => LWo.move (e_int t17) u.1 (hn := .nil (zn g))) ?_
        refine dq 115 rfl (fun _ g u h => LWo.move (.own 0 0 (o0).length) u.1 (hn := .nil (zn g))) ?_
        refine dq 116 rfl (fun _ g u h => LWo.move (e_int t17) u.1 (hn := .nil (zn g))) ?_
        refine dq 117 rfl (fun _ g u h => LWo.int _ u.1 rfl (sub_ck e81) (hn := .nil (zn g))) ?_
        refine dq 118 rfl (fun _ g u h => LWo.move (.own 0 0 (o0).length) u.1 (hn := .nil (zn g))) ?_
        refine dq 119 rfl (fun _ g u h => LWo.move (e_int t17) u.1 (hn := .nil (zn g))) ?_
        refine dq 120 rfl (fun _ g u h => LWo.int _ u.1 rfl (sub_ck e82) (hn := .nil (zn g))) ?_
        refine dq 121 rfl (fun _ g u h => LWo.indexO e83 rfl u_Limpl_Version s_impl_Version u.1 u.2.1 h.1 (hn := .nil (zn g))) ?_
        refine dq 122 rfl (fun _ g u h => LWo.loadON ((e_impl_Version x84)).cells e84 g_impl_Version s_impl_Version u.1 h.1 rfl rfl (hn := .nil (zn g))) ?_
        refine dq 123 rfl (fun _ g u h => LWo.move (.own 0 0 (o0).length) u.1 (hn := .nil (zn g))) ?_
        refine dq 124 rfl (fun _ g u h => LWo.move (e_int t17) u.1 (hn := .nil (zn g))) ?_
        refine dq 125 rfl (fun _ g u h => LWo.indexO e85 rfl u_Limpl_Version s_impl_Version u.1 u.2.1 h.1 (hn := .nil (zn g))) ?_
        refine dq 126 rfl (fun _ g u h => LWo.loadON ((e_impl_Version x86)).cells e86 g_impl_Version s_impl_Version u.1 h.1 rfl rfl (hn := .nil (zn g))) ?_
        refine dq 127 rfl (fun _ g u h => LWo.indexO e87 rfl u_Limpl_Version s_impl_Version u.1 u.2.1 h.1 (hn := .nil (zn g))) ?_
        refine ⟨rfl, .upd none .junk 0 _, (fun _ h => by cases h), fun _ g u h => LWo.storeO y89 e88 s_impl_Version u.2.1 u.1 rfl rfl rfl h.1 rfl (by rw [e89]; rfl) (hn := LWo.nil ⟨rfl, .inl rfl, Ef.good_ok (e := .upd none .junk 0 _) (fun _ h => by cases h) g⟩), ?_⟩
        refine dq 128 rfl (fun _ g u h => LWo.indexO e90 List.length_set.symm u_Limpl_Version s_impl_Version u.1 u.2.1 h.1 (hn := .nil (zn g))) ?_
        refine ⟨rfl, .upd none .junk 0 _, (fun _ h => by cases h), fun _ g u h => LWo.storeO y92 e91 s_impl_Version u.2.1 u.1 rfl rfl rfl h.1 rfl (by rw [e92]; rfl) (hn := LWo.nil ⟨rfl, .inl rfl, Ef.good_ok (e := .upd none .junk 0 _) (fun _ h => by cases h) g⟩), ?_⟩
        refine ⟨rfl, by kernel_rfl, hN80 _ ?_⟩
        refine LWP.region (l := [_,_,_]) ?_
        refine LWo.move (e_int t17) rfl (hn := ?_)
        refine bk h fun x93 e93 h => ?_
        refine LWo.int _ rfl rfl (sub_ck e93) (hn := ?_)
        refine LWo.assign (e_int x93) rfl (hn := ?_)
        refine LWo.nil (hN75 (t14, x93, ((o0.set (t17).toNat y89).set (x81).toNat y92)) _ ⟨(congrArg (LV.own 0 0) (List.length_set.symm.trans List.length_set.symm)), rfl, rfl, trivial⟩ ⟨rfl, trivial⟩ h)
       ·have h := bF h79 h
        refine LWP.exit (hN73 o0 _ trivial ⟨rfl, trivial⟩ h)
     ·intro N54 hN54
      refine LWP.block ?_
      refine LWP.loopM (α := Int × Int × Int × (List S_impl_Version)) (fun z : Int × Int × Int × (List S_impl_Version) => [(0, (.own 0 0 (z.2.2.2).length)), (2, (e_int z.1)), (4, (.clo f4 q4)), (14, (e_int z.2.1)), (15, (e_int z.2.2.1))]) (fun z : Int × Int × Int × (List S_impl_Version) => [(0, (lob 4 e_impl_Version z.2.2.2))]) (fun n3 (z : Int × Int × Int × (List S_impl_Version)) => m_slices_symMergeCmpFunc_impl_Version_l3 rc p4 n3 z.1 z.2.1 z.2.2.1 z.2.2.2) r _ (t2, t1, t2, o0) h (fun _ => rfl) (fun _ => by simp [hkeys]) ⟨rfl, rfl, rfl, rfl, rfl, trivial⟩ ⟨rfl, trivial⟩ ?_
      rintro n3 ⟨t2, t14, t15, o0⟩ h N55 hN55
      replace h : m_slices_symMergeCmpFunc_impl_Version_l3 rc p4 (n3 + 1) t2 t14 t15 o0 = some _ := h
      refine LWP.seq_k fun N57 hN57 => ?_
      refine LWP.seq_k fun N58 hN58 => ?_
      refine LWP.region (l := [_,_,_]) ?_
      refine LWo.move (e_int t14) rfl (hn := ?_)
      refine LWo.move (e_int t15) rfl (hn := ?_)
      refine LWo.int _ rfl rfl rfl (hn := ?_)
      refine LWo.nil (hN58 _ ?_)
      refine LWP.cond_split rfl (fun h59 => ?_) (fun h59 => ?_)
      ·have h := bT h59 h
       refine LWP.skip (hN57 _ ?_)
       refine LWP.block ?_
       refine LWP.seq_k fun N60 hN60 => ?_
       refine LWP.region (l := [_,_,_,_,_,_,_]) ?_
       refine LWo.move (e_int t14) rfl (hn := ?_)
       refine LWo.move (e_int t15) rfl (hn := ?_)
       refine bk h fun x61 e61 h => ?_
       refine LWo.int _ rfl rfl (add_ck e61) (hn := ?_)
       refine bk h fun x62 e62 h => ?_
       refine LWo.convIU e62 u_int u_uint rfl (hn := ?_)
       refine bk h fun x63 e63 h => ?_
       refine LWo.shrU e63 rfl rfl (hn := ?_)
       refine bk h fun x64 e64 h => ?_
       refine LWo.convUI e64 u_uint u_int rfl (hn := ?_)
       refine LWo.assign (e_int x64) rfl (hn := ?_)
       refine LWo.nil (hN60 _ ?_)
       refine LWP.seq_k fun N65 hN65 => ?_
       refine bk h fun x66 e66 h => ?_
       refine bk h fun x67 e67 h => ?_
       refine bk h fun x68 e68 h => ?_
       refine bk h fun x69 e69 h => ?_
       refine bk h fun x70 e70 h => ?_
       refine LWP.drawF (l := [_,_,_,_,_,_,_,_,_,_,_,_]) [] [0, 2, 4, 14, 15, 16] [([4], []), ([0], []), ([2], []), ([93, 94], [0]), ([95], [0]), ([0], []), ([16], []), ([97, 98], [0]), ([99], [0]), ([92, 96, 100], []), ([101], []), ([102], [])] [0, 2, 4, 14, 15, 16, 103] [0] mixed (by kernel_rfl) rfl (by decide) ?_
       refine dq 92 rfl (fun _ g u h => LWo.move (.clo f4 q4) u.1 (hn := .nil (zn g))) ?_
       refine dq 93 rfl (fun _ g u h => LWo.move (.own 0 0 (o0).length) u.1 (hn := .nil (zn g))) ?_
       refine dq 94 rfl (fun _ g u h => LWo.move (e_int t2) u.1 (hn := .nil (zn g))) ?_
       refine dq 95 rfl (fun _ g u h => LWo.indexO e66 rfl u_Limpl_Version s_impl_Version u.1 u.2.1 h.1 (hn := .nil (zn g))) ?_
       refine dq 96 rfl (fun _ g u h => LWo.loadON ((e_impl_Version x67)).cells e67 g_impl_Version s_impl_Version u.1 h.1 rfl rfl (hn := .nil (zn g))) ?_
       refine dq 97 rfl (fun _ g u h => LWo.move (.own 0 0 (o0).length) u.1 (hn := .nil (zn g))) ?_
       refine dq 98 rfl (fun _ g u h => LWo.move (e_int x64) u.1 (hn := .nil (zn g))) ?_
       refine dq 99 rfl (fun _ g u h => LWo.indexO e68 rfl u_Limpl_Version s_impl_Version u.1 u.2.1 h.1 (hn := .nil (zn g))) ?_
       refine dq 100 rfl (fun _ g u h => LWo.loadON ((e_impl_Version x69)).cells e69 g_impl_Version s_impl_Version u.1 h.1 rfl rfl (hn := .nil (zn g))) ?_
       refine dq 101 rfl (fun _ g u h => LWo.vcall u.1 (avq2 u.2.1 u.2.2.1) (hf4 _ _ _ e70) .refl (hn := .nil (zn g))) ?_
       refine dq 102 rfl (fun _ g u h => LWo.int _ u.1 rfl rfl (hn := .nil (zn g))) ?_
       refine dq 103 rfl (fun _ g u h => LWo.not u.1 (hn := .nil (zn g))) ?_
       refine ⟨rfl, by kernel_rfl, hN65 _ ?_⟩
       refine LWP.cond_split rfl (fun h71 => ?_) (fun h71 => ?_)
       ·have h := bT h71 h
        refine LWP.region (l := [_,_,_]) ?_
        refine LWo.move (e_int x64) rfl (hn := ?_)
        refine bk h fun x72 e72 h => ?_
        refine LWo.int _ rfl rfl (add_ck e72) (hn := ?_)
        refine LWo.assign (e_int x72) rfl (hn := ?_)
        refine LWo.nil (hN55 (t2, x72, t15, o0) _ ⟨rfl, rfl, rfl, rfl, rfl, trivial⟩ ⟨rfl, trivial⟩ h)
       ·have h := bF h71 h
        refine LWP.region (l := [_,_]) ?_
        refine LWo.move (e_int x64) rfl (hn := ?_)
        refine LWo.assign (e_int x64) rfl (hn := ?_)
        refine LWo.nil (hN55 (t2, t14, x64, o0) _ ⟨rfl, rfl, rfl, rfl, rfl, trivial⟩ ⟨rfl, trivial⟩ h)
      ·have h := bF h59 h
       refine LWP.exit (hN54 (t2, t14, o0) _ ⟨rfl, rfl, rfl, trivial⟩ ⟨rfl, trivial⟩ h)
    ·have h := bF h51 h
     refine LWP.skip (hN48 (t1, t2, t3, o0) _ ⟨rfl, rfl, rfl, rfl, rfl, trivial⟩ ⟨rfl, trivial⟩ h)
  ·intro N1 hN1
   refine LWP.seq_k fun N2 hN2 => ?_
   refine LWP.region (l := [_,_,_,_]) ?_
   refine LWo.move (e_int a2) rfl (hn := ?_)
   refine LWo.move (e_int a1) rfl (hn := ?_)
   refine bk h fun x3 e3 h => ?_
   refine LWo.int _ rfl rfl (sub_ck e3) (hn := ?_)
   refine LWo.int _ rfl rfl rfl (hn := ?_)
   refine LWo.nil (hN2 _ ?_)
   refine LWP.cond_split rfl (fun h4 => ?_) (fun h4 => ?_)
   ·have h := bT h4 h
    refine LWP.seq_k fun N5 hN5 => ?_
    refine LWP.region (l := [_,_]) ?_
    refine LWo.move (e_int a2) rfl (hn := ?_)
    refine LWo.assign (e_int a2) rfl (hn := ?_)
    refine LWo.nil (hN5 _ ?_)
    refine LWP.seq_k fun N6 hN6 => ?_
    refine LWP.region (l := [_,_]) ?_
    refine LWo.move (e_int a3) rfl (hn := ?_)
    refine LWo.assign (e_int a3) rfl (hn := ?_)
    refine LWo.nil (hN6 _ ?_)
    refine LWP.join (α := Int × Int × (List S_impl_Version)) (fun z : Int × Int × (List S_impl_Version) => [(0, (.own 0 0 (z.2.2).length)), (1, (e_int z.1)), (10, (e_int z.2.1))]) (fun z : Int × Int × (List S_impl_Version) => [(0, (lob 4 e_impl_Version z.2.2))]) (fun z : Int × Int × (List S_impl_Version) => m_slices_symMergeCmpFunc_impl_Version_j1 rc p4 z.1 z.2.1 z.2.2) r (fun _ => by simp [hkeys]) ?_ ?_
    ·rintro ⟨t1, t10, o0⟩ h
     replace h : m_slices_symMergeCmpFunc_impl_Version_j1 rc p4 t1 t10 o0 = some _ := h
     refine LWP.join (α := (List S_impl_Version)) (fun z : (List S_impl_Version) => []) (fun z : (List S_impl_Version) => [(0, (lob 4 e_impl_Version z))]) (fun z : (List S_impl_Version) => m_slices_symMergeCmpFunc_impl_Version_j2 rc p4 z) r (fun _ => by simp [hkeys]) ?_ ?_
     ·rintro o0 h
      replace h : m_slices_symMergeCmpFunc_impl_Version_j2 rc p4 o0 = some _ := h
      obtain rfl := Option.some.inj h
      refine LWP.ret (QG.mk (.inr rfl) (.nil) (RetOK.many1 (.nil) (by simp) (by decide) rfl rfl rfl rfl rfl) rfl rfl)
     ·intro N26 hN26
      refine LWP.seq_k fun N27 hN27 => ?_
      refine LWP.region (l := [_,_]) ?_
      refine LWo.move (e_int t1) rfl (hn := ?_)
      refine LWo.assign (e_int t1) rfl (hn := ?_)
      refine LWo.nil (hN27 _ ?_)
      refine LWP.block ?_
      refine LWP.loopM (α := Int × Int × (List S_impl_Version)) (fun z : Int × Int × (List S_impl_Version) => [(0, (.own 0 0 (z.2.2).length)), (10, (e_int z.1)), (13, (e_int z.2.1))]) (fun z : Int × Int × (List S_impl_Version) => [(0, (lob 4 e_impl_Version z.2.2))]) (fun n2 (z : Int × Int × (List S_impl_Version)) => m_slices_symMergeCmpFunc_impl_Version_l2 rc p4 n2 z.1 z.2.1 z.2.2) r _ (t10, t1, o0) h (fun _ => rfl) (fun _ => by simp [hkeys]) ⟨rfl, rfl, rfl, trivial⟩ ⟨rfl, trivial⟩ ?_
      rintro n2 ⟨t10, t13, o0⟩ h N28 hN28
      replace h : m_slices_symMergeCmpFunc_impl_Version_l2 rc p4 (n2 + 1) t10 t13 o0 = some _ := h
      refine LWP.seq_k fun N30 hN30 => ?_
      refine LWP.seq_k fun N31 hN31 => ?_
      refine LWP.region (l := [_,_,_,_]) ?_
      refine LWo.move (e_int t13) rfl (hn := ?_)
      refine LWo.move (e_int t10) rfl (hn := ?_)
      refine bk h fun x32 e32 h => ?_
      refine LWo.int _ rfl rfl (sub_ck e32) (hn := ?_)
      refine LWo.int _ rfl rfl rfl (hn := ?_)
      refine LWo.nil (hN31 _ ?_)
      refine LWP.cond_split rfl (fun h33 => ?_) (fun h33 => ?_)
      ·have h := bT h33 h
       refine LWP.skip (hN30 _ ?_)
       refine LWP.seq_k fun N34 hN34 => ?_
       refine LWP.block ?_
       refine bk h fun x35 e35 h => ?_
       refine bk h fun x36 e36 h => ?_
       refine bk h fun x37 e37 h => ?_
       refine bk h fun x38 e38 h => ?_
       refine bk h fun x39 e39 h => ?_
       refine bk h fun x40 e40 h => ?_
       refine bk h fun x41 e41 h => ?_
       refine bk h fun x42 e42 h => ?_
       refine lk h fun y43 e43 h => ?_
       refine bk h fun x44 e44 h => ?_
       refine bk h fun x45 e45 h => ?_
       refine lk h fun y46 e46 h => ?_
       refine LWP.drawF (l := [_,_,_,_,_,_,_,_,_,_,_,_,_,_,_,_,_,_]) [] [0, 10, 13] [([0], []), ([13], []), ([0], []), ([13], []), ([64], []), ([0], []), ([13], []), ([67], []), ([66, 68], [0]), ([69], [0]), ([0], []), ([13], []), ([71, 72], [0]), ([73], [0]), ([61, 62], [0]), ([70, 75], [0]), ([63, 65], [0]), ([74, 76], [0])] [0, 10, 13] [0] mixed (by kernel_rfl) rfl (by decide) ?_
       refine dq 61 rfl (fun _ g u h => LWo.move (.own 0 0 (o0).length) u.1 (hn := .nil (zn g))) ?_
       refine dq 62 rfl (fun _ g u h => LWo.move (e_int t13) u.1 (hn := .nil (zn g))) ?_
       refine dq 63 rfl (fun _ g u h => LWo.move (.own 0 0 (o0).length) u.1 (hn := .nil (zn g))) ?_
       refine dq 64 rfl (fun _ g u h => LWo.move (e_int t13) u.1 (hn := .nil (zn g))) ?_
       refine dq 65 rfl (fun _ g u h => LWo.int _ u.1 rfl (add_ck e35) (hn := .nil (zn g))) ?_
       refine dq 66 rfl (fun _ g u h => LWo.move (.own 0 0 (o0).length) u.1 (hn := .nil (zn g))) ?_
       refine dq 67 rfl (fun _ g u h => LWo.move (e_int t13) u.1 (hn := .nil (zn g))) ?_
       refine dq 68 rfl (fun _ g u h => LWo.int _ u.1 rfl (add_ck e36) (hn := .nil (zn g))) ?_
       refine dq 69 rfl (fun _ g u h => LWo.indexO e37 rfl u_Limpl_Version s_impl_Version u.1 u.2.1 h.1 (hn := .nil (zn g))) ?_
       refine dq 70 rfl (fun _ g u h => LWo.loadON ((e_impl_Version x38)).cells e38 g_impl_Version s_impl_Version u.1 h.1 rfl rfl (hn := .nil (zn g))) ?_
       refine dq 71 rfl (fun _ g u h => LWo.move (.own 0 0 (o0).length) u.1 (hn := .nil (zn g))) ?_
       refine dq 72 rfl (fun _ g u h => LWo.move (e_int t13) u.1 (hn := .nil (zn g))) ?_
       refine dq 73 rfl (fun _ g u h => LWo.indexO e39 rfl u_Limpl_Version s_impl_Version u.1 u.2.1 h.1 (hn := .nil (zn g))) ?_
       refine dq 74 rfl (fun _ g u h => LWo.loadON ((e_impl_Version x40)).cells e40 g_impl_Version s_impl_Version u.1 h.1 rfl rfl (hn := .nil (zn g))) ?_
       refine dq 75 rfl (fun _ g u h => LWo.indexO e41 rfl u_Limpl_Version s_impl_Version u.1 u.2.1 h.1 (hn := .nil (zn g))) ?_
       refine ⟨rfl, .upd none .junk 0 _, (fun _ h => by cases h), fun _ g u h => LWo.storeO y43 e42 s_impl_Version u.2.1 u.1 rfl rfl rfl h.1 rfl (by rw [e43]; rfl) (hn := LWo.nil ⟨rfl, .inl rfl, Ef.good_ok (e := .upd none .junk 0 _) (fun _ h => by cases h) g⟩), ?_⟩
       refine dq 76 rfl (fun _ g u h => LWo.indexO e44 List.length_set.symm u_Limpl_Version s_impl_Version u.1 u.2.1 h.1 (hn := .nil (zn g))) ?_
       refine ⟨rfl, .upd none .junk 0 _, (fun _ h => by cases h), fun _ g u h => LWo.storeO y46 e45 s_impl_Version u.2.1 u.1 rfl rfl rfl h.1 rfl (by rw [e46]; rfl) (hn := LWo.nil ⟨rfl, .inl rfl, Ef.good_ok (e := .upd none .junk 0 _) (fun _ h => by cases h) g⟩), ?_⟩
       refine ⟨rfl, by kernel_rfl, hN34 _ ?_⟩
       refine LWP.region (l := [_,_,_]) ?_
       refine LWo.move (e_int t13) rfl (hn := ?_)
       refine bk h fun x47 e47 h => ?_
       refine LWo.int _ rfl rfl (add_ck e47) (hn := ?_)
       refine LWo.assign (e_int x47) rfl (hn := ?_)
       refine LWo.nil (hN28 (t10, x47, ((o0.set (t13).toNat y43).set (x35).toNat y46)) _ ⟨(congrArg (LV.own 0 0) (List.length_set.symm.trans List.length_set.symm)), rfl, rfl, trivial⟩ ⟨rfl, trivial⟩ h)
      ·have h := bF h33 h
       refine LWP.exit (hN26 o0 _ trivial ⟨rfl, trivial⟩ h)
    ·intro N7 hN7
     refine LWP.block ?_
     refine LWP.loopM (α := Int × Int × Int × (List S_impl_Version)) (fun z : Int × Int × Int × (List S_impl_Version) => [(0, (.own 0 0 (z.2.2.2).length)), (1, (e_int z.1)), (4, (.clo f4 q4)), (10, (e_int z.2.1)), (11, (e_int z.2.2.1))]) (fun z : Int × Int × Int × (List S_impl_Version) => [(0, (lob 4 e_impl_Version z.2.2.2))]) (fun n1 (z : Int × Int × Int × (List S_impl_Version)) => m_slices_symMergeCmpFunc_impl_Version_l1 rc p4 n1 z.1 z.2.1 z.2.2.1 z.2.2.2) r _ (a1, a2, a3, o0) h (fun _ => rfl) (fun _ => by simp [hkeys]) ⟨rfl, rfl, rfl, rfl, rfl, trivial⟩ ⟨rfl, trivial⟩ ?_
     rintro n1 ⟨t1, t10, t11, o0⟩ h N8 hN8
     replace h : m_slices_symMergeCmpFunc_impl_Version_l1 rc p4 (n1 + 1) t1 t10 t11 o0 = some _ := h
     refine LWP.seq_k fun N10 hN10 => ?_
     refine LWP.seq_k fun N11 hN11 => ?_
     refine LWP.region (l := [_,_,_]) ?_
     refine LWo.move (e_int t10) rfl (hn := ?_)
     refine LWo.move (e_int t11) rfl (hn := ?_)
     refine LWo.int _ rfl rfl rfl (hn := ?_)
     refine LWo.nil (hN11 _ ?_)
     refine LWP.cond_split rfl (fun h12 => ?_) (fun h12 => ?_)
     ·have h := bT h12 h
      refine LWP.skip (hN10 _ ?_)
      refine LWP.block ?_
      refine LWP.seq_k fun N13 hN13 => ?_
      refine LWP.region (l := [_,_,_,_,_,_,_]) ?_
      refine LWo.move (e_int t10) rfl (hn := ?_)
      refine LWo.move (e_int t11) rfl (hn := ?_)
      refine bk h fun x14 e14 h => ?_
      refine LWo.int _ rfl rfl (add_ck e14) (hn := ?_)
      refine bk h fun x15 e15 h => ?_
      refine LWo.convIU e15 u_int u_uint rfl (hn := ?_)
      refine bk h fun x16 e16 h => ?_
      refine LWo.shrU e16 rfl rfl (hn := ?_)
      refine bk h fun x17 e17 h => ?_
      refine LWo.convUI e17 u_uint u_int rfl (hn := ?_)
      refine LWo.assign (e_int x17) rfl (hn := ?_)
      refine LWo.nil (hN13 _ ?_)
      refine LWP.seq_k fun N18 hN18 => ?_
      refine bk h fun x19 e19 h => ?_
      refine bk h fun x20 e20 h => ?_
      refine bk h fun x21 e21 h => ?_
      refine bk h fun x22 e22 h => ?_
      refine bk h fun x23 e23 h => ?_
      refine LWP.drawF (l := [_,_,_,_,_,_,_,_,_,_,_]) [] [0, 1, 4, 10, 11, 12] [([4], []), ([0], []), ([12], []), ([41, 42], [0]), ([43], [0]), ([0], []), ([1], []), ([45, 46], [0]), ([47], [0]), ([40, 44, 48], []), ([49], [])] [0, 1, 4, 10, 11, 12, 50] [0] mixed (by kernel_rfl) rfl (by decide) ?_
      refine dq 40 rfl (fun _ g u h => LWo.move (.clo f4 q4) u.1 (hn := .nil (zn g))) ?_
      refine dq 41 rfl (fun _ g u h => LWo.move (.own 0 0 (o0).length) u.1 (hn := .nil (zn g))) ?_
      refine dq 42 rfl (fun _ g u h => LWo.move (e_int x17) u.1 (hn := .nil (zn g))) ?_
      refine dq 43 rfl (fun _ g u h => LWo.indexO e19 rfl u_Limpl_Version s_impl_Version u.1 u.2.1 h.1 (hn := .nil (zn g))) ?_
      refine dq 44 rfl (fun _ g u h => LWo.loadON ((e_impl_Version x20)).cells e20 g_impl_Version s_impl_Version u.1 h.1 rfl rfl (hn := .nil (zn g))) ?_
      refine dq 45 rfl (fun _ g u h => LWo.move (.own 0 0 (o0).length) u.1 (hn := .nil (zn g))) ?_
      refine dq 46 rfl (fun _ g u h => LWo.move (e_int t1) u.1 (hn := .nil (zn g))) ?_
      refine dq 47 rfl (fun _ g u h => LWo.indexO e21 rfl u_Limpl_Version s_impl_Version u.1 u.2.1 h.1 (hn := .nil (zn g))) ?_
      refine dq 48 rfl (fun _ g u h => LWo.loadON ((e_impl_Version x22)).cells e22 g_impl_Version s_impl_Version u.1 h.1 rfl rfl (hn := .nil (zn g))) ?_
      refine dq 49 rfl (fun _ g u h => LWo.vcall u.1 (avq2 u.2.1 u.2.2.1) (hf4 _ _ _ e23) .refl (hn := .nil (zn g))) ?_
      refine dq 50 rfl (fun _ g u h => LWo.int _ u.1 rfl rfl (hn := .nil (zn g))) ?_
      refine ⟨rfl, by kernel_rfl, hN18 _ ?_⟩
      refine LWP.cond_split rfl (fun h24 => ?_) (fun h24 => ?_)
      ·have h := bT h24 h
       refine LWP.region (l := [_,_,_]) ?_
       refine LWo.move (e_int x17) rfl (hn := ?_)
       refine bk h fun x25 e25 h => ?_
       refine LWo.int _ rfl rfl (add_ck e25) (hn := ?_)
       refine LWo.assign (e_int x25) rfl (hn := ?_)
       refine LWo.nil (hN8 (t1, x25, t11, o0) _ ⟨rfl, rfl, rfl, rfl, rfl, trivial⟩ ⟨rfl, trivial⟩ h)
      ·have h := bF h24 h
       refine LWP.region (l := [_,_]) ?_
       refine LWo.move (e_int x17) rfl (hn := ?_)
       refine LWo.assign (e_int x17) rfl (hn := ?_)
       refine LWo.nil (hN8 (t1, t10, x17, o0) _ ⟨rfl, rfl, rfl, rfl, rfl, trivial⟩ ⟨rfl, trivial⟩ h)
     ·have h := bF h12 h
      refine LWP.exit (hN7 (t1, t10, o0) _ ⟨rfl, rfl, rfl, trivial⟩ ⟨rfl, trivial⟩ h)
   ·have h := bF h4 h
    refine LWP.skip (hN1 (a1, a2, a3, o0) _ ⟨rfl, rfl, rfl, rfl, rfl, trivial⟩ ⟨rfl, trivial⟩ h)
theorem c_slices_symMergeCmpFunc_impl_Version (fu : Nat) : ∀ (o0 : (List S_impl_Version)) (a1 : Int) (a2 : Int) (a3 : Int) (p4 : S_impl_Version → S_impl_Version → Option Int) (f4 : FuncId) (q4 : List LV) (hq4 : ∀ k, LV.at?.atL k q4 = false) (hf4 : ∀ a0 a1 v, p4 a0 a1 = some v → Ret Try.prog f4 (e_impl_Version a0 :: e_impl_Version a1 :: q4) (e_int v)) (r : (List S_impl_Version)) (h : m_slices_symMergeCmpFunc_impl_Version fu o0 a1 a2 a3 p4 = some r), Does Try.prog f_slices_symMergeCmpFunc_impl_Version [.own 0 0 o0.length, e_int a1, e_int a2, e_int a3, .clo f4 q4] [(0, (lob 4 e_impl_Version o0))] (fun x hh => x = .tup [] ∧ hh = [(0, (lob 4 e_impl_Version r))]) := by
  induction fu with
  | zero => intro o0 a1 a2 a3 p4 f4 q4 hq4 hf4 r h; cases h
  | succ fu ih => intro o0 a1 a2 a3 p4 f4 q4 hq4 hf4 r h; exact cb_slices_symMergeCmpFunc_impl_Version (m_slices_symMergeCmpFunc_impl_Version fu) ih o0 a1 a2 a3 p4 f4 q4 hq4 hf4 r h
theorem k_slices_symMergeCmpFunc_impl_Version (fu : Nat) (o0 : (List S_impl_Version)) (a1 : Int) (a2 : Int) (a3 : Int) (p4 : S_impl_Version → S_impl_Version → Option Int) (f4 : FuncId) (q4 : List LV) (hq4 : ∀ k, LV.at?.atL k q4 = false) (hf4 : ∀ a0 a1 v, p4 a0 a1 = some v → Ret Try.prog f4 (e_impl_Version a0 :: e_impl_Version a1 :: q4) (e_int v)) (r : (List S_impl_Version)) (h : m_slices_symMergeCmpFunc_impl_Version fu o0 a1 a2 a3 p4 = some r) (k : Nat) : Does Try.prog f_slices_symMergeCmpFunc_impl_Version [.own k 0 o0.length, e_int a1, e_int a2, e_int a3, .clo f4 q4] [(k, (lob 4 e_impl_Version o0))] (fun x hh => x = .tup [] ∧ hh = [(k, (lob 4 e_impl_Version r))]) :=
  Does.nameO (c_slices_symMergeCmpFunc_impl_Version fu o0 a1 a2 a3 p4 f4 q4 hq4 hf4 r h) (fun k => (atC rfl (atC rfl (atC rfl (atC (hq4 k) (atN _)))))) k
end Go.Proofs.Ytijihchddhikhaa
