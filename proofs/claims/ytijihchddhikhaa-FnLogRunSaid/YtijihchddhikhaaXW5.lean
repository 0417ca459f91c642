/- Mirrors of functions, and that the functions return what the mirrors say. -/
import Derived.Test.YtijihchddhikhaaXW4
set_option linter.unusedVariables false
set_option linter.unusedSimpArgs false
set_option linter.unnecessarySimpa false
namespace Go.Proofs.Ytijihchddhikhaa
open Go.Proofs Go.Lift Go.RowKit
def m_spec_LastTurn_j3 (t5 : Int) : Option Int :=
  some t5
def m_spec_LastTurn_j2 (k1 : (List S_impl_Version) → Int → Int → Int → Option Int) (t0 : (List S_impl_Version)) (t1 : Int) (t5 : Int) (t6 : Int) : Option Int :=
  (ckI (t6 + (1 : Int))).bind fun x18 =>
  k1 t0 t1 t5 x18
def m_spec_LastTurn_j1 (k1 : (List S_impl_Version) → Int → Int → Int → Option Int) (t0 : (List S_impl_Version)) (t1 : Int) (t5 : Int) (t6 : Int) (t14 : Bool) : Option Int :=
  bif t14 then ((at? t0 t6).bind fun x14 =>
  bif (x14.Key == t1) then ((at? t0 t6).bind fun x16 =>
  (at? t0 t6).bind fun x17 =>
  m_spec_LastTurn_j2  k1 t0 t1 (maxI (maxI t5 x16.Born) x17.Died) t6)
  else (m_spec_LastTurn_j2  k1 t0 t1 t5 t6))
  else (m_spec_LastTurn_j3  t5)
def m_spec_LastTurn_l1 : Nat → (List S_impl_Version) → Int → Int → Int → Option Int
  | 0, _, _, _, _ => none
  | n1 + 1, t0, t1, t5, t6 =>
    bif decide (t6 < (t0.length : Int)) then ((m_spec_VersionsOk t0).bind fun x10 =>
      m_spec_LastTurn_j1  (m_spec_LastTurn_l1  n1) t0 t1 t5 t6 x10)
    else (m_spec_LastTurn_j1  (m_spec_LastTurn_l1  n1) t0 t1 t5 t6 false)
def m_spec_LastTurn (a0 : (List S_impl_Version)) (a1 : Int) : Option Int :=
  m_spec_LastTurn_l1  (1000000000) a0 a1 (0 : Int) (0 : Int)
theorem c_spec_LastTurn (a0 : (List S_impl_Version)) (a1 : Int) (r : Int) (h : m_spec_LastTurn a0 a1 = some r) : Ret Try.prog f_spec_LastTurn [e_Limpl_Version a0, e_int a1] (e_int r) := by
  refine Does.goG [] F_spec_LastTurn rfl e_spec_LastTurn n_spec_LastTurn rfl (rvs := [.tmp 4]) rfl rfl ?_
  intro w0 ok0 lent ρ0
  refine LWP.seq_k fun N1 hN1 => ?_
  refine LWP.region (l := [_]) ?_
  refine LWo.assign (e_int (0 : Int)) rfl (hn := ?_)
  refine LWo.nil (hN1 _ ?_)
  refine LWP.seq_k fun N2 hN2 => ?_
  refine LWP.region (l := [_]) ?_
  refine LWo.assign (e_int (0 : Int)) rfl (hn := ?_)
  refine LWo.nil (hN2 _ ?_)
  refine LWP.join (α := Int) (fun z : Int => [(5, (e_int z))]) (fun z : Int => []) (fun z : Int => m_spec_LastTurn_j3  z) r (fun _ => by simp [hkeys]) ?_ ?_
  ·rintro t5 h
   replace h : m_spec_LastTurn_j3  t5 = some _ := h
   refine LWP.seq_k fun N19 hN19 => ?_
   refine LWP.region (l := [_,_]) ?_
   refine LWo.move (e_int t5) rfl (hn := ?_)
   refine LWo.assign (e_int t5) rfl (hn := ?_)
   refine LWo.nil (hN19 _ ?_)
   obtain rfl := Option.some.inj h
   refine LWP.ret (QG.mk (.inr rfl) (.cons (.tmp (x := (e_int t5)) rfl) (.nil)) (RetOK.one0 (.pure rfl) (by decide)) rfl rfl)
  ·intro N3 hN3
   refine LWP.seq_k fun N4 hN4 => ?_
   refine LWP.region (l := [_]) ?_
   refine LWo.assign (e_int (0 : Int)) rfl (hn := ?_)
   refine LWo.nil (hN4 _ ?_)
   refine LWP.block ?_
   refine LWP.loopM (α := (List S_impl_Version) × Int × Int × Int) (fun z : (List S_impl_Version) × Int × Int × Int => [(0, (e_Limpl_Version z.1)), (1, (e_int z.2.1)), (5, (e_int z.2.2.1)), (6, (e_int z.2.2.2))]) (fun z : (List S_impl_Version) × Int × Int × Int => []) (fun n1 (z : (List S_impl_Version) × Int × Int × Int) => m_spec_LastTurn_l1  n1 z.1 z.2.1 z.2.2.1 z.2.2.2) r _ (a0, a1, (0 : Int), (0 : Int)) h (fun _ => rfl) (fun _ => by simp [hkeys]) ⟨rfl, rfl, rfl, rfl, trivial⟩ trivial ?_
   rintro n1 ⟨t0, t1, t5, t6⟩ h N5 hN5
   replace h : m_spec_LastTurn_l1  (n1 + 1) t0 t1 t5 t6 = some _ := h
   refine LWP.seq_k fun N7 hN7 => ?_
   refine LWP.join (α := (List S_impl_Version) × Int × Int × Int × Bool) (fun z : (List S_impl_Version) × Int × Int × Int × Bool => [(0, (e_Limpl_Version z.1)), (1, (e_int z.2.1)), (5, (e_int z.2.2.1)), (6, (e_int z.2.2.2.1)), (14, (e_bool z.2.2.2.2))]) (fun z : (List S_impl_Version) × Int × Int × Int × Bool => []) (fun z : (List S_impl_Version) × Int × Int × Int × Bool => m_spec_LastTurn_j1  (m_spec_LastTurn_l1  n1) z.1 z.2.1 z.2.2.1 z.2.2.2.1 z.2.2.2.2) r (fun _ => by simp [hkeys]) ?_ ?_
   ·rintro ⟨t0, t1, t5, t6, t14⟩ h
    replace h : m_spec_LastTurn_j1  (m_spec_LastTurn_l1  n1) t0 t1 t5 t6 t14 = some _ := h
    refine LWP.cond_split rfl (fun h11 => ?_) (fun h11 => ?_)
    ·have h := bT h11 h
     refine LWP.skip (hN7 _ ?_)
     refine LWP.join (α := (List S_impl_Version) × Int × Int × Int) (fun z : (List S_impl_Version) × Int × Int × Int => [(0, (e_Limpl_Version z.1)), (1, (e_int z.2.1)), (5, (e_int z.2.2.1)), (6, (e_int z.2.2.2))]) (fun z : (List S_impl_Version) × Int × Int × Int => []) (fun z : (List S_impl_Version) × Int × Int × Int => m_spec_LastTurn_j2  (m_spec_LastTurn_l1  n1) z.1 z.2.1 z.2.2.1 z.2.2.2) r (fun _ => by simp [hkeys]) ?_ ?_
     ·rintro ⟨t0, t1, t5, t6⟩ h
      replace h : m_spec_LastTurn_j2  (m_spec_LastTurn_l1  n1) t0 t1 t5 t6 = some _ := h
      refine LWP.region (l := [_,_,_]) ?_
      refine LWo.move (e_int t6) rfl (hn := ?_)
      refine bk h fun x18 e18 h => ?_
      refine LWo.int _ rfl rfl (add_ck e18) (hn := ?_)
      refine LWo.assign (e_int x18) rfl (hn := ?_)
      refine LWo.nil (hN5 (t0, t1, t5, x18) _ ⟨rfl, rfl, rfl, rfl, trivial⟩ trivial h)
     ·intro N12 hN12
      refine LWP.block ?_
      refine LWP.seq_k fun N13 hN13 => ?_
      refine LWP.region (l := [_,_,_,_,_,_,_]) ?_
      refine LWo.move (e_Limpl_Version t0) rfl (hn := ?_)
      refine LWo.move (e_int t6) rfl (hn := ?_)
      refine bk h fun x14 e14 h => ?_
      refine LWo.indexM (f := e_impl_Version) e14 u_Limpl_Version s_impl_Version rfl rfl (hn := ?_)
      refine LWo.fieldAddr _ u_impl_Version rfl s_int rfl rfl (hn := ?_)
      refine LWo.load1 (c := (e_int x14.Key)) g_int rfl (hn := ?_)
      refine LWo.move (e_int t1) rfl (hn := ?_)
      refine LWo.int _ rfl rfl rfl (hn := ?_)
      refine LWo.nil (hN13 _ ?_)
      refine LWP.cond_split rfl (fun h15 => ?_) (fun h15 => ?_)
      ·have h := bT h15 h
       refine bk h fun x16 e16 h => ?_
       refine bk h fun x17 e17 h => ?_
       refine LWP.drawF (l := [_,_,_,_,_,_,_,_,_,_,_,_,_]) [] [0, 1, 5, 6] [([5], []), ([0], []), ([6], []), ([25, 26], []), ([27], []), ([28], []), ([0], []), ([6], []), ([30, 31], []), ([32], []), ([33], []), ([24, 29, 34], []), ([35], [])] [0, 1, 5, 6] [] mixed (by kernel_rfl) rfl (by decide) ?_
       refine dq 24 rfl (fun _ g u h => LWo.move (e_int t5) u.1 (hn := .nil (zn g))) ?_
       refine dq 25 rfl (fun _ g u h => LWo.move (e_Limpl_Version t0) u.1 (hn := .nil (zn g))) ?_
       refine dq 26 rfl (fun _ g u h => LWo.move (e_int t6) u.1 (hn := .nil (zn g))) ?_
       refine dq 27 rfl (fun _ g u h => LWo.indexM (f := e_impl_Version) e16 u_Limpl_Version s_impl_Version u.1 u.2.1 (hn := .nil (zn g))) ?_
       refine dq 28 rfl (fun _ g u h => LWo.fieldAddr _ u_impl_Version rfl s_int u.1 rfl (hn := .nil (zn g))) ?_
       refine dq 29 rfl (fun _ g u h => LWo.load1 (c := (e_int x16.Born)) g_int u.1 (hn := .nil (zn g))) ?_
       refine dq 30 rfl (fun _ g u h => LWo.move (e_Limpl_Version t0) u.1 (hn := .nil (zn g))) ?_
       refine dq 31 rfl (fun _ g u h => LWo.move (e_int t6) u.1 (hn := .nil (zn g))) ?_
       refine dq 32 rfl (fun _ g u h => LWo.indexM (f := e_impl_Version) e17 u_Limpl_Version s_impl_Version u.1 u.2.1 (hn := .nil (zn g))) ?_
       refine dq 33 rfl (fun _ g u h => LWo.fieldAddr _ u_impl_Version rfl s_int u.1 rfl (hn := .nil (zn g))) ?_
       refine dq 34 rfl (fun _ g u h => LWo.load1 (c := (e_int x17.Died)) g_int u.1 (hn := .nil (zn g))) ?_
       refine dq 35 rfl (fun _ g u h => LWo.max3 u.1 u.2.1 u.2.2.1 (hn := .nil (zn g))) ?_
       refine dq 5 rfl (fun _ g u h => LWo.assign (e_int (maxI (maxI t5 x16.Born) x17.Died)) u.1 (hn := .nil (zn g))) ?_
       refine ⟨rfl, by kernel_rfl, hN12 (t0, t1, (maxI (maxI t5 x16.Born) x17.Died), t6) _ ⟨rfl, rfl, rfl, rfl, trivial⟩ trivial h⟩
      ·have h := bF h15 h
       refine LWP.skip (hN12 (t0, t1, t5, t6) _ ⟨rfl, rfl, rfl, rfl, trivial⟩ trivial h)
    ·have h := bF h11 h
     refine LWP.exit (hN3 t5 _ ⟨rfl, trivial⟩ trivial h)
   ·intro N8 hN8
    refine LWP.region (l := [_,_,_,_,_,_,_,_]) ?_
    refine LWo.move (e_int t6) rfl (hn := ?_)
    refine LWo.move (e_Limpl_Version t0) rfl (hn := ?_)
    refine LWo.lenM (f := e_impl_Version) (l := t0) u_Limpl_Version rfl (hn := ?_)
    refine LWo.int _ rfl rfl rfl (hn := ?_)
    refine LWo.move (e_bool (decide (t6 < (t0.length : Int)))) rfl (hn := ?_)
    refine LWo.byCases (t := 11) _ rfl (fun h9 => ?_) (fun h9 => ?_)
    ·have h := bT h9 h
     refine LWo.guardY (t := 11) rfl h9 rfl rfl ?_
     refine LWo.move (e_Limpl_Version t0) rfl (hn := ?_)
     refine bk h fun x10 e10 h => ?_
     refine LWo.guardY (t := 11) rfl h9 rfl rfl ?_
     refine LWo.vcall rfl rfl (c_spec_VersionsOk _ _ e10) (.same (.nil)) (hn := ?_)
     refine LWo.pickTM (e_bool x10) rfl h9 rfl (hn := ?_)
     refine LWo.nil (hN8 (t0, t1, t5, t6, x10) _ ⟨rfl, rfl, rfl, rfl, rfl, trivial⟩ trivial h)
    ·have h := bF h9 h
     refine LWo.guardNU (t := 11) rfl h9 rfl rfl rfl rfl rfl ?_
     refine LWo.guardNU (t := 11) rfl h9 rfl rfl rfl rfl rfl ?_
     refine LWo.pickFM (e_bool false) rfl h9 rfl (hn := ?_)
     refine LWo.nil (hN8 (t0, t1, t5, t6, false) _ ⟨rfl, rfl, rfl, rfl, rfl, trivial⟩ trivial h)

def m_spec_l3Own (a0 : (List S_impl_Value)) : Option (List S_impl_Value) :=
  (app? ([] : (List S_impl_Value)) a0).bind fun x3 =>
  some x3
theorem c_spec_l3Own (a0 : (List S_impl_Value)) (r : (List S_impl_Value)) (h : m_spec_l3Own a0 = some r) : Ret Try.prog f_spec_l3Own [e_Limpl_Value a0] (.nw 3 (r.map e_impl_Value) false) := by
  refine Does.goG [] F_spec_l3Own rfl e_spec_l3Own n_spec_l3Own rfl (rvs := [.tmp 2]) rfl rfl ?_
  intro w0 ok0 lent ρ0
  refine LWP.seq_k fun N1 hN1 => ?_
  refine LWP.region (l := [_]) ?_
  refine LWo.assign _ rfl (hn := ?_)
  refine LWo.ownNil 2 1002 3 rfl rfl rfl ?_
  refine LWo.known 2 (.own 1002 0 ([] : (List S_impl_Value)).length) rfl ?_
  refine LWo.nil (hN1 _ ?_)
  refine LWP.seq_k fun N2 hN2 => ?_
  refine LWP.region (l := [_,_,_,_]) ?_
  refine LWo.lit0 1003 u_Limpl_Value s_impl_Value z_impl_Value (hn := ?_)
  refine LWo.known 3 (.own 1003 0 ([] : (List S_impl_Value)).length) rfl ?_
  refine LWo.move (e_Limpl_Value a0) rfl (hn := ?_)
  refine bk h fun x3 e3 h => ?_
  refine LWo.appendM (f := e_impl_Value) e3 rfl u_Limpl_Value u_Limpl_Value (fun _ h => by cases h) s_impl_Value i_impl_Value rfl rfl rfl (.sl rfl) rfl rfl (hn := ?_)
  refine LWo.assign (.own 1003 0 (x3).length) rfl (hn := ?_)
  refine LWo.nil (hN2 _ ?_)
  obtain rfl := Option.some.inj h
  refine LWP.ret (QG.mk (.inr rfl) (.cons (.tmp (x := (.own 1003 0 (x3).length)) rfl) (.nil)) (RetOK.one0 (.nwM rfl rfl) (by decide)) rfl rfl)

def m_spec_l13Copy_j1 (o1006 : (List S_impl_Version)) : Option (List S_impl_Version) :=
  some o1006
def m_spec_l13Copy_l1 : Nat → (List S_impl_Version) → Int → (List S_impl_Version) → Option (List S_impl_Version)
  | 0, _, _, _ => none
  | n1 + 1, t0, t4, o1006 =>
    bif decide (t4 < (t0.length : Int)) then ((at? t0 t4).bind fun x12 =>
    lt (x12) fun y13 =>
    (m_spec_l3Own y13.Row).bind fun x15 =>
    lt ({ y13 with Row := x15 }) fun y16 =>
    (app? o1006 ([y16] : (List S_impl_Version))).bind fun x17 =>
    (ckI (t4 + (1 : Int))).bind fun x18 =>
    (m_spec_l13Copy_l1  n1) t0 x18 x17)
    else (m_spec_l13Copy_j1  o1006)
def m_spec_l13Copy (a0 : (List S_impl_Version)) : Option (List S_impl_Version) :=
  m_spec_l13Copy_l1  (((a0.length : Int) - (0 : Int)).toNat + 1) a0 (0 : Int) ([] : (List S_impl_Version))
theorem c_spec_l13Copy (a0 : (List S_impl_Version)) (r : (List S_impl_Version)) (h : m_spec_l13Copy a0 = some r) : Ret Try.prog f_spec_l13Copy [e_Limpl_Version a0] (.nw 4 (r.map e_impl_Version) false) := by
  refine Does.goG [] F_spec_l13Copy rfl e_spec_l13Copy n_spec_l13Copy rfl (rvs := [.tmp 2]) rfl rfl ?_
  intro w0 ok0 lent ρ0
  refine LWP.seq_k fun N1 hN1 => ?_
  refine LWP.region (l := [_]) ?_
  refine LWo.assign _ rfl (hn := ?_)
  refine LWo.ownNil 2 1002 4 rfl rfl rfl ?_
  refine LWo.known 2 (.own 1002 0 ([] : (List S_impl_Version)).length) rfl ?_
  refine LWo.nil (hN1 _ ?_)
  refine LWP.seq_k fun N2 hN2 => ?_
  refine LWP.region (l := [_,_]) ?_
  refine LWo.lit0 1006 u_Limpl_Version s_impl_Version z_impl_Version (hn := ?_)
  refine LWo.known 6 (.own 1006 0 ([] : (List S_impl_Version)).length) rfl ?_
  refine LWo.assign (.own 1006 0 (([] : (List S_impl_Version))).length) rfl (hn := ?_)
  refine LWo.nil (hN2 _ ?_)
  refine LWP.join (α := (List S_impl_Version)) (fun z : (List S_impl_Version) => [(3, (.own 1006 0 (z).length))]) (fun z : (List S_impl_Version) => [(1006, (lob 4 e_impl_Version z))]) (fun z : (List S_impl_Version) => m_spec_l13Copy_j1  z) r (fun _ => by simp [hkeys]) ?_ ?_
  ·rintro o1006 h
   replace h : m_spec_l13Copy_j1  o1006 = some _ := h
   refine LWP.seq_k fun N19 hN19 => ?_
   refine LWP.region (l := [_,_]) ?_
   refine LWo.move (.own 1006 0 (o1006).length) rfl (hn := ?_)
   refine LWo.assign (.own 1006 0 (o1006).length) rfl (hn := ?_)
   refine LWo.nil (hN19 _ ?_)
   obtain rfl := Option.some.inj h
   refine LWP.ret (QG.mk (.inr rfl) (.cons (.tmp (x := (.own 1006 0 (o1006).length)) rfl) (.nil)) (RetOK.one0 (.nwM rfl rfl) (by decide)) rfl rfl)
  ·intro N3 hN3
   refine LWP.seq_k fun N4 hN4 => ?_
   refine LWP.region (l := [_]) ?_
   refine LWo.assign (e_int (0 : Int)) rfl (hn := ?_)
   refine LWo.nil (hN4 _ ?_)
   refine LWP.block ?_
   refine LWP.loopM (α := (List S_impl_Version) × Int × (List S_impl_Version)) (fun z : (List S_impl_Version) × Int × (List S_impl_Version) => [(0, (e_Limpl_Version z.1)), (3, (.own 1006 0 (z.2.2).length)), (4, (e_int z.2.1))]) (fun z : (List S_impl_Version) × Int × (List S_impl_Version) => [(1006, (lob 4 e_impl_Version z.2.2))]) (fun n1 (z : (List S_impl_Version) × Int × (List S_impl_Version)) => m_spec_l13Copy_l1  n1 z.1 z.2.1 z.2.2) r _ (a0, (0 : Int), ([] : (List S_impl_Version))) h (fun _ => rfl) (fun _ => by simp [hkeys]) ⟨rfl, rfl, rfl, trivial⟩ ⟨rfl, trivial⟩ ?_
   rintro n1 ⟨t0, t4, o1006⟩ h N5 hN5
   replace h : m_spec_l13Copy_l1  (n1 + 1) t0 t4 o1006 = some _ := h
   refine LWP.seq_k fun N7 hN7 => ?_
   refine LWP.seq_k fun N8 hN8 => ?_
   refine LWP.region (l := [_,_,_,_]) ?_
   refine LWo.move (e_int t4) rfl (hn := ?_)
   refine LWo.move (e_Limpl_Version t0) rfl (hn := ?_)
   refine LWo.lenM (f := e_impl_Version) (l := t0) u_Limpl_Version rfl (hn := ?_)
   refine LWo.int _ rfl rfl rfl (hn := ?_)
   refine LWo.nil (hN8 _ ?_)
   refine LWP.cond_split rfl (fun h9 => ?_) (fun h9 => ?_)
   ·have h := bT h9 h
    refine LWP.skip (hN7 _ ?_)
    refine LWP.seq_k fun N10 hN10 => ?_
    refine LWP.block ?_
    refine LWP.seq_k fun N11 hN11 => ?_
    refine LWP.region (l := [_,_,_,_,_,_]) ?_
    refine LWo.move (e_Limpl_Version t0) rfl (hn := ?_)
    refine LWo.move (e_int t4) rfl (hn := ?_)
    refine bk h fun x12 e12 h => ?_
    refine LWo.indexM (f := e_impl_Version) e12 u_Limpl_Version s_impl_Version rfl rfl (hn := ?_)
    refine LWo.loadN ((e_impl_Version x12)).cells g_impl_Version s_impl_Version rfl (Nat.le_of_ble_eq_true rfl) rfl (hn := ?_)
    refine LWo.alloc_impl_Version 5 rfl (hn := ?_)
    refine lk h fun y13 e13 h => ?_
    refine LWo.storeW (y := (⟨(0 : Int), (0 : Int), (0 : Int), []⟩ : S_impl_Version)) y13 s_impl_Version rfl rfl rfl rfl rfl rfl (by rw [e13]; exact .refl) rfl (hn := ?_)
    refine LWo.nil (hN11 _ ?_)
    refine LWP.seq_k fun N14 hN14 => ?_
    refine LWP.region (l := [_,_,_,_,_]) ?_
    refine LWo.fieldPtr u_impl_Version rfl s_Limpl_Value rfl rfl (hn := ?_)
    refine LWo.loadV1 (e_Limpl_Value y13.Row)  g_Limpl_Value rfl rfl rfl (hn := ?_)
    refine bk h fun x15 e15 h => ?_
    refine LWo.vcall rfl rfl (c_spec_l3Own _ _ e15) (.same (.nil)) (hn := ?_)
    refine LWo.fieldPtr u_impl_Version rfl s_Limpl_Value rfl rfl (hn := ?_)
    refine lk h fun y16 e16 h => ?_
    refine LWo.storeW (y := y13) y16 s_Limpl_Value rfl rfl rfl rfl rfl rfl (by rw [e16]; exact .refl) rfl (hn := ?_)
    refine LWo.nil (hN14 _ ?_)
    refine LWP.region (l := [_,_,_,_,_]) ?_
    refine LWo.move (.own 1006 0 (o1006).length) rfl (hn := ?_)
    refine LWo.loadVN ((e_impl_Version y16)).cells  g_impl_Version s_impl_Version rfl rfl rfl rfl (hn := ?_)
    refine LWo.lit (ops := [_]) [(e_impl_Version y16)] u_Limpl_Version s_impl_Version z_impl_Version rfl rfl rfl rfl rfl rfl (hn := ?_)
    refine bk h fun x17 e17 h => ?_
    refine LWo.appendM (f := e_impl_Version) e17 rfl u_Limpl_Version u_Limpl_Version (fun _ h => by cases h) s_impl_Version i_impl_Version rfl rfl rfl (.sl rfl) rfl rfl (hn := ?_)
    refine LWo.assign (.own 1006 0 (x17).length) rfl (hn := ?_)
    refine LWo.nil (hN10 _ ?_)
    refine LWP.region (l := [_,_,_]) ?_
    refine LWo.move (e_int t4) rfl (hn := ?_)
    refine bk h fun x18 e18 h => ?_
    refine LWo.int _ rfl rfl (add_ck e18) (hn := ?_)
    refine LWo.assign (e_int x18) rfl (hn := ?_)
    refine LWo.nil (hN5 (t0, x18, x17) _ ⟨rfl, rfl, rfl, trivial⟩ ⟨rfl, trivial⟩ h)
   ·have h := bF h9 h
    refine LWP.exit (hN3 o1006 _ ⟨rfl, trivial⟩ ⟨rfl, trivial⟩ h)

def m_spec_l13Written_j6 (o1011 : (List S_impl_Version)) : Option (List S_impl_Version) :=
  some o1011
def m_spec_l13Written_j5 (t2 : Int) (t4 : S_impl_Write) (t8 : Bool) (o1011 : (List S_impl_Version)) : Option (List S_impl_Version) :=
  bif (!t8) then ((m_spec_l3Own t4.Row).bind fun x32 =>
    (app? o1011 ([(⟨t4.Key, t2, (0 : Int), x32⟩ : S_impl_Version)] : (List S_impl_Version))).bind fun x33 =>
    m_spec_l13Written_j6  x33)
  else (m_spec_l13Written_j6  o1011)
def m_spec_l13Written_j4 (k1 : (List S_impl_Version) → Int → S_impl_Write → Bool → Int → (List S_impl_Version) → Option (List S_impl_Version)) (t0 : (List S_impl_Version)) (t2 : Int) (t4 : S_impl_Write) (t8 : Bool) (t9 : Int) (o10 : S_impl_Version) (o1011 : (List S_impl_Version)) : Option (List S_impl_Version) :=
  (app? o1011 ([o10] : (List S_impl_Version))).bind fun x27 =>
  (ckI (t9 + (1 : Int))).bind fun x28 =>
  k1 t0 t2 t4 t8 x28 x27
def m_spec_l13Written_j3 (k1 : (List S_impl_Version) → Int → S_impl_Write → Bool → Int → (List S_impl_Version) → Option (List S_impl_Version)) (t0 : (List S_impl_Version)) (t2 : Int) (t4 : S_impl_Write) (t8 : Bool) (t9 : Int) (t52 : Bool) (o10 : S_impl_Version) (o1011 : (List S_impl_Version)) : Option (List S_impl_Version) :=
  bif t52 then (lt ({ o10 with Died := t2 }) fun y26 =>
    m_spec_l13Written_j4  k1 t0 t2 t4 t8 t9 y26 o1011)
  else (m_spec_l13Written_j4  k1 t0 t2 t4 t8 t9 o10 o1011)
def m_spec_l13Written_j2 (k1 : (List S_impl_Version) → Int → S_impl_Write → Bool → Int → (List S_impl_Version) → Option (List S_impl_Version)) (t0 : (List S_impl_Version)) (t2 : Int) (t4 : S_impl_Write) (t8 : Bool) (t9 : Int) (o10 : S_impl_Version) (o1011 : (List S_impl_Version)) : Option (List S_impl_Version) :=
  bif (o10.Key == t4.Key) then (m_spec_l13Written_j3  k1 t0 t2 t4 t8 t9 (o10.Died == (0 : Int)) o10 o1011)
  else (m_spec_l13Written_j3  k1 t0 t2 t4 t8 t9 false o10 o1011)
def m_spec_l13Written_j1 (k1 : (List S_impl_Version) → Int → S_impl_Write → Bool → Int → (List S_impl_Version) → Option (List S_impl_Version)) (t0 : (List S_impl_Version)) (t2 : Int) (t4 : S_impl_Write) (t8 : Bool) (t9 : Int) (t32 : Bool) (o10 : S_impl_Version) (o1011 : (List S_impl_Version)) : Option (List S_impl_Version) :=
  bif t32 then ((m_spec_l3Own t4.Row).bind fun x20 =>
    (app? o1011 ([(⟨t4.Key, t2, (0 : Int), x20⟩ : S_impl_Version)] : (List S_impl_Version))).bind fun x21 =>
    m_spec_l13Written_j2  k1 t0 t2 t4 true t9 o10 x21)
  else (m_spec_l13Written_j2  k1 t0 t2 t4 t8 t9 o10 o1011)
def m_spec_l13Written_l1 : Nat → (List S_impl_Version) → Int → S_impl_Write → Bool → Int → (List S_impl_Version) → Option (List S_impl_Version)
  | 0, _, _, _, _, _, _ => none
  | n1 + 1, t0, t2, t4, t8, t9, o1011 =>
    bif decide (t9 < (t0.length : Int)) then ((at? t0 t9).bind fun x13 =>
    lt (x13) fun y14 =>
    bif decide (y14.Key > t4.Key) then (m_spec_l13Written_j1  (m_spec_l13Written_l1  n1) t0 t2 t4 t8 t9 (!t8) y14 o1011)
    else (m_spec_l13Written_j1  (m_spec_l13Written_l1  n1) t0 t2 t4 t8 t9 false y14 o1011))
    else (m_spec_l13Written_j5  t2 t4 t8 o1011)
def m_spec_l13Written (a0 : (List S_impl_Version)) (a1 : S_impl_Write) (a2 : Int) : Option (List S_impl_Version) :=
  m_spec_l13Written_l1  (((a0.length : Int) - (0 : Int)).toNat + 1) a0 a2 a1 a1.Gone (0 : Int) ([] : (List S_impl_Version))
theorem c_spec_l13Written (a0 : (List S_impl_Version)) (a1 : S_impl_Write) (a2 : Int) (r : (List S_impl_Version)) (h : m_spec_l13Written a0 a1 a2 = some r) : Ret Try.prog f_spec_l13Written [e_Limpl_Version a0, e_impl_Write a1, e_int a2] (.nw 4 (r.map e_impl_Version) false) := by
  refine Does.goG [] F_spec_l13Written rfl e_spec_l13Written n_spec_l13Written rfl (rvs := [.tmp 6]) rfl rfl ?_
  intro w0 ok0 lent ρ0
  refine LWP.seq_k fun N1 hN1 => ?_
  refine LWP.region (l := [_,_]) ?_
  refine LWo.boxF (e_impl_Write a1) rfl rfl rfl (hn := ?_)
  refine LWo.assign _ rfl (hn := ?_)
  refine LWo.ownNil 6 1006 4 rfl rfl rfl ?_
  refine LWo.known 6 (.own 1006 0 ([] : (List S_impl_Version)).length) rfl ?_
  refine LWo.nil (hN1 _ ?_)
  refine LWP.seq_k fun N2 hN2 => ?_
  refine LWP.region (l := [_,_]) ?_
  refine LWo.lit0 1011 u_Limpl_Version s_impl_Version z_impl_Version (hn := ?_)
  refine LWo.known 11 (.own 1011 0 ([] : (List S_impl_Version)).length) rfl ?_
  refine LWo.assign (.own 1011 0 (([] : (List S_impl_Version))).length) rfl (hn := ?_)
  refine LWo.nil (hN2 _ ?_)
  refine LWP.seq_k fun N3 hN3 => ?_
  refine LWP.region (l := [_,_,_]) ?_
  refine LWo.fieldAddr _ u_impl_Write rfl s_bool rfl rfl (hn := ?_)
  refine LWo.load1 (c := (e_bool a1.Gone)) g_bool rfl (hn := ?_)
  refine LWo.assign (e_bool a1.Gone) rfl (hn := ?_)
  refine LWo.nil (hN3 _ ?_)
  refine LWP.join (α := Int × S_impl_Write × Bool × (List S_impl_Version)) (fun z : Int × S_impl_Write × Bool × (List S_impl_Version) => [(2, (e_int z.1)), (4, (.fp (e_impl_Write z.2.1).cells)), (7, (.own 1011 0 (z.2.2.2).length)), (8, (e_bool z.2.2.1))]) (fun z : Int × S_impl_Write × Bool × (List S_impl_Version) => [(1011, (lob 4 e_impl_Version z.2.2.2))]) (fun z : Int × S_impl_Write × Bool × (List S_impl_Version) => m_spec_l13Written_j5  z.1 z.2.1 z.2.2.1 z.2.2.2) r (fun _ => by simp [hkeys]) ?_ ?_
  ·rintro ⟨t2, t4, t8, o1011⟩ h
   replace h : m_spec_l13Written_j5  t2 t4 t8 o1011 = some _ := h
   refine LWP.join (α := (List S_impl_Version)) (fun z : (List S_impl_Version) => [(7, (.own 1011 0 (z).length))]) (fun z : (List S_impl_Version) => [(1011, (lob 4 e_impl_Version z))]) (fun z : (List S_impl_Version) => m_spec_l13Written_j6  z) r (fun _ => by simp [hkeys]) ?_ ?_
   ·rintro o1011 h
    replace h : m_spec_l13Written_j6  o1011 = some _ := h
    refine LWP.seq_k fun N34 hN34 => ?_
    refine LWP.region (l := [_,_]) ?_
    refine LWo.move (.own 1011 0 (o1011).length) rfl (hn := ?_)
    refine LWo.assign (.own 1011 0 (o1011).length) rfl (hn := ?_)
    refine LWo.nil (hN34 _ ?_)
    obtain rfl := Option.some.inj h
    refine LWP.ret (QG.mk (.inr rfl) (.cons (.tmp (x := (.own 1011 0 (o1011).length)) rfl) (.nil)) (RetOK.one0 (.nwM rfl rfl) (by decide)) rfl rfl)
   ·intro N29 hN29
    refine LWP.seq_k fun N30 hN30 => ?_
    refine LWP.region (l := [_,_]) ?_
    refine LWo.move (e_bool t8) rfl (hn := ?_)
    refine LWo.not rfl (hn := ?_)
    refine LWo.nil (hN30 _ ?_)
    refine LWP.cond_split rfl (fun h31 => ?_) (fun h31 => ?_)
    ·have h := bT h31 h
     refine bk h fun x32 e32 h => ?_
     refine bk h fun x33 e33 h => ?_
     refine LWP.drawF (l := [_,_,_,_,_,_,_,_,_,_,_]) [1011] [2, 4, 7] [([7], []), ([4], []), ([62], []), ([2], []), ([4], []), ([65], []), ([66], []), ([63, 64, 67], []), ([68], []), ([61, 69], [1011]), ([70], [])] [7] [1011] mixed (by kernel_rfl) rfl (by decide) ?_
     refine dq 61 rfl (fun _ g u h => LWo.move (.own 1011 0 (o1011).length) u.1 (hn := .nil (zn g))) ?_
     refine dq 62 rfl (fun _ g u h => LWo.fieldAddr _ u_impl_Write rfl s_int u.1 rfl (hn := .nil (zn g))) ?_
     refine dq 63 rfl (fun _ g u h => LWo.load1 (c := (e_int t4.Key)) g_int u.1 (hn := .nil (zn g))) ?_
     refine dq 64 rfl (fun _ g u h => LWo.move (e_int t2) u.1 (hn := .nil (zn g))) ?_
     refine dq 65 rfl (fun _ g u h => LWo.fieldAddr _ u_impl_Write rfl s_Limpl_Value u.1 rfl (hn := .nil (zn g))) ?_
     refine dq 66 rfl (fun _ g u h => LWo.load1 (c := (e_Limpl_Value t4.Row)) g_Limpl_Value u.1 (hn := .nil (zn g))) ?_
     refine dq 67 rfl (fun _ g u h => LWo.vcall rfl (av1 u.1) (c_spec_l3Own _ _ e32) (.same (.nil)) (hn := .nil (zn g))) ?_
     refine dq 68 rfl (fun _ g u h => LWo.build_impl_Version (parts := [_, _, _]) (⟨t4.Key, t2, (0 : Int), x32⟩ : S_impl_Version) (pv3 u.1 u.2.1 u.2.2.1) rfl rfl .refl (hn := .nil (zn g))) ?_
     refine dq 69 rfl (fun _ g u h => LWo.lit (ops := [_]) [(e_impl_Version (⟨t4.Key, t2, (0 : Int), x32⟩ : S_impl_Version))] u_Limpl_Version s_impl_Version z_impl_Version (lv1 u.1) rfl rfl rfl rfl rfl (hn := .nil (zn g))) ?_
     refine ⟨rfl, .make 70 _ 1011 _, (by exact (goodC rfl goodN)), fun _ g u h => LWo.appendM (f := e_impl_Version) e33 rfl u_Limpl_Version u_Limpl_Version (fun _ h => by cases h) s_impl_Version i_impl_Version rfl u.1 h.1 (.sl u.2.1) (lone_of g rfl) rfl (hn := LWo.nil ⟨rfl, .inl rfl, Ef.good_ok (e := .make 70 _ 1011 _) (by exact (goodC rfl goodN)) g⟩), ?_⟩
     refine dq 7 rfl (fun _ g u h => LWo.assign (.own 1011 0 (x33).length) u.1 (hn := .nil (zn g))) ?_
     refine ⟨rfl, by kernel_rfl, hN29 x33 _ ⟨rfl, trivial⟩ ⟨rfl, trivial⟩ h⟩
    ·have h := bF h31 h
     refine LWP.skip (hN29 o1011 _ ⟨rfl, trivial⟩ ⟨rfl, trivial⟩ h)
  ·intro N4 hN4
   refine LWP.seq_k fun N5 hN5 => ?_
   refine LWP.region (l := [_]) ?_
   refine LWo.assign (e_int (0 : Int)) rfl (hn := ?_)
   refine LWo.nil (hN5 _ ?_)
   refine LWP.block ?_
   refine LWP.loopM (α := (List S_impl_Version) × Int × S_impl_Write × Bool × Int × (List S_impl_Version)) (fun z : (List S_impl_Version) × Int × S_impl_Write × Bool × Int × (List S_impl_Version) => [(0, (e_Limpl_Version z.1)), (2, (e_int z.2.1)), (4, (.fp (e_impl_Write z.2.2.1).cells)), (7, (.own 1011 0 (z.2.2.2.2.2).length)), (8, (e_bool z.2.2.2.1)), (9, (e_int z.2.2.2.2.1))]) (fun z : (List S_impl_Version) × Int × S_impl_Write × Bool × Int × (List S_impl_Version) => [(1011, (lob 4 e_impl_Version z.2.2.2.2.2))]) (fun n1 (z : (List S_impl_Version) × Int × S_impl_Write × Bool × Int × (List S_impl_Version)) => m_spec_l13Written_l1  n1 z.1 z.2.1 z.2.2.1 z.2.2.2.1 z.2.2.2.2.1 z.2.2.2.2.2) r _ (a0, a2, a1, a1.Gone, (0 : Int), ([] : (List S_impl_Version))) h (fun _ => rfl) (fun _ => by simp [hkeys]) ⟨rfl, rfl, rfl, rfl, rfl, rfl, trivial⟩ ⟨rfl, trivial⟩ ?_
   rintro n1 ⟨t0, t2, t4, t8, t9, o1011⟩ h N6 hN6
   replace h : m_spec_l13Written_l1  (n1 + 1) t0 t2 t4 t8 t9 o1011 = some _ := h
   refine LWP.seq_k fun N8 hN8 => ?_
   refine LWP.seq_k fun N9 hN9 => ?_
   refine LWP.region (l := [_,_,_,_]) ?_
   refine LWo.move (e_int t9) rfl (hn := ?_)
   refine LWo.move (e_Limpl_Version t0) rfl (hn := ?_)
   refine LWo.lenM (f := e_impl_Version) (l := t0) u_Limpl_Version rfl (hn := ?_)
   refine LWo.int _ rfl rfl rfl (hn := ?_)
   refine LWo.nil (hN9 _ ?_)
   refine LWP.cond_split rfl (fun h10 => ?_) (fun h10 => ?_)
   ·have h := bT h10 h
    refine LWP.skip (hN8 _ ?_)
    refine LWP.seq_k fun N11 hN11 => ?_
    refine LWP.block ?_
    refine LWP.seq_k fun N12 hN12 => ?_
    refine LWP.region (l := [_,_,_,_,_,_]) ?_
    refine LWo.move (e_Limpl_Version t0) rfl (hn := ?_)
    refine LWo.move (e_int t9) rfl (hn := ?_)
    refine bk h fun x13 e13 h => ?_
    refine LWo.indexM (f := e_impl_Version) e13 u_Limpl_Version s_impl_Version rfl rfl (hn := ?_)
    refine LWo.loadN ((e_impl_Version x13)).cells g_impl_Version s_impl_Version rfl (Nat.le_of_ble_eq_true rfl) rfl (hn := ?_)
    refine LWo.alloc_impl_Version 10 rfl (hn := ?_)
    refine lk h fun y14 e14 h => ?_
    refine LWo.storeW (y := (⟨(0 : Int), (0 : Int), (0 : Int), []⟩ : S_impl_Version)) y14 s_impl_Version rfl rfl rfl rfl rfl rfl (by rw [e14]; exact .refl) rfl (hn := ?_)
    refine LWo.nil (hN12 _ ?_)
    refine LWP.join (α := (List S_impl_Version) × Int × S_impl_Write × Bool × Int × S_impl_Version × (List S_impl_Version)) (fun z : (List S_impl_Version) × Int × S_impl_Write × Bool × Int × S_impl_Version × (List S_impl_Version) => [(0, (e_Limpl_Version z.1)), (2, (e_int z.2.1)), (4, (.fp (e_impl_Write z.2.2.1).cells)), (7, (.own 1011 0 (z.2.2.2.2.2.2).length)), (8, (e_bool z.2.2.2.1)), (9, (e_int z.2.2.2.2.1)), (10, (.ptr 10 0 0))]) (fun z : (List S_impl_Version) × Int × S_impl_Write × Bool × Int × S_impl_Version × (List S_impl_Version) => [(10, (vob 4 e_impl_Version z.2.2.2.2.2.1)), (1011, (lob 4 e_impl_Version z.2.2.2.2.2.2))]) (fun z : (List S_impl_Version) × Int × S_impl_Write × Bool × Int × S_impl_Version × (List S_impl_Version) => m_spec_l13Written_j2  (m_spec_l13Written_l1  n1) z.1 z.2.1 z.2.2.1 z.2.2.2.1 z.2.2.2.2.1 z.2.2.2.2.2.1 z.2.2.2.2.2.2) r (fun _ => by simp [hkeys]) ?_ ?_
    ·rintro ⟨t0, t2, t4, t8, t9, o10, o1011⟩ h
     replace h : m_spec_l13Written_j2  (m_spec_l13Written_l1  n1) t0 t2 t4 t8 t9 o10 o1011 = some _ := h
     refine LWP.join (α := (List S_impl_Version) × Int × S_impl_Write × Bool × Int × S_impl_Version × (List S_impl_Version)) (fun z : (List S_impl_Version) × Int × S_impl_Write × Bool × Int × S_impl_Version × (List S_impl_Version) => [(0, (e_Limpl_Version z.1)), (2, (e_int z.2.1)), (4, (.fp (e_impl_Write z.2.2.1).cells)), (7, (.own 1011 0 (z.2.2.2.2.2.2).length)), (8, (e_bool z.2.2.2.1)), (9, (e_int z.2.2.2.2.1)), (10, (.ptr 10 0 0))]) (fun z : (List S_impl_Version) × Int × S_impl_Write × Bool × Int × S_impl_Version × (List S_impl_Version) => [(10, (vob 4 e_impl_Version z.2.2.2.2.2.1)), (1011, (lob 4 e_impl_Version z.2.2.2.2.2.2))]) (fun z : (List S_impl_Version) × Int × S_impl_Write × Bool × Int × S_impl_Version × (List S_impl_Version) => m_spec_l13Written_j4  (m_spec_l13Written_l1  n1) z.1 z.2.1 z.2.2.1 z.2.2.2.1 z.2.2.2.2.1 z.2.2.2.2.2.1 z.2.2.2.2.2.2) r (fun _ => by simp [hkeys]) ?_ ?_
     ·rintro ⟨t0, t2, t4, t8, t9, o10, o1011⟩ h
      replace h : m_spec_l13Written_j4  (m_spec_l13Written_l1  n1) t0 t2 t4 t8 t9 o10 o1011 = some _ := h
      refine LWP.region (l := [_,_,_,_,_]) ?_
      refine LWo.move (.own 1011 0 (o1011).length) rfl (hn := ?_)
      refine LWo.loadVN ((e_impl_Version o10)).cells  g_impl_Version s_impl_Version rfl rfl rfl rfl (hn := ?_)
      refine LWo.lit (ops := [_]) [(e_impl_Version o10)] u_Limpl_Version s_impl_Version z_impl_Version rfl rfl rfl rfl rfl rfl (hn := ?_)
      refine bk h fun x27 e27 h => ?_
      refine LWo.appendM (f := e_impl_Version) e27 rfl u_Limpl_Version u_Limpl_Version (fun _ h => by cases h) s_impl_Version i_impl_Version rfl rfl rfl (.sl rfl) rfl rfl (hn := ?_)
      refine LWo.assign (.own 1011 0 (x27).length) rfl (hn := ?_)
      refine LWo.nil (hN11 _ ?_)
      refine LWP.region (l := [_,_,_]) ?_
      refine LWo.move (e_int t9) rfl (hn := ?_)
      refine bk h fun x28 e28 h => ?_
      refine LWo.int _ rfl rfl (add_ck e28) (hn := ?_)
      refine LWo.assign (e_int x28) rfl (hn := ?_)
      refine LWo.nil (hN6 (t0, t2, t4, t8, x28, x27) _ ⟨rfl, rfl, rfl, rfl, rfl, rfl, trivial⟩ ⟨rfl, trivial⟩ h)
     ·intro N22 hN22
      refine LWP.join (α := (List S_impl_Version) × Int × S_impl_Write × Bool × Int × Bool × S_impl_Version × (List S_impl_Version)) (fun z : (List S_impl_Version) × Int × S_impl_Write × Bool × Int × Bool × S_impl_Version × (List S_impl_Version) => [(0, (e_Limpl_Version z.1)), (2, (e_int z.2.1)), (4, (.fp (e_impl_Write z.2.2.1).cells)), (7, (.own 1011 0 (z.2.2.2.2.2.2.2).length)), (8, (e_bool z.2.2.2.1)), (9, (e_int z.2.2.2.2.1)), (10, (.ptr 10 0 0)), (52, (e_bool z.2.2.2.2.2.1))]) (fun z : (List S_impl_Version) × Int × S_impl_Write × Bool × Int × Bool × S_impl_Version × (List S_impl_Version) => [(10, (vob 4 e_impl_Version z.2.2.2.2.2.2.1)), (1011, (lob 4 e_impl_Version z.2.2.2.2.2.2.2))]) (fun z : (List S_impl_Version) × Int × S_impl_Write × Bool × Int × Bool × S_impl_Version × (List S_impl_Version) => m_spec_l13Written_j3  (m_spec_l13Written_l1  n1) z.1 z.2.1 z.2.2.1 z.2.2.2.1 z.2.2.2.2.1 z.2.2.2.2.2.1 z.2.2.2.2.2.2.1 z.2.2.2.2.2.2.2) r (fun _ => by simp [hkeys]) ?_ ?_
      ·rintro ⟨t0, t2, t4, t8, t9, t52, o10, o1011⟩ h
       replace h : m_spec_l13Written_j3  (m_spec_l13Written_l1  n1) t0 t2 t4 t8 t9 t52 o10 o1011 = some _ := h
       refine LWP.cond_split rfl (fun h25 => ?_) (fun h25 => ?_)
       ·have h := bT h25 h
        refine LWP.region (l := [_,_,_]) ?_
        refine LWo.move (e_int t2) rfl (hn := ?_)
        refine LWo.fieldPtr u_impl_Version rfl s_int rfl rfl (hn := ?_)
        refine lk h fun y26 e26 h => ?_
        refine LWo.storeW (y := o10) y26 s_int rfl rfl rfl rfl rfl rfl (by rw [e26]; exact .refl) rfl (hn := ?_)
        refine LWo.nil (hN22 (t0, t2, t4, t8, t9, y26, o1011) _ ⟨rfl, rfl, rfl, rfl, rfl, rfl, rfl, trivial⟩ ⟨rfl, rfl, trivial⟩ h)
       ·have h := bF h25 h
        refine LWP.skip (hN22 (t0, t2, t4, t8, t9, o10, o1011) _ ⟨rfl, rfl, rfl, rfl, rfl, rfl, rfl, trivial⟩ ⟨rfl, rfl, trivial⟩ h)
      ·intro N23 hN23
       refine LWP.region (l := [_,_,_,_,_,_,_,_,_,_]) ?_
       refine LWo.fieldPtr u_impl_Version rfl s_int rfl rfl (hn := ?_)
       refine LWo.loadV1 (e_int o10.Key)  g_int rfl rfl rfl (hn := ?_)
       refine LWo.fieldAddr _ u_impl_Write rfl s_int rfl rfl (hn := ?_)
       refine LWo.load1 (c := (e_int t4.Key)) g_int rfl (hn := ?_)
       refine LWo.int _ rfl rfl rfl (hn := ?_)
       refine LWo.move (e_bool (o10.Key == t4.Key)) rfl (hn := ?_)
       refine LWo.byCases (t := 48) _ rfl (fun h24 => ?_) (fun h24 => ?_)
       ·have h := bT h24 h
        refine LWo.guardY (t := 48) rfl h24 rfl rfl ?_
        refine LWo.fieldPtr u_impl_Version rfl s_int rfl rfl (hn := ?_)
        refine LWo.guardY (t := 48) rfl h24 rfl rfl ?_
        refine LWo.loadV1 (e_int o10.Died)  g_int rfl rfl rfl (hn := ?_)
        refine LWo.guardY (t := 48) rfl h24 rfl rfl ?_
        refine LWo.int _ rfl rfl rfl (hn := ?_)
        refine LWo.pickTM (e_bool (o10.Died == (0 : Int))) rfl h24 rfl (hn := ?_)
        refine LWo.nil (hN23 (t0, t2, t4, t8, t9, (o10.Died == (0 : Int)), o10, o1011) _ ⟨rfl, rfl, rfl, rfl, rfl, rfl, rfl, rfl, trivial⟩ ⟨rfl, rfl, trivial⟩ h)
       ·have h := bF h24 h
        refine LWo.guardNU (t := 48) rfl h24 rfl rfl rfl rfl rfl ?_
        refine LWo.guardNU (t := 48) rfl h24 rfl rfl rfl rfl rfl ?_
        refine LWo.guardNU (t := 48) rfl h24 rfl rfl rfl rfl rfl ?_
        refine LWo.pickFM (e_bool false) rfl h24 rfl (hn := ?_)
        refine LWo.nil (hN23 (t0, t2, t4, t8, t9, false, o10, o1011) _ ⟨rfl, rfl, rfl, rfl, rfl, rfl, rfl, rfl, trivial⟩ ⟨rfl, rfl, trivial⟩ h)
    ·intro N15 hN15
     refine LWP.join (α := (List S_impl_Version) × Int × S_impl_Write × Bool × Int × Bool × S_impl_Version × (List S_impl_Version)) (fun z : (List S_impl_Version) × Int × S_impl_Write × Bool × Int × Bool × S_impl_Version × (List S_impl_Version) => [(0, (e_Limpl_Version z.1)), (2, (e_int z.2.1)), (4, (.fp (e_impl_Write z.2.2.1).cells)), (7, (.own 1011 0 (z.2.2.2.2.2.2.2).length)), (8, (e_bool z.2.2.2.1)), (9, (e_int z.2.2.2.2.1)), (10, (.ptr 10 0 0)), (32, (e_bool z.2.2.2.2.2.1))]) (fun z : (List S_impl_Version) × Int × S_impl_Write × Bool × Int × Bool × S_impl_Version × (List S_impl_Version) => [(10, (vob 4 e_impl_Version z.2.2.2.2.2.2.1)), (1011, (lob 4 e_impl_Version z.2.2.2.2.2.2.2))]) (fun z : (List S_impl_Version) × Int × S_impl_Write × Bool × Int × Bool × S_impl_Version × (List S_impl_Version) => m_spec_l13Written_j1  (m_spec_l13Written_l1  n1) z.1 z.2.1 z.2.2.1 z.2.2.2.1 z.2.2.2.2.1 z.2.2.2.2.2.1 z.2.2.2.2.2.2.1 z.2.2.2.2.2.2.2) r (fun _ => by simp [hkeys]) ?_ ?_
     ·rintro ⟨t0, t2, t4, t8, t9, t32, o10, o1011⟩ h
      replace h : m_spec_l13Written_j1  (m_spec_l13Written_l1  n1) t0 t2 t4 t8 t9 t32 o10 o1011 = some _ := h
      refine LWP.cond_split rfl (fun h18 => ?_) (fun h18 => ?_)
      ·have h := bT h18 h
       refine LWP.seq_k fun N19 hN19 => ?_
       refine bk h fun x20 e20 h => ?_
       refine bk h fun x21 e21 h => ?_
       refine LWP.drawF (l := [_,_,_,_,_,_,_,_,_,_,_]) [1011] [0, 2, 4, 7, 9, 10] [([7], []), ([4], []), ([34], []), ([2], []), ([4], []), ([37], []), ([38], []), ([35, 36, 39], []), ([40], []), ([33, 41], [1011]), ([42], [])] [0, 2, 4, 7, 9, 10] [10, 1011] mixed (by kernel_rfl) rfl (by decide) ?_
       refine dq 33 rfl (fun _ g u h => LWo.move (.own 1011 0 (o1011).length) u.1 (hn := .nil (zn g))) ?_
       refine dq 34 rfl (fun _ g u h => LWo.fieldAddr _ u_impl_Write rfl s_int u.1 rfl (hn := .nil (zn g))) ?_
       refine dq 35 rfl (fun _ g u h => LWo.load1 (c := (e_int t4.Key)) g_int u.1 (hn := .nil (zn g))) ?_
       refine dq 36 rfl (fun _ g u h => LWo.move (e_int t2) u.1 (hn := .nil (zn g))) ?_
       refine dq 37 rfl (fun _ g u h => LWo.fieldAddr _ u_impl_Write rfl s_Limpl_Value u.1 rfl (hn := .nil (zn g))) ?_
       refine dq 38 rfl (fun _ g u h => LWo.load1 (c := (e_Limpl_Value t4.Row)) g_Limpl_Value u.1 (hn := .nil (zn g))) ?_
       refine dq 39 rfl (fun _ g u h => LWo.vcall rfl (av1 u.1) (c_spec_l3Own _ _ e20) (.same (.nil)) (hn := .nil (zn g))) ?_
       refine dq 40 rfl (fun _ g u h => LWo.build_impl_Version (parts := [_, _, _]) (⟨t4.Key, t2, (0 : Int), x20⟩ : S_impl_Version) (pv3 u.1 u.2.1 u.2.2.1) rfl rfl .refl (hn := .nil (zn g))) ?_
       refine dq 41 rfl (fun _ g u h => LWo.lit (ops := [_]) [(e_impl_Version (⟨t4.Key, t2, (0 : Int), x20⟩ : S_impl_Version))] u_Limpl_Version s_impl_Version z_impl_Version (lv1 u.1) rfl rfl rfl rfl rfl (hn := .nil (zn g))) ?_
       refine ⟨rfl, .make 42 _ 1011 _, (by exact (goodC rfl goodN)), fun _ g u h => LWo.appendM (f := e_impl_Version) e21 rfl u_Limpl_Version u_Limpl_Version (fun _ h => by cases h) s_impl_Version i_impl_Version rfl u.1 h.1 (.sl u.2.1) (lone_of g rfl) rfl (hn := LWo.nil ⟨rfl, .inl rfl, Ef.good_ok (e := .make 42 _ 1011 _) (by exact (goodC rfl goodN)) g⟩), ?_⟩
       refine dq 7 rfl (fun _ g u h => LWo.assign (.own 1011 0 (x21).length) u.1 (hn := .nil (zn g))) ?_
       refine ⟨rfl, by kernel_rfl, hN19 _ ?_⟩
       refine LWP.region (l := [_]) ?_
       refine LWo.assign (e_bool true) rfl (hn := ?_)
       refine LWo.nil (hN15 (t0, t2, t4, true, t9, o10, x21) _ ⟨rfl, rfl, rfl, rfl, rfl, rfl, rfl, trivial⟩ ⟨rfl, rfl, trivial⟩ h)
      ·have h := bF h18 h
       refine LWP.skip (hN15 (t0, t2, t4, t8, t9, o10, o1011) _ ⟨rfl, rfl, rfl, rfl, rfl, rfl, rfl, trivial⟩ ⟨rfl, rfl, trivial⟩ h)
     ·intro N16 hN16
      refine LWP.region (l := [_,_,_,_,_,_,_,_,_]) ?_
      refine LWo.fieldPtr u_impl_Version rfl s_int rfl rfl (hn := ?_)
      refine LWo.loadV1 (e_int y14.Key)  g_int rfl rfl rfl (hn := ?_)
      refine LWo.fieldAddr _ u_impl_Write rfl s_int rfl rfl (hn := ?_)
      refine LWo.load1 (c := (e_int t4.Key)) g_int rfl (hn := ?_)
      refine LWo.int _ rfl rfl rfl (hn := ?_)
      refine LWo.move (e_bool (decide (y14.Key > t4.Key))) rfl (hn := ?_)
      refine LWo.byCases (t := 29) _ rfl (fun h17 => ?_) (fun h17 => ?_)
      ·have h := bT h17 h
       refine LWo.guardY (t := 29) rfl h17 rfl rfl ?_
       refine LWo.move (e_bool t8) rfl (hn := ?_)
       refine LWo.guardY (t := 29) rfl h17 rfl rfl ?_
       refine LWo.not rfl (hn := ?_)
       refine LWo.pickTM (e_bool (!t8)) rfl h17 rfl (hn := ?_)
       refine LWo.nil (hN16 (t0, t2, t4, t8, t9, (!t8), y14, o1011) _ ⟨rfl, rfl, rfl, rfl, rfl, rfl, rfl, rfl, trivial⟩ ⟨rfl, rfl, trivial⟩ h)
      ·have h := bF h17 h
       refine LWo.guardNU (t := 29) rfl h17 rfl rfl rfl rfl rfl ?_
       refine LWo.guardNU (t := 29) rfl h17 rfl rfl rfl rfl rfl ?_
       refine LWo.pickFM (e_bool false) rfl h17 rfl (hn := ?_)
       refine LWo.nil (hN16 (t0, t2, t4, t8, t9, false, y14, o1011) _ ⟨rfl, rfl, rfl, rfl, rfl, rfl, rfl, rfl, trivial⟩ ⟨rfl, rfl, trivial⟩ h)
   ·have h := bF h10 h
    refine LWP.exit (hN4 (t2, t4, t8, o1011) _ ⟨rfl, rfl, rfl, rfl, trivial⟩ ⟨rfl, trivial⟩ h)

def m_spec_WrittenAt_j3 (o1036 : (List S_impl_Version)) : Option ((List S_impl_Version) × Bool) :=
  bif decide ((o1036.length : Int) > (60 : Int)) then (some (([] : (List S_impl_Version)), false))
  else (some (o1036, true))
def m_spec_WrittenAt_l2 : Nat → (List S_impl_Write) → Int → Int → (List S_impl_Version) → Option ((List S_impl_Version) × Bool)
  | 0, _, _, _, _ => none
  | n2 + 1, t1, t2, t10, o1036 =>
    bif decide (t10 < (t1.length : Int)) then ((at? t1 t10).bind fun x34 =>
    (m_spec_l13Written o1036 x34 t2).bind fun x35 =>
    (ckI (t10 + (1 : Int))).bind fun x36 =>
    (m_spec_WrittenAt_l2  n2) t1 t2 x36 x35)
    else (m_spec_WrittenAt_j3  o1036)
def m_spec_WrittenAt_j2 (t0 : (List S_impl_Version)) (t1 : (List S_impl_Write)) (t2 : Int) : Option ((List S_impl_Version) × Bool) :=
  (m_spec_l13Copy t0).bind fun x25 =>
  m_spec_WrittenAt_l2  (((t1.length : Int) - (0 : Int)).toNat + 1) t1 t2 (0 : Int) x25
def m_spec_WrittenAt_l1 : Nat → (List S_impl_Version) → (List S_impl_Write) → Int → Int → Option ((List S_impl_Version) × Bool)
  | 0, _, _, _, _ => none
  | n1 + 1, t0, t1, t2, t8 =>
    bif decide (t8 < (5 : Int)) then ((m_spec_LastTurn t0 t8).bind fun x20 =>
    bif decide (x20 ≥ t2) then (some (([] : (List S_impl_Version)), false))
    else ((ckI (t8 + (1 : Int))).bind fun x23 =>
    (m_spec_WrittenAt_l1  n1) t0 t1 t2 x23))
    else (m_spec_WrittenAt_j2  t0 t1 t2)
def m_spec_WrittenAt_j1 (t0 : (List S_impl_Version)) (t1 : (List S_impl_Write)) (t2 : Int) (t23 : Bool) : Option ((List S_impl_Version) × Bool) :=
  bif t23 then (some (([] : (List S_impl_Version)), false))
  else (m_spec_WrittenAt_l1  (((5 : Int) - (0 : Int)).toNat + 1) t0 t1 t2 (0 : Int))
def m_spec_WrittenAt (a0 : (List S_impl_Version)) (a1 : (List S_impl_Write)) (a2 : Int) : Option ((List S_impl_Version) × Bool) :=
  (m_spec_VersionsOk a0).bind fun x4 =>
  bif (!x4) then (m_spec_WrittenAt_j1  a0 a1 a2 true)
  else ((m_spec_WritesOk a1).bind fun x6 =>
    bif (!x6) then (m_spec_WrittenAt_j1  a0 a1 a2 true)
    else ((m_spec_l1In a2 (1 : Int) (40 : Int)).bind fun x8 =>
      m_spec_WrittenAt_j1  a0 a1 a2 (!x8)))
theorem c_spec_WrittenAt (a0 : (List S_impl_Version)) (a1 : (List S_impl_Write)) (a2 : Int) (r : ((List S_impl_Version) × Bool)) (h : m_spec_WrittenAt a0 a1 a2 = some r) : Ret Try.prog f_spec_WrittenAt [e_Limpl_Version a0, e_Limpl_Write a1, e_int a2] (.tup [.nw 4 (r.1.map e_impl_Version) false, e_bool r.2]) := by
  refine Does.goG [] F_spec_WrittenAt rfl e_spec_WrittenAt n_spec_WrittenAt rfl (rvs := [.tmp 6, .tmp 7]) rfl rfl ?_
  intro w0 ok0 lent ρ0
  refine LWP.seq_k fun N1 hN1 => ?_
  refine LWP.region (l := [_,_]) ?_
  refine LWo.assign _ rfl (hn := ?_)
  refine LWo.ownNil 6 1006 4 rfl rfl rfl ?_
  refine LWo.known 6 (.own 1006 0 ([] : (List S_impl_Version)).length) rfl ?_
  refine LWo.assign (e_bool false) rfl (hn := ?_)
  refine LWo.nil (hN1 _ ?_)
  refine LWP.seq_k fun N2 hN2 => ?_
  refine LWP.join (α := (List S_impl_Version) × (List S_impl_Write) × Int × Bool) (fun z : (List S_impl_Version) × (List S_impl_Write) × Int × Bool => [(0, (e_Limpl_Version z.1)), (1, (e_Limpl_Write z.2.1)), (2, (e_int z.2.2.1)), (23, (e_bool z.2.2.2))]) (fun z : (List S_impl_Version) × (List S_impl_Write) × Int × Bool => []) (fun z : (List S_impl_Version) × (List S_impl_Write) × Int × Bool => m_spec_WrittenAt_j1  z.1 z.2.1 z.2.2.1 z.2.2.2) r (fun _ => by simp [hkeys]) ?_ ?_
  ·rintro ⟨t0, t1, t2, t23⟩ h
   replace h : m_spec_WrittenAt_j1  t0 t1 t2 t23 = some _ := h
   refine LWP.cond_split rfl (fun h9 => ?_) (fun h9 => ?_)
   ·have h := bT h9 h
    refine LWP.seq_k fun N10 hN10 => ?_
    refine LWP.region (l := [_,_,_]) ?_
    refine LWo.lit0 1024 u_Limpl_Version s_impl_Version z_impl_Version (hn := ?_)
    refine LWo.known 24 (.own 1024 0 ([] : (List S_impl_Version)).length) rfl ?_
    refine LWo.assign (.own 1024 0 (([] : (List S_impl_Version))).length) rfl (hn := ?_)
    refine LWo.assign (e_bool false) rfl (hn := ?_)
    refine LWo.nil (hN10 _ ?_)
    obtain rfl := Option.some.inj h
    refine LWP.ret (QG.mk (.inr rfl) (.cons (.tmp (x := (.own 1024 0 (([] : (List S_impl_Version))).length)) rfl) (.cons (.tmp (x := (e_bool false)) rfl) (.nil))) (RetOK.many0 (.cons (.nwM rfl rfl) (.cons (.pure rfl) (.nil))) (by simp) (by decide)) rfl rfl)
   ·have h := bF h9 h
    refine LWP.skip (hN2 _ ?_)
    refine LWP.join (α := (List S_impl_Version) × (List S_impl_Write) × Int) (fun z : (List S_impl_Version) × (List S_impl_Write) × Int => [(0, (e_Limpl_Version z.1)), (1, (e_Limpl_Write z.2.1)), (2, (e_int z.2.2))]) (fun z : (List S_impl_Version) × (List S_impl_Write) × Int => []) (fun z : (List S_impl_Version) × (List S_impl_Write) × Int => m_spec_WrittenAt_j2  z.1 z.2.1 z.2.2) r (fun _ => by simp [hkeys]) ?_ ?_
    ·rintro ⟨t0, t1, t2⟩ h
     replace h : m_spec_WrittenAt_j2  t0 t1 t2 = some _ := h
     refine LWP.seq_k fun N24 hN24 => ?_
     refine LWP.region (l := [_,_,_]) ?_
     refine LWo.move (e_Limpl_Version t0) rfl (hn := ?_)
     refine bk h fun x25 e25 h => ?_
     refine LWo.ncall (e := e_impl_Version) 1036 rfl rfl (c_spec_l13Copy _ _ e25) (.same (.nil)) rfl (hn := ?_)
     refine LWo.assign (.own 1036 0 (x25).length) rfl (hn := ?_)
     refine LWo.nil (hN24 _ ?_)
     refine LWP.join (α := (List S_impl_Version)) (fun z : (List S_impl_Version) => [(9, (.own 1036 0 (z).length))]) (fun z : (List S_impl_Version) => [(1036, (lob 4 e_impl_Version z))]) (fun z : (List S_impl_Version) => m_spec_WrittenAt_j3  z) r (fun _ => by simp [hkeys]) ?_ ?_
     ·rintro o1036 h
      replace h : m_spec_WrittenAt_j3  o1036 = some _ := h
      refine LWP.seq_k fun N37 hN37 => ?_
      refine LWP.seq_k fun N38 hN38 => ?_
      refine LWP.region (l := [_,_,_]) ?_
      refine LWo.move (.own 1036 0 (o1036).length) rfl (hn := ?_)
      refine LWo.lenO u_Limpl_Version rfl (hn := ?_)
      refine LWo.int _ rfl rfl rfl (hn := ?_)
      refine LWo.nil (hN38 _ ?_)
      refine LWP.cond_split rfl (fun h39 => ?_) (fun h39 => ?_)
      ·have h := bT h39 h
       refine LWP.seq_k fun N40 hN40 => ?_
       refine LWP.region (l := [_,_,_]) ?_
       refine LWo.lit0 1053 u_Limpl_Version s_impl_Version z_impl_Version (hn := ?_)
       refine LWo.known 53 (.own 1053 0 ([] : (List S_impl_Version)).length) rfl ?_
       refine LWo.assign (.own 1053 0 (([] : (List S_impl_Version))).length) rfl (hn := ?_)
       refine LWo.assign (e_bool false) rfl (hn := ?_)
       refine LWo.nil (hN40 _ ?_)
       obtain rfl := Option.some.inj h
       refine LWP.ret (QG.mk (.inr rfl) (.cons (.tmp (x := (.own 1053 0 (([] : (List S_impl_Version))).length)) rfl) (.cons (.tmp (x := (e_bool false)) rfl) (.nil))) (RetOK.many0 (.cons (.nwM rfl rfl) (.cons (.pure rfl) (.nil))) (by simp) (by decide)) rfl rfl)
      ·have h := bF h39 h
       refine LWP.skip (hN37 _ ?_)
       refine LWP.seq_k fun N41 hN41 => ?_
       refine LWP.region (l := [_,_,_]) ?_
       refine LWo.move (.own 1036 0 (o1036).length) rfl (hn := ?_)
       refine LWo.assign (.own 1036 0 (o1036).length) rfl (hn := ?_)
       refine LWo.assign (e_bool true) rfl (hn := ?_)
       refine LWo.nil (hN41 _ ?_)
       obtain rfl := Option.some.inj h
       refine LWP.ret (QG.mk (.inr rfl) (.cons (.tmp (x := (.own 1036 0 (o1036).length)) rfl) (.cons (.tmp (x := (e_bool true)) rfl) (.nil))) (RetOK.many0 (.cons (.nwM rfl rfl) (.cons (.pure rfl) (.nil))) (by simp) (by decide)) rfl rfl)
     ·intro N26 hN26
      refine LWP.seq_k fun N27 hN27 => ?_
      refine LWP.region (l := [_]) ?_
      refine LWo.assign (e_int (0 : Int)) rfl (hn := ?_)
      refine LWo.nil (hN27 _ ?_)
      refine LWP.block ?_
      refine LWP.loopM (α := (List S_impl_Write) × Int × Int × (List S_impl_Version)) (fun z : (List S_impl_Write) × Int × Int × (List S_impl_Version) => [(1, (e_Limpl_Write z.1)), (2, (e_int z.2.1)), (9, (.own 1036 0 (z.2.2.2).length)), (10, (e_int z.2.2.1))]) (fun z : (List S_impl_Write) × Int × Int × (List S_impl_Version) => [(1036, (lob 4 e_impl_Version z.2.2.2))]) (fun n2 (z : (List S_impl_Write) × Int × Int × (List S_impl_Version)) => m_spec_WrittenAt_l2  n2 z.1 z.2.1 z.2.2.1 z.2.2.2) r _ (t1, t2, (0 : Int), x25) h (fun _ => rfl) (fun _ => by simp [hkeys]) ⟨rfl, rfl, rfl, rfl, trivial⟩ ⟨rfl, trivial⟩ ?_
      rintro n2 ⟨t1, t2, t10, o1036⟩ h N28 hN28
      replace h : m_spec_WrittenAt_l2  (n2 + 1) t1 t2 t10 o1036 = some _ := h
      refine LWP.seq_k fun N30 hN30 => ?_
      refine LWP.seq_k fun N31 hN31 => ?_
      refine LWP.region (l := [_,_,_,_]) ?_
      refine LWo.move (e_int t10) rfl (hn := ?_)
      refine LWo.move (e_Limpl_Write t1) rfl (hn := ?_)
      refine LWo.lenM (f := e_impl_Write) (l := t1) u_Limpl_Write rfl (hn := ?_)
      refine LWo.int _ rfl rfl rfl (hn := ?_)
      refine LWo.nil (hN31 _ ?_)
      refine LWP.cond_split rfl (fun h32 => ?_) (fun h32 => ?_)
      ·have h := bT h32 h
       refine LWP.skip (hN30 _ ?_)
       refine LWP.seq_k fun N33 hN33 => ?_
       refine LWP.block ?_
       refine LWP.region (l := [_,_,_,_,_,_,_,_]) ?_
       refine LWo.move (.own 1036 0 (o1036).length) rfl (hn := ?_)
       refine LWo.move (e_Limpl_Write t1) rfl (hn := ?_)
       refine LWo.move (e_int t10) rfl (hn := ?_)
       refine bk h fun x34 e34 h => ?_
       refine LWo.indexM (f := e_impl_Write) e34 u_Limpl_Write s_impl_Write rfl rfl (hn := ?_)
       refine LWo.loadN ((e_impl_Write x34)).cells g_impl_Write s_impl_Write rfl (Nat.le_of_ble_eq_true rfl) rfl (hn := ?_)
       refine LWo.move (e_int t2) rfl (hn := ?_)
       refine bk h fun x35 e35 h => ?_
       refine LWo.frzL (f := e_impl_Version) (l := o1036) [9, 43] 1036 rfl rfl ⟨rfl, rfl, trivial⟩ ?_
       refine LWo.ncall (e := e_impl_Version) 1049 rfl rfl (c_spec_l13Written _ _ _ _ e35) (.same (.same (.same (.nil)))) rfl (hn := ?_)
       refine LWo.assign (.own 1049 0 (x35).length) rfl (hn := ?_)
       refine LWo.nil (hN33 _ ?_)
       refine LWP.region (l := [_,_,_]) ?_
       refine LWo.move (e_int t10) rfl (hn := ?_)
       refine bk h fun x36 e36 h => ?_
       refine LWo.int _ rfl rfl (add_ck e36) (hn := ?_)
       refine LWo.assign (e_int x36) rfl (hn := ?_)
       refine LWo.rekey 9 1049 1036 rfl rfl rfl rfl rfl rfl ?_
       refine LWo.nil (hN28 (t1, t2, x36, x35) _ ⟨rfl, rfl, rfl, rfl, trivial⟩ ⟨rfl, trivial⟩ h)
      ·have h := bF h32 h
       refine LWP.exit (hN26 o1036 _ ⟨rfl, trivial⟩ ⟨rfl, trivial⟩ h)
    ·intro N11 hN11
     refine LWP.seq_k fun N12 hN12 => ?_
     refine LWP.region (l := [_]) ?_
     refine LWo.assign (e_int (0 : Int)) rfl (hn := ?_)
     refine LWo.nil (hN12 _ ?_)
     refine LWP.block ?_
     refine LWP.loopM (α := (List S_impl_Version) × (List S_impl_Write) × Int × Int) (fun z : (List S_impl_Version) × (List S_impl_Write) × Int × Int => [(0, (e_Limpl_Version z.1)), (1, (e_Limpl_Write z.2.1)), (2, (e_int z.2.2.1)), (8, (e_int z.2.2.2))]) (fun z : (List S_impl_Version) × (List S_impl_Write) × Int × Int => []) (fun n1 (z : (List S_impl_Version) × (List S_impl_Write) × Int × Int) => m_spec_WrittenAt_l1  n1 z.1 z.2.1 z.2.2.1 z.2.2.2) r _ (t0, t1, t2, (0 : Int)) h (fun _ => rfl) (fun _ => by simp [hkeys]) ⟨rfl, rfl, rfl, rfl, trivial⟩ trivial ?_
     rintro n1 ⟨t0, t1, t2, t8⟩ h N13 hN13
     replace h : m_spec_WrittenAt_l1  (n1 + 1) t0 t1 t2 t8 = some _ := h
     refine LWP.seq_k fun N15 hN15 => ?_
     refine LWP.seq_k fun N16 hN16 => ?_
     refine LWP.region (l := [_,_]) ?_
     refine LWo.move (e_int t8) rfl (hn := ?_)
     refine LWo.int _ rfl rfl rfl (hn := ?_)
     refine LWo.nil (hN16 _ ?_)
     refine LWP.cond_split rfl (fun h17 => ?_) (fun h17 => ?_)
     ·have h := bT h17 h
      refine LWP.skip (hN15 _ ?_)
      refine LWP.seq_k fun N18 hN18 => ?_
      refine LWP.block ?_
      refine LWP.seq_k fun N19 hN19 => ?_
      refine LWP.region (l := [_,_,_,_,_]) ?_
      refine LWo.move (e_Limpl_Version t0) rfl (hn := ?_)
      refine LWo.move (e_int t8) rfl (hn := ?_)
      refine bk h fun x20 e20 h => ?_
      refine LWo.vcall rfl rfl (c_spec_LastTurn _ _ _ e20) (.same (.same (.nil))) (hn := ?_)
      refine LWo.move (e_int t2) rfl (hn := ?_)
      refine LWo.int _ rfl rfl rfl (hn := ?_)
      refine LWo.nil (hN19 _ ?_)
      refine LWP.cond_split rfl (fun h21 => ?_) (fun h21 => ?_)
      ·have h := bT h21 h
       refine LWP.seq_k fun N22 hN22 => ?_
       refine LWP.region (l := [_,_,_]) ?_
       refine LWo.lit0 1034 u_Limpl_Version s_impl_Version z_impl_Version (hn := ?_)
       refine LWo.known 34 (.own 1034 0 ([] : (List S_impl_Version)).length) rfl ?_
       refine LWo.assign (.own 1034 0 (([] : (List S_impl_Version))).length) rfl (hn := ?_)
       refine LWo.assign (e_bool false) rfl (hn := ?_)
       refine LWo.nil (hN22 _ ?_)
       obtain rfl := Option.some.inj h
       refine LWP.ret (QG.mk (.inr rfl) (.cons (.tmp (x := (.own 1034 0 (([] : (List S_impl_Version))).length)) rfl) (.cons (.tmp (x := (e_bool false)) rfl) (.nil))) (RetOK.many0 (.cons (.nwM rfl rfl) (.cons (.pure rfl) (.nil))) (by simp) (by decide)) rfl rfl)
      ·have h := bF h21 h
       refine LWP.skip (hN18 _ ?_)
       refine LWP.region (l := [_,_,_]) ?_
       refine LWo.move (e_int t8) rfl (hn := ?_)
       refine bk h fun x23 e23 h => ?_
       refine LWo.int _ rfl rfl (add_ck e23) (hn := ?_)
       refine LWo.assign (e_int x23) rfl (hn := ?_)
       refine LWo.nil (hN13 (t0, t1, t2, x23) _ ⟨rfl, rfl, rfl, rfl, trivial⟩ trivial h)
     ·have h := bF h17 h
      refine LWP.exit (hN11 (t0, t1, t2) _ ⟨rfl, rfl, rfl, trivial⟩ trivial h)
  ·intro N3 hN3
   refine LWP.region (l := [_,_,_,_,_,_,_,_,_,_,_,_,_]) ?_
   refine LWo.move (e_Limpl_Version a0) rfl (hn := ?_)
   refine bk h fun x4 e4 h => ?_
   refine LWo.vcall rfl rfl (c_spec_VersionsOk _ _ e4) (.same (.nil)) (hn := ?_)
   refine LWo.not rfl (hn := ?_)
   refine LWo.move (e_bool (!x4)) rfl (hn := ?_)
   refine LWo.byCases (t := 14) _ rfl (fun h5 => ?_) (fun h5 => ?_)
   ·have h := bT h5 h
    refine LWo.guardNU (t := 14) rfl h5 rfl rfl rfl rfl rfl ?_
    refine LWo.guardNU (t := 14) rfl h5 rfl rfl rfl rfl rfl ?_
    refine LWo.guardNU (t := 14) rfl h5 rfl rfl rfl rfl rfl ?_
    refine LWo.pickTM (e_bool true) rfl h5 rfl (hn := ?_)
    refine LWo.move (e_bool true) rfl (hn := ?_)
    refine LWo.guardNU (t := 19) rfl rfl rfl rfl rfl rfl rfl ?_
    refine LWo.guardNU (t := 19) rfl rfl rfl rfl rfl rfl rfl ?_
    refine LWo.guardNU (t := 19) rfl rfl rfl rfl rfl rfl rfl ?_
    refine LWo.pickTM (e_bool true) rfl rfl rfl (hn := ?_)
    refine LWo.nil (hN3 (a0, a1, a2, true) _ ⟨rfl, rfl, rfl, rfl, trivial⟩ trivial h)
   ·have h := bF h5 h
    refine LWo.guardY (t := 14) rfl h5 rfl rfl ?_
    refine LWo.move (e_Limpl_Write a1) rfl (hn := ?_)
    refine bk h fun x6 e6 h => ?_
    refine LWo.guardY (t := 14) rfl h5 rfl rfl ?_
    refine LWo.vcall rfl rfl (c_spec_WritesOk _ _ e6) (.same (.nil)) (hn := ?_)
    refine LWo.guardY (t := 14) rfl h5 rfl rfl ?_
    refine LWo.not rfl (hn := ?_)
    refine LWo.pickFM (e_bool (!x6)) rfl h5 rfl (hn := ?_)
    refine LWo.move (e_bool (!x6)) rfl (hn := ?_)
    refine LWo.byCases (t := 19) _ rfl (fun h7 => ?_) (fun h7 => ?_)
    ·have h := bT h7 h
     refine LWo.guardNU (t := 19) rfl h7 rfl rfl rfl rfl rfl ?_
     refine LWo.guardNU (t := 19) rfl h7 rfl rfl rfl rfl rfl ?_
     refine LWo.guardNU (t := 19) rfl h7 rfl rfl rfl rfl rfl ?_
     refine LWo.pickTM (e_bool true) rfl h7 rfl (hn := ?_)
     refine LWo.nil (hN3 (a0, a1, a2, true) _ ⟨rfl, rfl, rfl, rfl, trivial⟩ trivial h)
    ·have h := bF h7 h
     refine LWo.guardY (t := 19) rfl h7 rfl rfl ?_
     refine LWo.move (e_int a2) rfl (hn := ?_)
     refine bk h fun x8 e8 h => ?_
     refine LWo.guardY (t := 19) rfl h7 rfl rfl ?_
     refine LWo.vcall rfl rfl (c_spec_l1In _ _ _ _ e8) (.same (.same (.same (.nil)))) (hn := ?_)
     refine LWo.guardY (t := 19) rfl h7 rfl rfl ?_
     refine LWo.not rfl (hn := ?_)
     refine LWo.pickFM (e_bool (!x8)) rfl h7 rfl (hn := ?_)
     refine LWo.nil (hN3 (a0, a1, a2, (!x8)) _ ⟨rfl, rfl, rfl, rfl, trivial⟩ trivial h)

def m_spec_LogRun_j2 (t3 : (List S_impl_Version)) : Option (List S_impl_Version) :=
  some t3
def m_spec_LogRun_j1 (k1 : (List S_impl_Entry) → (List S_impl_Version) → Int → Option (List S_impl_Version)) (t0 : (List S_impl_Entry)) (t3 : (List S_impl_Version)) (t4 : Int) (t13 : Bool) : Option (List S_impl_Version) :=
  bif t13 then ((at? t0 t4).bind fun x13 =>
  (at? t0 t4).bind fun x14 =>
  (m_spec_WrittenAt t3 x13.Writes x14.Time).bind fun x15 =>
  (ckI (t4 + (1 : Int))).bind fun x16 =>
  k1 t0 x15.1 x16)
  else (m_spec_LogRun_j2  t3)
def m_spec_LogRun_l1 : Nat → (List S_impl_Entry) → (List S_impl_Version) → Int → Option (List S_impl_Version)
  | 0, _, _, _ => none
  | n1 + 1, t0, t3, t4 =>
    bif decide (t4 < (t0.length : Int)) then ((m_spec_LogOk t0).bind fun x10 =>
      m_spec_LogRun_j1  (m_spec_LogRun_l1  n1) t0 t3 t4 x10)
    else (m_spec_LogRun_j1  (m_spec_LogRun_l1  n1) t0 t3 t4 false)
def m_spec_LogRun (a0 : (List S_impl_Entry)) : Option (List S_impl_Version) :=
  m_spec_LogRun_l1  (1000000000) a0 ([] : (List S_impl_Version)) (0 : Int)
theorem c_spec_LogRun (a0 : (List S_impl_Entry)) (r : (List S_impl_Version)) (h : m_spec_LogRun a0 = some r) : Ret Try.prog f_spec_LogRun [e_Limpl_Entry a0] (e_Limpl_Version r) := by
  refine Does.goG [] F_spec_LogRun rfl e_spec_LogRun n_spec_LogRun rfl (rvs := [.tmp 2]) rfl rfl ?_
  intro w0 ok0 lent ρ0
  refine LWP.seq_k fun N1 hN1 => ?_
  refine LWP.region (l := [_]) ?_
  refine LWo.assign _ rfl (hn := ?_)
  refine LWo.weakT 2 (e_Limpl_Version ([] : (List S_impl_Version))) rfl .nil ?_
  refine LWo.nil (hN1 _ ?_)
  refine LWP.seq_k fun N2 hN2 => ?_
  refine LWP.region (l := [_,_]) ?_
  refine LWo.lit0 1005 u_Limpl_Version s_impl_Version z_impl_Version (hn := ?_)
  refine LWo.known 5 (.own 1005 0 ([] : (List S_impl_Version)).length) rfl ?_
  refine LWo.frzL (f := e_impl_Version) (l := ([] : (List S_impl_Version))) [5] 1005 rfl rfl ⟨rfl, trivial⟩ ?_
  refine LWo.assign (e_Limpl_Version ([] : (List S_impl_Version))) rfl (hn := ?_)
  refine LWo.nil (hN2 _ ?_)
  refine LWP.join (α := (List S_impl_Version)) (fun z : (List S_impl_Version) => [(3, (e_Limpl_Version z))]) (fun z : (List S_impl_Version) => []) (fun z : (List S_impl_Version) => m_spec_LogRun_j2  z) r (fun _ => by simp [hkeys]) ?_ ?_
  ·rintro t3 h
   replace h : m_spec_LogRun_j2  t3 = some _ := h
   refine LWP.seq_k fun N17 hN17 => ?_
   refine LWP.region (l := [_,_]) ?_
   refine LWo.move (e_Limpl_Version t3) rfl (hn := ?_)
   refine LWo.assign (e_Limpl_Version t3) rfl (hn := ?_)
   refine LWo.nil (hN17 _ ?_)
   obtain rfl := Option.some.inj h
   refine LWP.ret (QG.mk (.inr rfl) (.cons (.tmp (x := (e_Limpl_Version t3)) rfl) (.nil)) (RetOK.one0 (.pure rfl) (by decide)) rfl rfl)
  ·intro N3 hN3
   refine LWP.seq_k fun N4 hN4 => ?_
   refine LWP.region (l := [_]) ?_
   refine LWo.assign (e_int (0 : Int)) rfl (hn := ?_)
   refine LWo.nil (hN4 _ ?_)
   refine LWP.block ?_
   refine LWP.loopM (α := (List S_impl_Entry) × (List S_impl_Version) × Int) (fun z : (List S_impl_Entry) × (List S_impl_Version) × Int => [(0, (e_Limpl_Entry z.1)), (3, (e_Limpl_Version z.2.1)), (4, (e_int z.2.2))]) (fun z : (List S_impl_Entry) × (List S_impl_Version) × Int => []) (fun n1 (z : (List S_impl_Entry) × (List S_impl_Version) × Int) => m_spec_LogRun_l1  n1 z.1 z.2.1 z.2.2) r _ (a0, ([] : (List S_impl_Version)), (0 : Int)) h (fun _ => rfl) (fun _ => by simp [hkeys]) ⟨rfl, rfl, rfl, trivial⟩ trivial ?_
   rintro n1 ⟨t0, t3, t4⟩ h N5 hN5
   replace h : m_spec_LogRun_l1  (n1 + 1) t0 t3 t4 = some _ := h
   refine LWP.seq_k fun N7 hN7 => ?_
   refine LWP.join (α := (List S_impl_Entry) × (List S_impl_Version) × Int × Bool) (fun z : (List S_impl_Entry) × (List S_impl_Version) × Int × Bool => [(0, (e_Limpl_Entry z.1)), (3, (e_Limpl_Version z.2.1)), (4, (e_int z.2.2.1)), (13, (e_bool z.2.2.2))]) (fun z : (List S_impl_Entry) × (List S_impl_Version) × Int × Bool => []) (fun z : (List S_impl_Entry) × (List S_impl_Version) × Int × Bool => m_spec_LogRun_j1  (m_spec_LogRun_l1  n1) z.1 z.2.1 z.2.2.1 z.2.2.2) r (fun _ => by simp [hkeys]) ?_ ?_
   ·rintro ⟨t0, t3, t4, t13⟩ h
    replace h : m_spec_LogRun_j1  (m_spec_LogRun_l1  n1) t0 t3 t4 t13 = some _ := h
    refine LWP.cond_split rfl (fun h11 => ?_) (fun h11 => ?_)
    ·have h := bT h11 h
     refine LWP.skip (hN7 _ ?_)
     refine LWP.seq_k fun N12 hN12 => ?_
     refine LWP.block ?_
     refine bk h fun x13 e13 h => ?_
     refine bk h fun x14 e14 h => ?_
     refine bk h fun x15 e15 h => ?_
     refine LWP.drawF (l := [_,_,_,_,_,_,_,_,_,_,_,_,_,_,_,_]) [] [0, 3, 4] [([3], []), ([0], []), ([4], []), ([18, 19], []), ([20], []), ([21], []), ([0], []), ([4], []), ([23, 24], []), ([25], []), ([26], []), ([17, 22, 27], []), ([28], []), ([16], []), ([16], []), ([29], [])] [0, 3, 4] [] mixed (by kernel_rfl) rfl (by decide) ?_
     refine dq 17 rfl (fun _ g u h => LWo.move (e_Limpl_Version t3) u.1 (hn := .nil (zn g))) ?_
     refine dq 18 rfl (fun _ g u h => LWo.move (e_Limpl_Entry t0) u.1 (hn := .nil (zn g))) ?_
     refine dq 19 rfl (fun _ g u h => LWo.move (e_int t4) u.1 (hn := .nil (zn g))) ?_
     refine dq 20 rfl (fun _ g u h => LWo.indexM (f := e_impl_Entry) e13 u_Limpl_Entry s_impl_Entry u.1 u.2.1 (hn := .nil (zn g))) ?_
     refine dq 21 rfl (fun _ g u h => LWo.fieldAddr _ u_impl_Entry rfl s_Limpl_Write u.1 rfl (hn := .nil (zn g))) ?_
     refine dq 22 rfl (fun _ g u h => LWo.load1 (c := (e_Limpl_Write x13.Writes)) g_Limpl_Write u.1 (hn := .nil (zn g))) ?_
     refine dq 23 rfl (fun _ g u h => LWo.move (e_Limpl_Entry t0) u.1 (hn := .nil (zn g))) ?_
     refine dq 24 rfl (fun _ g u h => LWo.move (e_int t4) u.1 (hn := .nil (zn g))) ?_
     refine dq 25 rfl (fun _ g u h => LWo.indexM (f := e_impl_Entry) e14 u_Limpl_Entry s_impl_Entry u.1 u.2.1 (hn := .nil (zn g))) ?_
     refine dq 26 rfl (fun _ g u h => LWo.fieldAddr _ u_impl_Entry rfl s_int u.1 rfl (hn := .nil (zn g))) ?_
     refine dq 27 rfl (fun _ g u h => LWo.load1 (c := (e_int x14.Time)) g_int u.1 (hn := .nil (zn g))) ?_
     refine dq 28 rfl (fun _ g u h => LWo.vcall rfl (av3 u.1 u.2.1 u.2.2.1) (c_spec_WrittenAt _ _ _ _ e15) (.same (.same (.same (.nil)))) (hn := .nil (zn g))) ?_
     refine dq 16 rfl (fun _ g u h => LWo.move (.tup [(e_Limpl_Version x15.1), (e_bool x15.2)]) u.1 (hn := .nil (zn g))) ?_
     refine dq 29 rfl (fun _ g u h => LWo.extract (e_Limpl_Version x15.1) u.1 rfl (hn := .nil (zn g))) ?_
     refine dq 30 rfl (fun _ g u h => LWo.extract (e_bool x15.2) u.1 rfl (hn := .nil (zn g))) ?_
     refine dq 3 rfl (fun _ g u h => LWo.assign (e_Limpl_Version x15.1) u.1 (hn := .nil (zn g))) ?_
     refine ⟨rfl, by kernel_rfl, hN12 _ ?_⟩
     refine LWP.region (l := [_,_,_]) ?_
     refine LWo.move (e_int t4) rfl (hn := ?_)
     refine bk h fun x16 e16 h => ?_
     refine LWo.int _ rfl rfl (add_ck e16) (hn := ?_)
     refine LWo.assign (e_int x16) rfl (hn := ?_)
     refine LWo.nil (hN5 (t0, x15.1, x16) _ ⟨rfl, rfl, rfl, trivial⟩ trivial h)
    ·have h := bF h11 h
     refine LWP.exit (hN3 t3 _ ⟨rfl, trivial⟩ trivial h)
   ·intro N8 hN8
    refine LWP.region (l := [_,_,_,_,_,_,_,_]) ?_
    refine LWo.move (e_int t4) rfl (hn := ?_)
    refine LWo.move (e_Limpl_Entry t0) rfl (hn := ?_)
    refine LWo.lenM (f := e_impl_Entry) (l := t0) u_Limpl_Entry rfl (hn := ?_)
    refine LWo.int _ rfl rfl rfl (hn := ?_)
    refine LWo.move (e_bool (decide (t4 < (t0.length : Int)))) rfl (hn := ?_)
    refine LWo.byCases (t := 10) _ rfl (fun h9 => ?_) (fun h9 => ?_)
    ·have h := bT h9 h
     refine LWo.guardY (t := 10) rfl h9 rfl rfl ?_
     refine LWo.move (e_Limpl_Entry t0) rfl (hn := ?_)
     refine bk h fun x10 e10 h => ?_
     refine LWo.guardY (t := 10) rfl h9 rfl rfl ?_
     refine LWo.vcall rfl rfl (c_spec_LogOk _ _ e10) (.same (.nil)) (hn := ?_)
     refine LWo.pickTM (e_bool x10) rfl h9 rfl (hn := ?_)
     refine LWo.nil (hN8 (t0, t3, t4, x10) _ ⟨rfl, rfl, rfl, rfl, trivial⟩ trivial h)
    ·have h := bF h9 h
     refine LWo.guardNU (t := 10) rfl h9 rfl rfl rfl rfl rfl ?_
     refine LWo.guardNU (t := 10) rfl h9 rfl rfl rfl rfl rfl ?_
     refine LWo.pickFM (e_bool false) rfl h9 rfl (hn := ?_)
     refine LWo.nil (hN8 (t0, t3, t4, false) _ ⟨rfl, rfl, rfl, rfl, trivial⟩ trivial h)

def m_laws_sameRow_j1  : Option Bool :=
  some true
def m_laws_sameRow_l1 : Nat → (List S_impl_Value) → (List S_impl_Value) → Int → Option Bool
  | 0, _, _, _ => none
  | n1 + 1, t0, t1, t5 =>
    bif decide (t5 < (t0.length : Int)) then ((at? t0 t5).bind fun x15 =>
    (at? t1 t5).bind fun x16 =>
    bif (!(decide (x15 = x16))) then (some false)
    else ((ckI (t5 + (1 : Int))).bind fun x19 =>
    (m_laws_sameRow_l1  n1) t0 t1 x19))
    else (m_laws_sameRow_j1  )
def m_laws_sameRow (a0 : (List S_impl_Value)) (a1 : (List S_impl_Value)) : Option Bool :=
  bif ((a0.length : Int) != (a1.length : Int)) then (some false)
  else (m_laws_sameRow_l1  (((a0.length : Int) - (0 : Int)).toNat + 1) a0 a1 (0 : Int))
theorem c_laws_sameRow (a0 : (List S_impl_Value)) (a1 : (List S_impl_Value)) (r : Bool) (h : m_laws_sameRow a0 a1 = some r) : Ret Try.prog f_laws_sameRow [e_Limpl_Value a0, e_Limpl_Value a1] (e_bool r) := by
  refine Does.goG [] F_laws_sameRow rfl e_laws_sameRow n_laws_sameRow rfl (rvs := [.tmp 4]) rfl rfl ?_
  intro w0 ok0 lent ρ0
  refine LWP.seq_k fun N1 hN1 => ?_
  refine LWP.region (l := [_]) ?_
  refine LWo.assign (e_bool false) rfl (hn := ?_)
  refine LWo.nil (hN1 _ ?_)
  refine LWP.seq_k fun N2 hN2 => ?_
  refine LWP.seq_k fun N3 hN3 => ?_
  refine LWP.region (l := [_,_,_,_,_]) ?_
  refine LWo.move (e_Limpl_Value a0) rfl (hn := ?_)
  refine LWo.lenM (f := e_impl_Value) (l := a0) u_Limpl_Value rfl (hn := ?_)
  refine LWo.move (e_Limpl_Value a1) rfl (hn := ?_)
  refine LWo.lenM (f := e_impl_Value) (l := a1) u_Limpl_Value rfl (hn := ?_)
  refine LWo.int _ rfl rfl rfl (hn := ?_)
  refine LWo.nil (hN3 _ ?_)
  refine LWP.cond_split rfl (fun h4 => ?_) (fun h4 => ?_)
  ·have h := bT h4 h
   refine LWP.seq_k fun N5 hN5 => ?_
   refine LWP.region (l := [_]) ?_
   refine LWo.assign (e_bool false) rfl (hn := ?_)
   refine LWo.nil (hN5 _ ?_)
   obtain rfl := Option.some.inj h
   refine LWP.ret (QG.mk (.inr rfl) (.cons (.tmp (x := (e_bool false)) rfl) (.nil)) (RetOK.one0 (.pure rfl) (by decide)) rfl rfl)
  ·have h := bF h4 h
   refine LWP.skip (hN2 _ ?_)
   refine LWP.join (α := Unit) (fun z : Unit => []) (fun z : Unit => []) (fun z : Unit => m_laws_sameRow_j1  ) r (fun _ => by simp [hkeys]) ?_ ?_
   ·rintro _ h
    replace h : m_laws_sameRow_j1   = some _ := h
    refine LWP.seq_k fun N20 hN20 => ?_
    refine LWP.region (l := [_]) ?_
    refine LWo.assign (e_bool true) rfl (hn := ?_)
    refine LWo.nil (hN20 _ ?_)
    obtain rfl := Option.some.inj h
    refine LWP.ret (QG.mk (.inr rfl) (.cons (.tmp (x := (e_bool true)) rfl) (.nil)) (RetOK.one0 (.pure rfl) (by decide)) rfl rfl)
   ·intro N6 hN6
    refine LWP.seq_k fun N7 hN7 => ?_
    refine LWP.region (l := [_]) ?_
    refine LWo.assign (e_int (0 : Int)) rfl (hn := ?_)
    refine LWo.nil (hN7 _ ?_)
    refine LWP.block ?_
    refine LWP.loopM (α := (List S_impl_Value) × (List S_impl_Value) × Int) (fun z : (List S_impl_Value) × (List S_impl_Value) × Int => [(0, (e_Limpl_Value z.1)), (1, (e_Limpl_Value z.2.1)), (5, (e_int z.2.2))]) (fun z : (List S_impl_Value) × (List S_impl_Value) × Int => []) (fun n1 (z : (List S_impl_Value) × (List S_impl_Value) × Int) => m_laws_sameRow_l1  n1 z.1 z.2.1 z.2.2) r _ (a0, a1, (0 : Int)) h (fun _ => rfl) (fun _ => by simp [hkeys]) ⟨rfl, rfl, rfl, trivial⟩ trivial ?_
    rintro n1 ⟨t0, t1, t5⟩ h N8 hN8
    replace h : m_laws_sameRow_l1  (n1 + 1) t0 t1 t5 = some _ := h
    refine LWP.seq_k fun N10 hN10 => ?_
    refine LWP.seq_k fun N11 hN11 => ?_
    refine LWP.region (l := [_,_,_,_]) ?_
    refine LWo.move (e_int t5) rfl (hn := ?_)
    refine LWo.move (e_Limpl_Value t0) rfl (hn := ?_)
    refine LWo.lenM (f := e_impl_Value) (l := t0) u_Limpl_Value rfl (hn := ?_)
    refine LWo.int _ rfl rfl rfl (hn := ?_)
    refine LWo.nil (hN11 _ ?_)
    refine LWP.cond_split rfl (fun h12 => ?_) (fun h12 => ?_)
    ·have h := bT h12 h
     refine LWP.skip (hN10 _ ?_)
     refine LWP.seq_k fun N13 hN13 => ?_
     refine LWP.block ?_
     refine LWP.seq_k fun N14 hN14 => ?_
     refine bk h fun x15 e15 h => ?_
     refine bk h fun x16 e16 h => ?_
     refine LWP.drawF (l := [_,_,_,_,_,_,_,_,_]) [] [0, 1, 5] [([0], []), ([5], []), ([17, 18], []), ([19], []), ([1], []), ([5], []), ([21, 22], []), ([23], []), ([20, 24], [])] [0, 1, 5, 25] [] mixed (by kernel_rfl) rfl (by decide) ?_
     refine dq 17 rfl (fun _ g u h => LWo.move (e_Limpl_Value t0) u.1 (hn := .nil (zn g))) ?_
     refine dq 18 rfl (fun _ g u h => LWo.move (e_int t5) u.1 (hn := .nil (zn g))) ?_
     refine dq 19 rfl (fun _ g u h => LWo.indexM (f := e_impl_Value) e15 u_Limpl_Value s_impl_Value u.1 u.2.1 (hn := .nil (zn g))) ?_
     refine dq 20 rfl (fun _ g u h => LWo.loadN ((e_impl_Value x15)).cells g_impl_Value s_impl_Value u.1 (Nat.le_of_ble_eq_true rfl) rfl (hn := .nil (zn g))) ?_
     refine dq 21 rfl (fun _ g u h => LWo.move (e_Limpl_Value t1) u.1 (hn := .nil (zn g))) ?_
     refine dq 22 rfl (fun _ g u h => LWo.move (e_int t5) u.1 (hn := .nil (zn g))) ?_
     refine dq 23 rfl (fun _ g u h => LWo.indexM (f := e_impl_Value) e16 u_Limpl_Value s_impl_Value u.1 u.2.1 (hn := .nil (zn g))) ?_
     refine dq 24 rfl (fun _ g u h => LWo.loadN ((e_impl_Value x16)).cells g_impl_Value s_impl_Value u.1 (Nat.le_of_ble_eq_true rfl) rfl (hn := .nil (zn g))) ?_
     refine dq 25 rfl (fun _ g u h => LWo.ne_impl_Value _ _ u.1 u.2.1 (hn := .nil (zn g))) ?_
     refine ⟨rfl, by kernel_rfl, hN14 _ ?_⟩
     refine LWP.cond_split rfl (fun h17 => ?_) (fun h17 => ?_)
     ·have h := bT h17 h
      refine LWP.seq_k fun N18 hN18 => ?_
      refine LWP.region (l := [_]) ?_
      refine LWo.assign (e_bool false) rfl (hn := ?_)
      refine LWo.nil (hN18 _ ?_)
      obtain rfl := Option.some.inj h
      refine LWP.ret (QG.mk (.inr rfl) (.cons (.tmp (x := (e_bool false)) rfl) (.nil)) (RetOK.one0 (.pure rfl) (by decide)) rfl rfl)
     ·have h := bF h17 h
      refine LWP.skip (hN13 _ ?_)
      refine LWP.region (l := [_,_,_]) ?_
      refine LWo.move (e_int t5) rfl (hn := ?_)
      refine bk h fun x19 e19 h => ?_
      refine LWo.int _ rfl rfl (add_ck e19) (hn := ?_)
      refine LWo.assign (e_int x19) rfl (hn := ?_)
      refine LWo.nil (hN8 (t0, t1, x19) _ ⟨rfl, rfl, rfl, trivial⟩ trivial h)
    ·have h := bF h12 h
     refine LWP.exit (hN6 () _ trivial trivial h)

def m_laws_sameVersions_j2  : Option Bool :=
  some true
def m_laws_sameVersions_j1 (k1 : (List S_impl_Version) → (List S_impl_Version) → Int → Option Bool) (t0 : (List S_impl_Version)) (t1 : (List S_impl_Version)) (t5 : Int) (t67 : Bool) : Option Bool :=
  bif t67 then (some false)
  else ((ckI (t5 + (1 : Int))).bind fun x29 =>
  k1 t0 t1 x29)
def m_laws_sameVersions_l1 : Nat → (List S_impl_Version) → (List S_impl_Version) → Int → Option Bool
  | 0, _, _, _ => none
  | n1 + 1, t0, t1, t5 =>
    bif decide (t5 < (t0.length : Int)) then ((at? t0 t5).bind fun x15 =>
    (at? t1 t5).bind fun x16 =>
    bif (x15.Key != x16.Key) then (m_laws_sameVersions_j1  (m_laws_sameVersions_l1  n1) t0 t1 t5 true)
    else ((at? t0 t5).bind fun x18 =>
      (at? t1 t5).bind fun x19 =>
      bif (x18.Born != x19.Born) then (m_laws_sameVersions_j1  (m_laws_sameVersions_l1  n1) t0 t1 t5 true)
      else ((at? t0 t5).bind fun x21 =>
        (at? t1 t5).bind fun x22 =>
        bif (x21.Died != x22.Died) then (m_laws_sameVersions_j1  (m_laws_sameVersions_l1  n1) t0 t1 t5 true)
        else ((at? t0 t5).bind fun x24 =>
          (at? t1 t5).bind fun x25 =>
          (m_laws_sameRow x24.Row x25.Row).bind fun x26 =>
          m_laws_sameVersions_j1  (m_laws_sameVersions_l1  n1) t0 t1 t5 (!x26)))))
    else (m_laws_sameVersions_j2  )
def m_laws_sameVersions (a0 : (List S_impl_Version)) (a1 : (List S_impl_Version)) : Option Bool :=
  bif ((a0.length : Int) != (a1.length : Int)) then (some false)
  else (m_laws_sameVersions_l1  (((a0.length : Int) - (0 : Int)).toNat + 1) a0 a1 (0 : Int))
theorem c_laws_sameVersions (a0 : (List S_impl_Version)) (a1 : (List S_impl_Version)) (r : Bool) (h : m_laws_sameVersions a0 a1 = some r) : Ret Try.prog f_laws_sameVersions [e_Limpl_Version a0, e_Limpl_Version a1] (e_bool r) := by
  refine Does.goG [] F_laws_sameVersions rfl e_laws_sameVersions n_laws_sameVersions rfl (rvs := [.tmp 4]) rfl rfl ?_
  intro w0 ok0 lent ρ0
  refine LWP.seq_k fun N1 hN1 => ?_
  refine LWP.region (l := [_]) ?_
  refine LWo.assign (e_bool false) rfl (hn := ?_)
  refine LWo.nil (hN1 _ ?_)
  refine LWP.seq_k fun N2 hN2 => ?_
  refine LWP.seq_k fun N3 hN3 => ?_
  refine LWP.region (l := [_,_,_,_,_]) ?_
  refine LWo.move (e_Limpl_Version a0) rfl (hn := ?_)
  refine LWo.lenM (f := e_impl_Version) (l := a0) u_Limpl_Version rfl (hn := ?_)
  refine LWo.move (e_Limpl_Version a1) rfl (hn := ?_)
  refine LWo.lenM (f := e_impl_Version) (l := a1) u_Limpl_Version rfl (hn := ?_)
  refine LWo.int _ rfl rfl rfl (hn := ?_)
  refine LWo.nil (hN3 _ ?_)
  refine LWP.cond_split rfl (fun h4 => ?_) (fun h4 => ?_)
  ·have h := bT h4 h
   refine LWP.seq_k fun N5 hN5 => ?_
   refine LWP.region (l := [_]) ?_
   refine LWo.assign (e_bool false) rfl (hn := ?_)
   refine LWo.nil (hN5 _ ?_)
   obtain rfl := Option.some.inj h
   refine LWP.ret (QG.mk (.inr rfl) (.cons (.tmp (x := (e_bool false)) rfl) (.nil)) (RetOK.one0 (.pure rfl) (by decide)) rfl rfl)
  ·have h := bF h4 h
   refine LWP.skip (hN2 _ ?_)
   refine LWP.join (α := Unit) (fun z : Unit => []) (fun z : Unit => []) (fun z : Unit => m_laws_sameVersions_j2  ) r (fun _ => by simp [hkeys]) ?_ ?_
   ·rintro _ h
    replace h : m_laws_sameVersions_j2   = some _ := h
    refine LWP.seq_k fun N30 hN30 => ?_
    refine LWP.region (l := [_]) ?_
    refine LWo.assign (e_bool true) rfl (hn := ?_)
    refine LWo.nil (hN30 _ ?_)
    obtain rfl := Option.some.inj h
    refine LWP.ret (QG.mk (.inr rfl) (.cons (.tmp (x := (e_bool true)) rfl) (.nil)) (RetOK.one0 (.pure rfl) (by decide)) rfl rfl)
   ·intro N6 hN6
    refine LWP.seq_k fun N7 hN7 => ?_
    refine LWP.region (l := [_]) ?_
    refine LWo.assign (e_int (0 : Int)) rfl (hn := ?_)
    refine LWo.nil (hN7 _ ?_)
    refine LWP.block ?_
    refine LWP.loopM (α := (List S_impl_Version) × (List S_impl_Version) × Int) (fun z : (List S_impl_Version) × (List S_impl_Version) × Int => [(0, (e_Limpl_Version z.1)), (1, (e_Limpl_Version z.2.1)), (5, (e_int z.2.2))]) (fun z : (List S_impl_Version) × (List S_impl_Version) × Int => []) (fun n1 (z : (List S_impl_Version) × (List S_impl_Version) × Int) => m_laws_sameVersions_l1  n1 z.1 z.2.1 z.2.2) r _ (a0, a1, (0 : Int)) h (fun _ => rfl) (fun _ => by simp [hkeys]) ⟨rfl, rfl, rfl, trivial⟩ trivial ?_
    rintro n1 ⟨t0, t1, t5⟩ h N8 hN8
    replace h : m_laws_sameVersions_l1  (n1 + 1) t0 t1 t5 = some _ := h
    refine LWP.seq_k fun N10 hN10 => ?_
    refine LWP.seq_k fun N11 hN11 => ?_
    refine LWP.region (l := [_,_,_,_]) ?_
    refine LWo.move (e_int t5) rfl (hn := ?_)
    refine LWo.move (e_Limpl_Version t0) rfl (hn := ?_)
    refine LWo.lenM (f := e_impl_Version) (l := t0) u_Limpl_Version rfl (hn := ?_)
    refine LWo.int _ rfl rfl rfl (hn := ?_)
    refine LWo.nil (hN11 _ ?_)
    refine LWP.cond_split rfl (fun h12 => ?_) (fun h12 => ?_)
    ·have h := bT h12 h
     refine LWP.skip (hN10 _ ?_)
     refine LWP.seq_k fun N13 hN13 => ?_
     refine LWP.block ?_
     refine LWP.join (α := (List S_impl_Version) × (List S_impl_Version) × Int × Bool) (fun z : (List S_impl_Version) × (List S_impl_Version) × Int × Bool => [(0, (e_Limpl_Version z.1)), (1, (e_Limpl_Version z.2.1)), (5, (e_int z.2.2.1)), (67, (e_bool z.2.2.2))]) (fun z : (List S_impl_Version) × (List S_impl_Version) × Int × Bool => []) (fun z : (List S_impl_Version) × (List S_impl_Version) × Int × Bool => m_laws_sameVersions_j1  (m_laws_sameVersions_l1  n1) z.1 z.2.1 z.2.2.1 z.2.2.2) r (fun _ => by simp [hkeys]) ?_ ?_
     ·rintro ⟨t0, t1, t5, t67⟩ h
      replace h : m_laws_sameVersions_j1  (m_laws_sameVersions_l1  n1) t0 t1 t5 t67 = some _ := h
      refine LWP.cond_split rfl (fun h27 => ?_) (fun h27 => ?_)
      ·have h := bT h27 h
       refine LWP.seq_k fun N28 hN28 => ?_
       refine LWP.region (l := [_]) ?_
       refine LWo.assign (e_bool false) rfl (hn := ?_)
       refine LWo.nil (hN28 _ ?_)
       obtain rfl := Option.some.inj h
       refine LWP.ret (QG.mk (.inr rfl) (.cons (.tmp (x := (e_bool false)) rfl) (.nil)) (RetOK.one0 (.pure rfl) (by decide)) rfl rfl)
      ·have h := bF h27 h
       refine LWP.skip (hN13 _ ?_)
       refine LWP.region (l := [_,_,_]) ?_
       refine LWo.move (e_int t5) rfl (hn := ?_)
       refine bk h fun x29 e29 h => ?_
       refine LWo.int _ rfl rfl (add_ck e29) (hn := ?_)
       refine LWo.assign (e_int x29) rfl (hn := ?_)
       refine LWo.nil (hN8 (t0, t1, x29) _ ⟨rfl, rfl, rfl, trivial⟩ trivial h)
     ·intro N14 hN14
      refine bk h fun x15 e15 h => ?_
      refine bk h fun x16 e16 h => ?_
      refine bS ((x15.Key != x16.Key)) (fun h17 => ?_) (fun h17 => ?_)
      ·have h := bT h17 h
       refine LWP.drawF (l := [_,_,_,_,_,_,_,_,_,_,_,_,_,_,_,_,_,_,_,_,_,_,_,_,_,_,_,_,_,_,_,_,_,_,_,_,_,_,_,_,_,_,_,_,_,_,_,_,_,_,_]) [] [0, 1, 5] [([0], []), ([5], []), ([17, 18], []), ([19], []), ([20], []), ([1], []), ([5], []), ([22, 23], []), ([24], []), ([25], []), ([21, 26], []), ([27], []), ([0, 28], []), ([5, 28], []), ([28, 29, 30], []), ([28, 31], []), ([28, 32], []), ([1, 28], []), ([5, 28], []), ([28, 34, 35], []), ([28, 36], []), ([28, 37], []), ([28, 33, 38], []), ([28, 39], []), ([40], []), ([0, 41], []), ([5, 41], []), ([41, 42, 43], []), ([41, 44], []), ([41, 45], []), ([1, 41], []), ([5, 41], []), ([41, 47, 48], []), ([41, 49], []), ([41, 50], []), ([41, 46, 51], []), ([41, 52], []), ([53], []), ([0, 54], []), ([5, 54], []), ([54, 55, 56], []), ([54, 57], []), ([54, 58], []), ([1, 54], []), ([5, 54], []), ([54, 60, 61], []), ([54, 62], []), ([54, 63], []), ([54, 59, 64], []), ([54, 65], []), ([54, 66], [])] [0, 1, 5, 67] [] mixed (by kernel_rfl) rfl (by decide) ?_
       refine dq 17 rfl (fun _ g u h => LWo.move (e_Limpl_Version t0) u.1 (hn := .nil (zn g))) ?_
       refine dq 18 rfl (fun _ g u h => LWo.move (e_int t5) u.1 (hn := .nil (zn g))) ?_
       refine dq 19 rfl (fun _ g u h => LWo.indexM (f := e_impl_Version) e15 u_Limpl_Version s_impl_Version u.1 u.2.1 (hn := .nil (zn g))) ?_
       refine dq 20 rfl (fun _ g u h => LWo.fieldAddr _ u_impl_Version rfl s_int u.1 rfl (hn := .nil (zn g))) ?_
       refine dq 21 rfl (fun _ g u h => LWo.load1 (c := (e_int x15.Key)) g_int u.1 (hn := .nil (zn g))) ?_
       refine dq 22 rfl (fun _ g u h => LWo.move (e_Limpl_Version t1) u.1 (hn := .nil (zn g))) ?_
       refine dq 23 rfl (fun _ g u h => LWo.move (e_int t5) u.1 (hn := .nil (zn g))) ?_
       refine dq 24 rfl (fun _ g u h => LWo.indexM (f := e_impl_Version) e16 u_Limpl_Version s_impl_Version u.1 u.2.1 (hn := .nil (zn g))) ?_
       refine dq 25 rfl (fun _ g u h => LWo.fieldAddr _ u_impl_Version rfl s_int u.1 rfl (hn := .nil (zn g))) ?_
       refine dq 26 rfl (fun _ g u h => LWo.load1 (c := (e_int x16.Key)) g_int u.1 (hn := .nil (zn g))) ?_
       refine dq 27 rfl (fun _ g u h => LWo.int _ u.1 u.2.1 rfl (hn := .nil (zn g))) ?_
       refine dq 28 rfl (fun _ g u h => LWo.move (e_bool (x15.Key != x16.Key)) u.1 (hn := .nil (zn g))) ?_
       refine dq 29 rfl (fun _ g u h => LWo.guardNU (t := 28) u.2.1 h17 rfl rfl rfl rfl rfl (.nil (zn g))) ?_
       refine dq 30 rfl (fun _ g u h => LWo.guardNU (t := 28) u.2.1 h17 rfl rfl rfl rfl rfl (.nil (zn g))) ?_
       refine dq 31 rfl (fun _ g u h => LWo.guardNU (t := 28) u.1 h17 rfl rfl rfl rfl rfl (.nil (zn g))) ?_
       refine dq 32 rfl (fun _ g u h => LWo.guardNU (t := 28) u.1 h17 rfl rfl rfl rfl rfl (.nil (zn g))) ?_
       refine dq 33 rfl (fun _ g u h => LWo.guardNU (t := 28) u.1 h17 rfl rfl rfl rfl rfl (.nil (zn g))) ?_
       refine dq 34 rfl (fun _ g u h => LWo.guardNU (t := 28) u.2.1 h17 rfl rfl rfl rfl rfl (.nil (zn g))) ?_
       refine dq 35 rfl (fun _ g u h => LWo.guardNU (t := 28) u.2.1 h17 rfl rfl rfl rfl rfl (.nil (zn g))) ?_
       refine dq 36 rfl (fun _ g u h => LWo.guardNU (t := 28) u.1 h17 rfl rfl rfl rfl rfl (.nil (zn g))) ?_
       refine dq 37 rfl (fun _ g u h => LWo.guardNU (t := 28) u.1 h17 rfl rfl rfl rfl rfl (.nil (zn g))) ?_
       refine dq 38 rfl (fun _ g u h => LWo.guardNU (t := 28) u.1 h17 rfl rfl rfl rfl rfl (.nil (zn g))) ?_
       refine dq 39 rfl (fun _ g u h => LWo.guardNU (t := 28) u.1 h17 rfl rfl rfl rfl rfl (.nil (zn g))) ?_
       refine dq 40 rfl (fun _ g u h => LWo.pickTM (e_bool true) u.1 h17 rfl (hn := .nil (zn g))) ?_
       refine dq 41 rfl (fun _ g u h => LWo.move (e_bool true) u.1 (hn := .nil (zn g))) ?_
       refine dq 42 rfl (fun _ g u h => LWo.guardNU (t := 41) u.2.1 rfl rfl rfl rfl rfl rfl (.nil (zn g))) ?_
       refine dq 43 rfl (fun _ g u h => LWo.guardNU (t := 41) u.2.1 rfl rfl rfl rfl rfl rfl (.nil (zn g))) ?_
       refine dq 44 rfl (fun _ g u h => LWo.guardNU (t := 41) u.1 rfl rfl rfl rfl rfl rfl (.nil (zn g))) ?_
       refine dq 45 rfl (fun _ g u h => LWo.guardNU (t := 41) u.1 rfl rfl rfl rfl rfl rfl (.nil (zn g))) ?_
       refine dq 46 rfl (fun _ g u h => LWo.guardNU (t := 41) u.1 rfl rfl rfl rfl rfl rfl (.nil (zn g))) ?_
       refine dq 47 rfl (fun _ g u h => LWo.guardNU (t := 41) u.2.1 rfl rfl rfl rfl rfl rfl (.nil (zn g))) ?_
       refine dq 48 rfl (fun _ g u h => LWo.guardNU (t := 41) u.2.1 rfl rfl rfl rfl rfl rfl (.nil (zn g))) ?_
       refine dq 49 rfl (fun _ g u h => LWo.guardNU (t := 41) u.1 rfl rfl rfl rfl rfl rfl (.nil (zn g))) ?_
       refine dq 50 rfl (fun _ g u h => LWo.guardNU (t := 41) u.1 rfl rfl rfl rfl rfl rfl (.nil (zn g))) ?_
       refine dq 51 rfl (fun _ g u h => LWo.guardNU (t := 41) u.1 rfl rfl rfl rfl rfl rfl (.nil (zn g))) ?_
       refine dq 52 rfl (fun _ g u h => LWo.guardNU (t := 41) u.1 rfl rfl rfl rfl rfl rfl (.nil (zn g))) ?_
       refine dq 53 rfl (fun _ g u h => LWo.pickTM (e_bool true) u.1 rfl rfl (hn := .nil (zn g))) ?_
       refine dq 54 rfl (fun _ g u h => LWo.move (e_bool true) u.1 (hn := .nil (zn g))) ?_
       refine dq 55 rfl (fun _ g u h => LWo.guardNU (t := 54) u.2.1 rfl rfl rfl rfl rfl rfl (.nil (zn g))) ?_
       refine dq 56 rfl (fun _ g u h => LWo.guardNU (t := 54) u.2.1 rfl rfl rfl rfl rfl rfl (.nil (zn g))) ?_
       refine dq 57 rfl (fun _ g u h => LWo.guardNU (t := 54) u.1 rfl rfl rfl rfl rfl rfl (.nil (zn g))) ?_
       refine dq 58 rfl (fun _ g u h => LWo.guardNU (t := 54) u.1 rfl rfl rfl rfl rfl rfl (.nil (zn g))) ?_
       refine dq 59 rfl (fun _ g u h => LWo.guardNU (t := 54) u.1 rfl rfl rfl rfl rfl rfl (.nil (zn g))) ?_
       refine dq 60 rfl (fun _ g u h => LWo.guardNU (t := 54) u.2.1 rfl rfl rfl rfl rfl rfl (.nil (zn g))) ?_
       refine dq 61 rfl (fun _ g u h => LWo.guardNU (t := 54) u.2.1 rfl rfl rfl rfl rfl rfl (.nil (zn g))) ?_
       refine dq 62 rfl (fun _ g u h => LWo.guardNU (t := 54) u.1 rfl rfl rfl rfl rfl rfl (.nil (zn g))) ?_
       refine dq 63 rfl (fun _ g u h => LWo.guardNU (t := 54) u.1 rfl rfl rfl rfl rfl rfl (.nil (zn g))) ?_
       refine dq 64 rfl (fun _ g u h => LWo.guardNU (t := 54) u.1 rfl rfl rfl rfl rfl rfl (.nil (zn g))) ?_
       refine dq 65 rfl (fun _ g u h => LWo.guardNU (t := 54) u.1 rfl rfl rfl rfl rfl rfl (.nil (zn g))) ?_
       refine dq 66 rfl (fun _ g u h => LWo.guardNU (t := 54) u.1 rfl rfl rfl rfl rfl rfl (.nil (zn g))) ?_
       refine dq 67 rfl (fun _ g u h => LWo.pickTM (e_bool true) u.1 rfl rfl (hn := .nil (zn g))) ?_
       refine ⟨rfl, by kernel_rfl, hN14 (t0, t1, t5, true) _ ⟨rfl, rfl, rfl, rfl, trivial⟩ trivial h⟩
      ·have h := bF h17 h
       refine bk h fun x18 e18 h => ?_
       refine bk h fun x19 e19 h => ?_
       refine bS ((x18.Born != x19.Born)) (fun h20 => ?_) (fun h20 => ?_)
       ·have h := bT h20 h
        refine LWP.drawF (l := [_,_,_,_,_,_,_,_,_,_,_,_,_,_,_,_,_,_,_,_,_,_,_,_,_,_,_,_,_,_,_,_,_,_,_,_,_,_,_,_,_,_,_,_,_,_,_,_,_,_,_]) [] [0, 1, 5] [([0], []), ([5], []), ([17, 18], []), ([19], []), ([20], []), ([1], []), ([5], []), ([22, 23], []), ([24], []), ([25], []), ([21, 26], []), ([27], []), ([0, 28], []), ([5, 28], []), ([28, 29, 30], []), ([28, 31], []), ([28, 32], []), ([1, 28], []), ([5, 28], []), ([28, 34, 35], []), ([28, 36], []), ([28, 37], []), ([28, 33, 38], []), ([28, 39], []), ([40], []), ([0, 41], []), ([5, 41], []), ([41, 42, 43], []), ([41, 44], []), ([41, 45], []), ([1, 41], []), ([5, 41], []), ([41, 47, 48], []), ([41, 49], []), ([41, 50], []), ([41, 46, 51], []), ([41, 52], []), ([53], []), ([0, 54], []), ([5, 54], []), ([54, 55, 56], []), ([54, 57], []), ([54, 58], []), ([1, 54], []), ([5, 54], []), ([54, 60, 61], []), ([54, 62], []), ([54, 63], []), ([54, 59, 64], []), ([54, 65], []), ([54, 66], [])] [0, 1, 5, 67] [] mixed (by kernel_rfl) rfl (by decide) ?_
        refine dq 17 rfl (fun _ g u h => LWo.move (e_Limpl_Version t0) u.1 (hn := .nil (zn g))) ?_
        refine dq 18 rfl (fun _ g u h => LWo.move (e_int t5) u.1 (hn := .nil (zn g))) ?_
        refine dq 19 rfl (fun _ g u h => LWo.indexM (f := e_impl_Version) e15 u_Limpl_Version s_impl_Version u.1 u.2.1 (hn := .nil (zn g))) ?_
        refine dq 20 rfl (fun _ g u h => LWo.fieldAddr _ u_impl_Version rfl s_int u.1 rfl (hn := .nil (zn g))) ?_
        refine dq 21 rfl (fun _ g u h => LWo.load1 (c := (e_int x15.Key)) g_int u.1 (hn := .nil (zn g))) ?_
        refine dq 22 rfl (fun _ g u h => LWo.move (e_Limpl_Version t1) u.1 (hn := .nil (zn g))) ?_
        refine dq 23 rfl (fun _ g u h => LWo.move (e_int t5) u.1 (hn := .nil (zn g))) ?_
        refine dq 24 rfl (fun _ g u h => LWo.indexM (f := e_impl_Version) e16 u_Limpl_Version s_impl_Version u.1 u.2.1 (hn := .nil (zn g))) ?_
        refine dq 25 rfl (fun _ g u h => LWo.fieldAddr _ u_impl_Version rfl s_int u.1 rfl (hn := .nil (zn g))) ?_
        refine dq 26 rfl (fun _ g u h => LWo.load1 (c := (e_int x16.Key)) g_int u.1 (hn := .nil (zn g))) ?_
        refine dq 27 rfl (fun _ g u h => LWo.int _ u.1 u.2.1 rfl (hn := .nil (zn g))) ?_
        refine dq 28 rfl (fun _ g u h => LWo.move (e_bool (x15.Key != x16.Key)) u.1 (hn := .nil (zn g))) ?_
        refine dq 29 rfl (fun _ g u h => LWo.guardY (t := 28) u.2.1 h17 rfl rfl (LWo.move (e_Limpl_Version t0) u.1 (hn := .nil (zn g)))) ?_
        refine dq 30 rfl (fun _ g u h => LWo.guardY (t := 28) u.2.1 h17 rfl rfl (LWo.move (e_int t5) u.1 (hn := .nil (zn g)))) ?_
        refine dq 31 rfl (fun _ g u h => LWo.guardY (t := 28) u.1 h17 rfl rfl (LWo.indexM (f := e_impl_Version) e18 u_Limpl_Version s_impl_Version u.2.1 u.2.2.1 (hn := .nil (zn g)))) ?_
        refine dq 32 rfl (fun _ g u h => LWo.guardY (t := 28) u.1 h17 rfl rfl (LWo.fieldAddr _ u_impl_Version rfl s_int u.2.1 rfl (hn := .nil (zn g)))) ?_
        refine dq 33 rfl (fun _ g u h => LWo.guardY (t := 28) u.1 h17 rfl rfl (LWo.load1 (c := (e_int x18.Born)) g_int u.2.1 (hn := .nil (zn g)))) ?_
        refine dq 34 rfl (fun _ g u h => LWo.guardY (t := 28) u.2.1 h17 rfl rfl (LWo.move (e_Limpl_Version t1) u.1 (hn := .nil (zn g)))) ?_
        refine dq 35 rfl (fun _ g u h => LWo.guardY (t := 28) u.2.1 h17 rfl rfl (LWo.move (e_int t5) u.1 (hn := .nil (zn g)))) ?_
        refine dq 36 rfl (fun _ g u h => LWo.guardY (t := 28) u.1 h17 rfl rfl (LWo.indexM (f := e_impl_Version) e19 u_Limpl_Version s_impl_Version u.2.1 u.2.2.1 (hn := .nil (zn g)))) ?_
        refine dq 37 rfl (fun _ g u h => LWo.guardY (t := 28) u.1 h17 rfl rfl (LWo.fieldAddr _ u_impl_Version rfl s_int u.2.1 rfl (hn := .nil (zn g)))) ?_
        refine dq 38 rfl (fun _ g u h => LWo.guardY (t := 28) u.1 h17 rfl rfl (LWo.load1 (c := (e_int x19.Born)) g_int u.2.1 (hn := .nil (zn g)))) ?_
        refine dq 39 rfl (fun _ g u h => LWo.guardY (t := 28) u.1 h17 rfl rfl (LWo.int _ u.2.1 u.2.2.1 rfl (hn := .nil (zn g)))) ?_
        refine dq 40 rfl (fun _ g u h => LWo.pickFM (e_bool (x18.Born != x19.Born)) u.1 h17 u.2.1 (hn := .nil (zn g))) ?_
        refine dq 41 rfl (fun _ g u h => LWo.move (e_bool (x18.Born != x19.Born)) u.1 (hn := .nil (zn g))) ?_
        refine dq 42 rfl (fun _ g u h => LWo.guardNU (t := 41) u.2.1 h20 rfl rfl rfl rfl rfl (.nil (zn g))) ?_
        refine dq 43 rfl (fun _ g u h => LWo.guardNU (t := 41) u.2.1 h20 rfl rfl rfl rfl rfl (.nil (zn g))) ?_
        refine dq 44 rfl (fun _ g u h => LWo.guardNU (t := 41) u.1 h20 rfl rfl rfl rfl rfl (.nil (zn g))) ?_
        refine dq 45 rfl (fun _ g u h => LWo.guardNU (t := 41) u.1 h20 rfl rfl rfl rfl rfl (.nil (zn g))) ?_
        refine dq 46 rfl (fun _ g u h => LWo.guardNU (t := 41) u.1 h20 rfl rfl rfl rfl rfl (.nil (zn g))) ?_
        refine dq 47 rfl (fun _ g u h => LWo.guardNU (t := 41) u.2.1 h20 rfl rfl rfl rfl rfl (.nil (zn g))) ?_
        refine dq 48 rfl (fun _ g u h => LWo.guardNU (t := 41) u.2.1 h20 rfl rfl rfl rfl rfl (.nil (zn g))) ?_
        refine dq 49 rfl (fun _ g u h => LWo.guardNU (t := 41) u.1 h20 rfl rfl rfl rfl rfl (.nil (zn g))) ?_
        refine dq 50 rfl (fun _ g u h => LWo.guardNU (t := 41) u.1 h20 rfl rfl rfl rfl rfl (.nil (zn g))) ?_
        refine dq 51 rfl (fun _ g u h => LWo.guardNU (t := 41) u.1 h20 rfl rfl rfl rfl rfl (.nil (zn g))) ?_
        refine dq 52 rfl (fun _ g u h => LWo.guardNU (t := 41) u.1 h20 rfl rfl rfl rfl rfl (.nil (zn g))) ?_
        refine dq 53 rfl (fun _ g u h => LWo.pickTM (e_bool true) u.1 h20 rfl (hn := .nil (zn g))) ?_
        refine dq 54 rfl (fun _ g u h => LWo.move (e_bool true) u.1 (hn := .nil (zn g))) ?_
        refine dq 55 rfl (fun _ g u h => LWo.guardNU (t := 54) u.2.1 rfl rfl rfl rfl rfl rfl (.nil (zn g))) ?_
        refine dq 56 rfl (fun _ g u h => LWo.guardNU (t := 54) u.2.1 rfl rfl rfl rfl rfl rfl (.nil (zn g))) ?_
        refine dq 57 rfl (fun _ g u h => LWo.guardNU (t := 54) u.1 rfl rfl rfl rfl rfl rfl (.nil (zn g))) ?_
        refine dq 58 rfl (fun _ g u h => LWo.guardNU (t := 54) u.1 rfl rfl rfl rfl rfl rfl (.nil (zn g))) ?_
        refine dq 59 rfl (fun _ g u h => LWo.guardNU (t := 54) u.1 rfl rfl rfl rfl rfl rfl (.nil (zn g))) ?_
        refine dq 60 rfl (fun _ g u h => LWo.guardNU (t := 54) u.2.1 rfl rfl rfl rfl rfl rfl (.nil (zn g))) ?_
        refine dq 61 rfl (fun _ g u h => LWo.guardNU (t := 54) u.2.1 rfl rfl rfl rfl rfl rfl (.nil (zn g))) ?_
        refine dq 62 rfl (fun _ g u h => LWo.guardNU (t := 54) u.1 rfl rfl rfl rfl rfl rfl (.nil (zn g))) ?_
        refine dq 63 rfl (fun _ g u h => LWo.guardNU (t := 54) u.1 rfl rfl rfl rfl rfl rfl (.nil (zn g))) ?_
        refine dq 64 rfl (fun _ g u h => LWo.guardNU (t := 54) u.1 rfl rfl rfl rfl rfl rfl (.nil (zn g))) ?_
        refine dq 65 rfl (fun _ g u h => LWo.guardNU (t := 54) u.1 rfl rfl rfl rfl rfl rfl (.nil (zn g))) ?_
        refine dq 66 rfl (fun _ g u h => LWo.guardNU (t := 54) u.1 rfl rfl rfl rfl rfl rfl (.nil (zn g))) ?_
        refine dq 67 rfl (fun _ g u h => LWo.pickTM (e_bool true) u.1 rfl rfl (hn := .nil (zn g))) ?_
        refine ⟨rfl, by kernel_rfl, hN14 (t0, t1, t5, true) _ ⟨rfl, rfl, rfl, rfl, trivial⟩ trivial h⟩
       ·have h := bF h20 h
        refine bk h fun x21 e21 h => ?_
        refine bk h fun x22 e22 h => ?_
        refine bS ((x21.Died != x22.Died)) (fun h23 => ?_) (fun h23 => ?_)
        ·have h := bT h23 h
         refine LWP.drawF (l := [_,_,_,_,_,_,_,_,_,_,_,_,_,_,_,_,_,_,_,_,_,_,_,_,_,_,_,_,_,_,_,_,_,_,_,_,_,_,_,_,_,_,_,_,_,_,_,_,_,_,_]) [] [0, 1, 5] [([0], []), ([5], []), ([17, 18], []), ([19], []), ([20], []), ([1], []), ([5], []), ([22, 23], []), ([24], []), ([25], []), ([21, 26], []), ([27], []), ([0, 28], []), ([5, 28], []), ([28, 29, 30], []), ([28, 31], []), ([28, 32], []), ([1, 28], []), ([5, 28], []), ([28, 34, 35], []), ([28, 36], []), ([28, 37], []), ([28, 33, 38], []), ([28, 39], []), ([40], []), ([0, 41], []), ([5, 41], []), ([41, 42, 43], []), ([41, 44], []), ([41, 45], []), ([1, 41], []), ([5, 41], []), ([41, 47, 48], []), ([41, 49], []), ([41, 50], []), ([41, 46, 51], []), ([41, 52], []), ([53], []), ([0, 54], []), ([5, 54], []), ([54, 55, 56], []), ([54, 57], []), ([54, 58], []), ([1, 54], []), ([5, 54], []), ([54, 60, 61], []), ([54, 62], []), ([54, 63], []), ([54, 59, 64], []), ([54, 65], []), ([54, 66], [])] [0, 1, 5, 67] [] mixed (by kernel_rfl) rfl (by decide) ?_
         refine dq 17 rfl (fun _ g u h => LWo.move (e_Limpl_Version t0) u.1 (hn := .nil (zn g))) ?_
         refine dq 18 rfl (fun _ g u h => LWo.move (e_int t5) u.1 (hn := .nil (zn g))) ?_
         refine dq 19 rfl (fun _ g u h => LWo.indexM (f := e_impl_Version) e15 u_Limpl_Version s_impl_Version u.1 u.2.1 (hn := .nil (zn g))) ?_
         refine dq 20 rfl (fun _ g u h => LWo.fieldAddr _ u_impl_Version rfl s_int u.1 rfl (hn := .nil (zn g))) ?_
         refine dq 21 rfl (fun _ g u h => LWo.load1 (c := (e_int x15.Key)) g_int u.1 (hn := .nil (zn g))) ?_
         refine dq 22 rfl (fun _ g u h => LWo.move (e_Limpl_Version t1) u.1 (hn := .nil (zn g))) ?_
         refine dq 23 rfl (fun _ g u h => LWo.move (e_int t5) u.1 (hn := .nil (zn g))) ?_
         refine dq 24 rfl (fun _ g u h => LWo.indexM (f := e_impl_Version) e16 u_Limpl_Version s_impl_Version u.1 u.2.1 (hn := .nil (zn g))) ?_
         refine dq 25 rfl (fun _ g u h => LWo.fieldAddr _ u_impl_Version rfl s_int u.1 rfl (hn := .nil (zn g))) ?_
         refine dq 26 rfl (fun _ g u h => LWo.load1 (c := (e_int x16.Key)) g_int u.1 (hn := .nil (zn g))) ?_
         refine dq 27 rfl (fun _ g u h => LWo.int _ u.1 u.2.1 rfl (hn := .nil (zn g))) ?_
         refine dq 28 rfl (fun _ g u h => LWo.move (e_bool (x15.Key != x16.Key)) u.1 (hn := .nil (zn g))) ?_
         refine dq 29 rfl (fun _ g u h => LWo.guardY (t := 28) u.2.1 h17 rfl rfl (LWo.move (e_Limpl_Version t0) u.1 (hn := .nil (zn g)))) ?_
         refine dq 30 rfl (fun _ g u h => LWo.guardY (t := 28) u.2.1 h17 rfl rfl (LWo.move (e_int t5) u.1 (hn := .nil (zn g)))) ?_
         refine dq 31 rfl (fun _ g u h => LWo.guardY (t := 28) u.1 h17 rfl rfl (LWo.indexM (f := e_impl_Version) e18 u_Limpl_Version s_impl_Version u.2.1 u.2.2.1 (hn := .nil (zn g)))) ?_
         refine dq 32 rfl (fun _ g u h => LWo.guardY (t := 28) u.1 h17 rfl rfl (LWo.fieldAddr _ u_impl_Version rfl s_int u.2.1 rfl (hn := .nil (zn g)))) ?_
         refine dq 33 rfl (fun _ g u h => LWo.guardY (t := 28) u.1 h17 rfl rfl (LWo.load1 (c := (e_int x18.Born)) g_int u.2.1 (hn := .nil (zn g)))) ?_
         refine dq 34 rfl (fun _ g u h => LWo.guardY (t := 28) u.2.1 h17 rfl rfl (LWo.move (e_Limpl_Version t1) u.1 (hn := .nil (zn g)))) ?_
         refine dq 35 rfl (fun _ g u h => LWo.guardY (t := 28) u.2.1 h17 rfl rfl (LWo.move (e_int t5) u.1 (hn := .nil (zn g)))) ?_
         refine dq 36 rfl (fun _ g u h => LWo.guardY (t := 28) u.1 h17 rfl rfl (LWo.indexM (f := e_impl_Version) e19 u_Limpl_Version s_impl_Version u.2.1 u.2.2.1 (hn := .nil (zn g)))) ?_
         refine dq 37 rfl (fun _ g u h => LWo.guardY (t := 28) u.1 h17 rfl rfl (LWo.fieldAddr _ u_impl_Version rfl s_int u.2.1 rfl (hn := .nil (zn g)))) ?_
         refine dq 38 rfl (fun _ g u h => LWo.guardY (t := 28) u.1 h17 rfl rfl (LWo.load1 (c := (e_int x19.Born)) g_int u.2.1 (hn := .nil (zn g)))) ?_
         refine dq 39 rfl (fun _ g u h => LWo.guardY (t := 28) u.1 h17 rfl rfl (LWo.int _ u.2.1 u.2.2.1 rfl (hn := .nil (zn g)))) ?_
         refine dq 40 rfl (fun _ g u h => LWo.pickFM (e_bool (x18.Born != x19.Born)) u.1 h17 u.2.1 (hn := .nil (zn g))) ?_
         refine dq 41 rfl (fun _ g u h => LWo.move (e_bool (x18.Born != x19.Born)) u.1 (hn := .nil (zn g))) ?_
         refine dq 42 rfl (fun _ g u h => LWo.guardY (t := 41) u.2.1 h20 rfl rfl (LWo.move (e_Limpl_Version t0) u.1 (hn := .nil (zn g)))) ?_
         refine dq 43 rfl (fun _ g u h => LWo.guardY (t := 41) u.2.1 h20 rfl rfl (LWo.move (e_int t5) u.1 (hn := .nil (zn g)))) ?_
         refine dq 44 rfl (fun _ g u h => LWo.guardY (t := 41) u.1 h20 rfl rfl (LWo.indexM (f := e_impl_Version) e21 u_Limpl_Version s_impl_Version u.2.1 u.2.2.1 (hn := .nil (zn g)))) ?_
         refine dq 45 rfl (fun _ g u h => LWo.guardY (t := 41) u.1 h20 rfl rfl (LWo.fieldAddr _ u_impl_Version rfl s_int u.2.1 rfl (hn := .nil (zn g)))) ?_
         refine dq 46 rfl (fun _ g u h => LWo.guardY (t := 41) u.1 h20 rfl rfl (LWo.load1 (c := (e_int x21.Died)) g_int u.2.1 (hn := .nil (zn g)))) ?_
         refine dq 47 rfl (fun _ g u h => LWo.guardY (t := 41) u.2.1 h20 rfl rfl (LWo.move (e_Limpl_Version t1) u.1 (hn := .nil (zn g)))) ?_
         refine dq 48 rfl (fun _ g u h => LWo.guardY (t := 41) u.2.1 h20 rfl rfl (LWo.move (e_int t5) u.1 (hn := .nil (zn g)))) ?_
         refine dq 49 rfl (fun _ g u h => LWo.guardY (t := 41) u.1 h20 rfl rfl (LWo.indexM (f := e_impl_Version) e22 u_Limpl_Version s_impl_Version u.2.1 u.2.2.1 (hn := .nil (zn g)))) ?_
         refine dq 50 rfl (fun _ g u h => LWo.guardY (t := 41) u.1 h20 rfl rfl (LWo.fieldAddr _ u_impl_Version rfl s_int u.2.1 rfl (hn := .nil (zn g)))) ?_
         refine dq 51 rfl (fun _ g u h => LWo.guardY (t := 41) u.1 h20 rfl rfl (LWo.load1 (c := (e_int x22.Died)) g_int u.2.1 (hn := .nil (zn g)))) ?_
         refine dq 52 rfl (fun _ g u h => LWo.guardY (t := 41) u.1 h20 rfl rfl (LWo.int _ u.2.1 u.2.2.1 rfl (hn := .nil (zn g)))) ?_
         refine dq 53 rfl (fun _ g u h => LWo.pickFM (e_bool (x21.Died != x22.Died)) u.1 h20 u.2.1 (hn := .nil (zn g))) ?_
         refine dq 54 rfl (fun _ g u h => LWo.move (e_bool (x21.Died != x22.Died)) u.1 (hn := .nil (zn g))) ?_
         refine dq 55 rfl (fun _ g u h => LWo.guardNU (t := 54) u.2.1 h23 rfl rfl rfl rfl rfl (.nil (zn g))) ?_
         refine dq 56 rfl (fun _ g u h => LWo.guardNU (t := 54) u.2.1 h23 rfl rfl rfl rfl rfl (.nil (zn g))) ?_
         refine dq 57 rfl (fun _ g u h => LWo.guardNU (t := 54) u.1 h23 rfl rfl rfl rfl rfl (.nil (zn g))) ?_
         refine dq 58 rfl (fun _ g u h => LWo.guardNU (t := 54) u.1 h23 rfl rfl rfl rfl rfl (.nil (zn g))) ?_
         refine dq 59 rfl (fun _ g u h => LWo.guardNU (t := 54) u.1 h23 rfl rfl rfl rfl rfl (.nil (zn g))) ?_
         refine dq 60 rfl (fun _ g u h => LWo.guardNU (t := 54) u.2.1 h23 rfl rfl rfl rfl rfl (.nil (zn g))) ?_
         refine dq 61 rfl (fun _ g u h => LWo.guardNU (t := 54) u.2.1 h23 rfl rfl rfl rfl rfl (.nil (zn g))) ?_
         refine dq 62 rfl (fun _ g u h => LWo.guardNU (t := 54) u.1 h23 rfl rfl rfl rfl rfl (.nil (zn g))) ?_
         refine dq 63 rfl (fun _ g u h => LWo.guardNU (t := 54) u.1 h23 rfl rfl rfl rfl rfl (.nil (zn g))) ?_
         refine dq 64 rfl (fun _ g u h => LWo.guardNU (t := 54) u.1 h23 rfl rfl rfl rfl rfl (.nil (zn g))) ?_
         refine dq 65 rfl (fun _ g u h => LWo.guardNU (t := 54) u.1 h23 rfl rfl rfl rfl rfl (.nil (zn g))) ?_
         refine dq 66 rfl (fun _ g u h => LWo.guardNU (t := 54) u.1 h23 rfl rfl rfl rfl rfl (.nil (zn g))) ?_
         refine dq 67 rfl (fun _ g u h => LWo.pickTM (e_bool true) u.1 h23 rfl (hn := .nil (zn g))) ?_
         refine ⟨rfl, by kernel_rfl, hN14 (t0, t1, t5, true) _ ⟨rfl, rfl, rfl, rfl, trivial⟩ trivial h⟩
        ·have h := bF h23 h
         refine bk h fun x24 e24 h => ?_
         refine bk h fun x25 e25 h => ?_
         refine bk h fun x26 e26 h => ?_
         refine LWP.drawF (l := [_,_,_,_,_,_,_,_,_,_,_,_,_,_,_,_,_,_,_,_,_,_,_,_,_,_,_,_,_,_,_,_,_,_,_,_,_,_,_,_,_,_,_,_,_,_,_,_,_,_,_]) [] [0, 1, 5] [([0], []), ([5], []), ([17, 18], []), ([19], []), ([20], []), ([1], []), ([5], []), ([22, 23], []), ([24], []), ([25], []), ([21, 26], []), ([27], []), ([0, 28], []), ([5, 28], []), ([28, 29, 30], []), ([28, 31], []), ([28, 32], []), ([1, 28], []), ([5, 28], []), ([28, 34, 35], []), ([28, 36], []), ([28, 37], []), ([28, 33, 38], []), ([28, 39], []), ([40], []), ([0, 41], []), ([5, 41], []), ([41, 42, 43], []), ([41, 44], []), ([41, 45], []), ([1, 41], []), ([5, 41], []), ([41, 47, 48], []), ([41, 49], []), ([41, 50], []), ([41, 46, 51], []), ([41, 52], []), ([53], []), ([0, 54], []), ([5, 54], []), ([54, 55, 56], []), ([54, 57], []), ([54, 58], []), ([1, 54], []), ([5, 54], []), ([54, 60, 61], []), ([54, 62], []), ([54, 63], []), ([54, 59, 64], []), ([54, 65], []), ([54, 66], [])] [0, 1, 5, 67] [] mixed (by kernel_rfl) rfl (by decide) ?_
         refine dq 17 rfl (fun _ g u h => LWo.move (e_Limpl_Version t0) u.1 (hn := .nil (zn g))) ?_
         refine dq 18 rfl (fun _ g u h => LWo.move (e_int t5) u.1 (hn := .nil (zn g))) ?_
         refine dq 19 rfl (fun _ g u h => LWo.indexM (f := e_impl_Version) e15 u_Limpl_Version s_impl_Version u.1 u.2.1 (hn := .nil (zn g))) ?_
         refine dq 20 rfl (fun _ g u h => LWo.fieldAddr _ u_impl_Version rfl s_int u.1 rfl (hn := .nil (zn g))) ?_
         refine dq 21 rfl (fun _ g u h => LWo.load1 (c := (e_int x15.Key)) g_int u.1 (hn := .nil (zn g))) ?_
         refine dq 22 rfl (fun _ g u h => LWo.move (e_Limpl_Version t1) u.1 (hn := .nil (zn g))) ?_
         refine dq 23 rfl (fun _ g u h => LWo.move (e_int t5) u.1 (hn := .nil (zn g))) ?_
         refine dq 24 rfl (fun _ g u h => LWo.indexM (f := e_impl_Version) e16 u_Limpl_Version s_impl_Version u.1 u.2.1 (hn := .nil (zn g))) ?_
         refine dq 25 rfl (fun _ g u h => LWo.fieldAddr _ u_impl_Version rfl s_int u.1 rfl (hn := .nil (zn g))) ?_
         refine dq 26 rfl (fun _ g u h => LWo.load1 (c := (e_int x16.Key)) g_int u.1 (hn := .nil (zn g))) ?_
         refine dq 27 rfl (fun _ g u h => LWo.int _ u.1 u.2.1 rfl (hn := .nil (zn g))) ?_
         refine dq 28 rfl (fun _ g u h => LWo.move (e_bool (x15.Key != x16.Key)) u.1 (hn := .nil (zn g))) ?_
         refine dq 29 rfl (fun _ g u h => LWo.guardY (t := 28) u.2.1 h17 rfl rfl (LWo.move (e_Limpl_Version t0) u.1 (hn := .nil (zn g)))) ?_
         refine dq 30 rfl (fun _ g u h => LWo.guardY (t := 28) u.2.1 h17 rfl rfl (LWo.move (e_int t5) u.1 (hn := .nil (zn g)))) ?_
         refine dq 31 rfl (fun _ g u h => LWo.guardY (t := 28) u.1 h17 rfl rfl (LWo.indexM (f := e_impl_Version) e18 u_Limpl_Version s_impl_Version u.2.1 u.2.2.1 (hn := .nil (zn g)))) ?_
         refine dq 32 rfl (fun _ g u h => LWo.guardY (t := 28) u.1 h17 rfl rfl (LWo.fieldAddr _ u_impl_Version rfl s_int u.2.1 rfl (hn := .nil (zn g)))) ?_
         refine dq 33 rfl (fun _ g u h => LWo.guardY (t := 28) u.1 h17 rfl rfl (LWo.load1 (c := (e_int x18.Born)) g_int u.2.1 (hn := .nil (zn g)))) ?_
         refine dq 34 rfl (fun _ g u h => LWo.guardY (t := 28) u.2.1 h17 rfl rfl (LWo.move (e_Limpl_Version t1) u.1 (hn := .nil (zn g)))) ?_
         refine dq 35 rfl (fun _ g u h => LWo.guardY (t := 28) u.2.1 h17 rfl rfl (LWo.move (e_int t5) u.1 (hn := .nil (zn g)))) ?_
         refine dq 36 rfl (fun _ g u h => LWo.guardY (t := 28) u.1 h17 rfl rfl (LWo.indexM (f := e_impl_Version) e19 u_Limpl_Version s_impl_Version u.2.1 u.2.2.1 (hn := .nil (zn g)))) ?_
         refine dq 37 rfl (fun _ g u h => LWo.guardY (t := 28) u.1 h17 rfl rfl (LWo.fieldAddr _ u_impl_Version rfl s_int u.2.1 rfl (hn := .nil (zn g)))) ?_
         refine dq 38 rfl (fun _ g u h => LWo.guardY (t := 28) u.1 h17 rfl rfl (LWo.load1 (c := (e_int x19.Born)) g_int u.2.1 (hn := .nil (zn g)))) ?_
         refine dq 39 rfl (fun _ g u h => LWo.guardY (t := 28) u.1 h17 rfl rfl (LWo.int _ u.2.1 u.2.2.1 rfl (hn := .nil (zn g)))) ?_
         refine dq 40 rfl (fun _ g u h => LWo.pickFM (e_bool (x18.Born != x19.Born)) u.1 h17 u.2.1 (hn := .nil (zn g))) ?_
         refine dq 41 rfl (fun _ g u h => LWo.move (e_bool (x18.Born != x19.Born)) u.1 (hn := .nil (zn g))) ?_
         refine dq 42 rfl (fun _ g u h => LWo.guardY (t := 41) u.2.1 h20 rfl rfl (LWo.move (e_Limpl_Version t0) u.1 (hn := .nil (zn g)))) ?_
         refine dq 43 rfl (fun _ g u h => LWo.guardY (t := 41) u.2.1 h20 rfl rfl (LWo.move (e_int t5) u.1 (hn := .nil (zn g)))) ?_
         refine dq 44 rfl (fun _ g u h => LWo.guardY (t := 41) u.1 h20 rfl rfl (LWo.indexM (f := e_impl_Version) e21 u_Limpl_Version s_impl_Version u.2.1 u.2.2.1 (hn := .nil (zn g)))) ?_
         refine dq 45 rfl (fun _ g u h => LWo.guardY (t := 41) u.1 h20 rfl rfl (LWo.fieldAddr _ u_impl_Version rfl s_int u.2.1 rfl (hn := .nil (zn g)))) ?_
         refine dq 46 rfl (fun _ g u h => LWo.guardY (t := 41) u.1 h20 rfl rfl (LWo.load1 (c := (e_int x21.Died)) g_int u.2.1 (hn := .nil (zn g)))) ?_
         refine dq 47 rfl (fun _ g u h => LWo.guardY (t := 41) u.2.1 h20 rfl rfl (LWo.move (e_Limpl_Version t1) u.1 (hn := .nil (zn g)))) ?_
         refine dq 48 rfl (fun _ g u h => LWo.guardY (t := 41) u.2.1 h20 rfl rfl (LWo.move (e_int t5) u.1 (hn := .nil (zn g)))) ?_
         refine dq 49 rfl (fun _ g u h => LWo.guardY (t := 41) u.1 h20 rfl rfl (LWo.indexM (f := e_impl_Version) e22 u_Limpl_Version s_impl_Version u.2.1 u.2.2.1 (hn := .nil (zn g)))) ?_
         refine dq 50 rfl (fun _ g u h => LWo.guardY (t := 41) u.1 h20 rfl rfl (LWo.fieldAddr _ u_impl_Version rfl s_int u.2.1 rfl (hn := .nil (zn g)))) ?_
         refine dq 51 rfl (fun _ g u h => LWo.guardY (t := 41) u.1 h20 rfl rfl (LWo.load1 (c := (e_int x22.Died)) g_int u.2.1 (hn := .nil (zn g)))) ?_
         refine dq 52 rfl (fun _ g u h => LWo.guardY (t := 41) u.1 h20 rfl rfl (LWo.int _ u.2.1 u.2.2.1 rfl (hn := .nil (zn g)))) ?_
         refine dq 53 rfl (fun _ g u h => LWo.pickFM (e_bool (x21.Died != x22.Died)) u.1 h20 u.2.1 (hn := .nil (zn g))) ?_
         refine dq 54 rfl (fun _ g u h => LWo.move (e_bool (x21.Died != x22.Died)) u.1 (hn := .nil (zn g))) ?_
         refine dq 55 rfl (fun _ g u h => LWo.guardY (t := 54) u.2.1 h23 rfl rfl (LWo.move (e_Limpl_Version t0) u.1 (hn := .nil (zn g)))) ?_
         refine dq 56 rfl (fun _ g u h => LWo.guardY (t := 54) u.2.1 h23 rfl rfl (LWo.move (e_int t5) u.1 (hn := .nil (zn g)))) ?_
         refine dq 57 rfl (fun _ g u h => LWo.guardY (t := 54) u.1 h23 rfl rfl (LWo.indexM (f := e_impl_Version) e24 u_Limpl_Version s_impl_Version u.2.1 u.2.2.1 (hn := .nil (zn g)))) ?_
         refine dq 58 rfl (fun _ g u h => LWo.guardY (t := 54) u.1 h23 rfl rfl (LWo.fieldAddr _ u_impl_Version rfl s_Limpl_Value u.2.1 rfl (hn := .nil (zn g)))) ?_
         refine dq 59 rfl (fun _ g u h => LWo.guardY (t := 54) u.1 h23 rfl rfl (LWo.load1 (c := (e_Limpl_Value x24.Row)) g_Limpl_Value u.2.1 (hn := .nil (zn g)))) ?_
         refine dq 60 rfl (fun _ g u h => LWo.guardY (t := 54) u.2.1 h23 rfl rfl (LWo.move (e_Limpl_Version t1) u.1 (hn := .nil (zn g)))) ?_
         refine dq 61 rfl (fun _ g u h => LWo.guardY (t := 54) u.2.1 h23 rfl rfl (LWo.move (e_int t5) u.1 (hn := .nil (zn g)))) ?_
         refine dq 62 rfl (fun _ g u h => LWo.guardY (t := 54) u.1 h23 rfl rfl (LWo.indexM (f := e_impl_Version) e25 u_Limpl_Version s_impl_Version u.2.1 u.2.2.1 (hn := .nil (zn g)))) ?_
         refine dq 63 rfl (fun _ g u h => LWo.guardY (t := 54) u.1 h23 rfl rfl (LWo.fieldAddr _ u_impl_Version rfl s_Limpl_Value u.2.1 rfl (hn := .nil (zn g)))) ?_
         refine dq 64 rfl (fun _ g u h => LWo.guardY (t := 54) u.1 h23 rfl rfl (LWo.load1 (c := (e_Limpl_Value x25.Row)) g_Limpl_Value u.2.1 (hn := .nil (zn g)))) ?_
         refine dq 65 rfl (fun _ g u h => LWo.guardY (t := 54) u.1 h23 rfl rfl (LWo.vcall rfl (av2 u.2.1 u.2.2.1) (c_laws_sameRow _ _ _ e26) (.same (.same (.nil))) (hn := .nil (zn g)))) ?_
         refine dq 66 rfl (fun _ g u h => LWo.guardY (t := 54) u.1 h23 rfl rfl (LWo.not u.2.1 (hn := .nil (zn g)))) ?_
         refine dq 67 rfl (fun _ g u h => LWo.pickFM (e_bool (!x26)) u.1 h23 u.2.1 (hn := .nil (zn g))) ?_
         refine ⟨rfl, by kernel_rfl, hN14 (t0, t1, t5, (!x26)) _ ⟨rfl, rfl, rfl, rfl, trivial⟩ trivial h⟩
    ·have h := bF h12 h
     refine LWP.exit (hN6 () _ trivial trivial h)

def m_impl_VersionsOk_j4 (t0 : (List S_impl_Version)) : Option Bool :=
  some (decide ((t0.length : Int) ≤ (60 : Int)))
def m_impl_VersionsOk_j3 (k1 : (List S_impl_Version) → (List S_impl_Version) → Int → Int → Option Bool) (t0 : (List S_impl_Version)) (t6 : (List S_impl_Version)) (t7 : Int) (t8 : Int) : Option Bool :=
  (ckI (t8 + (1 : Int))).bind fun x41 =>
  k1 t0 t6 t7 x41
def m_impl_VersionsOk_j2 (k1 : (List S_impl_Version) → (List S_impl_Version) → Int → Int → Option Bool) (t0 : (List S_impl_Version)) (t6 : (List S_impl_Version)) (t7 : Int) (t8 : Int) (t80 : Bool) : Option Bool :=
  bif t80 then (some false)
  else (m_impl_VersionsOk_j3  k1 t0 t6 t7 t8)
def m_impl_VersionsOk_j1 (k1 : (List S_impl_Version) → (List S_impl_Version) → Int → Int → Option Bool) (t0 : (List S_impl_Version)) (t3 : Int) (t6 : (List S_impl_Version)) (t7 : Int) (t8 : Int) (t42 : Bool) (o4 : S_impl_Version) : Option Bool :=
  bif t42 then (some false)
  else (bif (t3 == (0 : Int)) then (m_impl_VersionsOk_j3  k1 t0 t6 t7 t8)
  else ((ckI (t3 - (1 : Int))).bind fun x31 =>
  (at? t0 x31).bind fun x32 =>
  lt (x32) fun y33 =>
  bif decide (y33.Key > o4.Key) then (m_impl_VersionsOk_j2  k1 t0 t6 t7 t8 true)
  else (bif (y33.Key == o4.Key) then (bif decide (y33.Born ≥ o4.Born) then (m_impl_VersionsOk_j2  k1 t0 t6 t7 t8 true)
    else (bif (y33.Died == (0 : Int)) then (m_impl_VersionsOk_j2  k1 t0 t6 t7 t8 true)
      else (m_impl_VersionsOk_j2  k1 t0 t6 t7 t8 (decide (y33.Died > o4.Born)))))
  else (m_impl_VersionsOk_j2  k1 t0 t6 t7 t8 false))))
def m_impl_VersionsOk_l1 : Nat → (List S_impl_Version) → (List S_impl_Version) → Int → Int → Option Bool
  | 0, _, _, _, _ => none
  | n1 + 1, t0, t6, t7, t8 =>
    bif decide (t8 < t7) then ((at? t6 t8).bind fun x11 =>
    lt (x11) fun y12 =>
    (m_impl_keyOk y12.Key).bind fun x15 =>
    bif (!x15) then (m_impl_VersionsOk_j1  (m_impl_VersionsOk_l1  n1) t0 t8 t6 t7 t8 true y12)
    else ((m_impl_between y12.Born (1 : Int) (40 : Int)).bind fun x17 =>
      bif (!x17) then (m_impl_VersionsOk_j1  (m_impl_VersionsOk_l1  n1) t0 t8 t6 t7 t8 true y12)
      else (bif (y12.Died != (0 : Int)) then ((ckI (y12.Born + (1 : Int))).bind fun x20 =>
          (m_impl_between y12.Died x20 (40 : Int)).bind fun x21 =>
          bif (!x21) then (m_impl_VersionsOk_j1  (m_impl_VersionsOk_l1  n1) t0 t8 t6 t7 t8 true y12)
          else ((m_impl_RowOk y12.Row).bind fun x23 =>
            m_impl_VersionsOk_j1  (m_impl_VersionsOk_l1  n1) t0 t8 t6 t7 t8 (!x23) y12))
        else ((m_impl_RowOk y12.Row).bind fun x24 =>
          m_impl_VersionsOk_j1  (m_impl_VersionsOk_l1  n1) t0 t8 t6 t7 t8 (!x24) y12))))
    else (m_impl_VersionsOk_j4  t0)
def m_impl_VersionsOk (a0 : (List S_impl_Version)) : Option Bool :=
  m_impl_VersionsOk_l1  (((a0.length : Int) - (0 : Int)).toNat + 1) a0 a0 (a0.length : Int) (0 : Int)
theorem c_impl_VersionsOk (a0 : (List S_impl_Version)) (r : Bool) (h : m_impl_VersionsOk a0 = some r) : Ret Try.prog f_impl_VersionsOk [e_Limpl_Version a0] (e_bool r) := by
  refine Does.goG [] F_impl_VersionsOk rfl e_impl_VersionsOk n_impl_VersionsOk rfl (rvs := [.tmp 2]) rfl rfl ?_
  intro w0 ok0 lent ρ0
  refine LWP.seq_k fun N1 hN1 => ?_
  refine LWP.region (l := [_]) ?_
  refine LWo.assign (e_bool false) rfl (hn := ?_)
  refine LWo.nil (hN1 _ ?_)
  refine LWP.join (α := (List S_impl_Version)) (fun z : (List S_impl_Version) => [(0, (e_Limpl_Version z))]) (fun z : (List S_impl_Version) => []) (fun z : (List S_impl_Version) => m_impl_VersionsOk_j4  z) r (fun _ => by simp [hkeys]) ?_ ?_
  ·rintro t0 h
   replace h : m_impl_VersionsOk_j4  t0 = some _ := h
   refine LWP.seq_k fun N42 hN42 => ?_
   refine LWP.region (l := [_,_,_,_]) ?_
   refine LWo.move (e_Limpl_Version t0) rfl (hn := ?_)
   refine LWo.lenM (f := e_impl_Version) (l := t0) u_Limpl_Version rfl (hn := ?_)
   refine LWo.int _ rfl rfl rfl (hn := ?_)
   refine LWo.assign (e_bool (decide ((t0.length : Int) ≤ (60 : Int)))) rfl (hn := ?_)
   refine LWo.nil (hN42 _ ?_)
   obtain rfl := Option.some.inj h
   refine LWP.ret (QG.mk (.inr rfl) (.cons (.tmp (x := (e_bool (decide ((t0.length : Int) ≤ (60 : Int))))) rfl) (.nil)) (RetOK.one0 (.pure rfl) (by decide)) rfl rfl)
  ·intro N2 hN2
   refine LWP.seq_k fun N3 hN3 => ?_
   refine LWP.region (l := [_,_,_]) ?_
   refine LWo.move (e_Limpl_Version a0) rfl (hn := ?_)
   refine LWo.lenM (f := e_impl_Version) (l := a0) u_Limpl_Version rfl (hn := ?_)
   refine LWo.move (e_int (0 : Int)) rfl (hn := ?_)
   refine LWo.nil (hN3 _ ?_)
   refine LWP.block ?_
   refine LWP.loopM (α := (List S_impl_Version) × (List S_impl_Version) × Int × Int) (fun z : (List S_impl_Version) × (List S_impl_Version) × Int × Int => [(0, (e_Limpl_Version z.1)), (6, (e_Limpl_Version z.2.1)), (7, (e_int z.2.2.1)), (8, (e_int z.2.2.2))]) (fun z : (List S_impl_Version) × (List S_impl_Version) × Int × Int => []) (fun n1 (z : (List S_impl_Version) × (List S_impl_Version) × Int × Int) => m_impl_VersionsOk_l1  n1 z.1 z.2.1 z.2.2.1 z.2.2.2) r _ (a0, a0, (a0.length : Int), (0 : Int)) h (fun _ => rfl) (fun _ => by simp [hkeys]) ⟨rfl, rfl, rfl, rfl, trivial⟩ trivial ?_
   rintro n1 ⟨t0, t6, t7, t8⟩ h N4 hN4
   replace h : m_impl_VersionsOk_l1  (n1 + 1) t0 t6 t7 t8 = some _ := h
   refine LWP.seq_k fun N6 hN6 => ?_
   refine LWP.region (l := [_]) ?_
   refine LWo.int _ rfl rfl rfl (hn := ?_)
   refine LWo.nil (hN6 _ ?_)
   refine LWP.seq_k fun N7 hN7 => ?_
   refine LWP.cond_split rfl (fun h8 => ?_) (fun h8 => ?_)
   ·have h := bT h8 h
    refine LWP.skip (hN7 _ ?_)
    refine LWP.join (α := (List S_impl_Version) × (List S_impl_Version) × Int × Int) (fun z : (List S_impl_Version) × (List S_impl_Version) × Int × Int => [(0, (e_Limpl_Version z.1)), (6, (e_Limpl_Version z.2.1)), (7, (e_int z.2.2.1)), (8, (e_int z.2.2.2))]) (fun z : (List S_impl_Version) × (List S_impl_Version) × Int × Int => []) (fun z : (List S_impl_Version) × (List S_impl_Version) × Int × Int => m_impl_VersionsOk_j3  (m_impl_VersionsOk_l1  n1) z.1 z.2.1 z.2.2.1 z.2.2.2) r (fun _ => by simp [hkeys]) ?_ ?_
    ·rintro ⟨t0, t6, t7, t8⟩ h
     replace h : m_impl_VersionsOk_j3  (m_impl_VersionsOk_l1  n1) t0 t6 t7 t8 = some _ := h
     refine LWP.region (l := [_,_]) ?_
     refine bk h fun x41 e41 h => ?_
     refine LWo.int _ rfl rfl (add_ck e41) (hn := ?_)
     refine LWo.move (e_int x41) rfl (hn := ?_)
     refine LWo.nil (hN4 (t0, t6, t7, x41) _ ⟨rfl, rfl, rfl, rfl, trivial⟩ trivial h)
    ·intro N9 hN9
     refine LWP.block ?_
     refine LWP.seq_k fun N10 hN10 => ?_
     refine LWP.region (l := [_,_,_,_,_,_]) ?_
     refine LWo.move (e_int t8) rfl (hn := ?_)
     refine bk h fun x11 e11 h => ?_
     refine LWo.indexM (f := e_impl_Version) e11 u_Limpl_Version s_impl_Version rfl rfl (hn := ?_)
     refine LWo.loadN ((e_impl_Version x11)).cells g_impl_Version s_impl_Version rfl (Nat.le_of_ble_eq_true rfl) rfl (hn := ?_)
     refine LWo.alloc_impl_Version 4 rfl (hn := ?_)
     refine LWo.assign (e_int t8) rfl (hn := ?_)
     refine lk h fun y12 e12 h => ?_
     refine LWo.storeW (y := (⟨(0 : Int), (0 : Int), (0 : Int), []⟩ : S_impl_Version)) y12 s_impl_Version rfl rfl rfl rfl rfl rfl (by rw [e12]; exact .refl) rfl (hn := ?_)
     refine LWo.nil (hN10 _ ?_)
     refine LWP.seq_k fun N13 hN13 => ?_
     refine LWP.join (α := (List S_impl_Version) × Int × (List S_impl_Version) × Int × Int × Bool × S_impl_Version) (fun z : (List S_impl_Version) × Int × (List S_impl_Version) × Int × Int × Bool × S_impl_Version => [(0, (e_Limpl_Version z.1)), (3, (e_int z.2.1)), (4, (.ptr 4 0 0)), (6, (e_Limpl_Version z.2.2.1)), (7, (e_int z.2.2.2.1)), (8, (e_int z.2.2.2.2.1)), (42, (e_bool z.2.2.2.2.2.1))]) (fun z : (List S_impl_Version) × Int × (List S_impl_Version) × Int × Int × Bool × S_impl_Version => [(4, (vob 4 e_impl_Version z.2.2.2.2.2.2))]) (fun z : (List S_impl_Version) × Int × (List S_impl_Version) × Int × Int × Bool × S_impl_Version => m_impl_VersionsOk_j1  (m_impl_VersionsOk_l1  n1) z.1 z.2.1 z.2.2.1 z.2.2.2.1 z.2.2.2.2.1 z.2.2.2.2.2.1 z.2.2.2.2.2.2) r (fun _ => by simp [hkeys]) ?_ ?_
     ·rintro ⟨t0, t3, t6, t7, t8, t42, o4⟩ h
      replace h : m_impl_VersionsOk_j1  (m_impl_VersionsOk_l1  n1) t0 t3 t6 t7 t8 t42 o4 = some _ := h
      refine LWP.cond_split rfl (fun h25 => ?_) (fun h25 => ?_)
      ·have h := bT h25 h
       refine LWP.seq_k fun N26 hN26 => ?_
       refine LWP.region (l := [_]) ?_
       refine LWo.assign (e_bool false) rfl (hn := ?_)
       refine LWo.nil (hN26 _ ?_)
       obtain rfl := Option.some.inj h
       refine LWP.ret (QG.mk (.inr rfl) (.cons (.tmp (x := (e_bool false)) rfl) (.nil)) (RetOK.one0 (.pure rfl) (by decide)) rfl rfl)
      ·have h := bF h25 h
       refine LWP.skip (hN13 _ ?_)
       refine LWP.seq_k fun N27 hN27 => ?_
       refine LWP.seq_k fun N28 hN28 => ?_
       refine LWP.region (l := [_,_]) ?_
       refine LWo.move (e_int t3) rfl (hn := ?_)
       refine LWo.int _ rfl rfl rfl (hn := ?_)
       refine LWo.nil (hN28 _ ?_)
       refine LWP.cond_split rfl (fun h29 => ?_) (fun h29 => ?_)
       ·have h := bT h29 h
        refine LWP.exit (hN9 (t0, t6, t7, t8) _ ⟨rfl, rfl, rfl, rfl, trivial⟩ trivial h)
       ·have h := bF h29 h
        refine LWP.skip (hN27 _ ?_)
        refine LWP.seq_k fun N30 hN30 => ?_
        refine LWP.region (l := [_,_,_,_,_,_,_]) ?_
        refine LWo.move (e_Limpl_Version t0) rfl (hn := ?_)
        refine LWo.move (e_int t3) rfl (hn := ?_)
        refine bk h fun x31 e31 h => ?_
        refine LWo.int _ rfl rfl (sub_ck e31) (hn := ?_)
        refine bk h fun x32 e32 h => ?_
        refine LWo.indexM (f := e_impl_Version) e32 u_Limpl_Version s_impl_Version rfl rfl (hn := ?_)
        refine LWo.loadN ((e_impl_Version x32)).cells g_impl_Version s_impl_Version rfl (Nat.le_of_ble_eq_true rfl) rfl (hn := ?_)
        refine LWo.alloc_impl_Version 5 rfl (hn := ?_)
        refine lk h fun y33 e33 h => ?_
        refine LWo.storeW (y := (⟨(0 : Int), (0 : Int), (0 : Int), []⟩ : S_impl_Version)) y33 s_impl_Version rfl rfl rfl rfl rfl rfl (by rw [e33]; exact .refl) rfl (hn := ?_)
        refine LWo.nil (hN30 _ ?_)
        refine LWP.join (α := (List S_impl_Version) × (List S_impl_Version) × Int × Int × Bool) (fun z : (List S_impl_Version) × (List S_impl_Version) × Int × Int × Bool => [(0, (e_Limpl_Version z.1)), (6, (e_Limpl_Version z.2.1)), (7, (e_int z.2.2.1)), (8, (e_int z.2.2.2.1)), (80, (e_bool z.2.2.2.2))]) (fun z : (List S_impl_Version) × (List S_impl_Version) × Int × Int × Bool => []) (fun z : (List S_impl_Version) × (List S_impl_Version) × Int × Int × Bool => m_impl_VersionsOk_j2  (m_impl_VersionsOk_l1  n1) z.1 z.2.1 z.2.2.1 z.2.2.2.1 z.2.2.2.2) r (fun _ => by simp [hkeys]) ?_ ?_
        ·rintro ⟨t0, t6, t7, t8, t80⟩ h
         replace h : m_impl_VersionsOk_j2  (m_impl_VersionsOk_l1  n1) t0 t6 t7 t8 t80 = some _ := h
         refine LWP.cond_split rfl (fun h39 => ?_) (fun h39 => ?_)
         ·have h := bT h39 h
          refine LWP.seq_k fun N40 hN40 => ?_
          refine LWP.region (l := [_]) ?_
          refine LWo.assign (e_bool false) rfl (hn := ?_)
          refine LWo.nil (hN40 _ ?_)
          obtain rfl := Option.some.inj h
          refine LWP.ret (QG.mk (.inr rfl) (.cons (.tmp (x := (e_bool false)) rfl) (.nil)) (RetOK.one0 (.pure rfl) (by decide)) rfl rfl)
         ·have h := bF h39 h
          refine LWP.skip (hN9 (t0, t6, t7, t8) _ ⟨rfl, rfl, rfl, rfl, trivial⟩ trivial h)
        ·intro N34 hN34
         refine LWP.region (l := [_,_,_,_,_,_,_,_,_,_,_,_,_,_,_,_,_,_,_,_,_,_,_,_,_,_,_,_,_,_,_]) ?_
         refine LWo.fieldPtr u_impl_Version rfl s_int rfl rfl (hn := ?_)
         refine LWo.loadV1 (e_int y33.Key)  g_int rfl rfl rfl (hn := ?_)
         refine LWo.fieldPtr u_impl_Version rfl s_int rfl rfl (hn := ?_)
         refine LWo.loadV1 (e_int o4.Key)  g_int rfl rfl rfl (hn := ?_)
         refine LWo.int _ rfl rfl rfl (hn := ?_)
         refine LWo.move (e_bool (decide (y33.Key > o4.Key))) rfl (hn := ?_)
         refine LWo.byCases (t := 55) _ rfl (fun h35 => ?_) (fun h35 => ?_)
         ·have h := bT h35 h
          refine LWo.guardNU (t := 55) rfl h35 rfl rfl rfl rfl rfl ?_
          refine LWo.guardNU (t := 55) rfl h35 rfl rfl rfl rfl rfl ?_
          refine LWo.guardNU (t := 55) rfl h35 rfl rfl rfl rfl rfl ?_
          refine LWo.guardNU (t := 55) rfl h35 rfl rfl rfl rfl rfl ?_
          refine LWo.guardNU (t := 55) rfl h35 rfl rfl rfl rfl rfl ?_
          refine LWo.guardNU (t := 55) rfl h35 rfl rfl rfl rfl rfl ?_
          refine LWo.guardU (t := 61) rfl rfl rfl rfl rfl ?_
          refine LWo.guardU (t := 61) rfl rfl rfl rfl rfl ?_
          refine LWo.guardU (t := 61) rfl rfl rfl rfl rfl ?_
          refine LWo.guardU (t := 61) rfl rfl rfl rfl rfl ?_
          refine LWo.guardU (t := 61) rfl rfl rfl rfl rfl ?_
          refine LWo.guardU (t := 61) rfl rfl rfl rfl rfl ?_
          refine LWo.guardU (t := 67) rfl rfl rfl rfl rfl ?_
          refine LWo.guardU (t := 67) rfl rfl rfl rfl rfl ?_
          refine LWo.guardU (t := 67) rfl rfl rfl rfl rfl ?_
          refine LWo.guardU (t := 61) rfl rfl rfl rfl rfl ?_
          refine LWo.guardU (t := 61) rfl rfl rfl rfl rfl ?_
          refine LWo.guardU (t := 72) rfl rfl rfl rfl rfl ?_
          refine LWo.guardU (t := 72) rfl rfl rfl rfl rfl ?_
          refine LWo.guardU (t := 72) rfl rfl rfl rfl rfl ?_
          refine LWo.guardU (t := 72) rfl rfl rfl rfl rfl ?_
          refine LWo.guardU (t := 72) rfl rfl rfl rfl rfl ?_
          refine LWo.guardU (t := 61) rfl rfl rfl rfl rfl ?_
          refine LWo.guardNU (t := 55) rfl h35 rfl rfl rfl rfl rfl ?_
          refine LWo.pickTM (e_bool true) rfl h35 rfl (hn := ?_)
          refine LWo.nil (hN34 (t0, t6, t7, t8, true) _ ⟨rfl, rfl, rfl, rfl, rfl, trivial⟩ trivial h)
         ·have h := bF h35 h
          refine LWo.guardY (t := 55) rfl h35 rfl rfl ?_
          refine LWo.fieldPtr u_impl_Version rfl s_int rfl rfl (hn := ?_)
          refine LWo.guardY (t := 55) rfl h35 rfl rfl ?_
          refine LWo.loadV1 (e_int y33.Key)  g_int rfl rfl rfl (hn := ?_)
          refine LWo.guardY (t := 55) rfl h35 rfl rfl ?_
          refine LWo.fieldPtr u_impl_Version rfl s_int rfl rfl (hn := ?_)
          refine LWo.guardY (t := 55) rfl h35 rfl rfl ?_
          refine LWo.loadV1 (e_int o4.Key)  g_int rfl rfl rfl (hn := ?_)
          refine LWo.guardY (t := 55) rfl h35 rfl rfl ?_
          refine LWo.int _ rfl rfl rfl (hn := ?_)
          refine LWo.guardY (t := 55) rfl h35 rfl rfl ?_
          refine LWo.move (e_bool (y33.Key == o4.Key)) rfl (hn := ?_)
          refine LWo.byCases (t := 61) _ rfl (fun h36 => ?_) (fun h36 => ?_)
          ·have h := bT h36 h
           refine LWo.guardY (t := 61) rfl h36 rfl rfl ?_
           refine LWo.fieldPtr u_impl_Version rfl s_int rfl rfl (hn := ?_)
           refine LWo.guardY (t := 61) rfl h36 rfl rfl ?_
           refine LWo.loadV1 (e_int y33.Born)  g_int rfl rfl rfl (hn := ?_)
           refine LWo.guardY (t := 61) rfl h36 rfl rfl ?_
           refine LWo.fieldPtr u_impl_Version rfl s_int rfl rfl (hn := ?_)
           refine LWo.guardY (t := 61) rfl h36 rfl rfl ?_
           refine LWo.loadV1 (e_int o4.Born)  g_int rfl rfl rfl (hn := ?_)
           refine LWo.guardY (t := 61) rfl h36 rfl rfl ?_
           refine LWo.int _ rfl rfl rfl (hn := ?_)
           refine LWo.guardY (t := 61) rfl h36 rfl rfl ?_
           refine LWo.move (e_bool (decide (y33.Born ≥ o4.Born))) rfl (hn := ?_)
           refine LWo.byCases (t := 67) _ rfl (fun h37 => ?_) (fun h37 => ?_)
           ·have h := bT h37 h
            refine LWo.guardNU (t := 67) rfl h37 rfl rfl rfl rfl rfl ?_
            refine LWo.guardNU (t := 67) rfl h37 rfl rfl rfl rfl rfl ?_
            refine LWo.guardNU (t := 67) rfl h37 rfl rfl rfl rfl rfl ?_
            refine LWo.guardY (t := 61) rfl h36 rfl rfl ?_
            refine LWo.pickTM (e_bool true) rfl h37 rfl (hn := ?_)
            refine LWo.guardY (t := 61) rfl h36 rfl rfl ?_
            refine LWo.move (e_bool true) rfl (hn := ?_)
            refine LWo.guardNU (t := 72) rfl rfl rfl rfl rfl rfl rfl ?_
            refine LWo.guardNU (t := 72) rfl rfl rfl rfl rfl rfl rfl ?_
            refine LWo.guardNU (t := 72) rfl rfl rfl rfl rfl rfl rfl ?_
            refine LWo.guardNU (t := 72) rfl rfl rfl rfl rfl rfl rfl ?_
            refine LWo.guardNU (t := 72) rfl rfl rfl rfl rfl rfl rfl ?_
            refine LWo.guardY (t := 61) rfl h36 rfl rfl ?_
            refine LWo.pickTM (e_bool true) rfl rfl rfl (hn := ?_)
            refine LWo.guardY (t := 55) rfl h35 rfl rfl ?_
            refine LWo.pickTM (e_bool true) rfl h36 rfl (hn := ?_)
            refine LWo.pickFM (e_bool true) rfl h35 rfl (hn := ?_)
            refine LWo.nil (hN34 (t0, t6, t7, t8, true) _ ⟨rfl, rfl, rfl, rfl, rfl, trivial⟩ trivial h)
           ·have h := bF h37 h
            refine LWo.guardY (t := 67) rfl h37 rfl rfl ?_
            refine LWo.fieldPtr u_impl_Version rfl s_int rfl rfl (hn := ?_)
            refine LWo.guardY (t := 67) rfl h37 rfl rfl ?_
            refine LWo.loadV1 (e_int y33.Died)  g_int rfl rfl rfl (hn := ?_)
            refine LWo.guardY (t := 67) rfl h37 rfl rfl ?_
            refine LWo.int _ rfl rfl rfl (hn := ?_)
            refine LWo.guardY (t := 61) rfl h36 rfl rfl ?_
            refine LWo.pickFM (e_bool (y33.Died == (0 : Int))) rfl h37 rfl (hn := ?_)
            refine LWo.guardY (t := 61) rfl h36 rfl rfl ?_
            refine LWo.move (e_bool (y33.Died == (0 : Int))) rfl (hn := ?_)
            refine LWo.byCases (t := 72) _ rfl (fun h38 => ?_) (fun h38 => ?_)
            ·have h := bT h38 h
             refine LWo.guardNU (t := 72) rfl h38 rfl rfl rfl rfl rfl ?_
             refine LWo.guardNU (t := 72) rfl h38 rfl rfl rfl rfl rfl ?_
             refine LWo.guardNU (t := 72) rfl h38 rfl rfl rfl rfl rfl ?_
             refine LWo.guardNU (t := 72) rfl h38 rfl rfl rfl rfl rfl ?_
             refine LWo.guardNU (t := 72) rfl h38 rfl rfl rfl rfl rfl ?_
             refine LWo.guardY (t := 61) rfl h36 rfl rfl ?_
             refine LWo.pickTM (e_bool true) rfl h38 rfl (hn := ?_)
             refine LWo.guardY (t := 55) rfl h35 rfl rfl ?_
             refine LWo.pickTM (e_bool true) rfl h36 rfl (hn := ?_)
             refine LWo.pickFM (e_bool true) rfl h35 rfl (hn := ?_)
             refine LWo.nil (hN34 (t0, t6, t7, t8, true) _ ⟨rfl, rfl, rfl, rfl, rfl, trivial⟩ trivial h)
            ·have h := bF h38 h
             refine LWo.guardY (t := 72) rfl h38 rfl rfl ?_
             refine LWo.fieldPtr u_impl_Version rfl s_int rfl rfl (hn := ?_)
             refine LWo.guardY (t := 72) rfl h38 rfl rfl ?_
             refine LWo.loadV1 (e_int y33.Died)  g_int rfl rfl rfl (hn := ?_)
             refine LWo.guardY (t := 72) rfl h38 rfl rfl ?_
             refine LWo.fieldPtr u_impl_Version rfl s_int rfl rfl (hn := ?_)
             refine LWo.guardY (t := 72) rfl h38 rfl rfl ?_
             refine LWo.loadV1 (e_int o4.Born)  g_int rfl rfl rfl (hn := ?_)
             refine LWo.guardY (t := 72) rfl h38 rfl rfl ?_
             refine LWo.int _ rfl rfl rfl (hn := ?_)
             refine LWo.guardY (t := 61) rfl h36 rfl rfl ?_
             refine LWo.pickFM (e_bool (decide (y33.Died > o4.Born))) rfl h38 rfl (hn := ?_)
             refine LWo.guardY (t := 55) rfl h35 rfl rfl ?_
             refine LWo.pickTM (e_bool (decide (y33.Died > o4.Born))) rfl h36 rfl (hn := ?_)
             refine LWo.pickFM (e_bool (decide (y33.Died > o4.Born))) rfl h35 rfl (hn := ?_)
             refine LWo.nil (hN34 (t0, t6, t7, t8, decide (y33.Died > o4.Born)) _ ⟨rfl, rfl, rfl, rfl, rfl, trivial⟩ trivial h)
          ·have h := bF h36 h
           refine LWo.guardNU (t := 61) rfl h36 rfl rfl rfl rfl rfl ?_
           refine LWo.guardNU (t := 61) rfl h36 rfl rfl rfl rfl rfl ?_
           refine LWo.guardNU (t := 61) rfl h36 rfl rfl rfl rfl rfl ?_
           refine LWo.guardNU (t := 61) rfl h36 rfl rfl rfl rfl rfl ?_
           refine LWo.guardNU (t := 61) rfl h36 rfl rfl rfl rfl rfl ?_
           refine LWo.guardNU (t := 61) rfl h36 rfl rfl rfl rfl rfl ?_
           refine LWo.guardU (t := 67) rfl rfl rfl rfl rfl ?_
           refine LWo.guardU (t := 67) rfl rfl rfl rfl rfl ?_
           refine LWo.guardU (t := 67) rfl rfl rfl rfl rfl ?_
           refine LWo.guardNU (t := 61) rfl h36 rfl rfl rfl rfl rfl ?_
           refine LWo.guardNU (t := 61) rfl h36 rfl rfl rfl rfl rfl ?_
           refine LWo.guardU (t := 72) rfl rfl rfl rfl rfl ?_
           refine LWo.guardU (t := 72) rfl rfl rfl rfl rfl ?_
           refine LWo.guardU (t := 72) rfl rfl rfl rfl rfl ?_
           refine LWo.guardU (t := 72) rfl rfl rfl rfl rfl ?_
           refine LWo.guardU (t := 72) rfl rfl rfl rfl rfl ?_
           refine LWo.guardNU (t := 61) rfl h36 rfl rfl rfl rfl rfl ?_
           refine LWo.guardY (t := 55) rfl h35 rfl rfl ?_
           refine LWo.pickFM (e_bool false) rfl h36 rfl (hn := ?_)
           refine LWo.pickFM (e_bool false) rfl h35 rfl (hn := ?_)
           refine LWo.nil (hN34 (t0, t6, t7, t8, false) _ ⟨rfl, rfl, rfl, rfl, rfl, trivial⟩ trivial h)
     ·intro N14 hN14
      refine LWP.region (l := [_,_,_,_,_,_,_,_,_,_,_,_,_,_,_,_,_,_,_,_,_,_,_,_,_,_,_,_,_,_]) ?_
      refine LWo.fieldPtr u_impl_Version rfl s_int rfl rfl (hn := ?_)
      refine LWo.loadV1 (e_int y12.Key)  g_int rfl rfl rfl (hn := ?_)
      refine bk h fun x15 e15 h => ?_
      refine LWo.vcall rfl rfl (c_impl_keyOk _ _ e15) (.same (.nil)) (hn := ?_)
      refine LWo.not rfl (hn := ?_)
      refine LWo.move (e_bool (!x15)) rfl (hn := ?_)
      refine LWo.byCases (t := 17) _ rfl (fun h16 => ?_) (fun h16 => ?_)
      ·have h := bT h16 h
       refine LWo.guardNU (t := 17) rfl h16 rfl rfl rfl rfl rfl ?_
       refine LWo.guardNU (t := 17) rfl h16 rfl rfl rfl rfl rfl ?_
       refine LWo.guardNU (t := 17) rfl h16 rfl rfl rfl rfl rfl ?_
       refine LWo.guardNU (t := 17) rfl h16 rfl rfl rfl rfl rfl ?_
       refine LWo.pickTM (e_bool true) rfl h16 rfl (hn := ?_)
       refine LWo.move (e_bool true) rfl (hn := ?_)
       refine LWo.guardNU (t := 23) rfl rfl rfl rfl rfl rfl rfl ?_
       refine LWo.guardNU (t := 23) rfl rfl rfl rfl rfl rfl rfl ?_
       refine LWo.guardNU (t := 23) rfl rfl rfl rfl rfl rfl rfl ?_
       refine LWo.guardNU (t := 23) rfl rfl rfl rfl rfl rfl rfl ?_
       refine LWo.guardU (t := 27) rfl rfl rfl rfl rfl ?_
       refine LWo.guardU (t := 27) rfl rfl rfl rfl rfl ?_
       refine LWo.guardU (t := 27) rfl rfl rfl rfl rfl ?_
       refine LWo.guardU (t := 27) rfl rfl rfl rfl rfl ?_
       refine LWo.guardU (t := 27) rfl rfl rfl rfl rfl ?_
       refine LWo.guardU (t := 27) rfl rfl rfl rfl rfl ?_
       refine LWo.guardU (t := 27) rfl rfl rfl rfl rfl ?_
       refine LWo.guardNU (t := 23) rfl rfl rfl rfl rfl rfl rfl ?_
       refine LWo.pickTM (e_bool true) rfl rfl rfl (hn := ?_)
       refine LWo.move (e_bool true) rfl (hn := ?_)
       refine LWo.guardNU (t := 37) rfl rfl rfl rfl rfl rfl rfl ?_
       refine LWo.guardNU (t := 37) rfl rfl rfl rfl rfl rfl rfl ?_
       refine LWo.guardNU (t := 37) rfl rfl rfl rfl rfl rfl rfl ?_
       refine LWo.guardNU (t := 37) rfl rfl rfl rfl rfl rfl rfl ?_
       refine LWo.pickTM (e_bool true) rfl rfl rfl (hn := ?_)
       refine LWo.nil (hN14 (t0, t8, t6, t7, t8, true, y12) _ ⟨rfl, rfl, rfl, rfl, rfl, rfl, rfl, trivial⟩ ⟨rfl, trivial⟩ h)
      ·have h := bF h16 h
       refine LWo.guardY (t := 17) rfl h16 rfl rfl ?_
       refine LWo.fieldPtr u_impl_Version rfl s_int rfl rfl (hn := ?_)
       refine LWo.guardY (t := 17) rfl h16 rfl rfl ?_
       refine LWo.loadV1 (e_int y12.Born)  g_int rfl rfl rfl (hn := ?_)
       refine bk h fun x17 e17 h => ?_
       refine LWo.guardY (t := 17) rfl h16 rfl rfl ?_
       refine LWo.vcall rfl rfl (c_impl_between _ _ _ _ e17) (.same (.same (.same (.nil)))) (hn := ?_)
       refine LWo.guardY (t := 17) rfl h16 rfl rfl ?_
       refine LWo.not rfl (hn := ?_)
       refine LWo.pickFM (e_bool (!x17)) rfl h16 rfl (hn := ?_)
       refine LWo.move (e_bool (!x17)) rfl (hn := ?_)
       refine LWo.byCases (t := 23) _ rfl (fun h18 => ?_) (fun h18 => ?_)
       ·have h := bT h18 h
        refine LWo.guardNU (t := 23) rfl h18 rfl rfl rfl rfl rfl ?_
        refine LWo.guardNU (t := 23) rfl h18 rfl rfl rfl rfl rfl ?_
        refine LWo.guardNU (t := 23) rfl h18 rfl rfl rfl rfl rfl ?_
        refine LWo.guardNU (t := 23) rfl h18 rfl rfl rfl rfl rfl ?_
        refine LWo.guardU (t := 27) rfl rfl rfl rfl rfl ?_
        refine LWo.guardU (t := 27) rfl rfl rfl rfl rfl ?_
        refine LWo.guardU (t := 27) rfl rfl rfl rfl rfl ?_
        refine LWo.guardU (t := 27) rfl rfl rfl rfl rfl ?_
        refine LWo.guardU (t := 27) rfl rfl rfl rfl rfl ?_
        refine LWo.guardU (t := 27) rfl rfl rfl rfl rfl ?_
        refine LWo.guardU (t := 27) rfl rfl rfl rfl rfl ?_
        refine LWo.guardNU (t := 23) rfl h18 rfl rfl rfl rfl rfl ?_
        refine LWo.pickTM (e_bool true) rfl h18 rfl (hn := ?_)
        refine LWo.move (e_bool true) rfl (hn := ?_)
        refine LWo.guardNU (t := 37) rfl rfl rfl rfl rfl rfl rfl ?_
        refine LWo.guardNU (t := 37) rfl rfl rfl rfl rfl rfl rfl ?_
        refine LWo.guardNU (t := 37) rfl rfl rfl rfl rfl rfl rfl ?_
        refine LWo.guardNU (t := 37) rfl rfl rfl rfl rfl rfl rfl ?_
        refine LWo.pickTM (e_bool true) rfl rfl rfl (hn := ?_)
        refine LWo.nil (hN14 (t0, t8, t6, t7, t8, true, y12) _ ⟨rfl, rfl, rfl, rfl, rfl, rfl, rfl, trivial⟩ ⟨rfl, trivial⟩ h)
       ·have h := bF h18 h
        refine LWo.guardY (t := 23) rfl h18 rfl rfl ?_
        refine LWo.fieldPtr u_impl_Version rfl s_int rfl rfl (hn := ?_)
        refine LWo.guardY (t := 23) rfl h18 rfl rfl ?_
        refine LWo.loadV1 (e_int y12.Died)  g_int rfl rfl rfl (hn := ?_)
        refine LWo.guardY (t := 23) rfl h18 rfl rfl ?_
        refine LWo.int _ rfl rfl rfl (hn := ?_)
        refine LWo.guardY (t := 23) rfl h18 rfl rfl ?_
        refine LWo.move (e_bool (y12.Died != (0 : Int))) rfl (hn := ?_)
        refine LWo.byCases (t := 27) _ rfl (fun h19 => ?_) (fun h19 => ?_)
        ·have h := bT h19 h
         refine LWo.guardY (t := 27) rfl h19 rfl rfl ?_
         refine LWo.fieldPtr u_impl_Version rfl s_int rfl rfl (hn := ?_)
         refine LWo.guardY (t := 27) rfl h19 rfl rfl ?_
         refine LWo.loadV1 (e_int y12.Died)  g_int rfl rfl rfl (hn := ?_)
         refine LWo.guardY (t := 27) rfl h19 rfl rfl ?_
         refine LWo.fieldPtr u_impl_Version rfl s_int rfl rfl (hn := ?_)
         refine LWo.guardY (t := 27) rfl h19 rfl rfl ?_
         refine LWo.loadV1 (e_int y12.Born)  g_int rfl rfl rfl (hn := ?_)
         refine bk h fun x20 e20 h => ?_
         refine LWo.guardY (t := 27) rfl h19 rfl rfl ?_
         refine LWo.int _ rfl rfl (add_ck e20) (hn := ?_)
         refine bk h fun x21 e21 h => ?_
         refine LWo.guardY (t := 27) rfl h19 rfl rfl ?_
         refine LWo.vcall rfl rfl (c_impl_between _ _ _ _ e21) (.same (.same (.same (.nil)))) (hn := ?_)
         refine LWo.guardY (t := 27) rfl h19 rfl rfl ?_
         refine LWo.not rfl (hn := ?_)
         refine LWo.guardY (t := 23) rfl h18 rfl rfl ?_
         refine LWo.pickTM (e_bool (!x21)) rfl h19 rfl (hn := ?_)
         refine LWo.pickFM (e_bool (!x21)) rfl h18 rfl (hn := ?_)
         refine LWo.move (e_bool (!x21)) rfl (hn := ?_)
         refine LWo.byCases (t := 37) _ rfl (fun h22 => ?_) (fun h22 => ?_)
         ·have h := bT h22 h
          refine LWo.guardNU (t := 37) rfl h22 rfl rfl rfl rfl rfl ?_
          refine LWo.guardNU (t := 37) rfl h22 rfl rfl rfl rfl rfl ?_
          refine LWo.guardNU (t := 37) rfl h22 rfl rfl rfl rfl rfl ?_
          refine LWo.guardNU (t := 37) rfl h22 rfl rfl rfl rfl rfl ?_
          refine LWo.pickTM (e_bool true) rfl h22 rfl (hn := ?_)
          refine LWo.nil (hN14 (t0, t8, t6, t7, t8, true, y12) _ ⟨rfl, rfl, rfl, rfl, rfl, rfl, rfl, trivial⟩ ⟨rfl, trivial⟩ h)
         ·have h := bF h22 h
          refine LWo.guardY (t := 37) rfl h22 rfl rfl ?_
          refine LWo.fieldPtr u_impl_Version rfl s_Limpl_Value rfl rfl (hn := ?_)
          refine LWo.guardY (t := 37) rfl h22 rfl rfl ?_
          refine LWo.loadV1 (e_Limpl_Value y12.Row)  g_Limpl_Value rfl rfl rfl (hn := ?_)
          refine bk h fun x23 e23 h => ?_
          refine LWo.guardY (t := 37) rfl h22 rfl rfl ?_
          refine LWo.vcall rfl rfl (c_impl_RowOk _ _ e23) (.same (.nil)) (hn := ?_)
          refine LWo.guardY (t := 37) rfl h22 rfl rfl ?_
          refine LWo.not rfl (hn := ?_)
          refine LWo.pickFM (e_bool (!x23)) rfl h22 rfl (hn := ?_)
          refine LWo.nil (hN14 (t0, t8, t6, t7, t8, (!x23), y12) _ ⟨rfl, rfl, rfl, rfl, rfl, rfl, rfl, trivial⟩ ⟨rfl, trivial⟩ h)
        ·have h := bF h19 h
         refine LWo.guardNU (t := 27) rfl h19 rfl rfl rfl rfl rfl ?_
         refine LWo.guardNU (t := 27) rfl h19 rfl rfl rfl rfl rfl ?_
         refine LWo.guardNU (t := 27) rfl h19 rfl rfl rfl rfl rfl ?_
         refine LWo.guardNU (t := 27) rfl h19 rfl rfl rfl rfl rfl ?_
         refine LWo.guardNU (t := 27) rfl h19 rfl rfl rfl rfl rfl ?_
         refine LWo.guardNU (t := 27) rfl h19 rfl rfl rfl rfl rfl ?_
         refine LWo.guardNU (t := 27) rfl h19 rfl rfl rfl rfl rfl ?_
         refine LWo.guardY (t := 23) rfl h18 rfl rfl ?_
         refine LWo.pickFM (e_bool false) rfl h19 rfl (hn := ?_)
         refine LWo.pickFM (e_bool false) rfl h18 rfl (hn := ?_)
         refine LWo.move (e_bool false) rfl (hn := ?_)
         refine LWo.guardY (t := 37) rfl rfl rfl rfl ?_
         refine LWo.fieldPtr u_impl_Version rfl s_Limpl_Value rfl rfl (hn := ?_)
         refine LWo.guardY (t := 37) rfl rfl rfl rfl ?_
         refine LWo.loadV1 (e_Limpl_Value y12.Row)  g_Limpl_Value rfl rfl rfl (hn := ?_)
         refine bk h fun x24 e24 h => ?_
         refine LWo.guardY (t := 37) rfl rfl rfl rfl ?_
         refine LWo.vcall rfl rfl (c_impl_RowOk _ _ e24) (.same (.nil)) (hn := ?_)
         refine LWo.guardY (t := 37) rfl rfl rfl rfl ?_
         refine LWo.not rfl (hn := ?_)
         refine LWo.pickFM (e_bool (!x24)) rfl rfl rfl (hn := ?_)
         refine LWo.nil (hN14 (t0, t8, t6, t7, t8, (!x24), y12) _ ⟨rfl, rfl, rfl, rfl, rfl, rfl, rfl, trivial⟩ ⟨rfl, trivial⟩ h)
   ·have h := bF h8 h
    refine LWP.exit (hN2 t0 _ ⟨rfl, trivial⟩ trivial h)
end Go.Proofs.Ytijihchddhikhaa
