/- Mirrors of functions, and that the functions return what the mirrors say. -/
import Derived.Test.YtijihchddhikhaaXW4
set_option linter.unusedVariables false
set_option linter.unusedSimpArgs false
set_option linter.unnecessarySimpa false
namespace Go.Proofs.Ytijihchddhikhaa
open Go.Proofs Go.Lift Go.RowKit
def m_spec_l32Copy_j1 (o1006 : (List S_impl_Tally)) : Option (List S_impl_Tally) :=
  some o1006
def m_spec_l32Copy_l1 : Nat → (List S_impl_Tally) → Int → (List S_impl_Tally) → Option (List S_impl_Tally)
  | 0, _, _, _ => none
  | n1 + 1, t0, t4, o1006 =>
    bif decide (t4 < (t0.length : Int)) then ((at? t0 t4).bind fun x12 =>
    lt (x12) fun y13 =>
    (m_spec_l3Own y13.Key).bind fun x15 =>
    lt ({ y13 with Key := x15 }) fun y16 =>
    (app? o1006 ([y16] : (List S_impl_Tally))).bind fun x17 =>
    (ckI (t4 + (1 : Int))).bind fun x18 =>
    (m_spec_l32Copy_l1  n1) t0 x18 x17)
    else (m_spec_l32Copy_j1  o1006)
def m_spec_l32Copy (a0 : (List S_impl_Tally)) : Option (List S_impl_Tally) :=
  m_spec_l32Copy_l1  (((a0.length : Int) - (0 : Int)).toNat + 1) a0 (0 : Int) ([] : (List S_impl_Tally))
theorem c_spec_l32Copy (a0 : (List S_impl_Tally)) (r : (List S_impl_Tally)) (h : m_spec_l32Copy a0 = some r) : Ret Try.prog f_spec_l32Copy [e_Limpl_Tally a0] (.nw 4 (r.map e_impl_Tally) false) := by
  refine Does.goG [] F_spec_l32Copy rfl e_spec_l32Copy n_spec_l32Copy rfl (rvs := [.tmp 2]) rfl rfl ?_
  intro w0 ok0 lent ρ0
  refine LWP.seq_k fun N1 hN1 => ?_
  refine LWP.region (l := [_]) ?_
  refine LWo.assign _ rfl (hn := ?_)
  refine LWo.ownNil 2 1002 4 rfl rfl rfl ?_
  refine LWo.known 2 (.own 1002 0 ([] : (List S_impl_Tally)).length) rfl ?_
  refine LWo.nil (hN1 _ ?_)
  refine LWP.seq_k fun N2 hN2 => ?_
  refine LWP.region (l := [_,_]) ?_
  refine LWo.lit0 1006 u_Limpl_Tally s_impl_Tally z_impl_Tally (hn := ?_)
  refine LWo.known 6 (.own 1006 0 ([] : (List S_impl_Tally)).length) rfl ?_
  refine LWo.assign (.own 1006 0 (([] : (List S_impl_Tally))).length) rfl (hn := ?_)
  refine LWo.nil (hN2 _ ?_)
  refine LWP.join (α := (List S_impl_Tally)) (fun z : (List S_impl_Tally) => [(3, (.own 1006 0 (z).length))]) (fun z : (List S_impl_Tally) => [(1006, (lob 4 e_impl_Tally z))]) (fun z : (List S_impl_Tally) => m_spec_l32Copy_j1  z) r (fun _ => by simp [hkeys]) ?_ ?_
  ·rintro o1006 h
   replace h : m_spec_l32Copy_j1  o1006 = some _ := h
   refine LWP.seq_k fun N19 hN19 => ?_
   refine LWP.region (l := [_,_]) ?_
   refine LWo.move (.own 1006 0 (o1006).length) rfl (hn := ?_)
   refine LWo.assign (.own 1006 0 (o1006).length) rfl (hn := ?_)
   refine LWo.nil (hN19 _ ?_)
   obtain rfl := Option.some.inj h
   refine LWP.ret (QG.mk (.inr rfl) (.cons (.tmp (x := (.own 1006 0 (o1006).length)) rfl) (.nil)) (RetOK.one0 (.nwM rfl rfl) (by decide)) rfl rfl)
  ·intro N3 hN3
   refine LWP.seq_k fun N4 hN4 => ?_
   refine LWP.region (l := [_]) ?_
   refine LWo.assign (e_int (0 : Int)) rfl (hn := ?_)
   refine LWo.nil (hN4 _ ?_)
   refine LWP.block ?_
   refine LWP.loopM (α := (List S_impl_Tally) × Int × (List S_impl_Tally)) (fun z : (List S_impl_Tally) × Int × (List S_impl_Tally) => [(0, (e_Limpl_Tally z.1)), (3, (.own 1006 0 (z.2.2).length)), (4, (e_int z.2.1))]) (fun z : (List S_impl_Tally) × Int × (List S_impl_Tally) => [(1006, (lob 4 e_impl_Tally z.2.2))]) (fun n1 (z : (List S_impl_Tally) × Int × (List S_impl_Tally)) => m_spec_l32Copy_l1  n1 z.1 z.2.1 z.2.2) r _ (a0, (0 : Int), ([] : (List S_impl_Tally))) h (fun _ => rfl) (fun _ => by simp [hkeys]) ⟨rfl, rfl, rfl, trivial⟩ ⟨rfl, trivial⟩ ?_
   rintro n1 ⟨t0, t4, o1006⟩ h N5 hN5
   replace h : m_spec_l32Copy_l1  (n1 + 1) t0 t4 o1006 = some _ := h
   refine LWP.seq_k fun N7 hN7 => ?_
   refine LWP.seq_k fun N8 hN8 => ?_
   refine LWP.region (l := [_,_,_,_]) ?_
   refine LWo.move (e_int t4) rfl (hn := ?_)
   refine LWo.move (e_Limpl_Tally t0) rfl (hn := ?_)
   refine LWo.lenM (f := e_impl_Tally) (l := t0) u_Limpl_Tally rfl (hn := ?_)
   refine LWo.int _ rfl rfl rfl (hn := ?_)
   refine LWo.nil (hN8 _ ?_)
   refine LWP.cond_split rfl (fun h9 => ?_) (fun h9 => ?_)
   ·have h := bT h9 h
    refine LWP.skip (hN7 _ ?_)
    refine LWP.seq_k fun N10 hN10 => ?_
    refine LWP.block ?_
    refine LWP.seq_k fun N11 hN11 => ?_
    refine LWP.region (l := [_,_,_,_,_,_]) ?_
    refine LWo.move (e_Limpl_Tally t0) rfl (hn := ?_)
    refine LWo.move (e_int t4) rfl (hn := ?_)
    refine bk h fun x12 e12 h => ?_
    refine LWo.indexM (f := e_impl_Tally) e12 u_Limpl_Tally s_impl_Tally rfl rfl (hn := ?_)
    refine LWo.loadN ((e_impl_Tally x12)).cells g_impl_Tally s_impl_Tally rfl (Nat.le_of_ble_eq_true rfl) rfl (hn := ?_)
    refine LWo.alloc_impl_Tally 5 rfl (hn := ?_)
    refine lk h fun y13 e13 h => ?_
    refine LWo.storeW (y := (⟨[], (0 : Int), (0 : Int), (0 : Int)⟩ : S_impl_Tally)) y13 s_impl_Tally rfl rfl rfl rfl rfl rfl (by rw [e13]; exact .refl) rfl (hn := ?_)
    refine LWo.nil (hN11 _ ?_)
    refine LWP.seq_k fun N14 hN14 => ?_
    refine LWP.region (l := [_,_,_,_,_]) ?_
    refine LWo.fieldPtr u_impl_Tally rfl s_Limpl_Value rfl rfl (hn := ?_)
    refine LWo.loadV1 (e_Limpl_Value y13.Key)  g_Limpl_Value rfl rfl rfl (hn := ?_)
    refine bk h fun x15 e15 h => ?_
    refine LWo.vcall rfl rfl (c_spec_l3Own _ _ e15) (.same (.nil)) (hn := ?_)
    refine LWo.fieldPtr u_impl_Tally rfl s_Limpl_Value rfl rfl (hn := ?_)
    refine lk h fun y16 e16 h => ?_
    refine LWo.storeW (y := y13) y16 s_Limpl_Value rfl rfl rfl rfl rfl rfl (by rw [e16]; exact .refl) rfl (hn := ?_)
    refine LWo.nil (hN14 _ ?_)
    refine LWP.region (l := [_,_,_,_,_]) ?_
    refine LWo.move (.own 1006 0 (o1006).length) rfl (hn := ?_)
    refine LWo.loadVN ((e_impl_Tally y16)).cells  g_impl_Tally s_impl_Tally rfl rfl rfl rfl (hn := ?_)
    refine LWo.lit (ops := [_]) [(e_impl_Tally y16)] u_Limpl_Tally s_impl_Tally z_impl_Tally rfl rfl rfl rfl rfl rfl (hn := ?_)
    refine bk h fun x17 e17 h => ?_
    refine LWo.appendM (f := e_impl_Tally) e17 rfl u_Limpl_Tally u_Limpl_Tally (fun _ h => by cases h) s_impl_Tally i_impl_Tally rfl rfl rfl (.sl rfl) rfl rfl (hn := ?_)
    refine LWo.assign (.own 1006 0 (x17).length) rfl (hn := ?_)
    refine LWo.nil (hN10 _ ?_)
    refine LWP.region (l := [_,_,_]) ?_
    refine LWo.move (e_int t4) rfl (hn := ?_)
    refine bk h fun x18 e18 h => ?_
    refine LWo.int _ rfl rfl (add_ck e18) (hn := ?_)
    refine LWo.assign (e_int x18) rfl (hn := ?_)
    refine LWo.nil (hN5 (t0, x18, x17) _ ⟨rfl, rfl, rfl, trivial⟩ ⟨rfl, trivial⟩ h)
   ·have h := bF h9 h
    refine LWP.exit (hN3 o1006 _ ⟨rfl, trivial⟩ ⟨rfl, trivial⟩ h)

def m_spec_TalliesTurned_j2 (o1014 : (List S_impl_Tally)) : Option ((List S_impl_Tally) × Bool) :=
  some (o1014, true)
def m_spec_TalliesTurned_j1 (k1 : (List S_impl_Delta) → Int → (List S_impl_Tally) → Option ((List S_impl_Tally) × Bool)) (t1 : (List S_impl_Delta)) (t7 : Int) (t39 : Bool) (o8 : S_impl_Delta) (o1014 : (List S_impl_Tally)) : Option ((List S_impl_Tally) × Bool) :=
  bif t39 then (some (([] : (List S_impl_Tally)), false))
  else ((at? o8.Row (0 : Int)).bind fun x29 =>
  (at? o8.Row (1 : Int)).bind fun x30 =>
  (m_spec_l32Turn o1014 x29 x30 o8.Many).bind fun x31 =>
  (m_spec_TalliesOk x31).bind fun x33 =>
  bif (!x33) then (some (([] : (List S_impl_Tally)), false))
  else ((ckI (t7 + (1 : Int))).bind fun x36 =>
  k1 t1 x36 x31))
def m_spec_TalliesTurned_l1 : Nat → (List S_impl_Delta) → Int → (List S_impl_Tally) → Option ((List S_impl_Tally) × Bool)
  | 0, _, _, _ => none
  | n1 + 1, t1, t7, o1014 =>
    bif decide (t7 < (t1.length : Int)) then ((at? t1 t7).bind fun x18 =>
    lt (x18) fun y19 =>
    (m_spec_l32Row y19.Row).bind fun x22 =>
    bif (!x22) then (m_spec_TalliesTurned_j1  (m_spec_TalliesTurned_l1  n1) t1 t7 true y19 o1014)
    else (bif (y19.Many == (0 : Int)) then (m_spec_TalliesTurned_j1  (m_spec_TalliesTurned_l1  n1) t1 t7 true y19 o1014)
      else ((m_spec_l1In y19.Many (-100 : Int) (100 : Int)).bind fun x25 =>
        m_spec_TalliesTurned_j1  (m_spec_TalliesTurned_l1  n1) t1 t7 (!x25) y19 o1014)))
    else (m_spec_TalliesTurned_j2  o1014)
def m_spec_TalliesTurned (a0 : (List S_impl_Tally)) (a1 : (List S_impl_Delta)) : Option ((List S_impl_Tally) × Bool) :=
  (m_spec_TalliesOk a0).bind fun x4 =>
  bif (!x4) then (some (([] : (List S_impl_Tally)), false))
  else ((m_spec_l32Copy a0).bind fun x8 =>
  m_spec_TalliesTurned_l1  (((a1.length : Int) - (0 : Int)).toNat + 1) a1 (0 : Int) x8)
theorem c_spec_TalliesTurned (a0 : (List S_impl_Tally)) (a1 : (List S_impl_Delta)) (r : ((List S_impl_Tally) × Bool)) (h : m_spec_TalliesTurned a0 a1 = some r) : Ret Try.prog f_spec_TalliesTurned [e_Limpl_Tally a0, e_Limpl_Delta a1] (.tup [.nw 4 (r.1.map e_impl_Tally) false, e_bool r.2]) := by
  refine Does.goG [] F_spec_TalliesTurned rfl e_spec_TalliesTurned n_spec_TalliesTurned rfl (rvs := [.tmp 4, .tmp 5]) rfl rfl ?_
  intro w0 ok0 lent ρ0
  refine LWP.seq_k fun N1 hN1 => ?_
  refine LWP.region (l := [_,_]) ?_
  refine LWo.assign _ rfl (hn := ?_)
  refine LWo.ownNil 4 1004 4 rfl rfl rfl ?_
  refine LWo.known 4 (.own 1004 0 ([] : (List S_impl_Tally)).length) rfl ?_
  refine LWo.assign (e_bool false) rfl (hn := ?_)
  refine LWo.nil (hN1 _ ?_)
  refine LWP.seq_k fun N2 hN2 => ?_
  refine LWP.seq_k fun N3 hN3 => ?_
  refine LWP.region (l := [_,_,_]) ?_
  refine LWo.move (e_Limpl_Tally a0) rfl (hn := ?_)
  refine bk h fun x4 e4 h => ?_
  refine LWo.vcall rfl rfl (c_spec_TalliesOk _ _ e4) (.same (.nil)) (hn := ?_)
  refine LWo.not rfl (hn := ?_)
  refine LWo.nil (hN3 _ ?_)
  refine LWP.cond_split rfl (fun h5 => ?_) (fun h5 => ?_)
  ·have h := bT h5 h
   refine LWP.seq_k fun N6 hN6 => ?_
   refine LWP.region (l := [_,_,_]) ?_
   refine LWo.lit0 1012 u_Limpl_Tally s_impl_Tally z_impl_Tally (hn := ?_)
   refine LWo.known 12 (.own 1012 0 ([] : (List S_impl_Tally)).length) rfl ?_
   refine LWo.assign (.own 1012 0 (([] : (List S_impl_Tally))).length) rfl (hn := ?_)
   refine LWo.assign (e_bool false) rfl (hn := ?_)
   refine LWo.nil (hN6 _ ?_)
   obtain rfl := Option.some.inj h
   refine LWP.ret (QG.mk (.inr rfl) (.cons (.tmp (x := (.own 1012 0 (([] : (List S_impl_Tally))).length)) rfl) (.cons (.tmp (x := (e_bool false)) rfl) (.nil))) (RetOK.many0 (.cons (.nwM rfl rfl) (.cons (.pure rfl) (.nil))) (by simp) (by decide)) rfl rfl)
  ·have h := bF h5 h
   refine LWP.skip (hN2 _ ?_)
   refine LWP.seq_k fun N7 hN7 => ?_
   refine LWP.region (l := [_,_,_]) ?_
   refine LWo.move (e_Limpl_Tally a0) rfl (hn := ?_)
   refine bk h fun x8 e8 h => ?_
   refine LWo.ncall (e := e_impl_Tally) 1014 rfl rfl (c_spec_l32Copy _ _ e8) (.same (.nil)) rfl (hn := ?_)
   refine LWo.assign (.own 1014 0 (x8).length) rfl (hn := ?_)
   refine LWo.nil (hN7 _ ?_)
   refine LWP.join (α := (List S_impl_Tally)) (fun z : (List S_impl_Tally) => [(6, (.own 1014 0 (z).length))]) (fun z : (List S_impl_Tally) => [(1014, (lob 4 e_impl_Tally z))]) (fun z : (List S_impl_Tally) => m_spec_TalliesTurned_j2  z) r (fun _ => by simp [hkeys]) ?_ ?_
   ·rintro o1014 h
    replace h : m_spec_TalliesTurned_j2  o1014 = some _ := h
    refine LWP.seq_k fun N37 hN37 => ?_
    refine LWP.region (l := [_,_,_]) ?_
    refine LWo.move (.own 1014 0 (o1014).length) rfl (hn := ?_)
    refine LWo.assign (.own 1014 0 (o1014).length) rfl (hn := ?_)
    refine LWo.assign (e_bool true) rfl (hn := ?_)
    refine LWo.nil (hN37 _ ?_)
    obtain rfl := Option.some.inj h
    refine LWP.ret (QG.mk (.inr rfl) (.cons (.tmp (x := (.own 1014 0 (o1014).length)) rfl) (.cons (.tmp (x := (e_bool true)) rfl) (.nil))) (RetOK.many0 (.cons (.nwM rfl rfl) (.cons (.pure rfl) (.nil))) (by simp) (by decide)) rfl rfl)
   ·intro N9 hN9
    refine LWP.seq_k fun N10 hN10 => ?_
    refine LWP.region (l := [_]) ?_
    refine LWo.assign (e_int (0 : Int)) rfl (hn := ?_)
    refine LWo.nil (hN10 _ ?_)
    refine LWP.block ?_
    refine LWP.loopM (α := (List S_impl_Delta) × Int × (List S_impl_Tally)) (fun z : (List S_impl_Delta) × Int × (List S_impl_Tally) => [(1, (e_Limpl_Delta z.1)), (6, (.own 1014 0 (z.2.2).length)), (7, (e_int z.2.1))]) (fun z : (List S_impl_Delta) × Int × (List S_impl_Tally) => [(1014, (lob 4 e_impl_Tally z.2.2))]) (fun n1 (z : (List S_impl_Delta) × Int × (List S_impl_Tally)) => m_spec_TalliesTurned_l1  n1 z.1 z.2.1 z.2.2) r _ (a1, (0 : Int), x8) h (fun _ => rfl) (fun _ => by simp [hkeys]) ⟨rfl, rfl, rfl, trivial⟩ ⟨rfl, trivial⟩ ?_
    rintro n1 ⟨t1, t7, o1014⟩ h N11 hN11
    replace h : m_spec_TalliesTurned_l1  (n1 + 1) t1 t7 o1014 = some _ := h
    refine LWP.seq_k fun N13 hN13 => ?_
    refine LWP.seq_k fun N14 hN14 => ?_
    refine LWP.region (l := [_,_,_,_]) ?_
    refine LWo.move (e_int t7) rfl (hn := ?_)
    refine LWo.move (e_Limpl_Delta t1) rfl (hn := ?_)
    refine LWo.lenM (f := e_impl_Delta) (l := t1) u_Limpl_Delta rfl (hn := ?_)
    refine LWo.int _ rfl rfl rfl (hn := ?_)
    refine LWo.nil (hN14 _ ?_)
    refine LWP.cond_split rfl (fun h15 => ?_) (fun h15 => ?_)
    ·have h := bT h15 h
     refine LWP.skip (hN13 _ ?_)
     refine LWP.seq_k fun N16 hN16 => ?_
     refine LWP.block ?_
     refine LWP.seq_k fun N17 hN17 => ?_
     refine LWP.region (l := [_,_,_,_,_,_]) ?_
     refine LWo.move (e_Limpl_Delta t1) rfl (hn := ?_)
     refine LWo.move (e_int t7) rfl (hn := ?_)
     refine bk h fun x18 e18 h => ?_
     refine LWo.indexM (f := e_impl_Delta) e18 u_Limpl_Delta s_impl_Delta rfl rfl (hn := ?_)
     refine LWo.loadN ((e_impl_Delta x18)).cells g_impl_Delta s_impl_Delta rfl (Nat.le_of_ble_eq_true rfl) rfl (hn := ?_)
     refine LWo.alloc_impl_Delta 8 rfl (hn := ?_)
     refine lk h fun y19 e19 h => ?_
     refine LWo.storeW (y := (⟨[], (0 : Int)⟩ : S_impl_Delta)) y19 s_impl_Delta rfl rfl rfl rfl rfl rfl (by rw [e19]; exact .refl) rfl (hn := ?_)
     refine LWo.nil (hN17 _ ?_)
     refine LWP.seq_k fun N20 hN20 => ?_
     refine LWP.join (α := (List S_impl_Delta) × Int × Bool × S_impl_Delta × (List S_impl_Tally)) (fun z : (List S_impl_Delta) × Int × Bool × S_impl_Delta × (List S_impl_Tally) => [(1, (e_Limpl_Delta z.1)), (6, (.own 1014 0 (z.2.2.2.2).length)), (7, (e_int z.2.1)), (8, (.ptr 8 0 0)), (39, (e_bool z.2.2.1))]) (fun z : (List S_impl_Delta) × Int × Bool × S_impl_Delta × (List S_impl_Tally) => [(8, (vob 2 e_impl_Delta z.2.2.2.1)), (1014, (lob 4 e_impl_Tally z.2.2.2.2))]) (fun z : (List S_impl_Delta) × Int × Bool × S_impl_Delta × (List S_impl_Tally) => m_spec_TalliesTurned_j1  (m_spec_TalliesTurned_l1  n1) z.1 z.2.1 z.2.2.1 z.2.2.2.1 z.2.2.2.2) r (fun _ => by simp [hkeys]) ?_ ?_
     ·rintro ⟨t1, t7, t39, o8, o1014⟩ h
      replace h : m_spec_TalliesTurned_j1  (m_spec_TalliesTurned_l1  n1) t1 t7 t39 o8 o1014 = some _ := h
      refine LWP.cond_split rfl (fun h26 => ?_) (fun h26 => ?_)
      ·have h := bT h26 h
       refine LWP.seq_k fun N27 hN27 => ?_
       refine LWP.region (l := [_,_,_]) ?_
       refine LWo.lit0 1040 u_Limpl_Tally s_impl_Tally z_impl_Tally (hn := ?_)
       refine LWo.known 40 (.own 1040 0 ([] : (List S_impl_Tally)).length) rfl ?_
       refine LWo.assign (.own 1040 0 (([] : (List S_impl_Tally))).length) rfl (hn := ?_)
       refine LWo.assign (e_bool false) rfl (hn := ?_)
       refine LWo.nil (hN27 _ ?_)
       obtain rfl := Option.some.inj h
       refine LWP.ret (QG.mk (.inr rfl) (.cons (.tmp (x := (.own 1040 0 (([] : (List S_impl_Tally))).length)) rfl) (.cons (.tmp (x := (e_bool false)) rfl) (.nil))) (RetOK.many0 (.cons (.nwM rfl rfl) (.cons (.pure rfl) (.nil))) (by simp) (by decide)) rfl rfl)
      ·have h := bF h26 h
       refine LWP.skip (hN20 _ ?_)
       refine LWP.seq_k fun N28 hN28 => ?_
       refine LWP.frzL (f := e_impl_Tally) (l := o1014) [6] 1014 rfl rfl ⟨rfl, trivial⟩ ?_
       refine bk h fun x29 e29 h => ?_
       refine bk h fun x30 e30 h => ?_
       refine bk h fun x31 e31 h => ?_
       refine LWP.drawF (l := [_,_,_,_,_,_,_,_,_,_,_,_,_]) [1052] [1, 6, 7, 8] [([6], []), ([8], []), ([42], [8]), ([43], []), ([44], []), ([8], []), ([46], [8]), ([47], []), ([48], []), ([8], []), ([50], [8]), ([41, 45, 49, 51], []), ([52], [])] [1, 6, 7] [1052] mixed (by kernel_rfl) rfl (by decide) ?_
       refine dq 41 rfl (fun _ g u h => LWo.move (e_Limpl_Tally o1014) u.1 (hn := .nil (zn g))) ?_
       refine dq 42 rfl (fun _ g u h => LWo.fieldPtr u_impl_Delta rfl s_Limpl_Value u.1 rfl (hn := .nil (zn g))) ?_
       refine dq 43 rfl (fun _ g u h => LWo.loadV1 (e_Limpl_Value o8.Row)  g_Limpl_Value u.1 h.1 rfl (hn := .nil (zn g))) ?_
       refine dq 44 rfl (fun _ g u h => LWo.indexM (f := e_impl_Value) e29 u_Limpl_Value s_impl_Value u.1 rfl (hn := .nil (zn g))) ?_
       refine dq 45 rfl (fun _ g u h => LWo.loadN ((e_impl_Value x29)).cells g_impl_Value s_impl_Value u.1 (Nat.le_of_ble_eq_true rfl) rfl (hn := .nil (zn g))) ?_
       refine dq 46 rfl (fun _ g u h => LWo.fieldPtr u_impl_Delta rfl s_Limpl_Value u.1 rfl (hn := .nil (zn g))) ?_
       refine dq 47 rfl (fun _ g u h => LWo.loadV1 (e_Limpl_Value o8.Row)  g_Limpl_Value u.1 h.1 rfl (hn := .nil (zn g))) ?_
       refine dq 48 rfl (fun _ g u h => LWo.indexM (f := e_impl_Value) e30 u_Limpl_Value s_impl_Value u.1 rfl (hn := .nil (zn g))) ?_
       refine dq 49 rfl (fun _ g u h => LWo.loadN ((e_impl_Value x30)).cells g_impl_Value s_impl_Value u.1 (Nat.le_of_ble_eq_true rfl) rfl (hn := .nil (zn g))) ?_
       refine dq 50 rfl (fun _ g u h => LWo.fieldPtr u_impl_Delta rfl s_int u.1 rfl (hn := .nil (zn g))) ?_
       refine dq 51 rfl (fun _ g u h => LWo.loadV1 (e_int o8.Many)  g_int u.1 h.1 rfl (hn := .nil (zn g))) ?_
       refine ⟨rfl, .make 52 _ 1052 _, (by exact (goodC rfl goodN)), fun _ g u h => LWo.ncall (e := e_impl_Tally) 1052 rfl (av4 u.1 u.2.1 u.2.2.1 u.2.2.2.1) (c_spec_l32Turn _ _ _ _ _ e31) (.same (.same (.same (.same (.nil))))) (lone_of g rfl) (hn := LWo.nil ⟨rfl, .inl rfl, Ef.good_ok (e := .make 52 _ 1052 _) (by exact (goodC rfl goodN)) g⟩), ?_⟩
       refine dq 6 rfl (fun _ g u h => LWo.assign (.own 1052 0 (x31).length) u.1 (hn := .nil (zn g))) ?_
       refine ⟨rfl, by kernel_rfl, hN28 _ ?_⟩
       refine LWP.seq_k fun N32 hN32 => ?_
       refine LWP.region (l := [_,_,_]) ?_
       refine LWo.move (.own 1052 0 (x31).length) rfl (hn := ?_)
       refine bk h fun x33 e33 h => ?_
       refine LWo.wcall rfl rfl (c_spec_TalliesOk _ _ e33) (.viewM rfl rfl rfl (.nil)) rfl (hn := ?_)
       refine LWo.not rfl (hn := ?_)
       refine LWo.nil (hN32 _ ?_)
       refine LWP.cond_split rfl (fun h34 => ?_) (fun h34 => ?_)
       ·have h := bT h34 h
        refine LWP.seq_k fun N35 hN35 => ?_
        refine LWP.region (l := [_,_,_]) ?_
        refine LWo.lit0 1056 u_Limpl_Tally s_impl_Tally z_impl_Tally (hn := ?_)
        refine LWo.known 56 (.own 1056 0 ([] : (List S_impl_Tally)).length) rfl ?_
        refine LWo.assign (.own 1056 0 (([] : (List S_impl_Tally))).length) rfl (hn := ?_)
        refine LWo.assign (e_bool false) rfl (hn := ?_)
        refine LWo.nil (hN35 _ ?_)
        obtain rfl := Option.some.inj h
        refine LWP.ret (QG.mk (.inr rfl) (.cons (.tmp (x := (.own 1056 0 (([] : (List S_impl_Tally))).length)) rfl) (.cons (.tmp (x := (e_bool false)) rfl) (.nil))) (RetOK.many0 (.cons (.nwM rfl rfl) (.cons (.pure rfl) (.nil))) (by simp) (by decide)) rfl rfl)
       ·have h := bF h34 h
        refine LWP.skip (hN16 _ ?_)
        refine LWP.region (l := [_,_,_]) ?_
        refine LWo.move (e_int t7) rfl (hn := ?_)
        refine bk h fun x36 e36 h => ?_
        refine LWo.int _ rfl rfl (add_ck e36) (hn := ?_)
        refine LWo.assign (e_int x36) rfl (hn := ?_)
        refine LWo.rekey 6 1052 1014 rfl rfl rfl rfl rfl rfl ?_
        refine LWo.nil (hN11 (t1, x36, x31) _ ⟨rfl, rfl, rfl, trivial⟩ ⟨rfl, trivial⟩ h)
     ·intro N21 hN21
      refine LWP.region (l := [_,_,_,_,_,_,_,_,_,_,_,_,_,_,_]) ?_
      refine LWo.fieldPtr u_impl_Delta rfl s_Limpl_Value rfl rfl (hn := ?_)
      refine LWo.loadV1 (e_Limpl_Value y19.Row)  g_Limpl_Value rfl rfl rfl (hn := ?_)
      refine bk h fun x22 e22 h => ?_
      refine LWo.vcall rfl rfl (c_spec_l32Row _ _ e22) (.same (.nil)) (hn := ?_)
      refine LWo.not rfl (hn := ?_)
      refine LWo.move (e_bool (!x22)) rfl (hn := ?_)
      refine LWo.byCases (t := 29) _ rfl (fun h23 => ?_) (fun h23 => ?_)
      ·have h := bT h23 h
       refine LWo.guardNU (t := 29) rfl h23 rfl rfl rfl rfl rfl ?_
       refine LWo.guardNU (t := 29) rfl h23 rfl rfl rfl rfl rfl ?_
       refine LWo.guardNU (t := 29) rfl h23 rfl rfl rfl rfl rfl ?_
       refine LWo.pickTM (e_bool true) rfl h23 rfl (hn := ?_)
       refine LWo.move (e_bool true) rfl (hn := ?_)
       refine LWo.guardNU (t := 34) rfl rfl rfl rfl rfl rfl rfl ?_
       refine LWo.guardNU (t := 34) rfl rfl rfl rfl rfl rfl rfl ?_
       refine LWo.guardNU (t := 34) rfl rfl rfl rfl rfl rfl rfl ?_
       refine LWo.guardNU (t := 34) rfl rfl rfl rfl rfl rfl rfl ?_
       refine LWo.pickTM (e_bool true) rfl rfl rfl (hn := ?_)
       refine LWo.nil (hN21 (t1, t7, true, y19, o1014) _ ⟨rfl, rfl, rfl, rfl, rfl, trivial⟩ ⟨rfl, rfl, trivial⟩ h)
      ·have h := bF h23 h
       refine LWo.guardY (t := 29) rfl h23 rfl rfl ?_
       refine LWo.fieldPtr u_impl_Delta rfl s_int rfl rfl (hn := ?_)
       refine LWo.guardY (t := 29) rfl h23 rfl rfl ?_
       refine LWo.loadV1 (e_int y19.Many)  g_int rfl rfl rfl (hn := ?_)
       refine LWo.guardY (t := 29) rfl h23 rfl rfl ?_
       refine LWo.int _ rfl rfl rfl (hn := ?_)
       refine LWo.pickFM (e_bool (y19.Many == (0 : Int))) rfl h23 rfl (hn := ?_)
       refine LWo.move (e_bool (y19.Many == (0 : Int))) rfl (hn := ?_)
       refine LWo.byCases (t := 34) _ rfl (fun h24 => ?_) (fun h24 => ?_)
       ·have h := bT h24 h
        refine LWo.guardNU (t := 34) rfl h24 rfl rfl rfl rfl rfl ?_
        refine LWo.guardNU (t := 34) rfl h24 rfl rfl rfl rfl rfl ?_
        refine LWo.guardNU (t := 34) rfl h24 rfl rfl rfl rfl rfl ?_
        refine LWo.guardNU (t := 34) rfl h24 rfl rfl rfl rfl rfl ?_
        refine LWo.pickTM (e_bool true) rfl h24 rfl (hn := ?_)
        refine LWo.nil (hN21 (t1, t7, true, y19, o1014) _ ⟨rfl, rfl, rfl, rfl, rfl, trivial⟩ ⟨rfl, rfl, trivial⟩ h)
       ·have h := bF h24 h
        refine LWo.guardY (t := 34) rfl h24 rfl rfl ?_
        refine LWo.fieldPtr u_impl_Delta rfl s_int rfl rfl (hn := ?_)
        refine LWo.guardY (t := 34) rfl h24 rfl rfl ?_
        refine LWo.loadV1 (e_int y19.Many)  g_int rfl rfl rfl (hn := ?_)
        refine bk h fun x25 e25 h => ?_
        refine LWo.guardY (t := 34) rfl h24 rfl rfl ?_
        refine LWo.vcall rfl rfl (c_spec_l1In _ _ _ _ e25) (.same (.same (.same (.nil)))) (hn := ?_)
        refine LWo.guardY (t := 34) rfl h24 rfl rfl ?_
        refine LWo.not rfl (hn := ?_)
        refine LWo.pickFM (e_bool (!x25)) rfl h24 rfl (hn := ?_)
        refine LWo.nil (hN21 (t1, t7, (!x25), y19, o1014) _ ⟨rfl, rfl, rfl, rfl, rfl, trivial⟩ ⟨rfl, rfl, trivial⟩ h)
    ·have h := bF h15 h
     refine LWP.exit (hN9 o1014 _ ⟨rfl, trivial⟩ ⟨rfl, trivial⟩ h)

def m_laws_sameRow_j1  : Option Bool :=
  some true
def m_laws_sameRow_l1 : Nat → (List S_impl_Value) → (List S_impl_Value) → Int → Option Bool
  | 0, _, _, _ => none
  | n1 + 1, t0, t1, t5 =>
    bif decide (t5 < (t0.length : Int)) then ((at? t0 t5).bind fun x15 =>
    (at? t1 t5).bind fun x16 =>
    bif (!(decide (x15 = x16))) then (some false)
    else ((ckI (t5 + (1 : Int))).bind fun x19 =>
    (m_laws_sameRow_l1  n1) t0 t1 x19))
    else (m_laws_sameRow_j1  )
def m_laws_sameRow (a0 : (List S_impl_Value)) (a1 : (List S_impl_Value)) : Option Bool :=
  bif ((a0.length : Int) != (a1.length : Int)) then (some false)
  else (m_laws_sameRow_l1  (((a0.length : Int) - (0 : Int)).toNat + 1) a0 a1 (0 : Int))
theorem c_laws_sameRow (a0 : (List S_impl_Value)) (a1 : (List S_impl_Value)) (r : Bool) (h : m_laws_sameRow a0 a1 = some r) : Ret Try.prog f_laws_sameRow [e_Limpl_Value a0, e_Limpl_Value a1] (e_bool r) := by
  refine Does.goG [] F_laws_sameRow rfl e_laws_sameRow n_laws_sameRow rfl (rvs := [.tmp 4]) rfl rfl ?_
  intro w0 ok0 lent ρ0
  refine LWP.seq_k fun N1 hN1 => ?_
  refine LWP.region (l := [_]) ?_
  refine LWo.assign (e_bool false) rfl (hn := ?_)
  refine LWo.nil (hN1 _ ?_)
  refine LWP.seq_k fun N2 hN2 => ?_
  refine LWP.seq_k fun N3 hN3 => ?_
  refine LWP.region (l := [_,_,_,_,_]) ?_
  refine LWo.move (e_Limpl_Value a0) rfl (hn := ?_)
  refine LWo.lenM (f := e_impl_Value) (l := a0) u_Limpl_Value rfl (hn := ?_)
  refine LWo.move (e_Limpl_Value a1) rfl (hn := ?_)
  refine LWo.lenM (f := e_impl_Value) (l := a1) u_Limpl_Value rfl (hn := ?_)
  refine LWo.int _ rfl rfl rfl (hn := ?_)
  refine LWo.nil (hN3 _ ?_)
  refine LWP.cond_split rfl (fun h4 => ?_) (fun h4 => ?_)
  ·have h := bT h4 h
   refine LWP.seq_k fun N5 hN5 => ?_
   refine LWP.region (l := [_]) ?_
   refine LWo.assign (e_bool false) rfl (hn := ?_)
   refine LWo.nil (hN5 _ ?_)
   obtain rfl := Option.some.inj h
   refine LWP.ret (QG.mk (.inr rfl) (.cons (.tmp (x := (e_bool false)) rfl) (.nil)) (RetOK.one0 (.pure rfl) (by decide)) rfl rfl)
  ·have h := bF h4 h
   refine LWP.skip (hN2 _ ?_)
   refine LWP.join (α := Unit) (fun z : Unit => []) (fun z : Unit => []) (fun z : Unit => m_laws_sameRow_j1  ) r (fun _ => by simp [hkeys]) ?_ ?_
   ·rintro _ h
    replace h : m_laws_sameRow_j1   = some _ := h
    refine LWP.seq_k fun N20 hN20 => ?_
    refine LWP.region (l := [_]) ?_
    refine LWo.assign (e_bool true) rfl (hn := ?_)
    refine LWo.nil (hN20 _ ?_)
    obtain rfl := Option.some.inj h
    refine LWP.ret (QG.mk (.inr rfl) (.cons (.tmp (x := (e_bool true)) rfl) (.nil)) (RetOK.one0 (.pure rfl) (by decide)) rfl rfl)
   ·intro N6 hN6
    refine LWP.seq_k fun N7 hN7 => ?_
    refine LWP.region (l := [_]) ?_
    refine LWo.assign (e_int (0 : Int)) rfl (hn := ?_)
    refine LWo.nil (hN7 _ ?_)
    refine LWP.block ?_
    refine LWP.loopM (α := (List S_impl_Value) × (List S_impl_Value) × Int) (fun z : (List S_impl_Value) × (List S_impl_Value) × Int => [(0, (e_Limpl_Value z.1)), (1, (e_Limpl_Value z.2.1)), (5, (e_int z.2.2))]) (fun z : (List S_impl_Value) × (List S_impl_Value) × Int => []) (fun n1 (z : (List S_impl_Value) × (List S_impl_Value) × Int) => m_laws_sameRow_l1  n1 z.1 z.2.1 z.2.2) r _ (a0, a1, (0 : Int)) h (fun _ => rfl) (fun _ => by simp [hkeys]) ⟨rfl, rfl, rfl, trivial⟩ trivial ?_
    rintro n1 ⟨t0, t1, t5⟩ h N8 hN8
    replace h : m_laws_sameRow_l1  (n1 + 1) t0 t1 t5 = some _ := h
    refine LWP.seq_k fun N10 hN10 => ?_
    refine LWP.seq_k fun N11 hN11 => ?_
    refine LWP.region (l := [_,_,_,_]) ?_
    refine LWo.move (e_int t5) rfl (hn := ?_)
    refine LWo.move (e_Limpl_Value t0) rfl (hn := ?_)
    refine LWo.lenM (f := e_impl_Value) (l := t0) u_Limpl_Value rfl (hn := ?_)
    refine LWo.int _ rfl rfl rfl (hn := ?_)
    refine LWo.nil (hN11 _ ?_)
    refine LWP.cond_split rfl (fun h12 => ?_) (fun h12 => ?_)
    ·have h := bT h12 h
     refine LWP.skip (hN10 _ ?_)
     refine LWP.seq_k fun N13 hN13 => ?_
     refine LWP.block ?_
     refine LWP.seq_k fun N14 hN14 => ?_
     refine bk h fun x15 e15 h => ?_
     refine bk h fun x16 e16 h => ?_
     refine LWP.drawF (l := [_,_,_,_,_,_,_,_,_]) [] [0, 1, 5] [([0], []), ([5], []), ([17, 18], []), ([19], []), ([1], []), ([5], []), ([21, 22], []), ([23], []), ([20, 24], [])] [0, 1, 5, 25] [] mixed (by kernel_rfl) rfl (by decide) ?_
     refine dq 17 rfl (fun _ g u h => LWo.move (e_Limpl_Value t0) u.1 (hn := .nil (zn g))) ?_
     refine dq 18 rfl (fun _ g u h => LWo.move (e_int t5) u.1 (hn := .nil (zn g))) ?_
     refine dq 19 rfl (fun _ g u h => LWo.indexM (f := e_impl_Value) e15 u_Limpl_Value s_impl_Value u.1 u.2.1 (hn := .nil (zn g))) ?_
     refine dq 20 rfl (fun _ g u h => LWo.loadN ((e_impl_Value x15)).cells g_impl_Value s_impl_Value u.1 (Nat.le_of_ble_eq_true rfl) rfl (hn := .nil (zn g))) ?_
     refine dq 21 rfl (fun _ g u h => LWo.move (e_Limpl_Value t1) u.1 (hn := .nil (zn g))) ?_
     refine dq 22 rfl (fun _ g u h => LWo.move (e_int t5) u.1 (hn := .nil (zn g))) ?_
     refine dq 23 rfl (fun _ g u h => LWo.indexM (f := e_impl_Value) e16 u_Limpl_Value s_impl_Value u.1 u.2.1 (hn := .nil (zn g))) ?_
     refine dq 24 rfl (fun _ g u h => LWo.loadN ((e_impl_Value x16)).cells g_impl_Value s_impl_Value u.1 (Nat.le_of_ble_eq_true rfl) rfl (hn := .nil (zn g))) ?_
     refine dq 25 rfl (fun _ g u h => LWo.ne_impl_Value _ _ u.1 u.2.1 (hn := .nil (zn g))) ?_
     refine ⟨rfl, by kernel_rfl, hN14 _ ?_⟩
     refine LWP.cond_split rfl (fun h17 => ?_) (fun h17 => ?_)
     ·have h := bT h17 h
      refine LWP.seq_k fun N18 hN18 => ?_
      refine LWP.region (l := [_]) ?_
      refine LWo.assign (e_bool false) rfl (hn := ?_)
      refine LWo.nil (hN18 _ ?_)
      obtain rfl := Option.some.inj h
      refine LWP.ret (QG.mk (.inr rfl) (.cons (.tmp (x := (e_bool false)) rfl) (.nil)) (RetOK.one0 (.pure rfl) (by decide)) rfl rfl)
     ·have h := bF h17 h
      refine LWP.skip (hN13 _ ?_)
      refine LWP.region (l := [_,_,_]) ?_
      refine LWo.move (e_int t5) rfl (hn := ?_)
      refine bk h fun x19 e19 h => ?_
      refine LWo.int _ rfl rfl (add_ck e19) (hn := ?_)
      refine LWo.assign (e_int x19) rfl (hn := ?_)
      refine LWo.nil (hN8 (t0, t1, x19) _ ⟨rfl, rfl, rfl, trivial⟩ trivial h)
    ·have h := bF h12 h
     refine LWP.exit (hN6 () _ trivial trivial h)

def m_laws_sameTallies_j2  : Option Bool :=
  some true
def m_laws_sameTallies_j1 (k1 : (List S_impl_Tally) → (List S_impl_Tally) → Int → Option Bool) (t0 : (List S_impl_Tally)) (t1 : (List S_impl_Tally)) (t5 : Int) (t67 : Bool) : Option Bool :=
  bif t67 then (some false)
  else ((ckI (t5 + (1 : Int))).bind fun x29 =>
  k1 t0 t1 x29)
def m_laws_sameTallies_l1 : Nat → (List S_impl_Tally) → (List S_impl_Tally) → Int → Option Bool
  | 0, _, _, _ => none
  | n1 + 1, t0, t1, t5 =>
    bif decide (t5 < (t0.length : Int)) then ((at? t0 t5).bind fun x15 =>
    (at? t1 t5).bind fun x16 =>
    bif (x15.Rows != x16.Rows) then (m_laws_sameTallies_j1  (m_laws_sameTallies_l1  n1) t0 t1 t5 true)
    else ((at? t0 t5).bind fun x18 =>
      (at? t1 t5).bind fun x19 =>
      bif (x18.Many != x19.Many) then (m_laws_sameTallies_j1  (m_laws_sameTallies_l1  n1) t0 t1 t5 true)
      else ((at? t0 t5).bind fun x21 =>
        (at? t1 t5).bind fun x22 =>
        bif (x21.Sum != x22.Sum) then (m_laws_sameTallies_j1  (m_laws_sameTallies_l1  n1) t0 t1 t5 true)
        else ((at? t0 t5).bind fun x24 =>
          (at? t1 t5).bind fun x25 =>
          (m_laws_sameRow x24.Key x25.Key).bind fun x26 =>
          m_laws_sameTallies_j1  (m_laws_sameTallies_l1  n1) t0 t1 t5 (!x26)))))
    else (m_laws_sameTallies_j2  )
def m_laws_sameTallies (a0 : (List S_impl_Tally)) (a1 : (List S_impl_Tally)) : Option Bool :=
  bif ((a0.length : Int) != (a1.length : Int)) then (some false)
  else (m_laws_sameTallies_l1  (((a0.length : Int) - (0 : Int)).toNat + 1) a0 a1 (0 : Int))
theorem c_laws_sameTallies (a0 : (List S_impl_Tally)) (a1 : (List S_impl_Tally)) (r : Bool) (h : m_laws_sameTallies a0 a1 = some r) : Ret Try.prog f_laws_sameTallies [e_Limpl_Tally a0, e_Limpl_Tally a1] (e_bool r) := by
  refine Does.goG [] F_laws_sameTallies rfl e_laws_sameTallies n_laws_sameTallies rfl (rvs := [.tmp 4]) rfl rfl ?_
  intro w0 ok0 lent ρ0
  refine LWP.seq_k fun N1 hN1 => ?_
  refine LWP.region (l := [_]) ?_
  refine LWo.assign (e_bool false) rfl (hn := ?_)
  refine LWo.nil (hN1 _ ?_)
  refine LWP.seq_k fun N2 hN2 => ?_
  refine LWP.seq_k fun N3 hN3 => ?_
  refine LWP.region (l := [_,_,_,_,_]) ?_
  refine LWo.move (e_Limpl_Tally a0) rfl (hn := ?_)
  refine LWo.lenM (f := e_impl_Tally) (l := a0) u_Limpl_Tally rfl (hn := ?_)
  refine LWo.move (e_Limpl_Tally a1) rfl (hn := ?_)
  refine LWo.lenM (f := e_impl_Tally) (l := a1) u_Limpl_Tally rfl (hn := ?_)
  refine LWo.int _ rfl rfl rfl (hn := ?_)
  refine LWo.nil (hN3 _ ?_)
  refine LWP.cond_split rfl (fun h4 => ?_) (fun h4 => ?_)
  ·have h := bT h4 h
   refine LWP.seq_k fun N5 hN5 => ?_
   refine LWP.region (l := [_]) ?_
   refine LWo.assign (e_bool false) rfl (hn := ?_)
   refine LWo.nil (hN5 _ ?_)
   obtain rfl := Option.some.inj h
   refine LWP.ret (QG.mk (.inr rfl) (.cons (.tmp (x := (e_bool false)) rfl) (.nil)) (RetOK.one0 (.pure rfl) (by decide)) rfl rfl)
  ·have h := bF h4 h
   refine LWP.skip (hN2 _ ?_)
   refine LWP.join (α := Unit) (fun z : Unit => []) (fun z : Unit => []) (fun z : Unit => m_laws_sameTallies_j2  ) r (fun _ => by simp [hkeys]) ?_ ?_
   ·rintro _ h
    replace h : m_laws_sameTallies_j2   = some _ := h
    refine LWP.seq_k fun N30 hN30 => ?_
    refine LWP.region (l := [_]) ?_
    refine LWo.assign (e_bool true) rfl (hn := ?_)
    refine LWo.nil (hN30 _ ?_)
    obtain rfl := Option.some.inj h
    refine LWP.ret (QG.mk (.inr rfl) (.cons (.tmp (x := (e_bool true)) rfl) (.nil)) (RetOK.one0 (.pure rfl) (by decide)) rfl rfl)
   ·intro N6 hN6
    refine LWP.seq_k fun N7 hN7 => ?_
    refine LWP.region (l := [_]) ?_
    refine LWo.assign (e_int (0 : Int)) rfl (hn := ?_)
    refine LWo.nil (hN7 _ ?_)
    refine LWP.block ?_
    refine LWP.loopM (α := (List S_impl_Tally) × (List S_impl_Tally) × Int) (fun z : (List S_impl_Tally) × (List S_impl_Tally) × Int => [(0, (e_Limpl_Tally z.1)), (1, (e_Limpl_Tally z.2.1)), (5, (e_int z.2.2))]) (fun z : (List S_impl_Tally) × (List S_impl_Tally) × Int => []) (fun n1 (z : (List S_impl_Tally) × (List S_impl_Tally) × Int) => m_laws_sameTallies_l1  n1 z.1 z.2.1 z.2.2) r _ (a0, a1, (0 : Int)) h (fun _ => rfl) (fun _ => by simp [hkeys]) ⟨rfl, rfl, rfl, trivial⟩ trivial ?_
    rintro n1 ⟨t0, t1, t5⟩ h N8 hN8
    replace h : m_laws_sameTallies_l1  (n1 + 1) t0 t1 t5 = some _ := h
    refine LWP.seq_k fun N10 hN10 => ?_
    refine LWP.seq_k fun N11 hN11 => ?_
    refine LWP.region (l := [_,_,_,_]) ?_
    refine LWo.move (e_int t5) rfl (hn := ?_)
    refine LWo.move (e_Limpl_Tally t0) rfl (hn := ?_)
    refine LWo.lenM (f := e_impl_Tally) (l := t0) u_Limpl_Tally rfl (hn := ?_)
    refine LWo.int _ rfl rfl rfl (hn := ?_)
    refine LWo.nil (hN11 _ ?_)
    refine LWP.cond_split rfl (fun h12 => ?_) (fun h12 => ?_)
    ·have h := bT h12 h
     refine LWP.skip (hN10 _ ?_)
     refine LWP.seq_k fun N13 hN13 => ?_
     refine LWP.block ?_
     refine LWP.join (α := (List S_impl_Tally) × (List S_impl_Tally) × Int × Bool) (fun z : (List S_impl_Tally) × (List S_impl_Tally) × Int × Bool => [(0, (e_Limpl_Tally z.1)), (1, (e_Limpl_Tally z.2.1)), (5, (e_int z.2.2.1)), (67, (e_bool z.2.2.2))]) (fun z : (List S_impl_Tally) × (List S_impl_Tally) × Int × Bool => []) (fun z : (List S_impl_Tally) × (List S_impl_Tally) × Int × Bool => m_laws_sameTallies_j1  (m_laws_sameTallies_l1  n1) z.1 z.2.1 z.2.2.1 z.2.2.2) r (fun _ => by simp [hkeys]) ?_ ?_
     ·rintro ⟨t0, t1, t5, t67⟩ h
      replace h : m_laws_sameTallies_j1  (m_laws_sameTallies_l1  n1) t0 t1 t5 t67 = some _ := h
      refine LWP.cond_split rfl (fun h27 => ?_) (fun h27 => ?_)
      ·have h := bT h27 h
       refine LWP.seq_k fun N28 hN28 => ?_
       refine LWP.region (l := [_]) ?_
       refine LWo.assign (e_bool false) rfl (hn := ?_)
       refine LWo.nil (hN28 _ ?_)
       obtain rfl := Option.some.inj h
       refine LWP.ret (QG.mk (.inr rfl) (.cons (.tmp (x := (e_bool false)) rfl) (.nil)) (RetOK.one0 (.pure rfl) (by decide)) rfl rfl)
      ·have h := bF h27 h
       refine LWP.skip (hN13 _ ?_)
       refine LWP.region (l := [_,_,_]) ?_
       refine LWo.move (e_int t5) rfl (hn := ?_)
       refine bk h fun x29 e29 h => ?_
       refine LWo.int _ rfl rfl (add_ck e29) (hn := ?_)
       refine LWo.assign (e_int x29) rfl (hn := ?_)
       refine LWo.nil (hN8 (t0, t1, x29) _ ⟨rfl, rfl, rfl, trivial⟩ trivial h)
     ·intro N14 hN14
      refine bk h fun x15 e15 h => ?_
      refine bk h fun x16 e16 h => ?_
      refine bS ((x15.Rows != x16.Rows)) (fun h17 => ?_) (fun h17 => ?_)
      ·have h := bT h17 h
       refine LWP.drawF (l := [_,_,_,_,_,_,_,_,_,_,_,_,_,_,_,_,_,_,_,_,_,_,_,_,_,_,_,_,_,_,_,_,_,_,_,_,_,_,_,_,_,_,_,_,_,_,_,_,_,_,_]) [] [0, 1, 5] [([0], []), ([5], []), ([17, 18], []), ([19], []), ([20], []), ([1], []), ([5], []), ([22, 23], []), ([24], []), ([25], []), ([21, 26], []), ([27], []), ([0, 28], []), ([5, 28], []), ([28, 29, 30], []), ([28, 31], []), ([28, 32], []), ([1, 28], []), ([5, 28], []), ([28, 34, 35], []), ([28, 36], []), ([28, 37], []), ([28, 33, 38], []), ([28, 39], []), ([40], []), ([0, 41], []), ([5, 41], []), ([41, 42, 43], []), ([41, 44], []), ([41, 45], []), ([1, 41], []), ([5, 41], []), ([41, 47, 48], []), ([41, 49], []), ([41, 50], []), ([41, 46, 51], []), ([41, 52], []), ([53], []), ([0, 54], []), ([5, 54], []), ([54, 55, 56], []), ([54, 57], []), ([54, 58], []), ([1, 54], []), ([5, 54], []), ([54, 60, 61], []), ([54, 62], []), ([54, 63], []), ([54, 59, 64], []), ([54, 65], []), ([54, 66], [])] [0, 1, 5, 67] [] mixed (by kernel_rfl) rfl (by decide) ?_
       refine dq 17 rfl (fun _ g u h => LWo.move (e_Limpl_Tally t0) u.1 (hn := .nil (zn g))) ?_
       refine dq 18 rfl (fun _ g u h => LWo.move (e_int t5) u.1 (hn := .nil (zn g))) ?_
       refine dq 19 rfl (fun _ g u h => LWo.indexM (f := e_impl_Tally) e15 u_Limpl_Tally s_impl_Tally u.1 u.2.1 (hn := .nil (zn g))) ?_
       refine dq 20 rfl (fun _ g u h => LWo.fieldAddr _ u_impl_Tally rfl s_int u.1 rfl (hn := .nil (zn g))) ?_
       refine dq 21 rfl (fun _ g u h => LWo.load1 (c := (e_int x15.Rows)) g_int u.1 (hn := .nil (zn g))) ?_
       refine dq 22 rfl (fun _ g u h => LWo.move (e_Limpl_Tally t1) u.1 (hn := .nil (zn g))) ?_
       refine dq 23 rfl (fun _ g u h => LWo.move (e_int t5) u.1 (hn := .nil (zn g))) ?_
       refine dq 24 rfl (fun _ g u h => LWo.indexM (f := e_impl_Tally) e16 u_Limpl_Tally s_impl_Tally u.1 u.2.1 (hn := .nil (zn g))) ?_
       refine dq 25 rfl (fun _ g u h => LWo.fieldAddr _ u_impl_Tally rfl s_int u.1 rfl (hn := .nil (zn g))) ?_
       refine dq 26 rfl (fun _ g u h => LWo.load1 (c := (e_int x16.Rows)) g_int u.1 (hn := .nil (zn g))) ?_
       refine dq 27 rfl (fun _ g u h => LWo.int _ u.1 u.2.1 rfl (hn := .nil (zn g))) ?_
       refine dq 28 rfl (fun _ g u h => LWo.move (e_bool (x15.Rows != x16.Rows)) u.1 (hn := .nil (zn g))) ?_
       refine dq 29 rfl (fun _ g u h => LWo.guardNU (t := 28) u.2.1 h17 rfl rfl rfl rfl rfl (.nil (zn g))) ?_
       refine dq 30 rfl (fun _ g u h => LWo.guardNU (t := 28) u.2.1 h17 rfl rfl rfl rfl rfl (.nil (zn g))) ?_
       refine dq 31 rfl (fun _ g u h => LWo.guardNU (t := 28) u.1 h17 rfl rfl rfl rfl rfl (.nil (zn g))) ?_
       refine dq 32 rfl (fun _ g u h => LWo.guardNU (t := 28) u.1 h17 rfl rfl rfl rfl rfl (.nil (zn g))) ?_
       refine dq 33 rfl (fun _ g u h => LWo.guardNU (t := 28) u.1 h17 rfl rfl rfl rfl rfl (.nil (zn g))) ?_
       refine dq 34 rfl (fun _ g u h => LWo.guardNU (t := 28) u.2.1 h17 rfl rfl rfl rfl rfl (.nil (zn g))) ?_
       refine dq 35 rfl (fun _ g u h => LWo.guardNU (t := 28) u.2.1 h17 rfl rfl rfl rfl rfl (.nil (zn g))) ?_
       refine dq 36 rfl (fun _ g u h => LWo.guardNU (t := 28) u.1 h17 rfl rfl rfl rfl rfl (.nil (zn g))) ?_
       refine dq 37 rfl (fun _ g u h => LWo.guardNU (t := 28) u.1 h17 rfl rfl rfl rfl rfl (.nil (zn g))) ?_
       refine dq 38 rfl (fun _ g u h => LWo.guardNU (t := 28) u.1 h17 rfl rfl rfl rfl rfl (.nil (zn g))) ?_
       refine dq 39 rfl (fun _ g u h => LWo.guardNU (t := 28) u.1 h17 rfl rfl rfl rfl rfl (.nil (zn g))) ?_
       refine dq 40 rfl (fun _ g u h => LWo.pickTM (e_bool true) u.1 h17 rfl (hn := .nil (zn g))) ?_
       refine dq 41 rfl (fun _ g u h => LWo.move (e_bool true) u.1 (hn := .nil (zn g))) ?_
       refine dq 42 rfl (fun _ g u h => LWo.guardNU (t := 41) u.2.1 rfl rfl rfl rfl rfl rfl (.nil (zn g))) ?_
       refine dq 43 rfl (fun _ g u h => LWo.guardNU (t := 41) u.2.1 rfl rfl rfl rfl rfl rfl (.nil (zn g))) ?_
       refine dq 44 rfl (fun _ g u h => LWo.guardNU (t := 41) u.1 rfl rfl rfl rfl rfl rfl (.nil (zn g))) ?_
       refine dq 45 rfl (fun _ g u h => LWo.guardNU (t := 41) u.1 rfl rfl rfl rfl rfl rfl (.nil (zn g))) ?_
       refine dq 46 rfl (fun _ g u h => LWo.guardNU (t := 41) u.1 rfl rfl rfl rfl rfl rfl (.nil (zn g))) ?_
       refine dq 47 rfl (fun _ g u h => LWo.guardNU (t := 41) u.2.1 rfl rfl rfl rfl rfl rfl (.nil (zn g))) ?_
       refine dq 48 rfl (fun _ g u h => LWo.guardNU (t := 41) u.2.1 rfl rfl rfl rfl rfl rfl (.nil (zn g))) ?_
       refine dq 49 rfl (fun _ g u h => LWo.guardNU (t := 41) u.1 rfl rfl rfl rfl rfl rfl (.nil (zn g))) ?_
       refine dq 50 rfl (fun _ g u h => LWo.guardNU (t := 41) u.1 rfl rfl rfl rfl rfl rfl (.nil (zn g))) ?_
       refine dq 51 rfl (fun _ g u h => LWo.guardNU (t := 41) u.1 rfl rfl rfl rfl rfl rfl (.nil (zn g))) ?_
       refine dq 52 rfl (fun _ g u h => LWo.guardNU (t := 41) u.1 rfl rfl rfl rfl rfl rfl (.nil (zn g))) ?_
       refine dq 53 rfl (fun _ g u h => LWo.pickTM (e_bool true) u.1 rfl rfl (hn := .nil (zn g))) ?_
       refine dq 54 rfl (fun _ g u h => LWo.move (e_bool true) u.1 (hn := .nil (zn g))) ?_
       refine dq 55 rfl (fun _ g u h => LWo.guardNU (t := 54) u.2.1 rfl rfl rfl rfl rfl rfl (.nil (zn g))) ?_
       refine dq 56 rfl (fun _ g u h => LWo.guardNU (t := 54) u.2.1 rfl rfl rfl rfl rfl rfl (.nil (zn g))) ?_
       refine dq 57 rfl (fun _ g u h => LWo.guardNU (t := 54) u.1 rfl rfl rfl rfl rfl rfl (.nil (zn g))) ?_
       refine dq 58 rfl (fun _ g u h => LWo.guardNU (t := 54) u.1 rfl rfl rfl rfl rfl rfl (.nil (zn g))) ?_
       refine dq 59 rfl (fun _ g u h => LWo.guardNU (t := 54) u.1 rfl rfl rfl rfl rfl rfl (.nil (zn g))) ?_
       refine dq 60 rfl (fun _ g u h => LWo.guardNU (t := 54) u.2.1 rfl rfl rfl rfl rfl rfl (.nil (zn g))) ?_
       refine dq 61 rfl (fun _ g u h => LWo.guardNU (t := 54) u.2.1 rfl rfl rfl rfl rfl rfl (.nil (zn g))) ?_
       refine dq 62 rfl (fun _ g u h => LWo.guardNU (t := 54) u.1 rfl rfl rfl rfl rfl rfl (.nil (zn g))) ?_
       refine dq 63 rfl (fun _ g u h => LWo.guardNU (t := 54) u.1 rfl rfl rfl rfl rfl rfl (.nil (zn g))) ?_
       refine dq 64 rfl (fun _ g u h => LWo.guardNU (t := 54) u.1 rfl rfl rfl rfl rfl rfl (.nil (zn g))) ?_
       refine dq 65 rfl (fun _ g u h => LWo.guardNU (t := 54) u.1 rfl rfl rfl rfl rfl rfl (.nil (zn g))) ?_
       refine dq 66 rfl (fun _ g u h => LWo.guardNU (t := 54) u.1 rfl rfl rfl rfl rfl rfl (.nil (zn g))) ?_
       refine dq 67 rfl (fun _ g u h => LWo.pickTM (e_bool true) u.1 rfl rfl (hn := .nil (zn g))) ?_
       refine ⟨rfl, by kernel_rfl, hN14 (t0, t1, t5, true) _ ⟨rfl, rfl, rfl, rfl, trivial⟩ trivial h⟩
      ·have h := bF h17 h
       refine bk h fun x18 e18 h => ?_
       refine bk h fun x19 e19 h => ?_
       refine bS ((x18.Many != x19.Many)) (fun h20 => ?_) (fun h20 => ?_)
       ·have h := bT h20 h
        refine LWP.drawF (l := [_,_,_,_,_,_,_,_,_,_,_,_,_,_,_,_,_,_,_,_,_,_,_,_,_,_,_,_,_,_,_,_,_,_,_,_,_,_,_,_,_,_,_,_,_,_,_,_,_,_,_]) [] [0, 1, 5] [([0], []), ([5], []), ([17, 18], []), ([19], []), ([20], []), ([1], []), ([5], []), ([22, 23], []), ([24], []), ([25], []), ([21, 26], []), ([27], []), ([0, 28], []), ([5, 28], []), ([28, 29, 30], []), ([28, 31], []), ([28, 32], []), ([1, 28], []), ([5, 28], []), ([28, 34, 35], []), ([28, 36], []), ([28, 37], []), ([28, 33, 38], []), ([28, 39], []), ([40], []), ([0, 41], []), ([5, 41], []), ([41, 42, 43], []), ([41, 44], []), ([41, 45], []), ([1, 41], []), ([5, 41], []), ([41, 47, 48], []), ([41, 49], []), ([41, 50], []), ([41, 46, 51], []), ([41, 52], []), ([53], []), ([0, 54], []), ([5, 54], []), ([54, 55, 56], []), ([54, 57], []), ([54, 58], []), ([1, 54], []), ([5, 54], []), ([54, 60, 61], []), ([54, 62], []), ([54, 63], []), ([54, 59, 64], []), ([54, 65], []), ([54, 66], [])] [0, 1, 5, 67] [] mixed (by kernel_rfl) rfl (by decide) ?_
        refine dq 17 rfl (fun _ g u h => LWo.move (e_Limpl_Tally t0) u.1 (hn := .nil (zn g))) ?_
        refine dq 18 rfl (fun _ g u h => LWo.move (e_int t5) u.1 (hn := .nil (zn g))) ?_
        refine dq 19 rfl (fun _ g u h => LWo.indexM (f := e_impl_Tally) e15 u_Limpl_Tally s_impl_Tally u.1 u.2.1 (hn := .nil (zn g))) ?_
        refine dq 20 rfl (fun _ g u h => LWo.fieldAddr _ u_impl_Tally rfl s_int u.1 rfl (hn := .nil (zn g))) ?_
        refine dq 21 rfl (fun _ g u h => LWo.load1 (c := (e_int x15.Rows)) g_int u.1 (hn := .nil (zn g))) ?_
        refine dq 22 rfl (fun _ g u h => LWo.move (e_Limpl_Tally t1) u.1 (hn := .nil (zn g))) ?_
        refine dq 23 rfl (fun _ g u h => LWo.move (e_int t5) u.1 (hn := .nil (zn g))) ?_
        refine dq 24 rfl (fun _ g u h => LWo.indexM (f := e_impl_Tally) e16 u_Limpl_Tally s_impl_Tally u.1 u.2.1 (hn := .nil (zn g))) ?_
        refine dq 25 rfl (fun _ g u h => LWo.fieldAddr _ u_impl_Tally rfl s_int u.1 rfl (hn := .nil (zn g))) ?_
        refine dq 26 rfl (fun _ g u h => LWo.load1 (c := (e_int x16.Rows)) g_int u.1 (hn := .nil (zn g))) ?_
        refine dq 27 rfl (fun _ g u h => LWo.int _ u.1 u.2.1 rfl (hn := .nil (zn g))) ?_
        refine dq 28 rfl (fun _ g u h => LWo.move (e_bool (x15.Rows != x16.Rows)) u.1 (hn := .nil (zn g))) ?_
        refine dq 29 rfl (fun _ g u h => LWo.guardY (t := 28) u.2.1 h17 rfl rfl (LWo.move (e_Limpl_Tally t0) u.1 (hn := .nil (zn g)))) ?_
        refine dq 30 rfl (fun _ g u h => LWo.guardY (t := 28) u.2.1 h17 rfl rfl (LWo.move (e_int t5) u.1 (hn := .nil (zn g)))) ?_
        refine dq 31 rfl (fun _ g u h => LWo.guardY (t := 28) u.1 h17 rfl rfl (LWo.indexM (f := e_impl_Tally) e18 u_Limpl_Tally s_impl_Tally u.2.1 u.2.2.1 (hn := .nil (zn g)))) ?_
        refine dq 32 rfl (fun _ g u h => LWo.guardY (t := 28) u.1 h17 rfl rfl (LWo.fieldAddr _ u_impl_Tally rfl s_int u.2.1 rfl (hn := .nil (zn g)))) ?_
        refine dq 33 rfl (fun _ g u h => LWo.guardY (t := 28) u.1 h17 rfl rfl (LWo.load1 (c := (e_int x18.Many)) g_int u.2.1 (hn := .nil (zn g)))) ?_
        refine dq 34 rfl (fun _ g u h => LWo.guardY (t := 28) u.2.1 h17 rfl rfl (LWo.move (e_Limpl_Tally t1) u.1 (hn := .nil (zn g)))) ?_
        refine dq 35 rfl (fun _ g u h => LWo.guardY (t := 28) u.2.1 h17 rfl rfl (LWo.move (e_int t5) u.1 (hn := .nil (zn g)))) ?_
        refine dq 36 rfl (fun _ g u h => LWo.guardY (t := 28) u.1 h17 rfl rfl (LWo.indexM (f := e_impl_Tally) e19 u_Limpl_Tally s_impl_Tally u.2.1 u.2.2.1 (hn := .nil (zn g)))) ?_
        refine dq 37 rfl (fun _ g u h => LWo.guardY (t := 28) u.1 h17 rfl rfl (LWo.fieldAddr _ u_impl_Tally rfl s_int u.2.1 rfl (hn := .nil (zn g)))) ?_
        refine dq 38 rfl (fun _ g u h => LWo.guardY (t := 28) u.1 h17 rfl rfl (LWo.load1 (c := (e_int x19.Many)) g_int u.2.1 (hn := .nil (zn g)))) ?_
        refine dq 39 rfl (fun _ g u h => LWo.guardY (t := 28) u.1 h17 rfl rfl (LWo.int _ u.2.1 u.2.2.1 rfl (hn := .nil (zn g)))) ?_
        refine dq 40 rfl (fun _ g u h => LWo.pickFM (e_bool (x18.Many != x19.Many)) u.1 h17 u.2.1 (hn := .nil (zn g))) ?_
        refine dq 41 rfl (fun _ g u h => LWo.move (e_bool (x18.Many != x19.Many)) u.1 (hn := .nil (zn g))) ?_
        refine dq 42 rfl (fun _ g u h => LWo.guardNU (t := 41) u.2.1 h20 rfl rfl rfl rfl rfl (.nil (zn g))) ?_
        refine dq 43 rfl (fun _ g u h => LWo.guardNU (t := 41) u.2.1 h20 rfl rfl rfl rfl rfl (.nil (zn g))) ?_
        refine dq 44 rfl (fun _ g u h => LWo.guardNU (t := 41) u.1 h20 rfl rfl rfl rfl rfl (.nil (zn g))) ?_
        refine dq 45 rfl (fun _ g u h => LWo.guardNU (t := 41) u.1 h20 rfl rfl rfl rfl rfl (.nil (zn g))) ?_
        refine dq 46 rfl (fun _ g u h => LWo.guardNU (t := 41) u.1 h20 rfl rfl rfl rfl rfl (.nil (zn g))) ?_
        refine dq 47 rfl (fun _ g u h => LWo.guardNU (t := 41) u.2.1 h20 rfl rfl rfl rfl rfl (.nil (zn g))) ?_
        refine dq 48 rfl (fun _ g u h => LWo.guardNU (t := 41) u.2.1 h20 rfl rfl rfl rfl rfl (.nil (zn g))) ?_
        refine dq 49 rfl (fun _ g u h => LWo.guardNU (t := 41) u.1 h20 rfl rfl rfl rfl rfl (.nil (zn g))) ?_
        refine dq 50 rfl (fun _ g u h => LWo.guardNU (t := 41) u.1 h20 rfl rfl rfl rfl rfl (.nil (zn g))) ?_
        refine dq 51 rfl (fun _ g u h => LWo.guardNU (t := 41) u.1 h20 rfl rfl rfl rfl rfl (.nil (zn g))) ?_
        refine dq 52 rfl (fun _ g u h => LWo.guardNU (t := 41) u.1 h20 rfl rfl rfl rfl rfl (.nil (zn g))) ?_
        refine dq 53 rfl (fun _ g u h => LWo.pickTM (e_bool true) u.1 h20 rfl (hn := .nil (zn g))) ?_
        refine dq 54 rfl (fun _ g u h => LWo.move (e_bool true) u.1 (hn := .nil (zn g))) ?_
        refine dq 55 rfl (fun _ g u h => LWo.guardNU (t := 54) u.2.1 rfl rfl rfl rfl rfl rfl (.nil (zn g))) ?_
        refine dq 56 rfl (fun _ g u h => LWo.guardNU (t := 54) u.2.1 rfl rfl rfl rfl rfl rfl (.nil (zn g))) ?_
        refine dq 57 rfl (fun _ g u h => LWo.guardNU (t := 54) u.1 rfl rfl rfl rfl rfl rfl (.nil (zn g))) ?_
        refine dq 58 rfl (fun _ g u h => LWo.guardNU (t := 54) u.1 rfl rfl rfl rfl rfl rfl (.nil (zn g))) ?_
        refine dq 59 rfl (fun _ g u h => LWo.guardNU (t := 54) u.1 rfl rfl rfl rfl rfl rfl (.nil (zn g))) ?_
        refine dq 60 rfl (fun _ g u h => LWo.guardNU (t := 54) u.2.1 rfl rfl rfl rfl rfl rfl (.nil (zn g))) ?_
        refine dq 61 rfl (fun _ g u h => LWo.guardNU (t := 54) u.2.1 rfl rfl rfl rfl rfl rfl (.nil (zn g))) ?_
        refine dq 62 rfl (fun _ g u h => LWo.guardNU (t := 54) u.1 rfl rfl rfl rfl rfl rfl (.nil (zn g))) ?_
        refine dq 63 rfl (fun _ g u h => LWo.guardNU (t := 54) u.1 rfl rfl rfl rfl rfl rfl (.nil (zn g))) ?_
        refine dq 64 rfl (fun _ g u h => LWo.guardNU (t := 54) u.1 rfl rfl rfl rfl rfl rfl (.nil (zn g))) ?_
        refine dq 65 rfl (fun _ g u h => LWo.guardNU (t := 54) u.1 rfl rfl rfl rfl rfl rfl (.nil (zn g))) ?_
        refine dq 66 rfl (fun _ g u h => LWo.guardNU (t := 54) u.1 rfl rfl rfl rfl rfl rfl (.nil (zn g))) ?_
        refine dq 67 rfl (fun _ g u h => LWo.pickTM (e_bool true) u.1 rfl rfl (hn := .nil (zn g))) ?_
        refine ⟨rfl, by kernel_rfl, hN14 (t0, t1, t5, true) _ ⟨rfl, rfl, rfl, rfl, trivial⟩ trivial h⟩
       ·have h := bF h20 h
        refine bk h fun x21 e21 h => ?_
        refine bk h fun x22 e22 h => ?_
        refine bS ((x21.Sum != x22.Sum)) (fun h23 => ?_) (fun h23 => ?_)
        ·have h := bT h23 h
         refine LWP.drawF (l := [_,_,_,_,_,_,_,_,_,_,_,_,_,_,_,_,_,_,_,_,_,_,_,_,_,_,_,_,_,_,_,_,_,_,_,_,_,_,_,_,_,_,_,_,_,_,_,_,_,_,_]) [] [0, 1, 5] [([0], []), ([5], []), ([17, 18], []), ([19], []), ([20], []), ([1], []), ([5], []), ([22, 23], []), ([24], []), ([25], []), ([21, 26], []), ([27], []), ([0, 28], []), ([5, 28], []), ([28, 29, 30], []), ([28, 31], []), ([28, 32], []), ([1, 28], []), ([5, 28], []), ([28, 34, 35], []), ([28, 36], []), ([28, 37], []), ([28, 33, 38], []), ([28, 39], []), ([40], []), ([0, 41], []), ([5, 41], []), ([41, 42, 43], []), ([41, 44], []), ([41, 45], []), ([1, 41], []), ([5, 41], []), ([41, 47, 48], []), ([41, 49], []), ([41, 50], []), ([41, 46, 51], []), ([41, 52], []), ([53], []), ([0, 54], []), ([5, 54], []), ([54, 55, 56], []), ([54, 57], []), ([54, 58], []), ([1, 54], []), ([5, 54], []), ([54, 60, 61], []), ([54, 62], []), ([54, 63], []), ([54, 59, 64], []), ([54, 65], []), ([54, 66], [])] [0, 1, 5, 67] [] mixed (by kernel_rfl) rfl (by decide) ?_
         refine dq 17 rfl (fun _ g u h => LWo.move (e_Limpl_Tally t0) u.1 (hn := .nil (zn g))) ?_
         refine dq 18 rfl (fun _ g u h => LWo.move (e_int t5) u.1 (hn := .nil (zn g))) ?_
         refine dq 19 rfl (fun _ g u h => LWo.indexM (f := e_impl_Tally) e15 u_Limpl_Tally s_impl_Tally u.1 u.2.1 (hn := .nil (zn g))) ?_
         refine dq 20 rfl (fun _ g u h => LWo.fieldAddr _ u_impl_Tally rfl s_int u.1 rfl (hn := .nil (zn g))) ?_
         refine dq 21 rfl (fun _ g u h => LWo.load1 (c := (e_int x15.Rows)) g_int u.1 (hn := .nil (zn g))) ?_
         refine dq 22 rfl (fun _ g u h => LWo.move (e_Limpl_Tally t1) u.1 (hn := .nil (zn g))) ?_
         refine dq 23 rfl (fun _ g u h => LWo.move (e_int t5) u.1 (hn := .nil (zn g))) ?_
         refine dq 24 rfl (fun _ g u h => LWo.indexM (f := e_impl_Tally) e16 u_Limpl_Tally s_impl_Tally u.1 u.2.1 (hn := .nil (zn g))) ?_
         refine dq 25 rfl (fun _ g u h => LWo.fieldAddr _ u_impl_Tally rfl s_int u.1 rfl (hn := .nil (zn g))) ?_
         refine dq 26 rfl (fun _ g u h => LWo.load1 (c := (e_int x16.Rows)) g_int u.1 (hn := .nil (zn g))) ?_
         refine dq 27 rfl (fun _ g u h => LWo.int _ u.1 u.2.1 rfl (hn := .nil (zn g))) ?_
         refine dq 28 rfl (fun _ g u h => LWo.move (e_bool (x15.Rows != x16.Rows)) u.1 (hn := .nil (zn g))) ?_
         refine dq 29 rfl (fun _ g u h => LWo.guardY (t := 28) u.2.1 h17 rfl rfl (LWo.move (e_Limpl_Tally t0) u.1 (hn := .nil (zn g)))) ?_
         refine dq 30 rfl (fun _ g u h => LWo.guardY (t := 28) u.2.1 h17 rfl rfl (LWo.move (e_int t5) u.1 (hn := .nil (zn g)))) ?_
         refine dq 31 rfl (fun _ g u h => LWo.guardY (t := 28) u.1 h17 rfl rfl (LWo.indexM (f := e_impl_Tally) e18 u_Limpl_Tally s_impl_Tally u.2.1 u.2.2.1 (hn := .nil (zn g)))) ?_
         refine dq 32 rfl (fun _ g u h => LWo.guardY (t := 28) u.1 h17 rfl rfl (LWo.fieldAddr _ u_impl_Tally rfl s_int u.2.1 rfl (hn := .nil (zn g)))) ?_
         refine dq 33 rfl (fun _ g u h => LWo.guardY (t := 28) u.1 h17 rfl rfl (LWo.load1 (c := (e_int x18.Many)) g_int u.2.1 (hn := .nil (zn g)))) ?_
         refine dq 34 rfl (fun _ g u h => LWo.guardY (t := 28) u.2.1 h17 rfl rfl (LWo.move (e_Limpl_Tally t1) u.1 (hn := .nil (zn g)))) ?_
         refine dq 35 rfl (fun _ g u h => LWo.guardY (t := 28) u.2.1 h17 rfl rfl (LWo.move (e_int t5) u.1 (hn := .nil (zn g)))) ?_
         refine dq 36 rfl (fun _ g u h => LWo.guardY (t := 28) u.1 h17 rfl rfl (LWo.indexM (f := e_impl_Tally) e19 u_Limpl_Tally s_impl_Tally u.2.1 u.2.2.1 (hn := .nil (zn g)))) ?_
         refine dq 37 rfl (fun _ g u h => LWo.guardY (t := 28) u.1 h17 rfl rfl (LWo.fieldAddr _ u_impl_Tally rfl s_int u.2.1 rfl (hn := .nil (zn g)))) ?_
         refine dq 38 rfl (fun _ g u h => LWo.guardY (t := 28) u.1 h17 rfl rfl (LWo.load1 (c := (e_int x19.Many)) g_int u.2.1 (hn := .nil (zn g)))) ?_
         refine dq 39 rfl (fun _ g u h => LWo.guardY (t := 28) u.1 h17 rfl rfl (LWo.int _ u.2.1 u.2.2.1 rfl (hn := .nil (zn g)))) ?_
         refine dq 40 rfl (fun _ g u h => LWo.pickFM (e_bool (x18.Many != x19.Many)) u.1 h17 u.2.1 (hn := .nil (zn g))) ?_
         refine dq 41 rfl (fun _ g u h => LWo.move (e_bool (x18.Many != x19.Many)) u.1 (hn := .nil (zn g))) ?_
         refine dq 42 rfl (fun _ g u h => LWo.guardY (t := 41) u.2.1 h20 rfl rfl (LWo.move (e_Limpl_Tally t0) u.1 (hn := .nil (zn g)))) ?_
         refine dq 43 rfl (fun _ g u h => LWo.guardY (t := 41) u.2.1 h20 rfl rfl (LWo.move (e_int t5) u.1 (hn := .nil (zn g)))) ?_
         refine dq 44 rfl (fun _ g u h => LWo.guardY (t := 41) u.1 h20 rfl rfl (LWo.indexM (f := e_impl_Tally) e21 u_Limpl_Tally s_impl_Tally u.2.1 u.2.2.1 (hn := .nil (zn g)))) ?_
         refine dq 45 rfl (fun _ g u h => LWo.guardY (t := 41) u.1 h20 rfl rfl (LWo.fieldAddr _ u_impl_Tally rfl s_int u.2.1 rfl (hn := .nil (zn g)))) ?_
         refine dq 46 rfl (fun _ g u h => LWo.guardY (t := 41) u.1 h20 rfl rfl (LWo.load1 (c := (e_int x21.Sum)) g_int u.2.1 (hn := .nil (zn g)))) ?_
         refine dq 47 rfl (fun _ g u h => LWo.guardY (t := 41) u.2.1 h20 rfl rfl (LWo.move (e_Limpl_Tally t1) u.1 (hn := .nil (zn g)))) ?_
         refine dq 48 rfl (fun _ g u h => LWo.guardY (t := 41) u.2.1 h20 rfl rfl (LWo.move (e_int t5) u.1 (hn := .nil (zn g)))) ?_
         refine dq 49 rfl (fun _ g u h => LWo.guardY (t := 41) u.1 h20 rfl rfl (LWo.indexM (f := e_impl_Tally) e22 u_Limpl_Tally s_impl_Tally u.2.1 u.2.2.1 (hn := .nil (zn g)))) ?_
         refine dq 50 rfl (fun _ g u h => LWo.guardY (t := 41) u.1 h20 rfl rfl (LWo.fieldAddr _ u_impl_Tally rfl s_int u.2.1 rfl (hn := .nil (zn g)))) ?_
         refine dq 51 rfl (fun _ g u h => LWo.guardY (t := 41) u.1 h20 rfl rfl (LWo.load1 (c := (e_int x22.Sum)) g_int u.2.1 (hn := .nil (zn g)))) ?_
         refine dq 52 rfl (fun _ g u h => LWo.guardY (t := 41) u.1 h20 rfl rfl (LWo.int _ u.2.1 u.2.2.1 rfl (hn := .nil (zn g)))) ?_
         refine dq 53 rfl (fun _ g u h => LWo.pickFM (e_bool (x21.Sum != x22.Sum)) u.1 h20 u.2.1 (hn := .nil (zn g))) ?_
         refine dq 54 rfl (fun _ g u h => LWo.move (e_bool (x21.Sum != x22.Sum)) u.1 (hn := .nil (zn g))) ?_
         refine dq 55 rfl (fun _ g u h => LWo.guardNU (t := 54) u.2.1 h23 rfl rfl rfl rfl rfl (.nil (zn g))) ?_
         refine dq 56 rfl (fun _ g u h => LWo.guardNU (t := 54) u.2.1 h23 rfl rfl rfl rfl rfl (.nil (zn g))) ?_
         refine dq 57 rfl (fun _ g u h => LWo.guardNU (t := 54) u.1 h23 rfl rfl rfl rfl rfl (.nil (zn g))) ?_
         refine dq 58 rfl (fun _ g u h => LWo.guardNU (t := 54) u.1 h23 rfl rfl rfl rfl rfl (.nil (zn g))) ?_
         refine dq 59 rfl (fun _ g u h => LWo.guardNU (t := 54) u.1 h23 rfl rfl rfl rfl rfl (.nil (zn g))) ?_
         refine dq 60 rfl (fun _ g u h => LWo.guardNU (t := 54) u.2.1 h23 rfl rfl rfl rfl rfl (.nil (zn g))) ?_
         refine dq 61 rfl (fun _ g u h => LWo.guardNU (t := 54) u.2.1 h23 rfl rfl rfl rfl rfl (.nil (zn g))) ?_
         refine dq 62 rfl (fun _ g u h => LWo.guardNU (t := 54) u.1 h23 rfl rfl rfl rfl rfl (.nil (zn g))) ?_
         refine dq 63 rfl (fun _ g u h => LWo.guardNU (t := 54) u.1 h23 rfl rfl rfl rfl rfl (.nil (zn g))) ?_
         refine dq 64 rfl (fun _ g u h => LWo.guardNU (t := 54) u.1 h23 rfl rfl rfl rfl rfl (.nil (zn g))) ?_
         refine dq 65 rfl (fun _ g u h => LWo.guardNU (t := 54) u.1 h23 rfl rfl rfl rfl rfl (.nil (zn g))) ?_
         refine dq 66 rfl (fun _ g u h => LWo.guardNU (t := 54) u.1 h23 rfl rfl rfl rfl rfl (.nil (zn g))) ?_
         refine dq 67 rfl (fun _ g u h => LWo.pickTM (e_bool true) u.1 h23 rfl (hn := .nil (zn g))) ?_
         refine ⟨rfl, by kernel_rfl, hN14 (t0, t1, t5, true) _ ⟨rfl, rfl, rfl, rfl, trivial⟩ trivial h⟩
        ·have h := bF h23 h
         refine bk h fun x24 e24 h => ?_
         refine bk h fun x25 e25 h => ?_
         refine bk h fun x26 e26 h => ?_
         refine LWP.drawF (l := [_,_,_,_,_,_,_,_,_,_,_,_,_,_,_,_,_,_,_,_,_,_,_,_,_,_,_,_,_,_,_,_,_,_,_,_,_,_,_,_,_,_,_,_,_,_,_,_,_,_,_]) [] [0, 1, 5] [([0], []), ([5], []), ([17, 18], []), ([19], []), ([20], []), ([1], []), ([5], []), ([22, 23], []), ([24], []), ([25], []), ([21, 26], []), ([27], []), ([0, 28], []), ([5, 28], []), ([28, 29, 30], []), ([28, 31], []), ([28, 32], []), ([1, 28], []), ([5, 28], []), ([28, 34, 35], []), ([28, 36], []), ([28, 37], []), ([28, 33, 38], []), ([28, 39], []), ([40], []), ([0, 41], []), ([5, 41], []), ([41, 42, 43], []), ([41, 44], []), ([41, 45], []), ([1, 41], []), ([5, 41], []), ([41, 47, 48], []), ([41, 49], []), ([41, 50], []), ([41, 46, 51], []), ([41, 52], []), ([53], []), ([0, 54], []), ([5, 54], []), ([54, 55, 56], []), ([54, 57], []), ([54, 58], []), ([1, 54], []), ([5, 54], []), ([54, 60, 61], []), ([54, 62], []), ([54, 63], []), ([54, 59, 64], []), ([54, 65], []), ([54, 66], [])] [0, 1, 5, 67] [] mixed (by kernel_rfl) rfl (by decide) ?_
         refine dq 17 rfl (fun _ g u h => LWo.move (e_Limpl_Tally t0) u.1 (hn := .nil (zn g))) ?_
         refine dq 18 rfl (fun _ g u h => LWo.move (e_int t5) u.1 (hn := .nil (zn g))) ?_
         refine dq 19 rfl (fun _ g u h => LWo.indexM (f := e_impl_Tally) e15 u_Limpl_Tally s_impl_Tally u.1 u.2.1 (hn := .nil (zn g))) ?_
         refine dq 20 rfl (fun _ g u h => LWo.fieldAddr _ u_impl_Tally rfl s_int u.1 rfl (hn := .nil (zn g))) ?_
         refine dq 21 rfl (fun _ g u h => LWo.load1 (c := (e_int x15.Rows)) g_int u.1 (hn := .nil (zn g))) ?_
         refine dq 22 rfl (fun _ g u h => LWo.move (e_Limpl_Tally t1) u.1 (hn := .nil (zn g))) ?_
         refine dq 23 rfl (fun _ g u h => LWo.move (e_int t5) u.1 (hn := .nil (zn g))) ?_
         refine dq 24 rfl (fun _ g u h => LWo.indexM (f := e_impl_Tally) e16 u_Limpl_Tally s_impl_Tally u.1 u.2.1 (hn := .nil (zn g))) ?_
         refine dq 25 rfl (fun _ g u h => LWo.fieldAddr _ u_impl_Tally rfl s_int u.1 rfl (hn := .nil (zn g))) ?_
         refine dq 26 rfl (fun _ g u h => LWo.load1 (c := (e_int x16.Rows)) g_int u.1 (hn := .nil (zn g))) ?_
         refine dq 27 rfl (fun _ g u h => LWo.int _ u.1 u.2.1 rfl (hn := .nil (zn g))) ?_
         refine dq 28 rfl (fun _ g u h => LWo.move (e_bool (x15.Rows != x16.Rows)) u.1 (hn := .nil (zn g))) ?_
         refine dq 29 rfl (fun _ g u h => LWo.guardY (t := 28) u.2.1 h17 rfl rfl (LWo.move (e_Limpl_Tally t0) u.1 (hn := .nil (zn g)))) ?_
         refine dq 30 rfl (fun _ g u h => LWo.guardY (t := 28) u.2.1 h17 rfl rfl (LWo.move (e_int t5) u.1 (hn := .nil (zn g)))) ?_
         refine dq 31 rfl (fun _ g u h => LWo.guardY (t := 28) u.1 h17 rfl rfl (LWo.indexM (f := e_impl_Tally) e18 u_Limpl_Tally s_impl_Tally u.2.1 u.2.2.1 (hn := .nil (zn g)))) ?_
         refine dq 32 rfl (fun _ g u h => LWo.guardY (t := 28) u.1 h17 rfl rfl (LWo.fieldAddr _ u_impl_Tally rfl s_int u.2.1 rfl (hn := .nil (zn g)))) ?_
         refine dq 33 rfl (fun _ g u h => LWo.guardY (t := 28) u.1 h17 rfl rfl (LWo.load1 (c := (e_int x18.Many)) g_int u.2.1 (hn := .nil (zn g)))) ?_
         refine dq 34 rfl (fun _ g u h => LWo.guardY (t := 28) u.2.1 h17 rfl rfl (LWo.move (e_Limpl_Tally t1) u.1 (hn := .nil (zn g)))) ?_
         refine dq 35 rfl (fun _ g u h => LWo.guardY (t := 28) u.2.1 h17 rfl rfl (LWo.move (e_int t5) u.1 (hn := .nil (zn g)))) ?_
         refine dq 36 rfl (fun _ g u h => LWo.guardY (t := 28) u.1 h17 rfl rfl (LWo.indexM (f := e_impl_Tally) e19 u_Limpl_Tally s_impl_Tally u.2.1 u.2.2.1 (hn := .nil (zn g)))) ?_
         refine dq 37 rfl (fun _ g u h => LWo.guardY (t := 28) u.1 h17 rfl rfl (LWo.fieldAddr _ u_impl_Tally rfl s_int u.2.1 rfl (hn := .nil (zn g)))) ?_
         refine dq 38 rfl (fun _ g u h => LWo.guardY (t := 28) u.1 h17 rfl rfl (LWo.load1 (c := (e_int x19.Many)) g_int u.2.1 (hn := .nil (zn g)))) ?_
         refine dq 39 rfl (fun _ g u h => LWo.guardY (t := 28) u.1 h17 rfl rfl (LWo.int _ u.2.1 u.2.2.1 rfl (hn := .nil (zn g)))) ?_
         refine dq 40 rfl (fun _ g u h => LWo.pickFM (e_bool (x18.Many != x19.Many)) u.1 h17 u.2.1 (hn := .nil (zn g))) ?_
         refine dq 41 rfl (fun _ g u h => LWo.move (e_bool (x18.Many != x19.Many)) u.1 (hn := .nil (zn g))) ?_
         refine dq 42 rfl (fun _ g u h => LWo.guardY (t := 41) u.2.1 h20 rfl rfl (LWo.move (e_Limpl_Tally t0) u.1 (hn := .nil (zn g)))) ?_
         refine dq 43 rfl (fun _ g u h => LWo.guardY (t := 41) u.2.1 h20 rfl rfl (LWo.move (e_int t5) u.1 (hn := .nil (zn g)))) ?_
         refine dq 44 rfl (fun _ g u h => LWo.guardY (t := 41) u.1 h20 rfl rfl (LWo.indexM (f := e_impl_Tally) e21 u_Limpl_Tally s_impl_Tally u.2.1 u.2.2.1 (hn := .nil (zn g)))) ?_
         refine dq 45 rfl (fun _ g u h => LWo.guardY (t := 41) u.1 h20 rfl rfl (LWo.fieldAddr _ u_impl_Tally rfl s_int u.2.1 rfl (hn := .nil (zn g)))) ?_
         refine dq 46 rfl (fun _ g u h => LWo.guardY (t := 41) u.1 h20 rfl rfl (LWo.load1 (c := (e_int x21.Sum)) g_int u.2.1 (hn := .nil (zn g)))) ?_
         refine dq 47 rfl (fun _ g u h => LWo.guardY (t := 41) u.2.1 h20 rfl rfl (LWo.move (e_Limpl_Tally t1) u.1 (hn := .nil (zn g)))) ?_
         refine dq 48 rfl (fun _ g u h => LWo.guardY (t := 41) u.2.1 h20 rfl rfl (LWo.move (e_int t5) u.1 (hn := .nil (zn g)))) ?_
         refine dq 49 rfl (fun _ g u h => LWo.guardY (t := 41) u.1 h20 rfl rfl (LWo.indexM (f := e_impl_Tally) e22 u_Limpl_Tally s_impl_Tally u.2.1 u.2.2.1 (hn := .nil (zn g)))) ?_
         refine dq 50 rfl (fun _ g u h => LWo.guardY (t := 41) u.1 h20 rfl rfl (LWo.fieldAddr _ u_impl_Tally rfl s_int u.2.1 rfl (hn := .nil (zn g)))) ?_
         refine dq 51 rfl (fun _ g u h => LWo.guardY (t := 41) u.1 h20 rfl rfl (LWo.load1 (c := (e_int x22.Sum)) g_int u.2.1 (hn := .nil (zn g)))) ?_
         refine dq 52 rfl (fun _ g u h => LWo.guardY (t := 41) u.1 h20 rfl rfl (LWo.int _ u.2.1 u.2.2.1 rfl (hn := .nil (zn g)))) ?_
         refine dq 53 rfl (fun _ g u h => LWo.pickFM (e_bool (x21.Sum != x22.Sum)) u.1 h20 u.2.1 (hn := .nil (zn g))) ?_
         refine dq 54 rfl (fun _ g u h => LWo.move (e_bool (x21.Sum != x22.Sum)) u.1 (hn := .nil (zn g))) ?_
         refine dq 55 rfl (fun _ g u h => LWo.guardY (t := 54) u.2.1 h23 rfl rfl (LWo.move (e_Limpl_Tally t0) u.1 (hn := .nil (zn g)))) ?_
         refine dq 56 rfl (fun _ g u h => LWo.guardY (t := 54) u.2.1 h23 rfl rfl (LWo.move (e_int t5) u.1 (hn := .nil (zn g)))) ?_
         refine dq 57 rfl (fun _ g u h => LWo.guardY (t := 54) u.1 h23 rfl rfl (LWo.indexM (f := e_impl_Tally) e24 u_Limpl_Tally s_impl_Tally u.2.1 u.2.2.1 (hn := .nil (zn g)))) ?_
         refine dq 58 rfl (fun _ g u h => LWo.guardY (t := 54) u.1 h23 rfl rfl (LWo.fieldAddr _ u_impl_Tally rfl s_Limpl_Value u.2.1 rfl (hn := .nil (zn g)))) ?_
         refine dq 59 rfl (fun _ g u h => LWo.guardY (t := 54) u.1 h23 rfl rfl (LWo.load1 (c := (e_Limpl_Value x24.Key)) g_Limpl_Value u.2.1 (hn := .nil (zn g)))) ?_
         refine dq 60 rfl (fun _ g u h => LWo.guardY (t := 54) u.2.1 h23 rfl rfl (LWo.move (e_Limpl_Tally t1) u.1 (hn := .nil (zn g)))) ?_
         refine dq 61 rfl (fun _ g u h => LWo.guardY (t := 54) u.2.1 h23 rfl rfl (LWo.move (e_int t5) u.1 (hn := .nil (zn g)))) ?_
         refine dq 62 rfl (fun _ g u h => LWo.guardY (t := 54) u.1 h23 rfl rfl (LWo.indexM (f := e_impl_Tally) e25 u_Limpl_Tally s_impl_Tally u.2.1 u.2.2.1 (hn := .nil (zn g)))) ?_
         refine dq 63 rfl (fun _ g u h => LWo.guardY (t := 54) u.1 h23 rfl rfl (LWo.fieldAddr _ u_impl_Tally rfl s_Limpl_Value u.2.1 rfl (hn := .nil (zn g)))) ?_
         refine dq 64 rfl (fun _ g u h => LWo.guardY (t := 54) u.1 h23 rfl rfl (LWo.load1 (c := (e_Limpl_Value x25.Key)) g_Limpl_Value u.2.1 (hn := .nil (zn g)))) ?_
         refine dq 65 rfl (fun _ g u h => LWo.guardY (t := 54) u.1 h23 rfl rfl (LWo.vcall rfl (av2 u.2.1 u.2.2.1) (c_laws_sameRow _ _ _ e26) (.same (.same (.nil))) (hn := .nil (zn g)))) ?_
         refine dq 66 rfl (fun _ g u h => LWo.guardY (t := 54) u.1 h23 rfl rfl (LWo.not u.2.1 (hn := .nil (zn g)))) ?_
         refine dq 67 rfl (fun _ g u h => LWo.pickFM (e_bool (!x26)) u.1 h23 u.2.1 (hn := .nil (zn g))) ?_
         refine ⟨rfl, by kernel_rfl, hN14 (t0, t1, t5, (!x26)) _ ⟨rfl, rfl, rfl, rfl, trivial⟩ trivial h⟩
    ·have h := bF h12 h
     refine LWP.exit (hN6 () _ trivial trivial h)

def m_impl_ValueOk (a0 : S_impl_Value) : Option Bool :=
  (m_impl_Value_ok a0).bind fun x3 =>
  some x3
theorem c_impl_ValueOk (a0 : S_impl_Value) (r : Bool) (h : m_impl_ValueOk a0 = some r) : Ret Try.prog f_impl_ValueOk [e_impl_Value a0] (e_bool r) := by
  refine Does.goG [] F_impl_ValueOk rfl e_impl_ValueOk n_impl_ValueOk rfl (rvs := [.tmp 2]) rfl rfl ?_
  intro w0 ok0 lent ρ0
  refine LWP.seq_k fun N1 hN1 => ?_
  refine LWP.region (l := [_,_]) ?_
  refine LWo.boxF (e_impl_Value a0) rfl rfl rfl (hn := ?_)
  refine LWo.assign (e_bool false) rfl (hn := ?_)
  refine LWo.nil (hN1 _ ?_)
  refine LWP.seq_k fun N2 hN2 => ?_
  refine LWP.region (l := [_,_,_]) ?_
  refine LWo.loadN ((e_impl_Value a0)).cells g_impl_Value s_impl_Value rfl (Nat.le_of_ble_eq_true rfl) rfl (hn := ?_)
  refine bk h fun x3 e3 h => ?_
  refine LWo.vcall rfl rfl (c_impl_Value_ok _ _ e3) (.same (.nil)) (hn := ?_)
  refine LWo.assign (e_bool x3) rfl (hn := ?_)
  refine LWo.nil (hN2 _ ?_)
  obtain rfl := Option.some.inj h
  refine LWP.ret (QG.mk (.inr rfl) (.cons (.tmp (x := (e_bool x3)) rfl) (.nil)) (RetOK.one0 (.pure rfl) (by decide)) rfl rfl)

def m_laws_alive_j1 (t0 : Bool) : Option Bool :=
  some t0
def m_laws_alive  : Option Bool :=
  (m_impl_ValueOk (⟨(1 : Int), (3 : Int), (⟨#[]⟩ : ByteArray)⟩ : S_impl_Value)).bind fun x3 =>
  bif x3 then ((m_impl_ValueOk (⟨(9 : Int), (0 : Int), (⟨#[]⟩ : ByteArray)⟩ : S_impl_Value)).bind fun x5 =>
    m_laws_alive_j1  (!x5))
  else (m_laws_alive_j1  false)
theorem c_laws_alive  (r : Bool) (h : m_laws_alive  = some r) : Ret Try.prog f_laws_alive [] (e_bool r) := by
  refine Does.goG [] F_laws_alive rfl e_laws_alive n_laws_alive rfl (rvs := [.tmp 0]) rfl rfl ?_
  intro w0 ok0 lent ρ0
  refine LWP.seq_k fun N1 hN1 => ?_
  refine LWP.region (l := [_]) ?_
  refine LWo.assign (e_bool false) rfl (hn := ?_)
  refine LWo.nil (hN1 _ ?_)
  refine LWP.join (α := Bool) (fun z : Bool => [(0, (e_bool z))]) (fun z : Bool => []) (fun z : Bool => m_laws_alive_j1  z) r (fun _ => by simp [hkeys]) ?_ ?_
  ·rintro t0 h
   replace h : m_laws_alive_j1  t0 = some _ := h
   obtain rfl := Option.some.inj h
   refine LWP.ret (QG.mk (.inr rfl) (.cons (.tmp (x := (e_bool t0)) rfl) (.nil)) (RetOK.one0 (.pure rfl) (by decide)) rfl rfl)
  ·intro N2 hN2
   refine LWP.region (l := [_,_,_,_,_,_,_,_]) ?_
   refine LWo.build_impl_Value (parts := [_, _]) (⟨(1 : Int), (3 : Int), (⟨#[]⟩ : ByteArray)⟩ : S_impl_Value) rfl rfl rfl .refl (hn := ?_)
   refine bk h fun x3 e3 h => ?_
   refine LWo.vcall rfl rfl (c_impl_ValueOk _ _ e3) (.same (.nil)) (hn := ?_)
   refine LWo.move (e_bool x3) rfl (hn := ?_)
   refine LWo.byCases (t := 3) _ rfl (fun h4 => ?_) (fun h4 => ?_)
   ·have h := bT h4 h
    refine LWo.guardY (t := 3) rfl h4 rfl rfl ?_
    refine LWo.build_impl_Value (parts := [_]) (⟨(9 : Int), (0 : Int), (⟨#[]⟩ : ByteArray)⟩ : S_impl_Value) rfl rfl rfl .refl (hn := ?_)
    refine bk h fun x5 e5 h => ?_
    refine LWo.guardY (t := 3) rfl h4 rfl rfl ?_
    refine LWo.vcall rfl rfl (c_impl_ValueOk _ _ e5) (.same (.nil)) (hn := ?_)
    refine LWo.guardY (t := 3) rfl h4 rfl rfl ?_
    refine LWo.not rfl (hn := ?_)
    refine LWo.pickTM (e_bool (!x5)) rfl h4 rfl (hn := ?_)
    refine LWo.assign (e_bool (!x5)) rfl (hn := ?_)
    refine LWo.nil (hN2 (!x5) _ ⟨rfl, trivial⟩ trivial h)
   ·have h := bF h4 h
    refine LWo.guardNU (t := 3) rfl h4 rfl rfl rfl rfl rfl ?_
    refine LWo.guardNU (t := 3) rfl h4 rfl rfl rfl rfl rfl ?_
    refine LWo.guardNU (t := 3) rfl h4 rfl rfl rfl rfl rfl ?_
    refine LWo.pickFM (e_bool false) rfl h4 rfl (hn := ?_)
    refine LWo.assign (e_bool false) rfl (hn := ?_)
    refine LWo.nil (hN2 false _ ⟨rfl, trivial⟩ trivial h)

def m_laws_FnTalliesTurned_j4 (t2 : Bool) : Option Bool :=
  some t2
def m_laws_FnTalliesTurned_j3 (t3 : (List S_impl_Tally)) (t5 : (List S_impl_Tally)) (o1050 : (List S_impl_Delta)) : Option Bool :=
  (m_impl_TalliesTurned t5 o1050).bind fun x40 =>
  (m_impl_TalliesOk t5).bind fun x42 =>
  bif x42 then (bif x40.2 then ((m_laws_sameTallies x40.1 t3).bind fun x45 =>
      bif x45 then ((m_laws_alive ).bind fun x47 =>
        m_laws_FnTalliesTurned_j4  x47)
      else (m_laws_FnTalliesTurned_j4  false))
    else (m_laws_FnTalliesTurned_j4  false))
  else (m_laws_FnTalliesTurned_j4  false)
def m_laws_FnTalliesTurned_l1 : Nat → (List S_impl_Tally) → (List S_impl_Delta) → (List S_impl_Tally) → Int → (List S_impl_Delta) → Option Bool
  | 0, _, _, _, _, _ => none
  | n1 + 1, t3, t4, t5, t10, o1050 =>
    bif decide (t10 ≥ (0 : Int)) then ((at? t4 t10).bind fun x34 =>
    (at? t4 t10).bind fun x35 =>
    (ckI (0 - x35.Many)).bind fun x36 =>
    (app? o1050 ([(⟨x34.Row, x36⟩ : S_impl_Delta)] : (List S_impl_Delta))).bind fun x37 =>
    (ckI (t10 - (1 : Int))).bind fun x38 =>
    (m_laws_FnTalliesTurned_l1  n1) t3 t4 t5 x38 x37)
    else (m_laws_FnTalliesTurned_j3  t3 t5 o1050)
def m_laws_FnTalliesTurned_j2 (t2 : Bool) : Option Bool :=
  some t2
def m_laws_FnTalliesTurned_j1 (t3 : (List S_impl_Tally)) (t4 : (List S_impl_Delta)) (t5 : (List S_impl_Tally)) (t6 : Bool) (t41 : Bool) : Option Bool :=
  bif t41 then (some false)
  else (bif (!t6) then (bif ((t5.length : Int) == (0 : Int)) then ((m_laws_alive ).bind fun x23 =>
    m_laws_FnTalliesTurned_j2  x23)
  else (m_laws_FnTalliesTurned_j2  false))
  else ((ckI ((t4.length : Int) - (1 : Int))).bind fun x27 =>
  m_laws_FnTalliesTurned_l1  ((x27 - (0 : Int)).toNat + 2) t3 t4 t5 x27 ([] : (List S_impl_Delta))))
def m_laws_FnTalliesTurned (a0 : (List UInt8)) : Option Bool :=
  bif decide ((a0.length : Int) > (1048576 : Int)) then (some true)
  else ((m_spec_DrawTalliesTurned a0).bind fun x7 =>
  (m_impl_TalliesTurned x7.1 x7.2).bind fun x9 =>
  (m_spec_TalliesTurned x7.1 x7.2).bind fun x11 =>
  bif (x9.2 != x11.2) then (m_laws_FnTalliesTurned_j1  x7.1 x7.2 x9.1 x9.2 true)
  else ((m_laws_sameTallies x9.1 x11.1).bind fun x15 =>
    m_laws_FnTalliesTurned_j1  x7.1 x7.2 x9.1 x9.2 (!x15)))
theorem c_laws_FnTalliesTurned (a0 : (List UInt8)) (r : Bool) (h : m_laws_FnTalliesTurned a0 = some r) : Ret Try.prog f_laws_FnTalliesTurned [e_Luint8 a0] (e_bool r) := by
  refine Does.goG [] F_laws_FnTalliesTurned rfl e_laws_FnTalliesTurned n_laws_FnTalliesTurned rfl (rvs := [.tmp 2]) rfl rfl ?_
  intro w0 ok0 lent ρ0
  refine LWP.seq_k fun N1 hN1 => ?_
  refine LWP.region (l := [_]) ?_
  refine LWo.assign (e_bool false) rfl (hn := ?_)
  refine LWo.nil (hN1 _ ?_)
  refine LWP.seq_k fun N2 hN2 => ?_
  refine LWP.seq_k fun N3 hN3 => ?_
  refine LWP.region (l := [_,_,_]) ?_
  refine LWo.move (e_Luint8 a0) rfl (hn := ?_)
  refine LWo.lenM (f := e_uint8) (l := a0) u_Luint8 rfl (hn := ?_)
  refine LWo.int _ rfl rfl rfl (hn := ?_)
  refine LWo.nil (hN3 _ ?_)
  refine LWP.cond_split rfl (fun h4 => ?_) (fun h4 => ?_)
  ·have h := bT h4 h
   refine LWP.seq_k fun N5 hN5 => ?_
   refine LWP.region (l := [_]) ?_
   refine LWo.assign (e_bool true) rfl (hn := ?_)
   refine LWo.nil (hN5 _ ?_)
   obtain rfl := Option.some.inj h
   refine LWP.ret (QG.mk (.inr rfl) (.cons (.tmp (x := (e_bool true)) rfl) (.nil)) (RetOK.one0 (.pure rfl) (by decide)) rfl rfl)
  ·have h := bF h4 h
   refine LWP.skip (hN2 _ ?_)
   refine LWP.seq_k fun N6 hN6 => ?_
   refine LWP.region (l := [_,_,_,_,_,_,_]) ?_
   refine LWo.move (e_Luint8 a0) rfl (hn := ?_)
   refine bk h fun x7 e7 h => ?_
   refine LWo.vcall rfl rfl (c_spec_DrawTalliesTurned _ _ e7) (.same (.nil)) (hn := ?_)
   refine LWo.move (.tup [(e_Limpl_Tally x7.1), (e_Limpl_Delta x7.2)]) rfl (hn := ?_)
   refine LWo.extract (e_Limpl_Tally x7.1) rfl rfl (hn := ?_)
   refine LWo.extract (e_Limpl_Delta x7.2) rfl rfl (hn := ?_)
   refine LWo.assign (e_Limpl_Tally x7.1) rfl (hn := ?_)
   refine LWo.assign (e_Limpl_Delta x7.2) rfl (hn := ?_)
   refine LWo.nil (hN6 _ ?_)
   refine LWP.seq_k fun N8 hN8 => ?_
   refine LWP.region (l := [_,_,_,_,_,_,_,_]) ?_
   refine LWo.move (e_Limpl_Tally x7.1) rfl (hn := ?_)
   refine LWo.move (e_Limpl_Delta x7.2) rfl (hn := ?_)
   refine bk h fun x9 e9 h => ?_
   refine LWo.vcall rfl rfl (c_impl_TalliesTurned _ _ _ e9) (.same (.same (.nil))) (hn := ?_)
   refine LWo.move (.tup [(e_Limpl_Tally x9.1), (e_bool x9.2)]) rfl (hn := ?_)
   refine LWo.extract (e_Limpl_Tally x9.1) rfl rfl (hn := ?_)
   refine LWo.extract (e_bool x9.2) rfl rfl (hn := ?_)
   refine LWo.assign (e_Limpl_Tally x9.1) rfl (hn := ?_)
   refine LWo.assign (e_bool x9.2) rfl (hn := ?_)
   refine LWo.nil (hN8 _ ?_)
   refine LWP.seq_k fun N10 hN10 => ?_
   refine LWP.region (l := [_,_,_,_,_,_,_,_]) ?_
   refine LWo.move (e_Limpl_Tally x7.1) rfl (hn := ?_)
   refine LWo.move (e_Limpl_Delta x7.2) rfl (hn := ?_)
   refine bk h fun x11 e11 h => ?_
   refine LWo.vcall rfl rfl (c_spec_TalliesTurned _ _ _ e11) (.same (.same (.nil))) (hn := ?_)
   refine LWo.move (.tup [(e_Limpl_Tally x11.1), (e_bool x11.2)]) rfl (hn := ?_)
   refine LWo.extract (e_Limpl_Tally x11.1) rfl rfl (hn := ?_)
   refine LWo.extract (e_bool x11.2) rfl rfl (hn := ?_)
   refine LWo.assign (e_Limpl_Tally x11.1) rfl (hn := ?_)
   refine LWo.assign (e_bool x11.2) rfl (hn := ?_)
   refine LWo.nil (hN10 _ ?_)
   refine LWP.seq_k fun N12 hN12 => ?_
   refine LWP.join (α := (List S_impl_Tally) × (List S_impl_Delta) × (List S_impl_Tally) × Bool × Bool) (fun z : (List S_impl_Tally) × (List S_impl_Delta) × (List S_impl_Tally) × Bool × Bool => [(3, (e_Limpl_Tally z.1)), (4, (e_Limpl_Delta z.2.1)), (5, (e_Limpl_Tally z.2.2.1)), (6, (e_bool z.2.2.2.1)), (41, (e_bool z.2.2.2.2))]) (fun z : (List S_impl_Tally) × (List S_impl_Delta) × (List S_impl_Tally) × Bool × Bool => []) (fun z : (List S_impl_Tally) × (List S_impl_Delta) × (List S_impl_Tally) × Bool × Bool => m_laws_FnTalliesTurned_j1  z.1 z.2.1 z.2.2.1 z.2.2.2.1 z.2.2.2.2) r (fun _ => by simp [hkeys]) ?_ ?_
   ·rintro ⟨t3, t4, t5, t6, t41⟩ h
    replace h : m_laws_FnTalliesTurned_j1  t3 t4 t5 t6 t41 = some _ := h
    refine LWP.cond_split rfl (fun h16 => ?_) (fun h16 => ?_)
    ·have h := bT h16 h
     refine LWP.seq_k fun N17 hN17 => ?_
     refine LWP.region (l := [_]) ?_
     refine LWo.assign (e_bool false) rfl (hn := ?_)
     refine LWo.nil (hN17 _ ?_)
     obtain rfl := Option.some.inj h
     refine LWP.ret (QG.mk (.inr rfl) (.cons (.tmp (x := (e_bool false)) rfl) (.nil)) (RetOK.one0 (.pure rfl) (by decide)) rfl rfl)
    ·have h := bF h16 h
     refine LWP.skip (hN12 _ ?_)
     refine LWP.seq_k fun N18 hN18 => ?_
     refine LWP.seq_k fun N19 hN19 => ?_
     refine LWP.region (l := [_,_]) ?_
     refine LWo.move (e_bool t6) rfl (hn := ?_)
     refine LWo.not rfl (hn := ?_)
     refine LWo.nil (hN19 _ ?_)
     refine LWP.cond_split rfl (fun h20 => ?_) (fun h20 => ?_)
     ·have h := bT h20 h
      refine LWP.join (α := Bool) (fun z : Bool => [(2, (e_bool z))]) (fun z : Bool => []) (fun z : Bool => m_laws_FnTalliesTurned_j2  z) r (fun _ => by simp [hkeys]) ?_ ?_
      ·rintro t2 h
       replace h : m_laws_FnTalliesTurned_j2  t2 = some _ := h
       obtain rfl := Option.some.inj h
       refine LWP.ret (QG.mk (.inr rfl) (.cons (.tmp (x := (e_bool t2)) rfl) (.nil)) (RetOK.one0 (.pure rfl) (by decide)) rfl rfl)
      ·intro N21 hN21
       refine LWP.region (l := [_,_,_,_,_,_,_]) ?_
       refine LWo.move (e_Limpl_Tally t5) rfl (hn := ?_)
       refine LWo.lenM (f := e_impl_Tally) (l := t5) u_Limpl_Tally rfl (hn := ?_)
       refine LWo.int _ rfl rfl rfl (hn := ?_)
       refine LWo.move (e_bool ((t5.length : Int) == (0 : Int))) rfl (hn := ?_)
       refine LWo.byCases (t := 47) _ rfl (fun h22 => ?_) (fun h22 => ?_)
       ·have h := bT h22 h
        refine bk h fun x23 e23 h => ?_
        refine LWo.guardY (t := 47) rfl h22 rfl rfl ?_
        refine LWo.vcall rfl rfl (c_laws_alive  _ e23) (.nil) (hn := ?_)
        refine LWo.pickTM (e_bool x23) rfl h22 rfl (hn := ?_)
        refine LWo.assign (e_bool x23) rfl (hn := ?_)
        refine LWo.nil (hN21 x23 _ ⟨rfl, trivial⟩ trivial h)
       ·have h := bF h22 h
        refine LWo.guardNU (t := 47) rfl h22 rfl rfl rfl rfl rfl ?_
        refine LWo.pickFM (e_bool false) rfl h22 rfl (hn := ?_)
        refine LWo.assign (e_bool false) rfl (hn := ?_)
        refine LWo.nil (hN21 false _ ⟨rfl, trivial⟩ trivial h)
     ·have h := bF h20 h
      refine LWP.skip (hN18 _ ?_)
      refine LWP.seq_k fun N24 hN24 => ?_
      refine LWP.region (l := [_,_]) ?_
      refine LWo.lit0 1050 u_Limpl_Delta s_impl_Delta z_impl_Delta (hn := ?_)
      refine LWo.known 50 (.own 1050 0 ([] : (List S_impl_Delta)).length) rfl ?_
      refine LWo.assign (.own 1050 0 (([] : (List S_impl_Delta))).length) rfl (hn := ?_)
      refine LWo.nil (hN24 _ ?_)
      refine LWP.join (α := (List S_impl_Tally) × (List S_impl_Tally) × (List S_impl_Delta)) (fun z : (List S_impl_Tally) × (List S_impl_Tally) × (List S_impl_Delta) => [(3, (e_Limpl_Tally z.1)), (5, (e_Limpl_Tally z.2.1)), (9, (.own 1050 0 (z.2.2).length))]) (fun z : (List S_impl_Tally) × (List S_impl_Tally) × (List S_impl_Delta) => [(1050, (lob 2 e_impl_Delta z.2.2))]) (fun z : (List S_impl_Tally) × (List S_impl_Tally) × (List S_impl_Delta) => m_laws_FnTalliesTurned_j3  z.1 z.2.1 z.2.2) r (fun _ => by simp [hkeys]) ?_ ?_
      ·rintro ⟨t3, t5, o1050⟩ h
       replace h : m_laws_FnTalliesTurned_j3  t3 t5 o1050 = some _ := h
       refine LWP.seq_k fun N39 hN39 => ?_
       refine LWP.region (l := [_,_,_,_,_,_,_,_]) ?_
       refine LWo.move (e_Limpl_Tally t5) rfl (hn := ?_)
       refine LWo.move (.own 1050 0 (o1050).length) rfl (hn := ?_)
       refine bk h fun x40 e40 h => ?_
       refine LWo.frzL (f := e_impl_Delta) (l := o1050) [9, 75] 1050 rfl rfl ⟨rfl, rfl, trivial⟩ ?_
       refine LWo.vcall rfl rfl (c_impl_TalliesTurned _ _ _ e40) (.same (.same (.nil))) (hn := ?_)
       refine LWo.move (.tup [(e_Limpl_Tally x40.1), (e_bool x40.2)]) rfl (hn := ?_)
       refine LWo.extract (e_Limpl_Tally x40.1) rfl rfl (hn := ?_)
       refine LWo.extract (e_bool x40.2) rfl rfl (hn := ?_)
       refine LWo.assign (e_Limpl_Tally x40.1) rfl (hn := ?_)
       refine LWo.assign (e_bool x40.2) rfl (hn := ?_)
       refine LWo.nil (hN39 _ ?_)
       refine LWP.join (α := Bool) (fun z : Bool => [(2, (e_bool z))]) (fun z : Bool => []) (fun z : Bool => m_laws_FnTalliesTurned_j4  z) r (fun _ => by simp [hkeys]) ?_ ?_
       ·rintro t2 h
        replace h : m_laws_FnTalliesTurned_j4  t2 = some _ := h
        obtain rfl := Option.some.inj h
        refine LWP.ret (QG.mk (.inr rfl) (.cons (.tmp (x := (e_bool t2)) rfl) (.nil)) (RetOK.one0 (.pure rfl) (by decide)) rfl rfl)
       ·intro N41 hN41
        refine LWP.region (l := [_,_,_,_,_,_,_,_,_,_,_,_,_,_]) ?_
        refine LWo.move (e_Limpl_Tally t5) rfl (hn := ?_)
        refine bk h fun x42 e42 h => ?_
        refine LWo.vcall rfl rfl (c_impl_TalliesOk _ _ e42) (.same (.nil)) (hn := ?_)
        refine LWo.move (e_bool x42) rfl (hn := ?_)
        refine LWo.byCases (t := 81) _ rfl (fun h43 => ?_) (fun h43 => ?_)
        ·have h := bT h43 h
         refine LWo.guardY (t := 81) rfl h43 rfl rfl ?_
         refine LWo.move (e_bool x40.2) rfl (hn := ?_)
         refine LWo.pickTM (e_bool x40.2) rfl h43 rfl (hn := ?_)
         refine LWo.move (e_bool x40.2) rfl (hn := ?_)
         refine LWo.byCases (t := 84) _ rfl (fun h44 => ?_) (fun h44 => ?_)
         ·have h := bT h44 h
          refine LWo.guardY (t := 84) rfl h44 rfl rfl ?_
          refine LWo.move (e_Limpl_Tally x40.1) rfl (hn := ?_)
          refine LWo.guardY (t := 84) rfl h44 rfl rfl ?_
          refine LWo.move (e_Limpl_Tally t3) rfl (hn := ?_)
          refine bk h fun x45 e45 h => ?_
          refine LWo.guardY (t := 84) rfl h44 rfl rfl ?_
          refine LWo.vcall rfl rfl (c_laws_sameTallies _ _ _ e45) (.same (.same (.nil))) (hn := ?_)
          refine LWo.pickTM (e_bool x45) rfl h44 rfl (hn := ?_)
          refine LWo.move (e_bool x45) rfl (hn := ?_)
          refine LWo.byCases (t := 89) _ rfl (fun h46 => ?_) (fun h46 => ?_)
          ·have h := bT h46 h
           refine bk h fun x47 e47 h => ?_
           refine LWo.guardY (t := 89) rfl h46 rfl rfl ?_
           refine LWo.vcall rfl rfl (c_laws_alive  _ e47) (.nil) (hn := ?_)
           refine LWo.pickTM (e_bool x47) rfl h46 rfl (hn := ?_)
           refine LWo.assign (e_bool x47) rfl (hn := ?_)
           refine LWo.nil (hN41 x47 _ ⟨rfl, trivial⟩ trivial h)
          ·have h := bF h46 h
           refine LWo.guardNU (t := 89) rfl h46 rfl rfl rfl rfl rfl ?_
           refine LWo.pickFM (e_bool false) rfl h46 rfl (hn := ?_)
           refine LWo.assign (e_bool false) rfl (hn := ?_)
           refine LWo.nil (hN41 false _ ⟨rfl, trivial⟩ trivial h)
         ·have h := bF h44 h
          refine LWo.guardNU (t := 84) rfl h44 rfl rfl rfl rfl rfl ?_
          refine LWo.guardNU (t := 84) rfl h44 rfl rfl rfl rfl rfl ?_
          refine LWo.guardNU (t := 84) rfl h44 rfl rfl rfl rfl rfl ?_
          refine LWo.pickFM (e_bool false) rfl h44 rfl (hn := ?_)
          refine LWo.move (e_bool false) rfl (hn := ?_)
          refine LWo.guardNU (t := 89) rfl rfl rfl rfl rfl rfl rfl ?_
          refine LWo.pickFM (e_bool false) rfl rfl rfl (hn := ?_)
          refine LWo.assign (e_bool false) rfl (hn := ?_)
          refine LWo.nil (hN41 false _ ⟨rfl, trivial⟩ trivial h)
        ·have h := bF h43 h
         refine LWo.guardNU (t := 81) rfl h43 rfl rfl rfl rfl rfl ?_
         refine LWo.pickFM (e_bool false) rfl h43 rfl (hn := ?_)
         refine LWo.move (e_bool false) rfl (hn := ?_)
         refine LWo.guardNU (t := 84) rfl rfl rfl rfl rfl rfl rfl ?_
         refine LWo.guardNU (t := 84) rfl rfl rfl rfl rfl rfl rfl ?_
         refine LWo.guardNU (t := 84) rfl rfl rfl rfl rfl rfl rfl ?_
         refine LWo.pickFM (e_bool false) rfl rfl rfl (hn := ?_)
         refine LWo.move (e_bool false) rfl (hn := ?_)
         refine LWo.guardNU (t := 89) rfl rfl rfl rfl rfl rfl rfl ?_
         refine LWo.pickFM (e_bool false) rfl rfl rfl (hn := ?_)
         refine LWo.assign (e_bool false) rfl (hn := ?_)
         refine LWo.nil (hN41 false _ ⟨rfl, trivial⟩ trivial h)
      ·intro N25 hN25
       refine LWP.seq_k fun N26 hN26 => ?_
       refine LWP.region (l := [_,_,_,_]) ?_
       refine LWo.move (e_Limpl_Delta t4) rfl (hn := ?_)
       refine LWo.lenM (f := e_impl_Delta) (l := t4) u_Limpl_Delta rfl (hn := ?_)
       refine bk h fun x27 e27 h => ?_
       refine LWo.int _ rfl rfl (sub_ck e27) (hn := ?_)
       refine LWo.assign (e_int x27) rfl (hn := ?_)
       refine LWo.nil (hN26 _ ?_)
       refine LWP.block ?_
       refine LWP.loopM (α := (List S_impl_Tally) × (List S_impl_Delta) × (List S_impl_Tally) × Int × (List S_impl_Delta)) (fun z : (List S_impl_Tally) × (List S_impl_Delta) × (List S_impl_Tally) × Int × (List S_impl_Delta) => [(3, (e_Limpl_Tally z.1)), (4, (e_Limpl_Delta z.2.1)), (5, (e_Limpl_Tally z.2.2.1)), (9, (.own 1050 0 (z.2.2.2.2).length)), (10, (e_int z.2.2.2.1))]) (fun z : (List S_impl_Tally) × (List S_impl_Delta) × (List S_impl_Tally) × Int × (List S_impl_Delta) => [(1050, (lob 2 e_impl_Delta z.2.2.2.2))]) (fun n1 (z : (List S_impl_Tally) × (List S_impl_Delta) × (List S_impl_Tally) × Int × (List S_impl_Delta)) => m_laws_FnTalliesTurned_l1  n1 z.1 z.2.1 z.2.2.1 z.2.2.2.1 z.2.2.2.2) r _ (t3, t4, t5, x27, ([] : (List S_impl_Delta))) h (fun _ => rfl) (fun _ => by simp [hkeys]) ⟨rfl, rfl, rfl, rfl, rfl, trivial⟩ ⟨rfl, trivial⟩ ?_
       rintro n1 ⟨t3, t4, t5, t10, o1050⟩ h N28 hN28
       replace h : m_laws_FnTalliesTurned_l1  (n1 + 1) t3 t4 t5 t10 o1050 = some _ := h
       refine LWP.seq_k fun N30 hN30 => ?_
       refine LWP.seq_k fun N31 hN31 => ?_
       refine LWP.region (l := [_,_]) ?_
       refine LWo.move (e_int t10) rfl (hn := ?_)
       refine LWo.int _ rfl rfl rfl (hn := ?_)
       refine LWo.nil (hN31 _ ?_)
       refine LWP.cond_split rfl (fun h32 => ?_) (fun h32 => ?_)
       ·have h := bT h32 h
        refine LWP.skip (hN30 _ ?_)
        refine LWP.seq_k fun N33 hN33 => ?_
        refine LWP.block ?_
        refine bk h fun x34 e34 h => ?_
        refine bk h fun x35 e35 h => ?_
        refine bk h fun x36 e36 h => ?_
        refine bk h fun x37 e37 h => ?_
        refine LWP.drawF (l := [_,_,_,_,_,_,_,_,_,_,_,_,_,_,_,_]) [1050] [3, 4, 5, 9, 10] [([9], []), ([4], []), ([10], []), ([59, 60], []), ([61], []), ([62], []), ([4], []), ([10], []), ([64, 65], []), ([66], []), ([67], []), ([68], []), ([63, 69], []), ([70], []), ([58, 71], [1050]), ([72], [])] [3, 4, 5, 9, 10] [1050] mixed (by kernel_rfl) rfl (by decide) ?_
        refine dq 58 rfl (fun _ g u h => LWo.move (.own 1050 0 (o1050).length) u.1 (hn := .nil (zn g))) ?_
        refine dq 59 rfl (fun _ g u h => LWo.move (e_Limpl_Delta t4) u.1 (hn := .nil (zn g))) ?_
        refine dq 60 rfl (fun _ g u h => LWo.move (e_int t10) u.1 (hn := .nil (zn g))) ?_
        refine dq 61 rfl (fun _ g u h => LWo.indexM (f := e_impl_Delta) e34 u_Limpl_Delta s_impl_Delta u.1 u.2.1 (hn := .nil (zn g))) ?_
        refine dq 62 rfl (fun _ g u h => LWo.fieldAddr _ u_impl_Delta rfl s_Limpl_Value u.1 rfl (hn := .nil (zn g))) ?_
        refine dq 63 rfl (fun _ g u h => LWo.load1 (c := (e_Limpl_Value x34.Row)) g_Limpl_Value u.1 (hn := .nil (zn g))) ?_
        refine dq 64 rfl (fun _ g u h => LWo.move (e_Limpl_Delta t4) u.1 (hn := .nil (zn g))) ?_
        refine dq 65 rfl (fun _ g u h => LWo.move (e_int t10) u.1 (hn := .nil (zn g))) ?_
        refine dq 66 rfl (fun _ g u h => LWo.indexM (f := e_impl_Delta) e35 u_Limpl_Delta s_impl_Delta u.1 u.2.1 (hn := .nil (zn g))) ?_
        refine dq 67 rfl (fun _ g u h => LWo.fieldAddr _ u_impl_Delta rfl s_int u.1 rfl (hn := .nil (zn g))) ?_
        refine dq 68 rfl (fun _ g u h => LWo.load1 (c := (e_int x35.Many)) g_int u.1 (hn := .nil (zn g))) ?_
        refine dq 69 rfl (fun _ g u h => LWo.neg _ u.1 (sub_ck e36) (hn := .nil (zn g))) ?_
        refine dq 70 rfl (fun _ g u h => LWo.build_impl_Delta (parts := [_, _]) (⟨x34.Row, x36⟩ : S_impl_Delta) (pv2 u.1 u.2.1) rfl rfl .refl (hn := .nil (zn g))) ?_
        refine dq 71 rfl (fun _ g u h => LWo.lit (ops := [_]) [(e_impl_Delta (⟨x34.Row, x36⟩ : S_impl_Delta))] u_Limpl_Delta s_impl_Delta z_impl_Delta (lv1 u.1) rfl rfl rfl rfl rfl (hn := .nil (zn g))) ?_
        refine ⟨rfl, .make 72 _ 1050 _, (by exact (goodC rfl goodN)), fun _ g u h => LWo.appendM (f := e_impl_Delta) e37 rfl u_Limpl_Delta u_Limpl_Delta (fun _ h => by cases h) s_impl_Delta i_impl_Delta rfl u.1 h.1 (.sl u.2.1) (lone_of g rfl) rfl (hn := LWo.nil ⟨rfl, .inl rfl, Ef.good_ok (e := .make 72 _ 1050 _) (by exact (goodC rfl goodN)) g⟩), ?_⟩
        refine dq 9 rfl (fun _ g u h => LWo.assign (.own 1050 0 (x37).length) u.1 (hn := .nil (zn g))) ?_
        refine ⟨rfl, by kernel_rfl, hN33 _ ?_⟩
        refine LWP.region (l := [_,_,_]) ?_
        refine LWo.move (e_int t10) rfl (hn := ?_)
        refine bk h fun x38 e38 h => ?_
        refine LWo.int _ rfl rfl (sub_ck e38) (hn := ?_)
        refine LWo.assign (e_int x38) rfl (hn := ?_)
        refine LWo.nil (hN28 (t3, t4, t5, x38, x37) _ ⟨rfl, rfl, rfl, rfl, rfl, trivial⟩ ⟨rfl, trivial⟩ h)
       ·have h := bF h32 h
        refine LWP.exit (hN25 (t3, t5, o1050) _ ⟨rfl, rfl, rfl, trivial⟩ ⟨rfl, trivial⟩ h)
   ·intro N13 hN13
    refine LWP.region (l := [_,_,_,_,_,_,_,_,_]) ?_
    refine LWo.move (e_bool x9.2) rfl (hn := ?_)
    refine LWo.move (e_bool x11.2) rfl (hn := ?_)
    refine LWo.boolNe u_bool rfl rfl (hn := ?_)
    refine LWo.move (e_bool (x9.2 != x11.2)) rfl (hn := ?_)
    refine LWo.byCases (t := 36) _ rfl (fun h14 => ?_) (fun h14 => ?_)
    ·have h := bT h14 h
     refine LWo.guardNU (t := 36) rfl h14 rfl rfl rfl rfl rfl ?_
     refine LWo.guardNU (t := 36) rfl h14 rfl rfl rfl rfl rfl ?_
     refine LWo.guardNU (t := 36) rfl h14 rfl rfl rfl rfl rfl ?_
     refine LWo.guardNU (t := 36) rfl h14 rfl rfl rfl rfl rfl ?_
     refine LWo.pickTM (e_bool true) rfl h14 rfl (hn := ?_)
     refine LWo.nil (hN13 (x7.1, x7.2, x9.1, x9.2, true) _ ⟨rfl, rfl, rfl, rfl, rfl, trivial⟩ trivial h)
    ·have h := bF h14 h
     refine LWo.guardY (t := 36) rfl h14 rfl rfl ?_
     refine LWo.move (e_Limpl_Tally x9.1) rfl (hn := ?_)
     refine LWo.guardY (t := 36) rfl h14 rfl rfl ?_
     refine LWo.move (e_Limpl_Tally x11.1) rfl (hn := ?_)
     refine bk h fun x15 e15 h => ?_
     refine LWo.guardY (t := 36) rfl h14 rfl rfl ?_
     refine LWo.vcall rfl rfl (c_laws_sameTallies _ _ _ e15) (.same (.same (.nil))) (hn := ?_)
     refine LWo.guardY (t := 36) rfl h14 rfl rfl ?_
     refine LWo.not rfl (hn := ?_)
     refine LWo.pickFM (e_bool (!x15)) rfl h14 rfl (hn := ?_)
     refine LWo.nil (hN13 (x7.1, x7.2, x9.1, x9.2, (!x15)) _ ⟨rfl, rfl, rfl, rfl, rfl, trivial⟩ trivial h)
end Go.Proofs.Ytijihchddhikhaa
