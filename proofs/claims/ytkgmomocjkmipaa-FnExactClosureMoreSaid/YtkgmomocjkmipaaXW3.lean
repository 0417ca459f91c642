/- Mirrors of functions, and that the functions return what the mirrors say. -/
import Derived.Test.YtkgmomocjkmipaaXW2
set_option linter.unusedVariables false
set_option linter.unusedSimpArgs false
set_option linter.unnecessarySimpa false
namespace Go.Proofs.Ytkgmomocjkmipaa
open Go.Proofs Go.Lift Go.RowKit
def m_laws_eqPair (a0 : S_impl_Pair) (a1 : S_impl_Pair) : Option Bool :=
  bif (a0.From != a1.From) then (some false)
  else (bif (a0.To != a1.To) then (some false)
  else (some true))
theorem c_laws_eqPair (a0 : S_impl_Pair) (a1 : S_impl_Pair) (r : Bool) (h : m_laws_eqPair a0 a1 = some r) : Ret Try.prog f_laws_eqPair [e_impl_Pair a0, e_impl_Pair a1] (e_bool r) := by
  refine Does.goG [] F_laws_eqPair rfl e_laws_eqPair n_laws_eqPair rfl (rvs := [.tmp 4]) rfl rfl ?_
  intro w0 ok0 lent ρ0
  refine LWP.seq_k fun N1 hN1 => ?_
  refine LWP.region (l := [_,_,_]) ?_
  refine LWo.boxF (e_impl_Pair a0) rfl rfl rfl (hn := ?_)
  refine LWo.boxF (e_impl_Pair a1) rfl rfl rfl (hn := ?_)
  refine LWo.assign (e_bool false) rfl (hn := ?_)
  refine LWo.nil (hN1 _ ?_)
  refine LWP.seq_k fun N2 hN2 => ?_
  refine LWP.seq_k fun N3 hN3 => ?_
  refine LWP.region (l := [_,_,_,_,_]) ?_
  refine LWo.fieldAddr _ u_impl_Pair rfl s_int rfl rfl (hn := ?_)
  refine LWo.load1 (c := (e_int a0.From)) g_int rfl (hn := ?_)
  refine LWo.fieldAddr _ u_impl_Pair rfl s_int rfl rfl (hn := ?_)
  refine LWo.load1 (c := (e_int a1.From)) g_int rfl (hn := ?_)
  refine LWo.int _ rfl rfl rfl (hn := ?_)
  refine LWo.nil (hN3 _ ?_)
  refine LWP.cond_split rfl (fun h4 => ?_) (fun h4 => ?_)
  ·have h := bT h4 h
   refine LWP.seq_k fun N5 hN5 => ?_
   refine LWP.region (l := [_]) ?_
   refine LWo.assign (e_bool false) rfl (hn := ?_)
   refine LWo.nil (hN5 _ ?_)
   obtain rfl := Option.some.inj h
   refine LWP.ret (QG.mk (.inr rfl) (.cons (.tmp (x := (e_bool false)) rfl) (.nil)) (RetOK.one0 (.pure rfl) (by decide)) rfl rfl)
  ·have h := bF h4 h
   refine LWP.skip (hN2 _ ?_)
   refine LWP.seq_k fun N6 hN6 => ?_
   refine LWP.seq_k fun N7 hN7 => ?_
   refine LWP.region (l := [_,_,_,_,_]) ?_
   refine LWo.fieldAddr _ u_impl_Pair rfl s_int rfl rfl (hn := ?_)
   refine LWo.load1 (c := (e_int a0.To)) g_int rfl (hn := ?_)
   refine LWo.fieldAddr _ u_impl_Pair rfl s_int rfl rfl (hn := ?_)
   refine LWo.load1 (c := (e_int a1.To)) g_int rfl (hn := ?_)
   refine LWo.int _ rfl rfl rfl (hn := ?_)
   refine LWo.nil (hN7 _ ?_)
   refine LWP.cond_split rfl (fun h8 => ?_) (fun h8 => ?_)
   ·have h := bT h8 h
    refine LWP.seq_k fun N9 hN9 => ?_
    refine LWP.region (l := [_]) ?_
    refine LWo.assign (e_bool false) rfl (hn := ?_)
    refine LWo.nil (hN9 _ ?_)
    obtain rfl := Option.some.inj h
    refine LWP.ret (QG.mk (.inr rfl) (.cons (.tmp (x := (e_bool false)) rfl) (.nil)) (RetOK.one0 (.pure rfl) (by decide)) rfl rfl)
   ·have h := bF h8 h
    refine LWP.skip (hN6 _ ?_)
    refine LWP.seq_k fun N10 hN10 => ?_
    refine LWP.region (l := [_]) ?_
    refine LWo.assign (e_bool true) rfl (hn := ?_)
    refine LWo.nil (hN10 _ ?_)
    obtain rfl := Option.some.inj h
    refine LWP.ret (QG.mk (.inr rfl) (.cons (.tmp (x := (e_bool true)) rfl) (.nil)) (RetOK.one0 (.pure rfl) (by decide)) rfl rfl)

def m_laws_eqPairS_j1  : Option Bool :=
  some true
def m_laws_eqPairS_l1 : Nat → (List S_impl_Pair) → (List S_impl_Pair) → Int → Option Bool
  | 0, _, _, _ => none
  | n1 + 1, t0, t1, t5 =>
    bif decide (t5 < (t0.length : Int)) then ((at? t0 t5).bind fun x15 =>
    (at? t1 t5).bind fun x16 =>
    (m_laws_eqPair x15 x16).bind fun x17 =>
    bif (!x17) then (some false)
    else ((ckI (t5 + (1 : Int))).bind fun x20 =>
    (m_laws_eqPairS_l1  n1) t0 t1 x20))
    else (m_laws_eqPairS_j1  )
def m_laws_eqPairS (a0 : (List S_impl_Pair)) (a1 : (List S_impl_Pair)) : Option Bool :=
  bif ((a0.length : Int) != (a1.length : Int)) then (some false)
  else (m_laws_eqPairS_l1  (((a0.length : Int) - (0 : Int)).toNat + 1) a0 a1 (0 : Int))
theorem c_laws_eqPairS (a0 : (List S_impl_Pair)) (a1 : (List S_impl_Pair)) (r : Bool) (h : m_laws_eqPairS a0 a1 = some r) : Ret Try.prog f_laws_eqPairS [e_Limpl_Pair a0, e_Limpl_Pair a1] (e_bool r) := by
  refine Does.goG [] F_laws_eqPairS rfl e_laws_eqPairS n_laws_eqPairS rfl (rvs := [.tmp 4]) rfl rfl ?_
  intro w0 ok0 lent ρ0
  refine LWP.seq_k fun N1 hN1 => ?_
  refine LWP.region (l := [_]) ?_
  refine LWo.assign (e_bool false) rfl (hn := ?_)
  refine LWo.nil (hN1 _ ?_)
  refine LWP.seq_k fun N2 hN2 => ?_
  refine LWP.seq_k fun N3 hN3 => ?_
  refine LWP.region (l := [_,_,_,_,_]) ?_
  refine LWo.move (e_Limpl_Pair a0) rfl (hn := ?_)
  refine LWo.lenM (f := e_impl_Pair) (l := a0) u_Limpl_Pair rfl (hn := ?_)
  refine LWo.move (e_Limpl_Pair a1) rfl (hn := ?_)
  refine LWo.lenM (f := e_impl_Pair) (l := a1) u_Limpl_Pair rfl (hn := ?_)
  refine LWo.int _ rfl rfl rfl (hn := ?_)
  refine LWo.nil (hN3 _ ?_)
  refine LWP.cond_split rfl (fun h4 => ?_) (fun h4 => ?_)
  ·have h := bT h4 h
   refine LWP.seq_k fun N5 hN5 => ?_
   refine LWP.region (l := [_]) ?_
   refine LWo.assign (e_bool false) rfl (hn := ?_)
   refine LWo.nil (hN5 _ ?_)
   obtain rfl := Option.some.inj h
   refine LWP.ret (QG.mk (.inr rfl) (.cons (.tmp (x := (e_bool false)) rfl) (.nil)) (RetOK.one0 (.pure rfl) (by decide)) rfl rfl)
  ·have h := bF h4 h
   refine LWP.skip (hN2 _ ?_)
   refine LWP.join (α := Unit) (fun z : Unit => []) (fun z : Unit => []) (fun z : Unit => m_laws_eqPairS_j1  ) r (fun _ => by simp [hkeys]) ?_ ?_
   ·rintro _ h
    replace h : m_laws_eqPairS_j1   = some _ := h
    refine LWP.seq_k fun N21 hN21 => ?_
    refine LWP.region (l := [_]) ?_
    refine LWo.assign (e_bool true) rfl (hn := ?_)
    refine LWo.nil (hN21 _ ?_)
    obtain rfl := Option.some.inj h
    refine LWP.ret (QG.mk (.inr rfl) (.cons (.tmp (x := (e_bool true)) rfl) (.nil)) (RetOK.one0 (.pure rfl) (by decide)) rfl rfl)
   ·intro N6 hN6
    refine LWP.seq_k fun N7 hN7 => ?_
    refine LWP.region (l := [_]) ?_
    refine LWo.assign (e_int (0 : Int)) rfl (hn := ?_)
    refine LWo.nil (hN7 _ ?_)
    refine LWP.block ?_
    refine LWP.loopM (α := (List S_impl_Pair) × (List S_impl_Pair) × Int) (fun z : (List S_impl_Pair) × (List S_impl_Pair) × Int => [(0, (e_Limpl_Pair z.1)), (1, (e_Limpl_Pair z.2.1)), (5, (e_int z.2.2))]) (fun z : (List S_impl_Pair) × (List S_impl_Pair) × Int => []) (fun n1 (z : (List S_impl_Pair) × (List S_impl_Pair) × Int) => m_laws_eqPairS_l1  n1 z.1 z.2.1 z.2.2) r _ (a0, a1, (0 : Int)) h (fun _ => rfl) (fun _ => by simp [hkeys]) ⟨rfl, rfl, rfl, trivial⟩ trivial ?_
    rintro n1 ⟨t0, t1, t5⟩ h N8 hN8
    replace h : m_laws_eqPairS_l1  (n1 + 1) t0 t1 t5 = some _ := h
    refine LWP.seq_k fun N10 hN10 => ?_
    refine LWP.seq_k fun N11 hN11 => ?_
    refine LWP.region (l := [_,_,_,_]) ?_
    refine LWo.move (e_int t5) rfl (hn := ?_)
    refine LWo.move (e_Limpl_Pair t0) rfl (hn := ?_)
    refine LWo.lenM (f := e_impl_Pair) (l := t0) u_Limpl_Pair rfl (hn := ?_)
    refine LWo.int _ rfl rfl rfl (hn := ?_)
    refine LWo.nil (hN11 _ ?_)
    refine LWP.cond_split rfl (fun h12 => ?_) (fun h12 => ?_)
    ·have h := bT h12 h
     refine LWP.skip (hN10 _ ?_)
     refine LWP.seq_k fun N13 hN13 => ?_
     refine LWP.block ?_
     refine LWP.seq_k fun N14 hN14 => ?_
     refine bk h fun x15 e15 h => ?_
     refine bk h fun x16 e16 h => ?_
     refine bk h fun x17 e17 h => ?_
     refine LWP.drawF (l := [_,_,_,_,_,_,_,_,_,_]) [] [0, 1, 5] [([0], []), ([5], []), ([17, 18], []), ([19], []), ([1], []), ([5], []), ([21, 22], []), ([23], []), ([20, 24], []), ([25], [])] [0, 1, 5, 26] [] mixed (by kernel_rfl) rfl (by decide) ?_
     refine dq 17 rfl (fun _ g u h => LWo.move (e_Limpl_Pair t0) u.1 (hn := .nil (zn g))) ?_
     refine dq 18 rfl (fun _ g u h => LWo.move (e_int t5) u.1 (hn := .nil (zn g))) ?_
     refine dq 19 rfl (fun _ g u h => LWo.indexM (f := e_impl_Pair) e15 u_Limpl_Pair s_impl_Pair u.1 u.2.1 (hn := .nil (zn g))) ?_
     refine dq 20 rfl (fun _ g u h => LWo.loadN ((e_impl_Pair x15)).cells g_impl_Pair s_impl_Pair u.1 (Nat.le_of_ble_eq_true rfl) rfl (hn := .nil (zn g))) ?_
     refine dq 21 rfl (fun _ g u h => LWo.move (e_Limpl_Pair t1) u.1 (hn := .nil (zn g))) ?_
     refine dq 22 rfl (fun _ g u h => LWo.move (e_int t5) u.1 (hn := .nil (zn g))) ?_
     refine dq 23 rfl (fun _ g u h => LWo.indexM (f := e_impl_Pair) e16 u_Limpl_Pair s_impl_Pair u.1 u.2.1 (hn := .nil (zn g))) ?_
     refine dq 24 rfl (fun _ g u h => LWo.loadN ((e_impl_Pair x16)).cells g_impl_Pair s_impl_Pair u.1 (Nat.le_of_ble_eq_true rfl) rfl (hn := .nil (zn g))) ?_
     refine dq 25 rfl (fun _ g u h => LWo.vcall rfl (av2 u.1 u.2.1) (c_laws_eqPair _ _ _ e17) (.same (.same (.nil))) (hn := .nil (zn g))) ?_
     refine dq 26 rfl (fun _ g u h => LWo.not u.1 (hn := .nil (zn g))) ?_
     refine ⟨rfl, by kernel_rfl, hN14 _ ?_⟩
     refine LWP.cond_split rfl (fun h18 => ?_) (fun h18 => ?_)
     ·have h := bT h18 h
      refine LWP.seq_k fun N19 hN19 => ?_
      refine LWP.region (l := [_]) ?_
      refine LWo.assign (e_bool false) rfl (hn := ?_)
      refine LWo.nil (hN19 _ ?_)
      obtain rfl := Option.some.inj h
      refine LWP.ret (QG.mk (.inr rfl) (.cons (.tmp (x := (e_bool false)) rfl) (.nil)) (RetOK.one0 (.pure rfl) (by decide)) rfl rfl)
     ·have h := bF h18 h
      refine LWP.skip (hN13 _ ?_)
      refine LWP.region (l := [_,_,_]) ?_
      refine LWo.move (e_int t5) rfl (hn := ?_)
      refine bk h fun x20 e20 h => ?_
      refine LWo.int _ rfl rfl (add_ck e20) (hn := ?_)
      refine LWo.assign (e_int x20) rfl (hn := ?_)
      refine LWo.nil (hN8 (t0, t1, x20) _ ⟨rfl, rfl, rfl, trivial⟩ trivial h)
    ·have h := bF h12 h
     refine LWP.exit (hN6 () _ trivial trivial h)

def m_laws_markPairS_j1 (t1 : Int) (o0 : (List S_impl_Pair)) : Option (Int × (List S_impl_Pair)) :=
  some (t1, o0)
def m_laws_markPairS_l1 : Nat → Int → Int → (List S_impl_Pair) → Option (Int × (List S_impl_Pair))
  | 0, _, _, _ => none
  | n1 + 1, t1, t5, o0 =>
    bif decide (t5 < (o0.length : Int)) then ((at? o0 t5).bind fun x11 =>
    (at? o0 t5).bind fun x12 =>
    lt ({ x12 with From := t1 }) fun y13 =>
    (ckI (t1 + (1 : Int))).bind fun x15 =>
    (at? (o0.set (t5).toNat y13) t5).bind fun x17 =>
    (at? (o0.set (t5).toNat y13) t5).bind fun x18 =>
    lt ({ x18 with To := x15 }) fun y19 =>
    (ckI (x15 + (1 : Int))).bind fun x20 =>
    (ckI (t5 + (1 : Int))).bind fun x21 =>
    (m_laws_markPairS_l1  n1) x20 x21 ((o0.set (t5).toNat y13).set (t5).toNat y19))
    else (m_laws_markPairS_j1  t1 o0)
def m_laws_markPairS (o0 : (List S_impl_Pair)) (a1 : Int) : Option (Int × (List S_impl_Pair)) :=
  m_laws_markPairS_l1  (((o0.length : Int) - (0 : Int)).toNat + 1) a1 (0 : Int) o0
theorem c_laws_markPairS (o0 : (List S_impl_Pair)) (a1 : Int) (r : (Int × (List S_impl_Pair))) (h : m_laws_markPairS o0 a1 = some r) : Does Try.prog f_laws_markPairS [.own 0 0 o0.length, e_int a1] [(0, (lob 2 e_impl_Pair o0))] (fun x hh => x = e_int r.1 ∧ hh = [(0, (lob 2 e_impl_Pair r.2))]) := by
  refine Does.goG [0] F_laws_markPairS rfl e_laws_markPairS n_laws_markPairS rfl (rvs := [.tmp 4]) rfl rfl ?_
  intro w0 ok0 lent ρ0
  refine LWP.seq_k fun N1 hN1 => ?_
  refine LWP.region (l := [_]) ?_
  refine LWo.assign (e_int (0 : Int)) rfl (hn := ?_)
  refine LWo.nil (hN1 _ ?_)
  refine LWP.join (α := Int × (List S_impl_Pair)) (fun z : Int × (List S_impl_Pair) => [(1, (e_int z.1))]) (fun z : Int × (List S_impl_Pair) => [(0, (lob 2 e_impl_Pair z.2))]) (fun z : Int × (List S_impl_Pair) => m_laws_markPairS_j1  z.1 z.2) r (fun _ => by simp [hkeys]) ?_ ?_
  ·rintro ⟨t1, o0⟩ h
   replace h : m_laws_markPairS_j1  t1 o0 = some _ := h
   refine LWP.seq_k fun N22 hN22 => ?_
   refine LWP.region (l := [_,_]) ?_
   refine LWo.move (e_int t1) rfl (hn := ?_)
   refine LWo.assign (e_int t1) rfl (hn := ?_)
   refine LWo.nil (hN22 _ ?_)
   obtain rfl := Option.some.inj h
   refine LWP.ret (QG.mk (.inr rfl) (.cons (.tmp (x := (e_int t1)) rfl) (.nil)) (RetOK.one1 (.pure rfl) (by decide) rfl rfl rfl rfl rfl) rfl rfl)
  ·intro N2 hN2
   refine LWP.seq_k fun N3 hN3 => ?_
   refine LWP.region (l := [_]) ?_
   refine LWo.assign (e_int (0 : Int)) rfl (hn := ?_)
   refine LWo.nil (hN3 _ ?_)
   refine LWP.block ?_
   refine LWP.loopM (α := Int × Int × (List S_impl_Pair)) (fun z : Int × Int × (List S_impl_Pair) => [(0, (.own 0 0 (z.2.2).length)), (1, (e_int z.1)), (5, (e_int z.2.1))]) (fun z : Int × Int × (List S_impl_Pair) => [(0, (lob 2 e_impl_Pair z.2.2))]) (fun n1 (z : Int × Int × (List S_impl_Pair)) => m_laws_markPairS_l1  n1 z.1 z.2.1 z.2.2) r _ (a1, (0 : Int), o0) h (fun _ => rfl) (fun _ => by simp [hkeys]) ⟨rfl, rfl, rfl, trivial⟩ ⟨rfl, trivial⟩ ?_
   rintro n1 ⟨t1, t5, o0⟩ h N4 hN4
   replace h : m_laws_markPairS_l1  (n1 + 1) t1 t5 o0 = some _ := h
   refine LWP.seq_k fun N6 hN6 => ?_
   refine LWP.seq_k fun N7 hN7 => ?_
   refine LWP.region (l := [_,_,_,_]) ?_
   refine LWo.move (e_int t5) rfl (hn := ?_)
   refine LWo.move (.own 0 0 (o0).length) rfl (hn := ?_)
   refine LWo.lenO u_Limpl_Pair rfl (hn := ?_)
   refine LWo.int _ rfl rfl rfl (hn := ?_)
   refine LWo.nil (hN7 _ ?_)
   refine LWP.cond_split rfl (fun h8 => ?_) (fun h8 => ?_)
   ·have h := bT h8 h
    refine LWP.skip (hN6 _ ?_)
    refine LWP.seq_k fun N9 hN9 => ?_
    refine LWP.block ?_
    refine LWP.seq_k fun N10 hN10 => ?_
    refine LWP.region (l := [_,_,_,_,_,_]) ?_
    refine LWo.move (.own 0 0 (o0).length) rfl (hn := ?_)
    refine LWo.move (e_int t5) rfl (hn := ?_)
    refine LWo.move (e_int t1) rfl (hn := ?_)
    refine bk h fun x11 e11 h => ?_
    refine LWo.indexO e11 rfl u_Limpl_Pair s_impl_Pair rfl rfl rfl (hn := ?_)
    refine LWo.fieldPtr u_impl_Pair rfl s_int rfl rfl (hn := ?_)
    refine bk h fun x12 e12 h => ?_
    refine lk h fun y13 e13 h => ?_
    refine LWo.storeO y13 e12 s_int rfl rfl rfl rfl rfl rfl rfl (by rw [e13]; rfl) (hn := ?_)
    refine LWo.nil (hN10 _ ?_)
    refine LWP.seq_k fun N14 hN14 => ?_
    refine LWP.region (l := [_,_,_]) ?_
    refine LWo.move (e_int t1) rfl (hn := ?_)
    refine bk h fun x15 e15 h => ?_
    refine LWo.int _ rfl rfl (add_ck e15) (hn := ?_)
    refine LWo.assign (e_int x15) rfl (hn := ?_)
    refine LWo.nil (hN14 _ ?_)
    refine LWP.seq_k fun N16 hN16 => ?_
    refine LWP.region (l := [_,_,_,_,_,_]) ?_
    refine LWo.move (.own 0 0 (o0).length) rfl (hn := ?_)
    refine LWo.move (e_int t5) rfl (hn := ?_)
    refine LWo.move (e_int x15) rfl (hn := ?_)
    refine bk h fun x17 e17 h => ?_
    refine LWo.indexO e17 List.length_set.symm u_Limpl_Pair s_impl_Pair rfl rfl rfl (hn := ?_)
    refine LWo.fieldPtr u_impl_Pair rfl s_int rfl rfl (hn := ?_)
    refine bk h fun x18 e18 h => ?_
    refine lk h fun y19 e19 h => ?_
    refine LWo.storeO y19 e18 s_int rfl rfl rfl rfl rfl rfl rfl (by rw [e19]; rfl) (hn := ?_)
    refine LWo.nil (hN16 _ ?_)
    refine LWP.region (l := [_,_,_]) ?_
    refine LWo.move (e_int x15) rfl (hn := ?_)
    refine bk h fun x20 e20 h => ?_
    refine LWo.int _ rfl rfl (add_ck e20) (hn := ?_)
    refine LWo.assign (e_int x20) rfl (hn := ?_)
    refine LWo.nil (hN9 _ ?_)
    refine LWP.region (l := [_,_,_]) ?_
    refine LWo.move (e_int t5) rfl (hn := ?_)
    refine bk h fun x21 e21 h => ?_
    refine LWo.int _ rfl rfl (add_ck e21) (hn := ?_)
    refine LWo.assign (e_int x21) rfl (hn := ?_)
    refine LWo.nil (hN4 (x20, x21, ((o0.set (t5).toNat y13).set (t5).toNat y19)) _ ⟨(congrArg (LV.own 0 0) (List.length_set.symm.trans List.length_set.symm)), rfl, rfl, trivial⟩ ⟨rfl, trivial⟩ h)
   ·have h := bF h8 h
    refine LWP.exit (hN2 (t1, o0) _ ⟨rfl, trivial⟩ ⟨rfl, trivial⟩ h)
theorem k_laws_markPairS (o0 : (List S_impl_Pair)) (a1 : Int) (r : (Int × (List S_impl_Pair))) (h : m_laws_markPairS o0 a1 = some r) (k : Nat) : Does Try.prog f_laws_markPairS [.own k 0 o0.length, e_int a1] [(k, (lob 2 e_impl_Pair o0))] (fun x hh => x = e_int r.1 ∧ hh = [(k, (lob 2 e_impl_Pair r.2))]) :=
  Does.nameO (c_laws_markPairS o0 a1 r h) (fun _ => rfl) k

def m_laws_heldPairS_j1 (t1 : Int) : Option Int :=
  some t1
def m_laws_heldPairS_l1 : Nat → (List S_impl_Pair) → Int → Int → Option Int
  | 0, _, _, _ => none
  | n1 + 1, t0, t1, t5 =>
    bif decide (t5 < (t0.length : Int)) then ((at? t0 t5).bind fun x12 =>
    bif (x12.From != t1) then (some (-1 : Int))
    else ((ckI (t1 + (1 : Int))).bind fun x16 =>
    (at? t0 t5).bind fun x19 =>
    bif (x19.To != x16) then (some (-1 : Int))
    else ((ckI (x16 + (1 : Int))).bind fun x22 =>
    (ckI (t5 + (1 : Int))).bind fun x23 =>
    (m_laws_heldPairS_l1  n1) t0 x22 x23)))
    else (m_laws_heldPairS_j1  t1)
def m_laws_heldPairS (a0 : (List S_impl_Pair)) (a1 : Int) : Option Int :=
  m_laws_heldPairS_l1  (((a0.length : Int) - (0 : Int)).toNat + 1) a0 a1 (0 : Int)
theorem c_laws_heldPairS (a0 : (List S_impl_Pair)) (a1 : Int) (r : Int) (h : m_laws_heldPairS a0 a1 = some r) : Ret Try.prog f_laws_heldPairS [e_Limpl_Pair a0, e_int a1] (e_int r) := by
  refine Does.goG [] F_laws_heldPairS rfl e_laws_heldPairS n_laws_heldPairS rfl (rvs := [.tmp 4]) rfl rfl ?_
  intro w0 ok0 lent ρ0
  refine LWP.seq_k fun N1 hN1 => ?_
  refine LWP.region (l := [_]) ?_
  refine LWo.assign (e_int (0 : Int)) rfl (hn := ?_)
  refine LWo.nil (hN1 _ ?_)
  refine LWP.join (α := Int) (fun z : Int => [(1, (e_int z))]) (fun z : Int => []) (fun z : Int => m_laws_heldPairS_j1  z) r (fun _ => by simp [hkeys]) ?_ ?_
  ·rintro t1 h
   replace h : m_laws_heldPairS_j1  t1 = some _ := h
   refine LWP.seq_k fun N24 hN24 => ?_
   refine LWP.region (l := [_,_]) ?_
   refine LWo.move (e_int t1) rfl (hn := ?_)
   refine LWo.assign (e_int t1) rfl (hn := ?_)
   refine LWo.nil (hN24 _ ?_)
   obtain rfl := Option.some.inj h
   refine LWP.ret (QG.mk (.inr rfl) (.cons (.tmp (x := (e_int t1)) rfl) (.nil)) (RetOK.one0 (.pure rfl) (by decide)) rfl rfl)
  ·intro N2 hN2
   refine LWP.seq_k fun N3 hN3 => ?_
   refine LWP.region (l := [_]) ?_
   refine LWo.assign (e_int (0 : Int)) rfl (hn := ?_)
   refine LWo.nil (hN3 _ ?_)
   refine LWP.block ?_
   refine LWP.loopM (α := (List S_impl_Pair) × Int × Int) (fun z : (List S_impl_Pair) × Int × Int => [(0, (e_Limpl_Pair z.1)), (1, (e_int z.2.1)), (5, (e_int z.2.2))]) (fun z : (List S_impl_Pair) × Int × Int => []) (fun n1 (z : (List S_impl_Pair) × Int × Int) => m_laws_heldPairS_l1  n1 z.1 z.2.1 z.2.2) r _ (a0, a1, (0 : Int)) h (fun _ => rfl) (fun _ => by simp [hkeys]) ⟨rfl, rfl, rfl, trivial⟩ trivial ?_
   rintro n1 ⟨t0, t1, t5⟩ h N4 hN4
   replace h : m_laws_heldPairS_l1  (n1 + 1) t0 t1 t5 = some _ := h
   refine LWP.seq_k fun N6 hN6 => ?_
   refine LWP.seq_k fun N7 hN7 => ?_
   refine LWP.region (l := [_,_,_,_]) ?_
   refine LWo.move (e_int t5) rfl (hn := ?_)
   refine LWo.move (e_Limpl_Pair t0) rfl (hn := ?_)
   refine LWo.lenM (f := e_impl_Pair) (l := t0) u_Limpl_Pair rfl (hn := ?_)
   refine LWo.int _ rfl rfl rfl (hn := ?_)
   refine LWo.nil (hN7 _ ?_)
   refine LWP.cond_split rfl (fun h8 => ?_) (fun h8 => ?_)
   ·have h := bT h8 h
    refine LWP.skip (hN6 _ ?_)
    refine LWP.seq_k fun N9 hN9 => ?_
    refine LWP.block ?_
    refine LWP.seq_k fun N10 hN10 => ?_
    refine LWP.seq_k fun N11 hN11 => ?_
    refine LWP.region (l := [_,_,_,_,_,_,_]) ?_
    refine LWo.move (e_Limpl_Pair t0) rfl (hn := ?_)
    refine LWo.move (e_int t5) rfl (hn := ?_)
    refine bk h fun x12 e12 h => ?_
    refine LWo.indexM (f := e_impl_Pair) e12 u_Limpl_Pair s_impl_Pair rfl rfl (hn := ?_)
    refine LWo.fieldAddr _ u_impl_Pair rfl s_int rfl rfl (hn := ?_)
    refine LWo.load1 (c := (e_int x12.From)) g_int rfl (hn := ?_)
    refine LWo.move (e_int t1) rfl (hn := ?_)
    refine LWo.int _ rfl rfl rfl (hn := ?_)
    refine LWo.nil (hN11 _ ?_)
    refine LWP.cond_split rfl (fun h13 => ?_) (fun h13 => ?_)
    ·have h := bT h13 h
     refine LWP.seq_k fun N14 hN14 => ?_
     refine LWP.region (l := [_]) ?_
     refine LWo.assign (e_int (-1 : Int)) rfl (hn := ?_)
     refine LWo.nil (hN14 _ ?_)
     obtain rfl := Option.some.inj h
     refine LWP.ret (QG.mk (.inr rfl) (.cons (.tmp (x := (e_int (-1 : Int))) rfl) (.nil)) (RetOK.one0 (.pure rfl) (by decide)) rfl rfl)
    ·have h := bF h13 h
     refine LWP.skip (hN10 _ ?_)
     refine LWP.seq_k fun N15 hN15 => ?_
     refine LWP.region (l := [_,_,_]) ?_
     refine LWo.move (e_int t1) rfl (hn := ?_)
     refine bk h fun x16 e16 h => ?_
     refine LWo.int _ rfl rfl (add_ck e16) (hn := ?_)
     refine LWo.assign (e_int x16) rfl (hn := ?_)
     refine LWo.nil (hN15 _ ?_)
     refine LWP.seq_k fun N17 hN17 => ?_
     refine LWP.seq_k fun N18 hN18 => ?_
     refine LWP.region (l := [_,_,_,_,_,_,_]) ?_
     refine LWo.move (e_Limpl_Pair t0) rfl (hn := ?_)
     refine LWo.move (e_int t5) rfl (hn := ?_)
     refine bk h fun x19 e19 h => ?_
     refine LWo.indexM (f := e_impl_Pair) e19 u_Limpl_Pair s_impl_Pair rfl rfl (hn := ?_)
     refine LWo.fieldAddr _ u_impl_Pair rfl s_int rfl rfl (hn := ?_)
     refine LWo.load1 (c := (e_int x19.To)) g_int rfl (hn := ?_)
     refine LWo.move (e_int x16) rfl (hn := ?_)
     refine LWo.int _ rfl rfl rfl (hn := ?_)
     refine LWo.nil (hN18 _ ?_)
     refine LWP.cond_split rfl (fun h20 => ?_) (fun h20 => ?_)
     ·have h := bT h20 h
      refine LWP.seq_k fun N21 hN21 => ?_
      refine LWP.region (l := [_]) ?_
      refine LWo.assign (e_int (-1 : Int)) rfl (hn := ?_)
      refine LWo.nil (hN21 _ ?_)
      obtain rfl := Option.some.inj h
      refine LWP.ret (QG.mk (.inr rfl) (.cons (.tmp (x := (e_int (-1 : Int))) rfl) (.nil)) (RetOK.one0 (.pure rfl) (by decide)) rfl rfl)
     ·have h := bF h20 h
      refine LWP.skip (hN17 _ ?_)
      refine LWP.region (l := [_,_,_]) ?_
      refine LWo.move (e_int x16) rfl (hn := ?_)
      refine bk h fun x22 e22 h => ?_
      refine LWo.int _ rfl rfl (add_ck e22) (hn := ?_)
      refine LWo.assign (e_int x22) rfl (hn := ?_)
      refine LWo.nil (hN9 _ ?_)
      refine LWP.region (l := [_,_,_]) ?_
      refine LWo.move (e_int t5) rfl (hn := ?_)
      refine bk h fun x23 e23 h => ?_
      refine LWo.int _ rfl rfl (add_ck e23) (hn := ?_)
      refine LWo.assign (e_int x23) rfl (hn := ?_)
      refine LWo.nil (hN4 (t0, x22, x23) _ ⟨rfl, rfl, rfl, trivial⟩ trivial h)
   ·have h := bF h8 h
    refine LWP.exit (hN2 t1 _ ⟨rfl, trivial⟩ trivial h)

def m_laws_FnExactClosureMore_j1 (t0 : (List S_laws_Pair)) (t3 : S_laws_Pair) (t6 : (List S_impl_Pair)) (t48 : Bool) (o1028 : (List S_impl_Pair)) : Option Bool :=
  bif t48 then (some false)
  else ((m_laws_markPairS o1028 (1 : Int)).bind fun x41 =>
  (lenQ x41.2.length o1028.length ()).bind fun u42 =>
  (m_laws_heldPairS x41.2 (1 : Int)).bind fun x45 =>
  bif decide (x45 < (0 : Int)) then (some false)
  else (bif (x45 != x41.1) then (some false)
  else ((m_laws_toPairS t0).bind fun x55 =>
  (m_laws_toPair t3).bind fun x56 =>
  (m_impl_ClosureMore x55 x56).bind fun x57 =>
  (m_laws_eqPairS x57 t6).bind fun x60 =>
  bif (!x60) then (some false)
  else ((m_laws_heldPairS x41.2 (1 : Int)).bind fun x65 =>
  bif decide (x65 < (0 : Int)) then (some false)
  else (bif (x65 != x41.1) then (some false)
  else (some true))))))
def m_laws_FnExactClosureMore (a0 : (List S_laws_Pair)) (a1 : S_laws_Pair) : Option Bool :=
  (m_laws_szPairS a0 (1048576 : Int)).bind fun x4 =>
  bif decide (x4 < (0 : Int)) then (some true)
  else ((m_laws_toPairS a0).bind fun x10 =>
  (m_laws_toPair a1).bind fun x11 =>
  (m_spec_ClosureMore x10 x11).bind fun x12 =>
  (m_laws_toPairS a0).bind fun x14 =>
  (m_laws_toPair a1).bind fun x16 =>
  (m_impl_ClosureMore x14 x16).bind fun x17 =>
  (m_laws_eqPairS x17 x12).bind fun x20 =>
  bif (!x20) then (some false)
  else ((m_laws_toPairS a0).bind fun x25 =>
  (m_laws_eqPairS x14 x25).bind fun x26 =>
  bif (!x26) then (some false)
  else ((m_laws_markPairS x14 (1 : Int)).bind fun x31 =>
  (lenQ x31.2.length x14.length ()).bind fun u32 =>
  bif decide (x31.1 < (0 : Int)) then (m_laws_FnExactClosureMore_j1  a0 a1 x12 true x17)
  else ((m_laws_eqPairS x17 x12).bind fun x36 =>
    m_laws_FnExactClosureMore_j1  a0 a1 x12 (!x36) x17))))
theorem c_laws_FnExactClosureMore (a0 : (List S_laws_Pair)) (a1 : S_laws_Pair) (r : Bool) (h : m_laws_FnExactClosureMore a0 a1 = some r) : Ret Try.prog f_laws_FnExactClosureMore [e_Llaws_Pair a0, e_laws_Pair a1] (e_bool r) := by
  refine Does.goG [] F_laws_FnExactClosureMore rfl e_laws_FnExactClosureMore n_laws_FnExactClosureMore rfl (rvs := [.tmp 4]) rfl rfl ?_
  intro w0 ok0 lent ρ0
  refine LWP.seq_k fun N1 hN1 => ?_
  refine LWP.region (l := [_,_]) ?_
  refine LWo.boxF (e_laws_Pair a1) rfl rfl rfl (hn := ?_)
  refine LWo.assign (e_bool false) rfl (hn := ?_)
  refine LWo.nil (hN1 _ ?_)
  refine LWP.seq_k fun N2 hN2 => ?_
  refine LWP.region (l := [_]) ?_
  refine LWo.assign (e_int (1048576 : Int)) rfl (hn := ?_)
  refine LWo.nil (hN2 _ ?_)
  refine LWP.seq_k fun N3 hN3 => ?_
  refine LWP.region (l := [_,_,_,_]) ?_
  refine LWo.move (e_Llaws_Pair a0) rfl (hn := ?_)
  refine LWo.move (e_int (1048576 : Int)) rfl (hn := ?_)
  refine bk h fun x4 e4 h => ?_
  refine LWo.vcall rfl rfl (c_laws_szPairS _ _ _ e4) (.same (.same (.nil))) (hn := ?_)
  refine LWo.assign (e_int x4) rfl (hn := ?_)
  refine LWo.nil (hN3 _ ?_)
  refine LWP.seq_k fun N5 hN5 => ?_
  refine LWP.seq_k fun N6 hN6 => ?_
  refine LWP.region (l := [_,_]) ?_
  refine LWo.move (e_int x4) rfl (hn := ?_)
  refine LWo.int _ rfl rfl rfl (hn := ?_)
  refine LWo.nil (hN6 _ ?_)
  refine LWP.cond_split rfl (fun h7 => ?_) (fun h7 => ?_)
  ·have h := bT h7 h
   refine LWP.seq_k fun N8 hN8 => ?_
   refine LWP.region (l := [_]) ?_
   refine LWo.assign (e_bool true) rfl (hn := ?_)
   refine LWo.nil (hN8 _ ?_)
   obtain rfl := Option.some.inj h
   refine LWP.ret (QG.mk (.inr rfl) (.cons (.tmp (x := (e_bool true)) rfl) (.nil)) (RetOK.one0 (.pure rfl) (by decide)) rfl rfl)
  ·have h := bF h7 h
   refine LWP.skip (hN5 _ ?_)
   refine LWP.seq_k fun N9 hN9 => ?_
   refine bk h fun x10 e10 h => ?_
   refine bk h fun x11 e11 h => ?_
   refine bk h fun x12 e12 h => ?_
   refine LWP.drawF (l := [_,_,_,_,_,_]) [] [0, 3] [([0], []), ([18], []), ([3], []), ([20], []), ([19, 21], []), ([22], [])] [0, 3, 6] [] mixed (by kernel_rfl) rfl (by decide) ?_
   refine dq 18 rfl (fun _ g u h => LWo.move (e_Llaws_Pair a0) u.1 (hn := .nil (zn g))) ?_
   refine dq 19 rfl (fun _ g u h => LWo.vcall rfl (av1 u.1) (c_laws_toPairS _ _ e10) (.same (.nil)) (hn := .nil (zn g))) ?_
   refine dq 20 rfl (fun _ g u h => LWo.loadN ((e_laws_Pair a1)).cells g_laws_Pair s_laws_Pair u.1 (Nat.le_of_ble_eq_true rfl) rfl (hn := .nil (zn g))) ?_
   refine dq 21 rfl (fun _ g u h => LWo.vcall rfl (av1 u.1) (c_laws_toPair _ _ e11) (.same (.nil)) (hn := .nil (zn g))) ?_
   refine dq 22 rfl (fun _ g u h => LWo.vcall rfl (av2 u.1 u.2.1) (c_spec_ClosureMore _ _ _ e12) (.same (.same (.nil))) (hn := .nil (zn g))) ?_
   refine dq 6 rfl (fun _ g u h => LWo.assign (e_Limpl_Pair x12) u.1 (hn := .nil (zn g))) ?_
   refine ⟨rfl, by kernel_rfl, hN9 _ ?_⟩
   refine LWP.seq_k fun N13 hN13 => ?_
   refine LWP.region (l := [_,_,_]) ?_
   refine LWo.move (e_Llaws_Pair a0) rfl (hn := ?_)
   refine bk h fun x14 e14 h => ?_
   refine LWo.ncall (e := e_impl_Pair) 1024 rfl rfl (c_laws_toPairS _ _ e14) (.same (.nil)) rfl (hn := ?_)
   refine LWo.assign (.own 1024 0 (x14).length) rfl (hn := ?_)
   refine LWo.nil (hN13 _ ?_)
   refine LWP.seq_k fun N15 hN15 => ?_
   refine LWP.region (l := [_,_,_,_,_]) ?_
   refine LWo.move (.own 1024 0 (x14).length) rfl (hn := ?_)
   refine LWo.loadN ((e_laws_Pair a1)).cells g_laws_Pair s_laws_Pair rfl (Nat.le_of_ble_eq_true rfl) rfl (hn := ?_)
   refine bk h fun x16 e16 h => ?_
   refine LWo.vcall rfl rfl (c_laws_toPair _ _ e16) (.same (.nil)) (hn := ?_)
   refine bk h fun x17 e17 h => ?_
   refine LWo.ncallV (e := e_impl_Pair) 1028 rfl rfl (c_impl_ClosureMore _ _ _ e17) (.viewM rfl rfl rfl (.same (.nil))) (fun _ => rfl) rfl (hn := ?_)
   refine LWo.assign (.own 1028 0 (x17).length) rfl (hn := ?_)
   refine LWo.nil (hN15 _ ?_)
   refine LWP.seq_k fun N18 hN18 => ?_
   refine LWP.seq_k fun N19 hN19 => ?_
   refine LWP.region (l := [_,_,_,_]) ?_
   refine LWo.move (.own 1028 0 (x17).length) rfl (hn := ?_)
   refine LWo.move (e_Limpl_Pair x12) rfl (hn := ?_)
   refine bk h fun x20 e20 h => ?_
   refine LWo.wcall rfl rfl (c_laws_eqPairS _ _ _ e20) (.viewM rfl rfl rfl (.same (.nil))) rfl (hn := ?_)
   refine LWo.not rfl (hn := ?_)
   refine LWo.nil (hN19 _ ?_)
   refine LWP.cond_split rfl (fun h21 => ?_) (fun h21 => ?_)
   ·have h := bT h21 h
    refine LWP.seq_k fun N22 hN22 => ?_
    refine LWP.region (l := [_]) ?_
    refine LWo.assign (e_bool false) rfl (hn := ?_)
    refine LWo.nil (hN22 _ ?_)
    obtain rfl := Option.some.inj h
    refine LWP.ret (QG.mk (.inr rfl) (.cons (.tmp (x := (e_bool false)) rfl) (.nil)) (RetOK.one0 (.pure rfl) (by decide)) rfl rfl)
   ·have h := bF h21 h
    refine LWP.skip (hN18 _ ?_)
    refine LWP.seq_k fun N23 hN23 => ?_
    refine LWP.seq_k fun N24 hN24 => ?_
    refine LWP.region (l := [_,_,_,_,_]) ?_
    refine LWo.move (.own 1024 0 (x14).length) rfl (hn := ?_)
    refine LWo.move (e_Llaws_Pair a0) rfl (hn := ?_)
    refine bk h fun x25 e25 h => ?_
    refine LWo.vcall rfl rfl (c_laws_toPairS _ _ e25) (.same (.nil)) (hn := ?_)
    refine bk h fun x26 e26 h => ?_
    refine LWo.wcall rfl rfl (c_laws_eqPairS _ _ _ e26) (.viewM rfl rfl rfl (.same (.nil))) rfl (hn := ?_)
    refine LWo.not rfl (hn := ?_)
    refine LWo.nil (hN24 _ ?_)
    refine LWP.cond_split rfl (fun h27 => ?_) (fun h27 => ?_)
    ·have h := bT h27 h
     refine LWP.seq_k fun N28 hN28 => ?_
     refine LWP.region (l := [_]) ?_
     refine LWo.assign (e_bool false) rfl (hn := ?_)
     refine LWo.nil (hN28 _ ?_)
     obtain rfl := Option.some.inj h
     refine LWP.ret (QG.mk (.inr rfl) (.cons (.tmp (x := (e_bool false)) rfl) (.nil)) (RetOK.one0 (.pure rfl) (by decide)) rfl rfl)
    ·have h := bF h27 h
     refine LWP.skip (hN23 _ ?_)
     refine LWP.seq_k fun N29 hN29 => ?_
     refine LWP.region (l := [_]) ?_
     refine LWo.assign (e_int (1 : Int)) rfl (hn := ?_)
     refine LWo.nil (hN29 _ ?_)
     refine LWP.seq_k fun N30 hN30 => ?_
     refine LWP.region (l := [_,_,_,_]) ?_
     refine LWo.move (.own 1024 0 (x14).length) rfl (hn := ?_)
     refine LWo.move (e_int (1 : Int)) rfl (hn := ?_)
     refine bk h fun x31 e31 h => ?_
     refine bk h fun u32 e32 h => ?_
     refine LWo.ucallM (e := e_impl_Pair) rfl rfl (k_laws_markPairS _ _ _ e31 1024) rfl rfl (some 40) rfl (hn := ?_)
     refine LWo.assign (e_int x31.1) rfl (hn := ?_)
     refine LWo.nil (hN30 _ ?_)
     refine LWP.seq_k fun N33 hN33 => ?_
     refine LWP.join (α := (List S_laws_Pair) × S_laws_Pair × (List S_impl_Pair) × Bool × (List S_impl_Pair)) (fun z : (List S_laws_Pair) × S_laws_Pair × (List S_impl_Pair) × Bool × (List S_impl_Pair) => [(0, (e_Llaws_Pair z.1)), (3, (.fp (e_laws_Pair z.2.1).cells)), (6, (e_Limpl_Pair z.2.2.1)), (8, (.own 1028 0 (z.2.2.2.2).length)), (48, (e_bool z.2.2.2.1))]) (fun z : (List S_laws_Pair) × S_laws_Pair × (List S_impl_Pair) × Bool × (List S_impl_Pair) => [(1028, (lob 2 e_impl_Pair z.2.2.2.2))]) (fun z : (List S_laws_Pair) × S_laws_Pair × (List S_impl_Pair) × Bool × (List S_impl_Pair) => m_laws_FnExactClosureMore_j1  z.1 z.2.1 z.2.2.1 z.2.2.2.1 z.2.2.2.2) r (fun _ => by simp [hkeys]) ?_ ?_
     ·rintro ⟨t0, t3, t6, t48, o1028⟩ h
      replace h : m_laws_FnExactClosureMore_j1  t0 t3 t6 t48 o1028 = some _ := h
      refine LWP.cond_split rfl (fun h37 => ?_) (fun h37 => ?_)
      ·have h := bT h37 h
       refine LWP.seq_k fun N38 hN38 => ?_
       refine LWP.region (l := [_]) ?_
       refine LWo.assign (e_bool false) rfl (hn := ?_)
       refine LWo.nil (hN38 _ ?_)
       obtain rfl := Option.some.inj h
       refine LWP.ret (QG.mk (.inr rfl) (.cons (.tmp (x := (e_bool false)) rfl) (.nil)) (RetOK.one0 (.pure rfl) (by decide)) rfl rfl)
      ·have h := bF h37 h
       refine LWP.skip (hN33 _ ?_)
       refine LWP.seq_k fun N39 hN39 => ?_
       refine LWP.region (l := [_]) ?_
       refine LWo.assign (e_int (1 : Int)) rfl (hn := ?_)
       refine LWo.nil (hN39 _ ?_)
       refine LWP.seq_k fun N40 hN40 => ?_
       refine LWP.region (l := [_,_,_,_]) ?_
       refine LWo.move (.own 1028 0 (o1028).length) rfl (hn := ?_)
       refine LWo.move (e_int (1 : Int)) rfl (hn := ?_)
       refine bk h fun x41 e41 h => ?_
       refine bk h fun u42 e42 h => ?_
       refine LWo.ucallM (e := e_impl_Pair) rfl rfl (k_laws_markPairS _ _ _ e41 1028) rfl rfl (some 51) rfl (hn := ?_)
       refine LWo.assign (e_int x41.1) rfl (hn := ?_)
       refine LWo.nil (hN40 _ ?_)
       refine LWP.seq_k fun N43 hN43 => ?_
       refine LWP.region (l := [_]) ?_
       refine LWo.assign (e_int (1 : Int)) rfl (hn := ?_)
       refine LWo.nil (hN43 _ ?_)
       refine LWP.seq_k fun N44 hN44 => ?_
       refine LWP.region (l := [_,_,_,_]) ?_
       refine LWo.move (.own 1028 0 (o1028).length) rfl (hn := ?_)
       refine LWo.move (e_int (1 : Int)) rfl (hn := ?_)
       refine bk h fun x45 e45 h => ?_
       refine LWo.wcall rfl rfl (c_laws_heldPairS _ _ _ e45) (.viewM rfl ((lenQ_some e42).1.symm) rfl (.same (.nil))) rfl (hn := ?_)
       refine LWo.assign (e_int x45) rfl (hn := ?_)
       refine LWo.nil (hN44 _ ?_)
       refine LWP.seq_k fun N46 hN46 => ?_
       refine LWP.seq_k fun N47 hN47 => ?_
       refine LWP.region (l := [_,_]) ?_
       refine LWo.move (e_int x45) rfl (hn := ?_)
       refine LWo.int _ rfl rfl rfl (hn := ?_)
       refine LWo.nil (hN47 _ ?_)
       refine LWP.cond_split rfl (fun h48 => ?_) (fun h48 => ?_)
       ·have h := bT h48 h
        refine LWP.seq_k fun N49 hN49 => ?_
        refine LWP.region (l := [_]) ?_
        refine LWo.assign (e_bool false) rfl (hn := ?_)
        refine LWo.nil (hN49 _ ?_)
        obtain rfl := Option.some.inj h
        refine LWP.ret (QG.mk (.inr rfl) (.cons (.tmp (x := (e_bool false)) rfl) (.nil)) (RetOK.one0 (.pure rfl) (by decide)) rfl rfl)
       ·have h := bF h48 h
        refine LWP.skip (hN46 _ ?_)
        refine LWP.seq_k fun N50 hN50 => ?_
        refine LWP.seq_k fun N51 hN51 => ?_
        refine LWP.region (l := [_,_,_]) ?_
        refine LWo.move (e_int x45) rfl (hn := ?_)
        refine LWo.move (e_int x41.1) rfl (hn := ?_)
        refine LWo.int _ rfl rfl rfl (hn := ?_)
        refine LWo.nil (hN51 _ ?_)
        refine LWP.cond_split rfl (fun h52 => ?_) (fun h52 => ?_)
        ·have h := bT h52 h
         refine LWP.seq_k fun N53 hN53 => ?_
         refine LWP.region (l := [_]) ?_
         refine LWo.assign (e_bool false) rfl (hn := ?_)
         refine LWo.nil (hN53 _ ?_)
         obtain rfl := Option.some.inj h
         refine LWP.ret (QG.mk (.inr rfl) (.cons (.tmp (x := (e_bool false)) rfl) (.nil)) (RetOK.one0 (.pure rfl) (by decide)) rfl rfl)
        ·have h := bF h52 h
         refine LWP.skip (hN50 _ ?_)
         refine LWP.seq_k fun N54 hN54 => ?_
         refine bk h fun x55 e55 h => ?_
         refine bk h fun x56 e56 h => ?_
         refine bk h fun x57 e57 h => ?_
         refine LWP.drawF (l := [_,_,_,_,_,_]) [] [0, 3, 6, 8, 10] [([0], []), ([60], []), ([3], []), ([62], []), ([61, 63], []), ([64], [])] [6, 8, 10, 12] [1028] mixed (by kernel_rfl) rfl (by decide) ?_
         refine dq 60 rfl (fun _ g u h => LWo.move (e_Llaws_Pair t0) u.1 (hn := .nil (zn g))) ?_
         refine dq 61 rfl (fun _ g u h => LWo.vcall rfl (av1 u.1) (c_laws_toPairS _ _ e55) (.same (.nil)) (hn := .nil (zn g))) ?_
         refine dq 62 rfl (fun _ g u h => LWo.loadN ((e_laws_Pair t3)).cells g_laws_Pair s_laws_Pair u.1 (Nat.le_of_ble_eq_true rfl) rfl (hn := .nil (zn g))) ?_
         refine dq 63 rfl (fun _ g u h => LWo.vcall rfl (av1 u.1) (c_laws_toPair _ _ e56) (.same (.nil)) (hn := .nil (zn g))) ?_
         refine dq 64 rfl (fun _ g u h => LWo.vcall rfl (av2 u.1 u.2.1) (c_impl_ClosureMore _ _ _ e57) (.same (.same (.nil))) (hn := .nil (zn g))) ?_
         refine dq 12 rfl (fun _ g u h => LWo.assign (e_Limpl_Pair x57) u.1 (hn := .nil (zn g))) ?_
         refine ⟨rfl, by kernel_rfl, hN54 _ ?_⟩
         refine LWP.seq_k fun N58 hN58 => ?_
         refine LWP.seq_k fun N59 hN59 => ?_
         refine LWP.region (l := [_,_,_,_]) ?_
         refine LWo.move (e_Limpl_Pair x57) rfl (hn := ?_)
         refine LWo.move (e_Limpl_Pair t6) rfl (hn := ?_)
         refine bk h fun x60 e60 h => ?_
         refine LWo.vcall rfl rfl (c_laws_eqPairS _ _ _ e60) (.same (.same (.nil))) (hn := ?_)
         refine LWo.not rfl (hn := ?_)
         refine LWo.nil (hN59 _ ?_)
         refine LWP.cond_split rfl (fun h61 => ?_) (fun h61 => ?_)
         ·have h := bT h61 h
          refine LWP.seq_k fun N62 hN62 => ?_
          refine LWP.region (l := [_]) ?_
          refine LWo.assign (e_bool false) rfl (hn := ?_)
          refine LWo.nil (hN62 _ ?_)
          obtain rfl := Option.some.inj h
          refine LWP.ret (QG.mk (.inr rfl) (.cons (.tmp (x := (e_bool false)) rfl) (.nil)) (RetOK.one0 (.pure rfl) (by decide)) rfl rfl)
         ·have h := bF h61 h
          refine LWP.skip (hN58 _ ?_)
          refine LWP.seq_k fun N63 hN63 => ?_
          refine LWP.region (l := [_]) ?_
          refine LWo.assign (e_int (1 : Int)) rfl (hn := ?_)
          refine LWo.nil (hN63 _ ?_)
          refine LWP.seq_k fun N64 hN64 => ?_
          refine LWP.region (l := [_,_,_,_]) ?_
          refine LWo.move (.own 1028 0 (o1028).length) rfl (hn := ?_)
          refine LWo.move (e_int (1 : Int)) rfl (hn := ?_)
          refine bk h fun x65 e65 h => ?_
          refine LWo.wcall rfl rfl (c_laws_heldPairS _ _ _ e65) (.viewM rfl ((lenQ_some e42).1.symm) rfl (.same (.nil))) rfl (hn := ?_)
          refine LWo.assign (e_int x65) rfl (hn := ?_)
          refine LWo.nil (hN64 _ ?_)
          refine LWP.seq_k fun N66 hN66 => ?_
          refine LWP.seq_k fun N67 hN67 => ?_
          refine LWP.region (l := [_,_]) ?_
          refine LWo.move (e_int x65) rfl (hn := ?_)
          refine LWo.int _ rfl rfl rfl (hn := ?_)
          refine LWo.nil (hN67 _ ?_)
          refine LWP.cond_split rfl (fun h68 => ?_) (fun h68 => ?_)
          ·have h := bT h68 h
           refine LWP.seq_k fun N69 hN69 => ?_
           refine LWP.region (l := [_]) ?_
           refine LWo.assign (e_bool false) rfl (hn := ?_)
           refine LWo.nil (hN69 _ ?_)
           obtain rfl := Option.some.inj h
           refine LWP.ret (QG.mk (.inr rfl) (.cons (.tmp (x := (e_bool false)) rfl) (.nil)) (RetOK.one0 (.pure rfl) (by decide)) rfl rfl)
          ·have h := bF h68 h
           refine LWP.skip (hN66 _ ?_)
           refine LWP.seq_k fun N70 hN70 => ?_
           refine LWP.seq_k fun N71 hN71 => ?_
           refine LWP.region (l := [_,_,_]) ?_
           refine LWo.move (e_int x65) rfl (hn := ?_)
           refine LWo.move (e_int x41.1) rfl (hn := ?_)
           refine LWo.int _ rfl rfl rfl (hn := ?_)
           refine LWo.nil (hN71 _ ?_)
           refine LWP.cond_split rfl (fun h72 => ?_) (fun h72 => ?_)
           ·have h := bT h72 h
            refine LWP.seq_k fun N73 hN73 => ?_
            refine LWP.region (l := [_]) ?_
            refine LWo.assign (e_bool false) rfl (hn := ?_)
            refine LWo.nil (hN73 _ ?_)
            obtain rfl := Option.some.inj h
            refine LWP.ret (QG.mk (.inr rfl) (.cons (.tmp (x := (e_bool false)) rfl) (.nil)) (RetOK.one0 (.pure rfl) (by decide)) rfl rfl)
           ·have h := bF h72 h
            refine LWP.skip (hN70 _ ?_)
            refine LWP.seq_k fun N74 hN74 => ?_
            refine LWP.region (l := [_]) ?_
            refine LWo.assign (e_bool true) rfl (hn := ?_)
            refine LWo.nil (hN74 _ ?_)
            obtain rfl := Option.some.inj h
            refine LWP.ret (QG.mk (.inr rfl) (.cons (.tmp (x := (e_bool true)) rfl) (.nil)) (RetOK.one0 (.pure rfl) (by decide)) rfl rfl)
     ·intro N34 hN34
      refine LWP.region (l := [_,_,_,_,_,_,_,_]) ?_
      refine LWo.move (e_int x31.1) rfl (hn := ?_)
      refine LWo.int _ rfl rfl rfl (hn := ?_)
      refine LWo.move (e_bool (decide (x31.1 < (0 : Int)))) rfl (hn := ?_)
      refine LWo.byCases (t := 43) _ rfl (fun h35 => ?_) (fun h35 => ?_)
      ·have h := bT h35 h
       refine LWo.guardNU (t := 43) rfl h35 rfl rfl rfl rfl rfl ?_
       refine LWo.guardNU (t := 43) rfl h35 rfl rfl rfl rfl rfl ?_
       refine LWo.guardNU (t := 43) rfl h35 rfl rfl rfl rfl rfl ?_
       refine LWo.guardNU (t := 43) rfl h35 rfl rfl rfl rfl rfl ?_
       refine LWo.pickTM (e_bool true) rfl h35 rfl (hn := ?_)
       refine LWo.nil (hN34 (a0, a1, x12, true, x17) _ ⟨rfl, rfl, rfl, rfl, rfl, trivial⟩ ⟨rfl, trivial⟩ h)
      ·have h := bF h35 h
       refine LWo.guardY (t := 43) rfl h35 rfl rfl ?_
       refine LWo.move (.own 1028 0 (x17).length) rfl (hn := ?_)
       refine LWo.guardY (t := 43) rfl h35 rfl rfl ?_
       refine LWo.move (e_Limpl_Pair x12) rfl (hn := ?_)
       refine bk h fun x36 e36 h => ?_
       refine LWo.guardY (t := 43) rfl h35 rfl rfl ?_
       refine LWo.wcall rfl rfl (c_laws_eqPairS _ _ _ e36) (.viewM rfl rfl rfl (.same (.nil))) rfl (hn := ?_)
       refine LWo.guardY (t := 43) rfl h35 rfl rfl ?_
       refine LWo.not rfl (hn := ?_)
       refine LWo.pickFM (e_bool (!x36)) rfl h35 rfl (hn := ?_)
       refine LWo.nil (hN34 (a0, a1, x12, (!x36), x17) _ ⟨rfl, rfl, rfl, rfl, rfl, trivial⟩ ⟨rfl, trivial⟩ h)
end Go.Proofs.Ytkgmomocjkmipaa
