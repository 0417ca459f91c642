/- Mirrors of functions, and that the functions return what the mirrors say. -/
import Derived.Test.YtgepipglchpabaaXW4
set_option linter.unusedVariables false
set_option linter.unusedSimpArgs false
set_option linter.unnecessarySimpa false
namespace Go.Proofs.Ytgepipglchpabaa
open Go.Proofs Go.Lift Go.RowKit
def m_laws_eqIntS_j1  : Option Bool :=
  some true
def m_laws_eqIntS_l1 : Nat → (List Int) → (List Int) → Int → Option Bool
  | 0, _, _, _ => none
  | n1 + 1, t0, t1, t5 =>
    bif decide (t5 < (t0.length : Int)) then ((at? t0 t5).bind fun x15 =>
    (at? t1 t5).bind fun x16 =>
    bif (x15 != x16) then (some false)
    else ((ckI (t5 + (1 : Int))).bind fun x19 =>
    (m_laws_eqIntS_l1  n1) t0 t1 x19))
    else (m_laws_eqIntS_j1  )
def m_laws_eqIntS (a0 : (List Int)) (a1 : (List Int)) : Option Bool :=
  bif ((a0.length : Int) != (a1.length : Int)) then (some false)
  else (m_laws_eqIntS_l1  (((a0.length : Int) - (0 : Int)).toNat + 1) a0 a1 (0 : Int))
theorem c_laws_eqIntS (a0 : (List Int)) (a1 : (List Int)) (r : Bool) (h : m_laws_eqIntS a0 a1 = some r) : Ret Try.prog f_laws_eqIntS [e_Lint a0, e_Lint a1] (e_bool r) := by
  refine Does.goG [] F_laws_eqIntS rfl e_laws_eqIntS n_laws_eqIntS rfl (rvs := [.tmp 4]) rfl rfl ?_
  intro w0 ok0 lent ρ0
  refine LWP.seq_k fun N1 hN1 => ?_
  refine LWP.region (l := [_]) ?_
  refine LWo.assign (e_bool false) rfl (hn := ?_)
  refine LWo.nil (hN1 _ ?_)
  refine LWP.seq_k fun N2 hN2 => ?_
  refine LWP.seq_k fun N3 hN3 => ?_
  refine LWP.region (l := [_,_,_,_,_]) ?_
  refine LWo.move (e_Lint a0) rfl (hn := ?_)
  refine LWo.lenM (f := e_int) (l := a0) u_Lint rfl (hn := ?_)
  refine LWo.move (e_Lint a1) rfl (hn := ?_)
  refine LWo.lenM (f := e_int) (l := a1) u_Lint rfl (hn := ?_)
  refine LWo.int _ rfl rfl rfl (hn := ?_)
  refine LWo.nil (hN3 _ ?_)
  refine LWP.cond_split rfl (fun h4 => ?_) (fun h4 => ?_)
  ·have h := bT h4 h
   refine LWP.seq_k fun N5 hN5 => ?_
   refine LWP.region (l := [_]) ?_
   refine LWo.assign (e_bool false) rfl (hn := ?_)
   refine LWo.nil (hN5 _ ?_)
   obtain rfl := Option.some.inj h
   refine LWP.ret (QG.mk (.inr rfl) (.cons (.tmp (x := (e_bool false)) rfl) (.nil)) (RetOK.one0 (.pure rfl) (by decide)) rfl rfl)
  ·have h := bF h4 h
   refine LWP.skip (hN2 _ ?_)
   refine LWP.join (α := Unit) (fun z : Unit => []) (fun z : Unit => []) (fun z : Unit => m_laws_eqIntS_j1  ) r (fun _ => by simp [hkeys]) ?_ ?_
   ·rintro _ h
    replace h : m_laws_eqIntS_j1   = some _ := h
    refine LWP.seq_k fun N20 hN20 => ?_
    refine LWP.region (l := [_]) ?_
    refine LWo.assign (e_bool true) rfl (hn := ?_)
    refine LWo.nil (hN20 _ ?_)
    obtain rfl := Option.some.inj h
    refine LWP.ret (QG.mk (.inr rfl) (.cons (.tmp (x := (e_bool true)) rfl) (.nil)) (RetOK.one0 (.pure rfl) (by decide)) rfl rfl)
   ·intro N6 hN6
    refine LWP.seq_k fun N7 hN7 => ?_
    refine LWP.region (l := [_]) ?_
    refine LWo.assign (e_int (0 : Int)) rfl (hn := ?_)
    refine LWo.nil (hN7 _ ?_)
    refine LWP.block ?_
    refine LWP.loopM (α := (List Int) × (List Int) × Int) (fun z : (List Int) × (List Int) × Int => [(0, (e_Lint z.1)), (1, (e_Lint z.2.1)), (5, (e_int z.2.2))]) (fun z : (List Int) × (List Int) × Int => []) (fun n1 (z : (List Int) × (List Int) × Int) => m_laws_eqIntS_l1  n1 z.1 z.2.1 z.2.2) r _ (a0, a1, (0 : Int)) h (fun _ => rfl) (fun _ => by simp [hkeys]) ⟨rfl, rfl, rfl, trivial⟩ trivial ?_
    rintro n1 ⟨t0, t1, t5⟩ h N8 hN8
    replace h : m_laws_eqIntS_l1  (n1 + 1) t0 t1 t5 = some _ := h
    refine LWP.seq_k fun N10 hN10 => ?_
    refine LWP.seq_k fun N11 hN11 => ?_
    refine LWP.region (l := [_,_,_,_]) ?_
    refine LWo.move (e_int t5) rfl (hn := ?_)
    refine LWo.move (e_Lint t0) rfl (hn := ?_)
    refine LWo.lenM (f := e_int) (l := t0) u_Lint rfl (hn := ?_)
    refine LWo.int _ rfl rfl rfl (hn := ?_)
    refine LWo.nil (hN11 _ ?_)
    refine LWP.cond_split rfl (fun h12 => ?_) (fun h12 => ?_)
    ·have h := bT h12 h
     refine LWP.skip (hN10 _ ?_)
     refine LWP.seq_k fun N13 hN13 => ?_
     refine LWP.block ?_
     refine LWP.seq_k fun N14 hN14 => ?_
     refine bk h fun x15 e15 h => ?_
     refine bk h fun x16 e16 h => ?_
     refine LWP.drawF (l := [_,_,_,_,_,_,_,_,_]) [] [0, 1, 5] [([0], []), ([5], []), ([17, 18], []), ([19], []), ([1], []), ([5], []), ([21, 22], []), ([23], []), ([20, 24], [])] [0, 1, 5, 25] [] mixed (by kernel_rfl) rfl (by decide) ?_
     refine dq 17 rfl (fun _ g u h => LWo.move (e_Lint t0) u.1 (hn := .nil (zn g))) ?_
     refine dq 18 rfl (fun _ g u h => LWo.move (e_int t5) u.1 (hn := .nil (zn g))) ?_
     refine dq 19 rfl (fun _ g u h => LWo.indexM (f := e_int) e15 u_Lint s_int u.1 u.2.1 (hn := .nil (zn g))) ?_
     refine dq 20 rfl (fun _ g u h => LWo.load1 (c := (e_int x15)) g_int u.1 (hn := .nil (zn g))) ?_
     refine dq 21 rfl (fun _ g u h => LWo.move (e_Lint t1) u.1 (hn := .nil (zn g))) ?_
     refine dq 22 rfl (fun _ g u h => LWo.move (e_int t5) u.1 (hn := .nil (zn g))) ?_
     refine dq 23 rfl (fun _ g u h => LWo.indexM (f := e_int) e16 u_Lint s_int u.1 u.2.1 (hn := .nil (zn g))) ?_
     refine dq 24 rfl (fun _ g u h => LWo.load1 (c := (e_int x16)) g_int u.1 (hn := .nil (zn g))) ?_
     refine dq 25 rfl (fun _ g u h => LWo.int _ u.1 u.2.1 rfl (hn := .nil (zn g))) ?_
     refine ⟨rfl, by kernel_rfl, hN14 _ ?_⟩
     refine LWP.cond_split rfl (fun h17 => ?_) (fun h17 => ?_)
     ·have h := bT h17 h
      refine LWP.seq_k fun N18 hN18 => ?_
      refine LWP.region (l := [_]) ?_
      refine LWo.assign (e_bool false) rfl (hn := ?_)
      refine LWo.nil (hN18 _ ?_)
      obtain rfl := Option.some.inj h
      refine LWP.ret (QG.mk (.inr rfl) (.cons (.tmp (x := (e_bool false)) rfl) (.nil)) (RetOK.one0 (.pure rfl) (by decide)) rfl rfl)
     ·have h := bF h17 h
      refine LWP.skip (hN13 _ ?_)
      refine LWP.region (l := [_,_,_]) ?_
      refine LWo.move (e_int t5) rfl (hn := ?_)
      refine bk h fun x19 e19 h => ?_
      refine LWo.int _ rfl rfl (add_ck e19) (hn := ?_)
      refine LWo.assign (e_int x19) rfl (hn := ?_)
      refine LWo.nil (hN8 (t0, t1, x19) _ ⟨rfl, rfl, rfl, trivial⟩ trivial h)
    ·have h := bF h12 h
     refine LWP.exit (hN6 () _ trivial trivial h)

def m_laws_eqPart (a0 : S_impl_Part) (a1 : S_impl_Part) : Option Bool :=
  bif (a0.Kind != a1.Kind) then (some false)
  else (bif (a0.N != a1.N) then (some false)
  else ((m_laws_eqValue a0.V a1.V).bind fun x12 =>
  bif (!x12) then (some false)
  else (some true)))
theorem c_laws_eqPart (a0 : S_impl_Part) (a1 : S_impl_Part) (r : Bool) (h : m_laws_eqPart a0 a1 = some r) : Ret Try.prog f_laws_eqPart [e_impl_Part a0, e_impl_Part a1] (e_bool r) := by
  refine Does.goG [] F_laws_eqPart rfl e_laws_eqPart n_laws_eqPart rfl (rvs := [.tmp 4]) rfl rfl ?_
  intro w0 ok0 lent ρ0
  refine LWP.seq_k fun N1 hN1 => ?_
  refine LWP.region (l := [_,_,_]) ?_
  refine LWo.boxF (e_impl_Part a0) rfl rfl rfl (hn := ?_)
  refine LWo.boxF (e_impl_Part a1) rfl rfl rfl (hn := ?_)
  refine LWo.assign (e_bool false) rfl (hn := ?_)
  refine LWo.nil (hN1 _ ?_)
  refine LWP.seq_k fun N2 hN2 => ?_
  refine LWP.seq_k fun N3 hN3 => ?_
  refine LWP.region (l := [_,_,_,_,_]) ?_
  refine LWo.fieldAddr _ u_impl_Part rfl s_int rfl rfl (hn := ?_)
  refine LWo.load1 (c := (e_int a0.Kind)) g_int rfl (hn := ?_)
  refine LWo.fieldAddr _ u_impl_Part rfl s_int rfl rfl (hn := ?_)
  refine LWo.load1 (c := (e_int a1.Kind)) g_int rfl (hn := ?_)
  refine LWo.int _ rfl rfl rfl (hn := ?_)
  refine LWo.nil (hN3 _ ?_)
  refine LWP.cond_split rfl (fun h4 => ?_) (fun h4 => ?_)
  ·have h := bT h4 h
   refine LWP.seq_k fun N5 hN5 => ?_
   refine LWP.region (l := [_]) ?_
   refine LWo.assign (e_bool false) rfl (hn := ?_)
   refine LWo.nil (hN5 _ ?_)
   obtain rfl := Option.some.inj h
   refine LWP.ret (QG.mk (.inr rfl) (.cons (.tmp (x := (e_bool false)) rfl) (.nil)) (RetOK.one0 (.pure rfl) (by decide)) rfl rfl)
  ·have h := bF h4 h
   refine LWP.skip (hN2 _ ?_)
   refine LWP.seq_k fun N6 hN6 => ?_
   refine LWP.seq_k fun N7 hN7 => ?_
   refine LWP.region (l := [_,_,_,_,_]) ?_
   refine LWo.fieldAddr _ u_impl_Part rfl s_int rfl rfl (hn := ?_)
   refine LWo.load1 (c := (e_int a0.N)) g_int rfl (hn := ?_)
   refine LWo.fieldAddr _ u_impl_Part rfl s_int rfl rfl (hn := ?_)
   refine LWo.load1 (c := (e_int a1.N)) g_int rfl (hn := ?_)
   refine LWo.int _ rfl rfl rfl (hn := ?_)
   refine LWo.nil (hN7 _ ?_)
   refine LWP.cond_split rfl (fun h8 => ?_) (fun h8 => ?_)
   ·have h := bT h8 h
    refine LWP.seq_k fun N9 hN9 => ?_
    refine LWP.region (l := [_]) ?_
    refine LWo.assign (e_bool false) rfl (hn := ?_)
    refine LWo.nil (hN9 _ ?_)
    obtain rfl := Option.some.inj h
    refine LWP.ret (QG.mk (.inr rfl) (.cons (.tmp (x := (e_bool false)) rfl) (.nil)) (RetOK.one0 (.pure rfl) (by decide)) rfl rfl)
   ·have h := bF h8 h
    refine LWP.skip (hN6 _ ?_)
    refine LWP.seq_k fun N10 hN10 => ?_
    refine LWP.seq_k fun N11 hN11 => ?_
    refine LWP.region (l := [_,_,_,_,_,_]) ?_
    refine LWo.fieldAddr _ u_impl_Part rfl s_impl_Value rfl rfl (hn := ?_)
    refine LWo.loadN ((e_impl_Value a0.V)).cells g_impl_Value s_impl_Value rfl (Nat.le_of_ble_eq_true rfl) rfl (hn := ?_)
    refine LWo.fieldAddr _ u_impl_Part rfl s_impl_Value rfl rfl (hn := ?_)
    refine LWo.loadN ((e_impl_Value a1.V)).cells g_impl_Value s_impl_Value rfl (Nat.le_of_ble_eq_true rfl) rfl (hn := ?_)
    refine bk h fun x12 e12 h => ?_
    refine LWo.vcall rfl rfl (c_laws_eqValue _ _ _ e12) (.same (.same (.nil))) (hn := ?_)
    refine LWo.not rfl (hn := ?_)
    refine LWo.nil (hN11 _ ?_)
    refine LWP.cond_split rfl (fun h13 => ?_) (fun h13 => ?_)
    ·have h := bT h13 h
     refine LWP.seq_k fun N14 hN14 => ?_
     refine LWP.region (l := [_]) ?_
     refine LWo.assign (e_bool false) rfl (hn := ?_)
     refine LWo.nil (hN14 _ ?_)
     obtain rfl := Option.some.inj h
     refine LWP.ret (QG.mk (.inr rfl) (.cons (.tmp (x := (e_bool false)) rfl) (.nil)) (RetOK.one0 (.pure rfl) (by decide)) rfl rfl)
    ·have h := bF h13 h
     refine LWP.skip (hN10 _ ?_)
     refine LWP.seq_k fun N15 hN15 => ?_
     refine LWP.region (l := [_]) ?_
     refine LWo.assign (e_bool true) rfl (hn := ?_)
     refine LWo.nil (hN15 _ ?_)
     obtain rfl := Option.some.inj h
     refine LWP.ret (QG.mk (.inr rfl) (.cons (.tmp (x := (e_bool true)) rfl) (.nil)) (RetOK.one0 (.pure rfl) (by decide)) rfl rfl)

def m_laws_eqPartS_j1  : Option Bool :=
  some true
def m_laws_eqPartS_l1 : Nat → (List S_impl_Part) → (List S_impl_Part) → Int → Option Bool
  | 0, _, _, _ => none
  | n1 + 1, t0, t1, t5 =>
    bif decide (t5 < (t0.length : Int)) then ((at? t0 t5).bind fun x15 =>
    (at? t1 t5).bind fun x16 =>
    (m_laws_eqPart x15 x16).bind fun x17 =>
    bif (!x17) then (some false)
    else ((ckI (t5 + (1 : Int))).bind fun x20 =>
    (m_laws_eqPartS_l1  n1) t0 t1 x20))
    else (m_laws_eqPartS_j1  )
def m_laws_eqPartS (a0 : (List S_impl_Part)) (a1 : (List S_impl_Part)) : Option Bool :=
  bif ((a0.length : Int) != (a1.length : Int)) then (some false)
  else (m_laws_eqPartS_l1  (((a0.length : Int) - (0 : Int)).toNat + 1) a0 a1 (0 : Int))
theorem c_laws_eqPartS (a0 : (List S_impl_Part)) (a1 : (List S_impl_Part)) (r : Bool) (h : m_laws_eqPartS a0 a1 = some r) : Ret Try.prog f_laws_eqPartS [e_Limpl_Part a0, e_Limpl_Part a1] (e_bool r) := by
  refine Does.goG [] F_laws_eqPartS rfl e_laws_eqPartS n_laws_eqPartS rfl (rvs := [.tmp 4]) rfl rfl ?_
  intro w0 ok0 lent ρ0
  refine LWP.seq_k fun N1 hN1 => ?_
  refine LWP.region (l := [_]) ?_
  refine LWo.assign (e_bool false) rfl (hn := ?_)
  refine LWo.nil (hN1 _ ?_)
  refine LWP.seq_k fun N2 hN2 => ?_
  refine LWP.seq_k fun N3 hN3 => ?_
  refine LWP.region (l := [_,_,_,_,_]) ?_
  refine LWo.move (e_Limpl_Part a0) rfl (hn := ?_)
  refine LWo.lenM (f := e_impl_Part) (l := a0) u_Limpl_Part rfl (hn := ?_)
  refine LWo.move (e_Limpl_Part a1) rfl (hn := ?_)
  refine LWo.lenM (f := e_impl_Part) (l := a1) u_Limpl_Part rfl (hn := ?_)
  refine LWo.int _ rfl rfl rfl (hn := ?_)
  refine LWo.nil (hN3 _ ?_)
  refine LWP.cond_split rfl (fun h4 => ?_) (fun h4 => ?_)
  ·have h := bT h4 h
   refine LWP.seq_k fun N5 hN5 => ?_
   refine LWP.region (l := [_]) ?_
   refine LWo.assign (e_bool false) rfl (hn := ?_)
   refine LWo.nil (hN5 _ ?_)
   obtain rfl := Option.some.inj h
   refine LWP.ret (QG.mk (.inr rfl) (.cons (.tmp (x := (e_bool false)) rfl) (.nil)) (RetOK.one0 (.pure rfl) (by decide)) rfl rfl)
  ·have h := bF h4 h
   refine LWP.skip (hN2 _ ?_)
   refine LWP.join (α := Unit) (fun z : Unit => []) (fun z : Unit => []) (fun z : Unit => m_laws_eqPartS_j1  ) r (fun _ => by simp [hkeys]) ?_ ?_
   ·rintro _ h
    replace h : m_laws_eqPartS_j1   = some _ := h
    refine LWP.seq_k fun N21 hN21 => ?_
    refine LWP.region (l := [_]) ?_
    refine LWo.assign (e_bool true) rfl (hn := ?_)
    refine LWo.nil (hN21 _ ?_)
    obtain rfl := Option.some.inj h
    refine LWP.ret (QG.mk (.inr rfl) (.cons (.tmp (x := (e_bool true)) rfl) (.nil)) (RetOK.one0 (.pure rfl) (by decide)) rfl rfl)
   ·intro N6 hN6
    refine LWP.seq_k fun N7 hN7 => ?_
    refine LWP.region (l := [_]) ?_
    refine LWo.assign (e_int (0 : Int)) rfl (hn := ?_)
    refine LWo.nil (hN7 _ ?_)
    refine LWP.block ?_
    refine LWP.loopM (α := (List S_impl_Part) × (List S_impl_Part) × Int) (fun z : (List S_impl_Part) × (List S_impl_Part) × Int => [(0, (e_Limpl_Part z.1)), (1, (e_Limpl_Part z.2.1)), (5, (e_int z.2.2))]) (fun z : (List S_impl_Part) × (List S_impl_Part) × Int => []) (fun n1 (z : (List S_impl_Part) × (List S_impl_Part) × Int) => m_laws_eqPartS_l1  n1 z.1 z.2.1 z.2.2) r _ (a0, a1, (0 : Int)) h (fun _ => rfl) (fun _ => by simp [hkeys]) ⟨rfl, rfl, rfl, trivial⟩ trivial ?_
    rintro n1 ⟨t0, t1, t5⟩ h N8 hN8
    replace h : m_laws_eqPartS_l1  (n1 + 1) t0 t1 t5 = some _ := h
    refine LWP.seq_k fun N10 hN10 => ?_
    refine LWP.seq_k fun N11 hN11 => ?_
    refine LWP.region (l := [_,_,_,_]) ?_
    refine LWo.move (e_int t5) rfl (hn := ?_)
    refine LWo.move (e_Limpl_Part t0) rfl (hn := ?_)
    refine LWo.lenM (f := e_impl_Part) (l := t0) u_Limpl_Part rfl (hn := ?_)
    refine LWo.int _ rfl rfl rfl (hn := ?_)
    refine LWo.nil (hN11 _ ?_)
    refine LWP.cond_split rfl (fun h12 => ?_) (fun h12 => ?_)
    ·have h := bT h12 h
     refine LWP.skip (hN10 _ ?_)
     refine LWP.seq_k fun N13 hN13 => ?_
     refine LWP.block ?_
     refine LWP.seq_k fun N14 hN14 => ?_
     refine bk h fun x15 e15 h => ?_
     refine bk h fun x16 e16 h => ?_
     refine bk h fun x17 e17 h => ?_
     refine LWP.drawF (l := [_,_,_,_,_,_,_,_,_,_]) [] [0, 1, 5] [([0], []), ([5], []), ([17, 18], []), ([19], []), ([1], []), ([5], []), ([21, 22], []), ([23], []), ([20, 24], []), ([25], [])] [0, 1, 5, 26] [] mixed (by kernel_rfl) rfl (by decide) ?_
     refine dq 17 rfl (fun _ g u h => LWo.move (e_Limpl_Part t0) u.1 (hn := .nil (zn g))) ?_
     refine dq 18 rfl (fun _ g u h => LWo.move (e_int t5) u.1 (hn := .nil (zn g))) ?_
     refine dq 19 rfl (fun _ g u h => LWo.indexM (f := e_impl_Part) e15 u_Limpl_Part s_impl_Part u.1 u.2.1 (hn := .nil (zn g))) ?_
     refine dq 20 rfl (fun _ g u h => LWo.loadN ((e_impl_Part x15)).cells g_impl_Part s_impl_Part u.1 (Nat.le_of_ble_eq_true rfl) rfl (hn := .nil (zn g))) ?_
     refine dq 21 rfl (fun _ g u h => LWo.move (e_Limpl_Part t1) u.1 (hn := .nil (zn g))) ?_
     refine dq 22 rfl (fun _ g u h => LWo.move (e_int t5) u.1 (hn := .nil (zn g))) ?_
     refine dq 23 rfl (fun _ g u h => LWo.indexM (f := e_impl_Part) e16 u_Limpl_Part s_impl_Part u.1 u.2.1 (hn := .nil (zn g))) ?_
     refine dq 24 rfl (fun _ g u h => LWo.loadN ((e_impl_Part x16)).cells g_impl_Part s_impl_Part u.1 (Nat.le_of_ble_eq_true rfl) rfl (hn := .nil (zn g))) ?_
     refine dq 25 rfl (fun _ g u h => LWo.vcall rfl (av2 u.1 u.2.1) (c_laws_eqPart _ _ _ e17) (.same (.same (.nil))) (hn := .nil (zn g))) ?_
     refine dq 26 rfl (fun _ g u h => LWo.not u.1 (hn := .nil (zn g))) ?_
     refine ⟨rfl, by kernel_rfl, hN14 _ ?_⟩
     refine LWP.cond_split rfl (fun h18 => ?_) (fun h18 => ?_)
     ·have h := bT h18 h
      refine LWP.seq_k fun N19 hN19 => ?_
      refine LWP.region (l := [_]) ?_
      refine LWo.assign (e_bool false) rfl (hn := ?_)
      refine LWo.nil (hN19 _ ?_)
      obtain rfl := Option.some.inj h
      refine LWP.ret (QG.mk (.inr rfl) (.cons (.tmp (x := (e_bool false)) rfl) (.nil)) (RetOK.one0 (.pure rfl) (by decide)) rfl rfl)
     ·have h := bF h18 h
      refine LWP.skip (hN13 _ ?_)
      refine LWP.region (l := [_,_,_]) ?_
      refine LWo.move (e_int t5) rfl (hn := ?_)
      refine bk h fun x20 e20 h => ?_
      refine LWo.int _ rfl rfl (add_ck e20) (hn := ?_)
      refine LWo.assign (e_int x20) rfl (hn := ?_)
      refine LWo.nil (hN8 (t0, t1, x20) _ ⟨rfl, rfl, rfl, trivial⟩ trivial h)
    ·have h := bF h12 h
     refine LWP.exit (hN6 () _ trivial trivial h)

def m_laws_eqBond (a0 : S_impl_Bond) (a1 : S_impl_Bond) : Option Bool :=
  bif (a0.Kind != a1.Kind) then (some false)
  else (bif (a0.In != a1.In) then (some false)
  else ((m_laws_eqIntS a0.f_List a1.f_List).bind fun x12 =>
  bif (!x12) then (some false)
  else (bif (a0.Of != a1.Of) then (some false)
  else ((m_laws_eqIntS a0.To a1.To).bind fun x21 =>
  bif (!x21) then (some false)
  else (bif (a0.Follow != a1.Follow) then (some false)
  else ((m_laws_eqPartS a0.E a1.E).bind fun x30 =>
  bif (!x30) then (some false)
  else (some true)))))))
theorem c_laws_eqBond (a0 : S_impl_Bond) (a1 : S_impl_Bond) (r : Bool) (h : m_laws_eqBond a0 a1 = some r) : Ret Try.prog f_laws_eqBond [e_impl_Bond a0, e_impl_Bond a1] (e_bool r) := by
  refine Does.goG [] F_laws_eqBond rfl e_laws_eqBond n_laws_eqBond rfl (rvs := [.tmp 4]) rfl rfl ?_
  intro w0 ok0 lent ρ0
  refine LWP.seq_k fun N1 hN1 => ?_
  refine LWP.region (l := [_,_,_]) ?_
  refine LWo.boxF (e_impl_Bond a0) rfl rfl rfl (hn := ?_)
  refine LWo.boxF (e_impl_Bond a1) rfl rfl rfl (hn := ?_)
  refine LWo.assign (e_bool false) rfl (hn := ?_)
  refine LWo.nil (hN1 _ ?_)
  refine LWP.seq_k fun N2 hN2 => ?_
  refine LWP.seq_k fun N3 hN3 => ?_
  refine LWP.region (l := [_,_,_,_,_]) ?_
  refine LWo.fieldAddr _ u_impl_Bond rfl s_int rfl rfl (hn := ?_)
  refine LWo.load1 (c := (e_int a0.Kind)) g_int rfl (hn := ?_)
  refine LWo.fieldAddr _ u_impl_Bond rfl s_int rfl rfl (hn := ?_)
  refine LWo.load1 (c := (e_int a1.Kind)) g_int rfl (hn := ?_)
  refine LWo.int _ rfl rfl rfl (hn := ?_)
  refine LWo.nil (hN3 _ ?_)
  refine LWP.cond_split rfl (fun h4 => ?_) (fun h4 => ?_)
  ·have h := bT h4 h
   refine LWP.seq_k fun N5 hN5 => ?_
   refine LWP.region (l := [_]) ?_
   refine LWo.assign (e_bool false) rfl (hn := ?_)
   refine LWo.nil (hN5 _ ?_)
   obtain rfl := Option.some.inj h
   refine LWP.ret (QG.mk (.inr rfl) (.cons (.tmp (x := (e_bool false)) rfl) (.nil)) (RetOK.one0 (.pure rfl) (by decide)) rfl rfl)
  ·have h := bF h4 h
   refine LWP.skip (hN2 _ ?_)
   refine LWP.seq_k fun N6 hN6 => ?_
   refine LWP.seq_k fun N7 hN7 => ?_
   refine LWP.region (l := [_,_,_,_,_]) ?_
   refine LWo.fieldAddr _ u_impl_Bond rfl s_int rfl rfl (hn := ?_)
   refine LWo.load1 (c := (e_int a0.In)) g_int rfl (hn := ?_)
   refine LWo.fieldAddr _ u_impl_Bond rfl s_int rfl rfl (hn := ?_)
   refine LWo.load1 (c := (e_int a1.In)) g_int rfl (hn := ?_)
   refine LWo.int _ rfl rfl rfl (hn := ?_)
   refine LWo.nil (hN7 _ ?_)
   refine LWP.cond_split rfl (fun h8 => ?_) (fun h8 => ?_)
   ·have h := bT h8 h
    refine LWP.seq_k fun N9 hN9 => ?_
    refine LWP.region (l := [_]) ?_
    refine LWo.assign (e_bool false) rfl (hn := ?_)
    refine LWo.nil (hN9 _ ?_)
    obtain rfl := Option.some.inj h
    refine LWP.ret (QG.mk (.inr rfl) (.cons (.tmp (x := (e_bool false)) rfl) (.nil)) (RetOK.one0 (.pure rfl) (by decide)) rfl rfl)
   ·have h := bF h8 h
    refine LWP.skip (hN6 _ ?_)
    refine LWP.seq_k fun N10 hN10 => ?_
    refine LWP.seq_k fun N11 hN11 => ?_
    refine LWP.region (l := [_,_,_,_,_,_]) ?_
    refine LWo.fieldAddr _ u_impl_Bond rfl s_Lint rfl rfl (hn := ?_)
    refine LWo.load1 (c := (e_Lint a0.f_List)) g_Lint rfl (hn := ?_)
    refine LWo.fieldAddr _ u_impl_Bond rfl s_Lint rfl rfl (hn := ?_)
    refine LWo.load1 (c := (e_Lint a1.f_List)) g_Lint rfl (hn := ?_)
    refine bk h fun x12 e12 h => ?_
    refine LWo.vcall rfl rfl (c_laws_eqIntS _ _ _ e12) (.same (.same (.nil))) (hn := ?_)
    refine LWo.not rfl (hn := ?_)
    refine LWo.nil (hN11 _ ?_)
    refine LWP.cond_split rfl (fun h13 => ?_) (fun h13 => ?_)
    ·have h := bT h13 h
     refine LWP.seq_k fun N14 hN14 => ?_
     refine LWP.region (l := [_]) ?_
     refine LWo.assign (e_bool false) rfl (hn := ?_)
     refine LWo.nil (hN14 _ ?_)
     obtain rfl := Option.some.inj h
     refine LWP.ret (QG.mk (.inr rfl) (.cons (.tmp (x := (e_bool false)) rfl) (.nil)) (RetOK.one0 (.pure rfl) (by decide)) rfl rfl)
    ·have h := bF h13 h
     refine LWP.skip (hN10 _ ?_)
     refine LWP.seq_k fun N15 hN15 => ?_
     refine LWP.seq_k fun N16 hN16 => ?_
     refine LWP.region (l := [_,_,_,_,_]) ?_
     refine LWo.fieldAddr _ u_impl_Bond rfl s_int rfl rfl (hn := ?_)
     refine LWo.load1 (c := (e_int a0.Of)) g_int rfl (hn := ?_)
     refine LWo.fieldAddr _ u_impl_Bond rfl s_int rfl rfl (hn := ?_)
     refine LWo.load1 (c := (e_int a1.Of)) g_int rfl (hn := ?_)
     refine LWo.int _ rfl rfl rfl (hn := ?_)
     refine LWo.nil (hN16 _ ?_)
     refine LWP.cond_split rfl (fun h17 => ?_) (fun h17 => ?_)
     ·have h := bT h17 h
      refine LWP.seq_k fun N18 hN18 => ?_
      refine LWP.region (l := [_]) ?_
      refine LWo.assign (e_bool false) rfl (hn := ?_)
      refine LWo.nil (hN18 _ ?_)
      obtain rfl := Option.some.inj h
      refine LWP.ret (QG.mk (.inr rfl) (.cons (.tmp (x := (e_bool false)) rfl) (.nil)) (RetOK.one0 (.pure rfl) (by decide)) rfl rfl)
     ·have h := bF h17 h
      refine LWP.skip (hN15 _ ?_)
      refine LWP.seq_k fun N19 hN19 => ?_
      refine LWP.seq_k fun N20 hN20 => ?_
      refine LWP.region (l := [_,_,_,_,_,_]) ?_
      refine LWo.fieldAddr _ u_impl_Bond rfl s_Lint rfl rfl (hn := ?_)
      refine LWo.load1 (c := (e_Lint a0.To)) g_Lint rfl (hn := ?_)
      refine LWo.fieldAddr _ u_impl_Bond rfl s_Lint rfl rfl (hn := ?_)
      refine LWo.load1 (c := (e_Lint a1.To)) g_Lint rfl (hn := ?_)
      refine bk h fun x21 e21 h => ?_
      refine LWo.vcall rfl rfl (c_laws_eqIntS _ _ _ e21) (.same (.same (.nil))) (hn := ?_)
      refine LWo.not rfl (hn := ?_)
      refine LWo.nil (hN20 _ ?_)
      refine LWP.cond_split rfl (fun h22 => ?_) (fun h22 => ?_)
      ·have h := bT h22 h
       refine LWP.seq_k fun N23 hN23 => ?_
       refine LWP.region (l := [_]) ?_
       refine LWo.assign (e_bool false) rfl (hn := ?_)
       refine LWo.nil (hN23 _ ?_)
       obtain rfl := Option.some.inj h
       refine LWP.ret (QG.mk (.inr rfl) (.cons (.tmp (x := (e_bool false)) rfl) (.nil)) (RetOK.one0 (.pure rfl) (by decide)) rfl rfl)
      ·have h := bF h22 h
       refine LWP.skip (hN19 _ ?_)
       refine LWP.seq_k fun N24 hN24 => ?_
       refine LWP.seq_k fun N25 hN25 => ?_
       refine LWP.region (l := [_,_,_,_,_]) ?_
       refine LWo.fieldAddr _ u_impl_Bond rfl s_bool rfl rfl (hn := ?_)
       refine LWo.load1 (c := (e_bool a0.Follow)) g_bool rfl (hn := ?_)
       refine LWo.fieldAddr _ u_impl_Bond rfl s_bool rfl rfl (hn := ?_)
       refine LWo.load1 (c := (e_bool a1.Follow)) g_bool rfl (hn := ?_)
       refine LWo.boolNe u_bool rfl rfl (hn := ?_)
       refine LWo.nil (hN25 _ ?_)
       refine LWP.cond_split rfl (fun h26 => ?_) (fun h26 => ?_)
       ·have h := bT h26 h
        refine LWP.seq_k fun N27 hN27 => ?_
        refine LWP.region (l := [_]) ?_
        refine LWo.assign (e_bool false) rfl (hn := ?_)
        refine LWo.nil (hN27 _ ?_)
        obtain rfl := Option.some.inj h
        refine LWP.ret (QG.mk (.inr rfl) (.cons (.tmp (x := (e_bool false)) rfl) (.nil)) (RetOK.one0 (.pure rfl) (by decide)) rfl rfl)
       ·have h := bF h26 h
        refine LWP.skip (hN24 _ ?_)
        refine LWP.seq_k fun N28 hN28 => ?_
        refine LWP.seq_k fun N29 hN29 => ?_
        refine LWP.region (l := [_,_,_,_,_,_]) ?_
        refine LWo.fieldAddr _ u_impl_Bond rfl s_Limpl_Part rfl rfl (hn := ?_)
        refine LWo.load1 (c := (e_Limpl_Part a0.E)) g_Limpl_Part rfl (hn := ?_)
        refine LWo.fieldAddr _ u_impl_Bond rfl s_Limpl_Part rfl rfl (hn := ?_)
        refine LWo.load1 (c := (e_Limpl_Part a1.E)) g_Limpl_Part rfl (hn := ?_)
        refine bk h fun x30 e30 h => ?_
        refine LWo.vcall rfl rfl (c_laws_eqPartS _ _ _ e30) (.same (.same (.nil))) (hn := ?_)
        refine LWo.not rfl (hn := ?_)
        refine LWo.nil (hN29 _ ?_)
        refine LWP.cond_split rfl (fun h31 => ?_) (fun h31 => ?_)
        ·have h := bT h31 h
         refine LWP.seq_k fun N32 hN32 => ?_
         refine LWP.region (l := [_]) ?_
         refine LWo.assign (e_bool false) rfl (hn := ?_)
         refine LWo.nil (hN32 _ ?_)
         obtain rfl := Option.some.inj h
         refine LWP.ret (QG.mk (.inr rfl) (.cons (.tmp (x := (e_bool false)) rfl) (.nil)) (RetOK.one0 (.pure rfl) (by decide)) rfl rfl)
        ·have h := bF h31 h
         refine LWP.skip (hN28 _ ?_)
         refine LWP.seq_k fun N33 hN33 => ?_
         refine LWP.region (l := [_]) ?_
         refine LWo.assign (e_bool true) rfl (hn := ?_)
         refine LWo.nil (hN33 _ ?_)
         obtain rfl := Option.some.inj h
         refine LWP.ret (QG.mk (.inr rfl) (.cons (.tmp (x := (e_bool true)) rfl) (.nil)) (RetOK.one0 (.pure rfl) (by decide)) rfl rfl)

def m_laws_FnExactBondOk (a0 : (List S_laws_Table)) (a1 : S_laws_Bond) : Option Bool :=
  (m_laws_szTableS a0 (1048576 : Int)).bind fun x4 =>
  bif decide (x4 < (0 : Int)) then (some true)
  else ((m_laws_szBond a1 x4).bind fun x10 =>
  bif decide (x10 < (0 : Int)) then (some true)
  else ((m_laws_toTableS a0).bind fun x16 =>
  (m_laws_toBond a1).bind fun x17 =>
  (m_spec_BondOk x16 x17).bind fun x18 =>
  (m_laws_toTableS a0).bind fun x20 =>
  (m_laws_toBond a1).bind fun x22 =>
  lt (x22) fun y23 =>
  (m_impl_BondOk x20 y23).bind fun x25 =>
  bif (x25 != x18) then (some false)
  else ((m_laws_toTableS a0).bind fun x32 =>
  (m_laws_eqTableS x20 x32).bind fun x33 =>
  bif (!x33) then (some false)
  else ((m_laws_toBond a1).bind fun x38 =>
  (m_laws_eqBond y23 x38).bind fun x39 =>
  bif (!x39) then (some false)
  else (some true)))))
theorem c_laws_FnExactBondOk (a0 : (List S_laws_Table)) (a1 : S_laws_Bond) (r : Bool) (h : m_laws_FnExactBondOk a0 a1 = some r) : Ret Try.prog f_laws_FnExactBondOk [e_Llaws_Table a0, e_laws_Bond a1] (e_bool r) := by
  refine Does.goG [] F_laws_FnExactBondOk rfl e_laws_FnExactBondOk n_laws_FnExactBondOk rfl (rvs := [.tmp 4]) rfl rfl ?_
  intro w0 ok0 lent ρ0
  refine LWP.seq_k fun N1 hN1 => ?_
  refine LWP.region (l := [_,_]) ?_
  refine LWo.boxF (e_laws_Bond a1) rfl rfl rfl (hn := ?_)
  refine LWo.assign (e_bool false) rfl (hn := ?_)
  refine LWo.nil (hN1 _ ?_)
  refine LWP.seq_k fun N2 hN2 => ?_
  refine LWP.region (l := [_]) ?_
  refine LWo.assign (e_int (1048576 : Int)) rfl (hn := ?_)
  refine LWo.nil (hN2 _ ?_)
  refine LWP.seq_k fun N3 hN3 => ?_
  refine LWP.region (l := [_,_,_,_]) ?_
  refine LWo.move (e_Llaws_Table a0) rfl (hn := ?_)
  refine LWo.move (e_int (1048576 : Int)) rfl (hn := ?_)
  refine bk h fun x4 e4 h => ?_
  refine LWo.vcall rfl rfl (c_laws_szTableS _ _ _ e4) (.same (.same (.nil))) (hn := ?_)
  refine LWo.assign (e_int x4) rfl (hn := ?_)
  refine LWo.nil (hN3 _ ?_)
  refine LWP.seq_k fun N5 hN5 => ?_
  refine LWP.seq_k fun N6 hN6 => ?_
  refine LWP.region (l := [_,_]) ?_
  refine LWo.move (e_int x4) rfl (hn := ?_)
  refine LWo.int _ rfl rfl rfl (hn := ?_)
  refine LWo.nil (hN6 _ ?_)
  refine LWP.cond_split rfl (fun h7 => ?_) (fun h7 => ?_)
  ·have h := bT h7 h
   refine LWP.seq_k fun N8 hN8 => ?_
   refine LWP.region (l := [_]) ?_
   refine LWo.assign (e_bool true) rfl (hn := ?_)
   refine LWo.nil (hN8 _ ?_)
   obtain rfl := Option.some.inj h
   refine LWP.ret (QG.mk (.inr rfl) (.cons (.tmp (x := (e_bool true)) rfl) (.nil)) (RetOK.one0 (.pure rfl) (by decide)) rfl rfl)
  ·have h := bF h7 h
   refine LWP.skip (hN5 _ ?_)
   refine LWP.seq_k fun N9 hN9 => ?_
   refine LWP.region (l := [_,_,_,_]) ?_
   refine LWo.loadN ((e_laws_Bond a1)).cells g_laws_Bond s_laws_Bond rfl (Nat.le_of_ble_eq_true rfl) rfl (hn := ?_)
   refine LWo.move (e_int x4) rfl (hn := ?_)
   refine bk h fun x10 e10 h => ?_
   refine LWo.vcall rfl rfl (c_laws_szBond _ _ _ e10) (.same (.same (.nil))) (hn := ?_)
   refine LWo.assign (e_int x10) rfl (hn := ?_)
   refine LWo.nil (hN9 _ ?_)
   refine LWP.seq_k fun N11 hN11 => ?_
   refine LWP.seq_k fun N12 hN12 => ?_
   refine LWP.region (l := [_,_]) ?_
   refine LWo.move (e_int x10) rfl (hn := ?_)
   refine LWo.int _ rfl rfl rfl (hn := ?_)
   refine LWo.nil (hN12 _ ?_)
   refine LWP.cond_split rfl (fun h13 => ?_) (fun h13 => ?_)
   ·have h := bT h13 h
    refine LWP.seq_k fun N14 hN14 => ?_
    refine LWP.region (l := [_]) ?_
    refine LWo.assign (e_bool true) rfl (hn := ?_)
    refine LWo.nil (hN14 _ ?_)
    obtain rfl := Option.some.inj h
    refine LWP.ret (QG.mk (.inr rfl) (.cons (.tmp (x := (e_bool true)) rfl) (.nil)) (RetOK.one0 (.pure rfl) (by decide)) rfl rfl)
   ·have h := bF h13 h
    refine LWP.skip (hN11 _ ?_)
    refine LWP.seq_k fun N15 hN15 => ?_
    refine bk h fun x16 e16 h => ?_
    refine bk h fun x17 e17 h => ?_
    refine bk h fun x18 e18 h => ?_
    refine LWP.drawF (l := [_,_,_,_,_,_]) [] [0, 3] [([0], []), ([20], []), ([3], []), ([22], []), ([21, 23], []), ([24], [])] [0, 3, 6] [] mixed (by kernel_rfl) rfl (by decide) ?_
    refine dq 20 rfl (fun _ g u h => LWo.move (e_Llaws_Table a0) u.1 (hn := .nil (zn g))) ?_
    refine dq 21 rfl (fun _ g u h => LWo.vcall rfl (av1 u.1) (c_laws_toTableS _ _ e16) (.same (.nil)) (hn := .nil (zn g))) ?_
    refine dq 22 rfl (fun _ g u h => LWo.loadN ((e_laws_Bond a1)).cells g_laws_Bond s_laws_Bond u.1 (Nat.le_of_ble_eq_true rfl) rfl (hn := .nil (zn g))) ?_
    refine dq 23 rfl (fun _ g u h => LWo.vcall rfl (av1 u.1) (c_laws_toBond _ _ e17) (.same (.nil)) (hn := .nil (zn g))) ?_
    refine dq 24 rfl (fun _ g u h => LWo.vcall rfl (av2 u.1 u.2.1) (c_spec_BondOk _ _ _ e18) (.same (.same (.nil))) (hn := .nil (zn g))) ?_
    refine dq 6 rfl (fun _ g u h => LWo.assign (e_bool x18) u.1 (hn := .nil (zn g))) ?_
    refine ⟨rfl, by kernel_rfl, hN15 _ ?_⟩
    refine LWP.seq_k fun N19 hN19 => ?_
    refine LWP.region (l := [_,_,_]) ?_
    refine LWo.move (e_Llaws_Table a0) rfl (hn := ?_)
    refine bk h fun x20 e20 h => ?_
    refine LWo.vcall rfl rfl (c_laws_toTableS _ _ e20) (.same (.nil)) (hn := ?_)
    refine LWo.assign (e_Limpl_Table x20) rfl (hn := ?_)
    refine LWo.nil (hN19 _ ?_)
    refine LWP.seq_k fun N21 hN21 => ?_
    refine LWP.region (l := [_,_,_,_]) ?_
    refine LWo.loadN ((e_laws_Bond a1)).cells g_laws_Bond s_laws_Bond rfl (Nat.le_of_ble_eq_true rfl) rfl (hn := ?_)
    refine bk h fun x22 e22 h => ?_
    refine LWo.vcall rfl rfl (c_laws_toBond _ _ e22) (.same (.nil)) (hn := ?_)
    refine LWo.alloc_impl_Bond 8 rfl (hn := ?_)
    refine lk h fun y23 e23 h => ?_
    refine LWo.storeW (y := (⟨(0 : Int), (0 : Int), [], (0 : Int), [], false, []⟩ : S_impl_Bond)) y23 s_impl_Bond rfl rfl rfl rfl rfl rfl (by rw [e23]; exact .refl) rfl (hn := ?_)
    refine LWo.nil (hN21 _ ?_)
    refine LWP.seq_k fun N24 hN24 => ?_
    refine LWP.region (l := [_,_,_,_]) ?_
    refine LWo.move (e_Limpl_Table x20) rfl (hn := ?_)
    refine LWo.loadVN ((e_impl_Bond y23)).cells  g_impl_Bond s_impl_Bond rfl rfl rfl rfl (hn := ?_)
    refine bk h fun x25 e25 h => ?_
    refine LWo.vcall rfl rfl (c_impl_BondOk _ _ _ e25) (.same (.same (.nil))) (hn := ?_)
    refine LWo.assign (e_bool x25) rfl (hn := ?_)
    refine LWo.nil (hN24 _ ?_)
    refine LWP.seq_k fun N26 hN26 => ?_
    refine LWP.seq_k fun N27 hN27 => ?_
    refine LWP.region (l := [_,_,_]) ?_
    refine LWo.move (e_bool x25) rfl (hn := ?_)
    refine LWo.move (e_bool x18) rfl (hn := ?_)
    refine LWo.boolNe u_bool rfl rfl (hn := ?_)
    refine LWo.nil (hN27 _ ?_)
    refine LWP.cond_split rfl (fun h28 => ?_) (fun h28 => ?_)
    ·have h := bT h28 h
     refine LWP.seq_k fun N29 hN29 => ?_
     refine LWP.region (l := [_]) ?_
     refine LWo.assign (e_bool false) rfl (hn := ?_)
     refine LWo.nil (hN29 _ ?_)
     obtain rfl := Option.some.inj h
     refine LWP.ret (QG.mk (.inr rfl) (.cons (.tmp (x := (e_bool false)) rfl) (.nil)) (RetOK.one0 (.pure rfl) (by decide)) rfl rfl)
    ·have h := bF h28 h
     refine LWP.skip (hN26 _ ?_)
     refine LWP.seq_k fun N30 hN30 => ?_
     refine LWP.seq_k fun N31 hN31 => ?_
     refine LWP.region (l := [_,_,_,_,_]) ?_
     refine LWo.move (e_Limpl_Table x20) rfl (hn := ?_)
     refine LWo.move (e_Llaws_Table a0) rfl (hn := ?_)
     refine bk h fun x32 e32 h => ?_
     refine LWo.vcall rfl rfl (c_laws_toTableS _ _ e32) (.same (.nil)) (hn := ?_)
     refine bk h fun x33 e33 h => ?_
     refine LWo.vcall rfl rfl (c_laws_eqTableS _ _ _ e33) (.same (.same (.nil))) (hn := ?_)
     refine LWo.not rfl (hn := ?_)
     refine LWo.nil (hN31 _ ?_)
     refine LWP.cond_split rfl (fun h34 => ?_) (fun h34 => ?_)
     ·have h := bT h34 h
      refine LWP.seq_k fun N35 hN35 => ?_
      refine LWP.region (l := [_]) ?_
      refine LWo.assign (e_bool false) rfl (hn := ?_)
      refine LWo.nil (hN35 _ ?_)
      obtain rfl := Option.some.inj h
      refine LWP.ret (QG.mk (.inr rfl) (.cons (.tmp (x := (e_bool false)) rfl) (.nil)) (RetOK.one0 (.pure rfl) (by decide)) rfl rfl)
     ·have h := bF h34 h
      refine LWP.skip (hN30 _ ?_)
      refine LWP.seq_k fun N36 hN36 => ?_
      refine LWP.seq_k fun N37 hN37 => ?_
      refine bk h fun x38 e38 h => ?_
      refine bk h fun x39 e39 h => ?_
      refine LWP.drawF (l := [_,_,_,_,_]) [] [3, 8] [([8], [8]), ([3], []), ([41], []), ([40, 42], []), ([43], [])] [44] [] mixed (by kernel_rfl) rfl (by decide) ?_
      refine dq 40 rfl (fun _ g u h => LWo.loadVN ((e_impl_Bond y23)).cells  g_impl_Bond s_impl_Bond u.1 h.1 rfl rfl (hn := .nil (zn g))) ?_
      refine dq 41 rfl (fun _ g u h => LWo.loadN ((e_laws_Bond a1)).cells g_laws_Bond s_laws_Bond u.1 (Nat.le_of_ble_eq_true rfl) rfl (hn := .nil (zn g))) ?_
      refine dq 42 rfl (fun _ g u h => LWo.vcall rfl (av1 u.1) (c_laws_toBond _ _ e38) (.same (.nil)) (hn := .nil (zn g))) ?_
      refine dq 43 rfl (fun _ g u h => LWo.vcall rfl (av2 u.1 u.2.1) (c_laws_eqBond _ _ _ e39) (.same (.same (.nil))) (hn := .nil (zn g))) ?_
      refine dq 44 rfl (fun _ g u h => LWo.not u.1 (hn := .nil (zn g))) ?_
      refine ⟨rfl, by kernel_rfl, hN37 _ ?_⟩
      refine LWP.cond_split rfl (fun h40 => ?_) (fun h40 => ?_)
      ·have h := bT h40 h
       refine LWP.seq_k fun N41 hN41 => ?_
       refine LWP.region (l := [_]) ?_
       refine LWo.assign (e_bool false) rfl (hn := ?_)
       refine LWo.nil (hN41 _ ?_)
       obtain rfl := Option.some.inj h
       refine LWP.ret (QG.mk (.inr rfl) (.cons (.tmp (x := (e_bool false)) rfl) (.nil)) (RetOK.one0 (.pure rfl) (by decide)) rfl rfl)
      ·have h := bF h40 h
       refine LWP.skip (hN36 _ ?_)
       refine LWP.seq_k fun N42 hN42 => ?_
       refine LWP.region (l := [_]) ?_
       refine LWo.assign (e_bool true) rfl (hn := ?_)
       refine LWo.nil (hN42 _ ?_)
       obtain rfl := Option.some.inj h
       refine LWP.ret (QG.mk (.inr rfl) (.cons (.tmp (x := (e_bool true)) rfl) (.nil)) (RetOK.one0 (.pure rfl) (by decide)) rfl rfl)
end Go.Proofs.Ytgepipglchpabaa
