/- Mirrors of functions, and that the functions return what the mirrors say. -/
import Derived.Test.YtgepipglchpabaaXW2
set_option linter.unusedVariables false
set_option linter.unusedSimpArgs false
set_option linter.unnecessarySimpa false
namespace Go.Proofs.Ytgepipglchpabaa
open Go.Proofs Go.Lift Go.RowKit
def m_cmp_isNaN_int (a0 : Int) : Option Bool :=
  some (a0 != a0)
theorem c_cmp_isNaN_int (a0 : Int) (r : Bool) (h : m_cmp_isNaN_int a0 = some r) : Ret Try.prog f_cmp_isNaN_int [e_int a0] (e_bool r) := by
  refine Does.goG [] F_cmp_isNaN_int rfl e_cmp_isNaN_int n_cmp_isNaN_int rfl (rvs := [.tmp 2]) rfl rfl ?_
  intro w0 ok0 lent ρ0
  refine LWP.seq_k fun N1 hN1 => ?_
  refine LWP.region (l := [_]) ?_
  refine LWo.assign (e_bool false) rfl (hn := ?_)
  refine LWo.nil (hN1 _ ?_)
  refine LWP.seq_k fun N2 hN2 => ?_
  refine LWP.region (l := [_,_,_,_]) ?_
  refine LWo.move (e_int a0) rfl (hn := ?_)
  refine LWo.move (e_int a0) rfl (hn := ?_)
  refine LWo.int _ rfl rfl rfl (hn := ?_)
  refine LWo.assign (e_bool (a0 != a0)) rfl (hn := ?_)
  refine LWo.nil (hN2 _ ?_)
  obtain rfl := Option.some.inj h
  refine LWP.ret (QG.mk (.inr rfl) (.cons (.tmp (x := (e_bool (a0 != a0))) rfl) (.nil)) (RetOK.one0 (.pure rfl) (by decide)) rfl rfl)

def m_cmp_Compare_int (a0 : Int) (a1 : Int) : Option Int :=
  (m_cmp_isNaN_int a0).bind fun x3 =>
  (m_cmp_isNaN_int a1).bind fun x5 =>
  bif x3 then (bif x5 then (some (0 : Int))
    else (some (-1 : Int)))
  else (bif x5 then (some (1 : Int))
  else (bif decide (a0 < a1) then (some (-1 : Int))
  else (bif decide (a0 > a1) then (some (1 : Int))
  else (some (0 : Int)))))
theorem c_cmp_Compare_int (a0 : Int) (a1 : Int) (r : Int) (h : m_cmp_Compare_int a0 a1 = some r) : Ret Try.prog f_cmp_Compare_int [e_int a0, e_int a1] (e_int r) := by
  refine Does.goG [] F_cmp_Compare_int rfl e_cmp_Compare_int n_cmp_Compare_int rfl (rvs := [.tmp 4]) rfl rfl ?_
  intro w0 ok0 lent ρ0
  refine LWP.seq_k fun N1 hN1 => ?_
  refine LWP.region (l := [_]) ?_
  refine LWo.assign (e_int (0 : Int)) rfl (hn := ?_)
  refine LWo.nil (hN1 _ ?_)
  refine LWP.seq_k fun N2 hN2 => ?_
  refine LWP.region (l := [_,_,_]) ?_
  refine LWo.move (e_int a0) rfl (hn := ?_)
  refine bk h fun x3 e3 h => ?_
  refine LWo.vcall rfl rfl (c_cmp_isNaN_int _ _ e3) (.same (.nil)) (hn := ?_)
  refine LWo.assign (e_bool x3) rfl (hn := ?_)
  refine LWo.nil (hN2 _ ?_)
  refine LWP.seq_k fun N4 hN4 => ?_
  refine LWP.region (l := [_,_,_]) ?_
  refine LWo.move (e_int a1) rfl (hn := ?_)
  refine bk h fun x5 e5 h => ?_
  refine LWo.vcall rfl rfl (c_cmp_isNaN_int _ _ e5) (.same (.nil)) (hn := ?_)
  refine LWo.assign (e_bool x5) rfl (hn := ?_)
  refine LWo.nil (hN4 _ ?_)
  refine LWP.seq_k fun N6 hN6 => ?_
  refine LWP.seq_k fun N7 hN7 => ?_
  refine LWP.region (l := [_]) ?_
  refine LWo.move (e_bool x3) rfl (hn := ?_)
  refine LWo.nil (hN7 _ ?_)
  refine LWP.cond_split rfl (fun h8 => ?_) (fun h8 => ?_)
  ·have h := bT h8 h
   refine LWP.seq_k fun N9 hN9 => ?_
   refine LWP.seq_k fun N10 hN10 => ?_
   refine LWP.region (l := [_]) ?_
   refine LWo.move (e_bool x5) rfl (hn := ?_)
   refine LWo.nil (hN10 _ ?_)
   refine LWP.cond_split rfl (fun h11 => ?_) (fun h11 => ?_)
   ·have h := bT h11 h
    refine LWP.seq_k fun N12 hN12 => ?_
    refine LWP.region (l := [_]) ?_
    refine LWo.assign (e_int (0 : Int)) rfl (hn := ?_)
    refine LWo.nil (hN12 _ ?_)
    obtain rfl := Option.some.inj h
    refine LWP.ret (QG.mk (.inr rfl) (.cons (.tmp (x := (e_int (0 : Int))) rfl) (.nil)) (RetOK.one0 (.pure rfl) (by decide)) rfl rfl)
   ·have h := bF h11 h
    refine LWP.skip (hN9 _ ?_)
    refine LWP.seq_k fun N13 hN13 => ?_
    refine LWP.region (l := [_]) ?_
    refine LWo.assign (e_int (-1 : Int)) rfl (hn := ?_)
    refine LWo.nil (hN13 _ ?_)
    obtain rfl := Option.some.inj h
    refine LWP.ret (QG.mk (.inr rfl) (.cons (.tmp (x := (e_int (-1 : Int))) rfl) (.nil)) (RetOK.one0 (.pure rfl) (by decide)) rfl rfl)
  ·have h := bF h8 h
   refine LWP.skip (hN6 _ ?_)
   refine LWP.seq_k fun N14 hN14 => ?_
   refine LWP.seq_k fun N15 hN15 => ?_
   refine LWP.region (l := [_]) ?_
   refine LWo.move (e_bool x5) rfl (hn := ?_)
   refine LWo.nil (hN15 _ ?_)
   refine LWP.cond_split rfl (fun h16 => ?_) (fun h16 => ?_)
   ·have h := bT h16 h
    refine LWP.seq_k fun N17 hN17 => ?_
    refine LWP.region (l := [_]) ?_
    refine LWo.assign (e_int (1 : Int)) rfl (hn := ?_)
    refine LWo.nil (hN17 _ ?_)
    obtain rfl := Option.some.inj h
    refine LWP.ret (QG.mk (.inr rfl) (.cons (.tmp (x := (e_int (1 : Int))) rfl) (.nil)) (RetOK.one0 (.pure rfl) (by decide)) rfl rfl)
   ·have h := bF h16 h
    refine LWP.skip (hN14 _ ?_)
    refine LWP.seq_k fun N18 hN18 => ?_
    refine LWP.seq_k fun N19 hN19 => ?_
    refine LWP.region (l := [_,_,_]) ?_
    refine LWo.move (e_int a0) rfl (hn := ?_)
    refine LWo.move (e_int a1) rfl (hn := ?_)
    refine LWo.int _ rfl rfl rfl (hn := ?_)
    refine LWo.nil (hN19 _ ?_)
    refine LWP.cond_split rfl (fun h20 => ?_) (fun h20 => ?_)
    ·have h := bT h20 h
     refine LWP.seq_k fun N21 hN21 => ?_
     refine LWP.region (l := [_]) ?_
     refine LWo.assign (e_int (-1 : Int)) rfl (hn := ?_)
     refine LWo.nil (hN21 _ ?_)
     obtain rfl := Option.some.inj h
     refine LWP.ret (QG.mk (.inr rfl) (.cons (.tmp (x := (e_int (-1 : Int))) rfl) (.nil)) (RetOK.one0 (.pure rfl) (by decide)) rfl rfl)
    ·have h := bF h20 h
     refine LWP.skip (hN18 _ ?_)
     refine LWP.seq_k fun N22 hN22 => ?_
     refine LWP.seq_k fun N23 hN23 => ?_
     refine LWP.region (l := [_,_,_]) ?_
     refine LWo.move (e_int a0) rfl (hn := ?_)
     refine LWo.move (e_int a1) rfl (hn := ?_)
     refine LWo.int _ rfl rfl rfl (hn := ?_)
     refine LWo.nil (hN23 _ ?_)
     refine LWP.cond_split rfl (fun h24 => ?_) (fun h24 => ?_)
     ·have h := bT h24 h
      refine LWP.seq_k fun N25 hN25 => ?_
      refine LWP.region (l := [_]) ?_
      refine LWo.assign (e_int (1 : Int)) rfl (hn := ?_)
      refine LWo.nil (hN25 _ ?_)
      obtain rfl := Option.some.inj h
      refine LWP.ret (QG.mk (.inr rfl) (.cons (.tmp (x := (e_int (1 : Int))) rfl) (.nil)) (RetOK.one0 (.pure rfl) (by decide)) rfl rfl)
     ·have h := bF h24 h
      refine LWP.skip (hN22 _ ?_)
      refine LWP.seq_k fun N26 hN26 => ?_
      refine LWP.region (l := [_]) ?_
      refine LWo.assign (e_int (0 : Int)) rfl (hn := ?_)
      refine LWo.nil (hN26 _ ?_)
      obtain rfl := Option.some.inj h
      refine LWP.ret (QG.mk (.inr rfl) (.cons (.tmp (x := (e_int (0 : Int))) rfl) (.nil)) (RetOK.one0 (.pure rfl) (by decide)) rfl rfl)

def m_cmp_isNaN_string (a0 : ByteArray) : Option Bool :=
  some (!(sEq a0 a0))
theorem c_cmp_isNaN_string (a0 : ByteArray) (r : Bool) (h : m_cmp_isNaN_string a0 = some r) : Ret Try.prog f_cmp_isNaN_string [e_string a0] (e_bool r) := by
  refine Does.goG [] F_cmp_isNaN_string rfl e_cmp_isNaN_string n_cmp_isNaN_string rfl (rvs := [.tmp 2]) rfl rfl ?_
  intro w0 ok0 lent ρ0
  refine LWP.seq_k fun N1 hN1 => ?_
  refine LWP.region (l := [_]) ?_
  refine LWo.assign (e_bool false) rfl (hn := ?_)
  refine LWo.nil (hN1 _ ?_)
  refine LWP.seq_k fun N2 hN2 => ?_
  refine LWP.region (l := [_,_,_,_]) ?_
  refine LWo.move (e_string a0) rfl (hn := ?_)
  refine LWo.move (e_string a0) rfl (hn := ?_)
  refine LWo.str _ rfl rfl rfl (hn := ?_)
  refine LWo.assign (e_bool (!(sEq a0 a0))) rfl (hn := ?_)
  refine LWo.nil (hN2 _ ?_)
  obtain rfl := Option.some.inj h
  refine LWP.ret (QG.mk (.inr rfl) (.cons (.tmp (x := (e_bool (!(sEq a0 a0)))) rfl) (.nil)) (RetOK.one0 (.pure rfl) (by decide)) rfl rfl)

def m_cmp_Compare_string (a0 : ByteArray) (a1 : ByteArray) : Option Int :=
  (m_cmp_isNaN_string a0).bind fun x3 =>
  (m_cmp_isNaN_string a1).bind fun x5 =>
  bif x3 then (bif x5 then (some (0 : Int))
    else (some (-1 : Int)))
  else (bif x5 then (some (1 : Int))
  else (bif (sLt a0 a1) then (some (-1 : Int))
  else (bif (!(sLt a0 a1 || sEq a0 a1)) then (some (1 : Int))
  else (some (0 : Int)))))
theorem c_cmp_Compare_string (a0 : ByteArray) (a1 : ByteArray) (r : Int) (h : m_cmp_Compare_string a0 a1 = some r) : Ret Try.prog f_cmp_Compare_string [e_string a0, e_string a1] (e_int r) := by
  refine Does.goG [] F_cmp_Compare_string rfl e_cmp_Compare_string n_cmp_Compare_string rfl (rvs := [.tmp 4]) rfl rfl ?_
  intro w0 ok0 lent ρ0
  refine LWP.seq_k fun N1 hN1 => ?_
  refine LWP.region (l := [_]) ?_
  refine LWo.assign (e_int (0 : Int)) rfl (hn := ?_)
  refine LWo.nil (hN1 _ ?_)
  refine LWP.seq_k fun N2 hN2 => ?_
  refine LWP.region (l := [_,_,_]) ?_
  refine LWo.move (e_string a0) rfl (hn := ?_)
  refine bk h fun x3 e3 h => ?_
  refine LWo.vcall rfl rfl (c_cmp_isNaN_string _ _ e3) (.same (.nil)) (hn := ?_)
  refine LWo.assign (e_bool x3) rfl (hn := ?_)
  refine LWo.nil (hN2 _ ?_)
  refine LWP.seq_k fun N4 hN4 => ?_
  refine LWP.region (l := [_,_,_]) ?_
  refine LWo.move (e_string a1) rfl (hn := ?_)
  refine bk h fun x5 e5 h => ?_
  refine LWo.vcall rfl rfl (c_cmp_isNaN_string _ _ e5) (.same (.nil)) (hn := ?_)
  refine LWo.assign (e_bool x5) rfl (hn := ?_)
  refine LWo.nil (hN4 _ ?_)
  refine LWP.seq_k fun N6 hN6 => ?_
  refine LWP.seq_k fun N7 hN7 => ?_
  refine LWP.region (l := [_]) ?_
  refine LWo.move (e_bool x3) rfl (hn := ?_)
  refine LWo.nil (hN7 _ ?_)
  refine LWP.cond_split rfl (fun h8 => ?_) (fun h8 => ?_)
  ·have h := bT h8 h
   refine LWP.seq_k fun N9 hN9 => ?_
   refine LWP.seq_k fun N10 hN10 => ?_
   refine LWP.region (l := [_]) ?_
   refine LWo.move (e_bool x5) rfl (hn := ?_)
   refine LWo.nil (hN10 _ ?_)
   refine LWP.cond_split rfl (fun h11 => ?_) (fun h11 => ?_)
   ·have h := bT h11 h
    refine LWP.seq_k fun N12 hN12 => ?_
    refine LWP.region (l := [_]) ?_
    refine LWo.assign (e_int (0 : Int)) rfl (hn := ?_)
    refine LWo.nil (hN12 _ ?_)
    obtain rfl := Option.some.inj h
    refine LWP.ret (QG.mk (.inr rfl) (.cons (.tmp (x := (e_int (0 : Int))) rfl) (.nil)) (RetOK.one0 (.pure rfl) (by decide)) rfl rfl)
   ·have h := bF h11 h
    refine LWP.skip (hN9 _ ?_)
    refine LWP.seq_k fun N13 hN13 => ?_
    refine LWP.region (l := [_]) ?_
    refine LWo.assign (e_int (-1 : Int)) rfl (hn := ?_)
    refine LWo.nil (hN13 _ ?_)
    obtain rfl := Option.some.inj h
    refine LWP.ret (QG.mk (.inr rfl) (.cons (.tmp (x := (e_int (-1 : Int))) rfl) (.nil)) (RetOK.one0 (.pure rfl) (by decide)) rfl rfl)
  ·have h := bF h8 h
   refine LWP.skip (hN6 _ ?_)
   refine LWP.seq_k fun N14 hN14 => ?_
   refine LWP.seq_k fun N15 hN15 => ?_
   refine LWP.region (l := [_]) ?_
   refine LWo.move (e_bool x5) rfl (hn := ?_)
   refine LWo.nil (hN15 _ ?_)
   refine LWP.cond_split rfl (fun h16 => ?_) (fun h16 => ?_)
   ·have h := bT h16 h
    refine LWP.seq_k fun N17 hN17 => ?_
    refine LWP.region (l := [_]) ?_
    refine LWo.assign (e_int (1 : Int)) rfl (hn := ?_)
    refine LWo.nil (hN17 _ ?_)
    obtain rfl := Option.some.inj h
    refine LWP.ret (QG.mk (.inr rfl) (.cons (.tmp (x := (e_int (1 : Int))) rfl) (.nil)) (RetOK.one0 (.pure rfl) (by decide)) rfl rfl)
   ·have h := bF h16 h
    refine LWP.skip (hN14 _ ?_)
    refine LWP.seq_k fun N18 hN18 => ?_
    refine LWP.seq_k fun N19 hN19 => ?_
    refine LWP.region (l := [_,_,_]) ?_
    refine LWo.move (e_string a0) rfl (hn := ?_)
    refine LWo.move (e_string a1) rfl (hn := ?_)
    refine LWo.str _ rfl rfl rfl (hn := ?_)
    refine LWo.nil (hN19 _ ?_)
    refine LWP.cond_split rfl (fun h20 => ?_) (fun h20 => ?_)
    ·have h := bT h20 h
     refine LWP.seq_k fun N21 hN21 => ?_
     refine LWP.region (l := [_]) ?_
     refine LWo.assign (e_int (-1 : Int)) rfl (hn := ?_)
     refine LWo.nil (hN21 _ ?_)
     obtain rfl := Option.some.inj h
     refine LWP.ret (QG.mk (.inr rfl) (.cons (.tmp (x := (e_int (-1 : Int))) rfl) (.nil)) (RetOK.one0 (.pure rfl) (by decide)) rfl rfl)
    ·have h := bF h20 h
     refine LWP.skip (hN18 _ ?_)
     refine LWP.seq_k fun N22 hN22 => ?_
     refine LWP.seq_k fun N23 hN23 => ?_
     refine LWP.region (l := [_,_,_]) ?_
     refine LWo.move (e_string a0) rfl (hn := ?_)
     refine LWo.move (e_string a1) rfl (hn := ?_)
     refine LWo.str _ rfl rfl rfl (hn := ?_)
     refine LWo.nil (hN23 _ ?_)
     refine LWP.cond_split rfl (fun h24 => ?_) (fun h24 => ?_)
     ·have h := bT h24 h
      refine LWP.seq_k fun N25 hN25 => ?_
      refine LWP.region (l := [_]) ?_
      refine LWo.assign (e_int (1 : Int)) rfl (hn := ?_)
      refine LWo.nil (hN25 _ ?_)
      obtain rfl := Option.some.inj h
      refine LWP.ret (QG.mk (.inr rfl) (.cons (.tmp (x := (e_int (1 : Int))) rfl) (.nil)) (RetOK.one0 (.pure rfl) (by decide)) rfl rfl)
     ·have h := bF h24 h
      refine LWP.skip (hN22 _ ?_)
      refine LWP.seq_k fun N26 hN26 => ?_
      refine LWP.region (l := [_]) ?_
      refine LWo.assign (e_int (0 : Int)) rfl (hn := ?_)
      refine LWo.nil (hN26 _ ?_)
      obtain rfl := Option.some.inj h
      refine LWP.ret (QG.mk (.inr rfl) (.cons (.tmp (x := (e_int (0 : Int))) rfl) (.nil)) (RetOK.one0 (.pure rfl) (by decide)) rfl rfl)

def m_cmp_Or_int_j1 (t3 : Int) : Option Int :=
  some t3
def m_cmp_Or_int_l1 : Nat → Int → (List Int) → Int → Int → Option Int
  | 0, _, _, _, _ => none
  | n1 + 1, t3, t6, t7, t8 =>
    bif decide (t8 < t7) then ((at? t6 t8).bind fun x12 =>
    bif (x12 != t3) then (some x12)
    else ((ckI (t8 + (1 : Int))).bind fun x16 =>
    (m_cmp_Or_int_l1  n1) t3 t6 t7 x16))
    else (m_cmp_Or_int_j1  t3)
def m_cmp_Or_int (a0 : (List Int)) : Option Int :=
  m_cmp_Or_int_l1  (((a0.length : Int) - (0 : Int)).toNat + 1) (0 : Int) a0 (a0.length : Int) (0 : Int)
theorem c_cmp_Or_int (a0 : (List Int)) (r : Int) (h : m_cmp_Or_int a0 = some r) : Ret Try.prog f_cmp_Or_int [e_Lint a0] (e_int r) := by
  refine Does.goG [] F_cmp_Or_int rfl e_cmp_Or_int n_cmp_Or_int rfl (rvs := [.tmp 2]) rfl rfl ?_
  intro w0 ok0 lent ρ0
  refine LWP.seq_k fun N1 hN1 => ?_
  refine LWP.region (l := [_]) ?_
  refine LWo.assign (e_int (0 : Int)) rfl (hn := ?_)
  refine LWo.nil (hN1 _ ?_)
  refine LWP.seq_k fun N2 hN2 => ?_
  refine LWP.region (l := [_]) ?_
  refine LWo.assign (e_int (0 : Int)) rfl (hn := ?_)
  refine LWo.nil (hN2 _ ?_)
  refine LWP.join (α := Int) (fun z : Int => [(3, (e_int z))]) (fun z : Int => []) (fun z : Int => m_cmp_Or_int_j1  z) r (fun _ => by simp [hkeys]) ?_ ?_
  ·rintro t3 h
   replace h : m_cmp_Or_int_j1  t3 = some _ := h
   refine LWP.seq_k fun N17 hN17 => ?_
   refine LWP.region (l := [_,_]) ?_
   refine LWo.move (e_int t3) rfl (hn := ?_)
   refine LWo.assign (e_int t3) rfl (hn := ?_)
   refine LWo.nil (hN17 _ ?_)
   obtain rfl := Option.some.inj h
   refine LWP.ret (QG.mk (.inr rfl) (.cons (.tmp (x := (e_int t3)) rfl) (.nil)) (RetOK.one0 (.pure rfl) (by decide)) rfl rfl)
  ·intro N3 hN3
   refine LWP.seq_k fun N4 hN4 => ?_
   refine LWP.region (l := [_,_,_]) ?_
   refine LWo.move (e_Lint a0) rfl (hn := ?_)
   refine LWo.lenM (f := e_int) (l := a0) u_Lint rfl (hn := ?_)
   refine LWo.move (e_int (0 : Int)) rfl (hn := ?_)
   refine LWo.nil (hN4 _ ?_)
   refine LWP.block ?_
   refine LWP.loopM (α := Int × (List Int) × Int × Int) (fun z : Int × (List Int) × Int × Int => [(3, (e_int z.1)), (6, (e_Lint z.2.1)), (7, (e_int z.2.2.1)), (8, (e_int z.2.2.2))]) (fun z : Int × (List Int) × Int × Int => []) (fun n1 (z : Int × (List Int) × Int × Int) => m_cmp_Or_int_l1  n1 z.1 z.2.1 z.2.2.1 z.2.2.2) r _ ((0 : Int), a0, (a0.length : Int), (0 : Int)) h (fun _ => rfl) (fun _ => by simp [hkeys]) ⟨rfl, rfl, rfl, rfl, trivial⟩ trivial ?_
   rintro n1 ⟨t3, t6, t7, t8⟩ h N5 hN5
   replace h : m_cmp_Or_int_l1  (n1 + 1) t3 t6 t7 t8 = some _ := h
   refine LWP.seq_k fun N7 hN7 => ?_
   refine LWP.region (l := [_]) ?_
   refine LWo.int _ rfl rfl rfl (hn := ?_)
   refine LWo.nil (hN7 _ ?_)
   refine LWP.seq_k fun N8 hN8 => ?_
   refine LWP.cond_split rfl (fun h9 => ?_) (fun h9 => ?_)
   ·have h := bT h9 h
    refine LWP.skip (hN8 _ ?_)
    refine LWP.seq_k fun N10 hN10 => ?_
    refine LWP.block ?_
    refine LWP.seq_k fun N11 hN11 => ?_
    refine LWP.region (l := [_,_,_]) ?_
    refine bk h fun x12 e12 h => ?_
    refine LWo.indexM (f := e_int) e12 u_Lint s_int rfl rfl (hn := ?_)
    refine LWo.load1 (c := (e_int x12)) g_int rfl (hn := ?_)
    refine LWo.assign (e_int x12) rfl (hn := ?_)
    refine LWo.nil (hN11 _ ?_)
    refine LWP.seq_k fun N13 hN13 => ?_
    refine LWP.region (l := [_,_,_]) ?_
    refine LWo.move (e_int x12) rfl (hn := ?_)
    refine LWo.move (e_int t3) rfl (hn := ?_)
    refine LWo.int _ rfl rfl rfl (hn := ?_)
    refine LWo.nil (hN13 _ ?_)
    refine LWP.cond_split rfl (fun h14 => ?_) (fun h14 => ?_)
    ·have h := bT h14 h
     refine LWP.seq_k fun N15 hN15 => ?_
     refine LWP.region (l := [_,_]) ?_
     refine LWo.move (e_int x12) rfl (hn := ?_)
     refine LWo.assign (e_int x12) rfl (hn := ?_)
     refine LWo.nil (hN15 _ ?_)
     obtain rfl := Option.some.inj h
     refine LWP.ret (QG.mk (.inr rfl) (.cons (.tmp (x := (e_int x12)) rfl) (.nil)) (RetOK.one0 (.pure rfl) (by decide)) rfl rfl)
    ·have h := bF h14 h
     refine LWP.skip (hN10 _ ?_)
     refine LWP.region (l := [_,_]) ?_
     refine bk h fun x16 e16 h => ?_
     refine LWo.int _ rfl rfl (add_ck e16) (hn := ?_)
     refine LWo.move (e_int x16) rfl (hn := ?_)
     refine LWo.nil (hN5 (t3, t6, t7, x16) _ ⟨rfl, rfl, rfl, rfl, trivial⟩ trivial h)
   ·have h := bF h9 h
    refine LWP.exit (hN3 t3 _ ⟨rfl, trivial⟩ trivial h)

def m_impl_Value_order (a0 : S_impl_Value) (a1 : S_impl_Value) : Option Int :=
  (m_cmp_Compare_int a0.Kind a1.Kind).bind fun x3 =>
  (m_cmp_Compare_int a0.N a1.N).bind fun x4 =>
  (m_cmp_Compare_string a0.S a1.S).bind fun x5 =>
  (m_cmp_Or_int ([x3, x4, x5] : (List Int))).bind fun x6 =>
  some x6
theorem c_impl_Value_order (a0 : S_impl_Value) (a1 : S_impl_Value) (r : Int) (h : m_impl_Value_order a0 a1 = some r) : Ret Try.prog f_impl_Value_order [e_impl_Value a0, e_impl_Value a1] (e_int r) := by
  refine Does.goG [] F_impl_Value_order rfl e_impl_Value_order n_impl_Value_order rfl (rvs := [.tmp 4]) rfl rfl ?_
  intro w0 ok0 lent ρ0
  refine LWP.seq_k fun N1 hN1 => ?_
  refine LWP.region (l := [_,_,_]) ?_
  refine LWo.boxF (e_impl_Value a0) rfl rfl rfl (hn := ?_)
  refine LWo.boxF (e_impl_Value a1) rfl rfl rfl (hn := ?_)
  refine LWo.assign (e_int (0 : Int)) rfl (hn := ?_)
  refine LWo.nil (hN1 _ ?_)
  refine LWP.seq_k fun N2 hN2 => ?_
  refine bk h fun x3 e3 h => ?_
  refine bk h fun x4 e4 h => ?_
  refine bk h fun x5 e5 h => ?_
  refine bk h fun x6 e6 h => ?_
  refine LWP.drawF (l := [_,_,_,_,_,_,_,_,_,_,_,_,_,_,_,_,_,_]) [] [2, 3] [([2], []), ([5], []), ([3], []), ([7], []), ([6, 8], []), ([2], []), ([10], []), ([3], []), ([12], []), ([11, 13], []), ([2], []), ([15], []), ([3], []), ([17], []), ([16, 18], []), ([9, 14, 19], []), ([20], []), ([21], [])] [4] [] mixed (by kernel_rfl) rfl (by decide) ?_
  refine dq 5 rfl (fun _ g u h => LWo.fieldAddr _ u_impl_Value rfl s_int u.1 rfl (hn := .nil (zn g))) ?_
  refine dq 6 rfl (fun _ g u h => LWo.load1 (c := (e_int a0.Kind)) g_int u.1 (hn := .nil (zn g))) ?_
  refine dq 7 rfl (fun _ g u h => LWo.fieldAddr _ u_impl_Value rfl s_int u.1 rfl (hn := .nil (zn g))) ?_
  refine dq 8 rfl (fun _ g u h => LWo.load1 (c := (e_int a1.Kind)) g_int u.1 (hn := .nil (zn g))) ?_
  refine dq 9 rfl (fun _ g u h => LWo.vcall rfl (av2 u.1 u.2.1) (c_cmp_Compare_int _ _ _ e3) (.same (.same (.nil))) (hn := .nil (zn g))) ?_
  refine dq 10 rfl (fun _ g u h => LWo.fieldAddr _ u_impl_Value rfl s_int u.1 rfl (hn := .nil (zn g))) ?_
  refine dq 11 rfl (fun _ g u h => LWo.load1 (c := (e_int a0.N)) g_int u.1 (hn := .nil (zn g))) ?_
  refine dq 12 rfl (fun _ g u h => LWo.fieldAddr _ u_impl_Value rfl s_int u.1 rfl (hn := .nil (zn g))) ?_
  refine dq 13 rfl (fun _ g u h => LWo.load1 (c := (e_int a1.N)) g_int u.1 (hn := .nil (zn g))) ?_
  refine dq 14 rfl (fun _ g u h => LWo.vcall rfl (av2 u.1 u.2.1) (c_cmp_Compare_int _ _ _ e4) (.same (.same (.nil))) (hn := .nil (zn g))) ?_
  refine dq 15 rfl (fun _ g u h => LWo.fieldAddr _ u_impl_Value rfl s_string u.1 rfl (hn := .nil (zn g))) ?_
  refine dq 16 rfl (fun _ g u h => LWo.load1 (c := (e_string a0.S)) g_string u.1 (hn := .nil (zn g))) ?_
  refine dq 17 rfl (fun _ g u h => LWo.fieldAddr _ u_impl_Value rfl s_string u.1 rfl (hn := .nil (zn g))) ?_
  refine dq 18 rfl (fun _ g u h => LWo.load1 (c := (e_string a1.S)) g_string u.1 (hn := .nil (zn g))) ?_
  refine dq 19 rfl (fun _ g u h => LWo.vcall rfl (av2 u.1 u.2.1) (c_cmp_Compare_string _ _ _ e5) (.same (.same (.nil))) (hn := .nil (zn g))) ?_
  refine dq 20 rfl (fun _ g u h => LWo.lit (ops := [_, _, _]) [(e_int x3), (e_int x4), (e_int x5)] u_Lint s_int z_int (lv3 u.1 u.2.1 u.2.2.1) rfl rfl rfl rfl rfl (hn := .nil (zn g))) ?_
  refine dq 21 rfl (fun _ g u h => LWo.vcall rfl (av1 u.1) (c_cmp_Or_int _ _ e6) (.same (.nil)) (hn := .nil (zn g))) ?_
  refine dq 4 rfl (fun _ g u h => LWo.assign (e_int x6) u.1 (hn := .nil (zn g))) ?_
  refine ⟨rfl, by kernel_rfl, hN2 _ ?_⟩
  obtain rfl := Option.some.inj h
  refine LWP.ret (QG.mk (.inr rfl) (.cons (.tmp (x := (e_int x6)) rfl) (.nil)) (RetOK.one0 (.pure rfl) (by decide)) rfl rfl)

def m_impl_truthIf (a0 : Bool) : Option Int :=
  bif a0 then (some (1 : Int))
  else (some (0 : Int))
theorem c_impl_truthIf (a0 : Bool) (r : Int) (h : m_impl_truthIf a0 = some r) : Ret Try.prog f_impl_truthIf [e_bool a0] (e_int r) := by
  refine Does.goG [] F_impl_truthIf rfl e_impl_truthIf n_impl_truthIf rfl (rvs := [.tmp 2]) rfl rfl ?_
  intro w0 ok0 lent ρ0
  refine LWP.seq_k fun N1 hN1 => ?_
  refine LWP.region (l := [_]) ?_
  refine LWo.assign (e_int (0 : Int)) rfl (hn := ?_)
  refine LWo.nil (hN1 _ ?_)
  refine LWP.seq_k fun N2 hN2 => ?_
  refine LWP.seq_k fun N3 hN3 => ?_
  refine LWP.region (l := [_]) ?_
  refine LWo.move (e_bool a0) rfl (hn := ?_)
  refine LWo.nil (hN3 _ ?_)
  refine LWP.cond_split rfl (fun h4 => ?_) (fun h4 => ?_)
  ·have h := bT h4 h
   refine LWP.seq_k fun N5 hN5 => ?_
   refine LWP.region (l := [_]) ?_
   refine LWo.assign (e_int (1 : Int)) rfl (hn := ?_)
   refine LWo.nil (hN5 _ ?_)
   obtain rfl := Option.some.inj h
   refine LWP.ret (QG.mk (.inr rfl) (.cons (.tmp (x := (e_int (1 : Int))) rfl) (.nil)) (RetOK.one0 (.pure rfl) (by decide)) rfl rfl)
  ·have h := bF h4 h
   refine LWP.skip (hN2 _ ?_)
   refine LWP.seq_k fun N6 hN6 => ?_
   refine LWP.region (l := [_]) ?_
   refine LWo.assign (e_int (0 : Int)) rfl (hn := ?_)
   refine LWo.nil (hN6 _ ?_)
   obtain rfl := Option.some.inj h
   refine LWP.ret (QG.mk (.inr rfl) (.cons (.tmp (x := (e_int (0 : Int))) rfl) (.nil)) (RetOK.one0 (.pure rfl) (by decide)) rfl rfl)

def m_impl_Compare_j3 (t6 : Int) : Option Int :=
  some t6
def m_impl_Compare_j2 (t0 : Int) (t4 : S_impl_Value) (t5 : S_impl_Value) (t22 : Bool) : Option Int :=
  bif t22 then (some (2 : Int))
  else (bif (t4.Kind != t5.Kind) then (some (-1 : Int))
    else ((m_impl_Value_order t4 t5).bind fun x19 =>
  bif (t0 == (1 : Int)) then (bif (x19 == (0 : Int)) then ((m_impl_truthIf true).bind fun x23 =>
    m_impl_Compare_j3  x23)
  else (bif (t0 == (2 : Int)) then (bif (x19 != (0 : Int)) then ((m_impl_truthIf true).bind fun x26 =>
        m_impl_Compare_j3  x26)
      else (bif (t0 == (3 : Int)) then (bif decide (x19 < (0 : Int)) then ((m_impl_truthIf true).bind fun x29 =>
            m_impl_Compare_j3  x29)
          else (bif (t0 == (4 : Int)) then ((m_impl_truthIf (decide (x19 ≤ (0 : Int)))).bind fun x31 =>
              m_impl_Compare_j3  x31)
            else ((m_impl_truthIf false).bind fun x32 =>
              m_impl_Compare_j3  x32)))
        else (bif (t0 == (4 : Int)) then ((m_impl_truthIf (decide (x19 ≤ (0 : Int)))).bind fun x34 =>
            m_impl_Compare_j3  x34)
          else ((m_impl_truthIf false).bind fun x35 =>
            m_impl_Compare_j3  x35))))
    else (bif (t0 == (3 : Int)) then (bif decide (x19 < (0 : Int)) then ((m_impl_truthIf true).bind fun x38 =>
          m_impl_Compare_j3  x38)
        else (bif (t0 == (4 : Int)) then ((m_impl_truthIf (decide (x19 ≤ (0 : Int)))).bind fun x40 =>
            m_impl_Compare_j3  x40)
          else ((m_impl_truthIf false).bind fun x41 =>
            m_impl_Compare_j3  x41)))
      else (bif (t0 == (4 : Int)) then ((m_impl_truthIf (decide (x19 ≤ (0 : Int)))).bind fun x43 =>
          m_impl_Compare_j3  x43)
        else ((m_impl_truthIf false).bind fun x44 =>
          m_impl_Compare_j3  x44)))))
  else (bif (t0 == (2 : Int)) then (bif (x19 != (0 : Int)) then ((m_impl_truthIf true).bind fun x47 =>
      m_impl_Compare_j3  x47)
    else (bif (t0 == (3 : Int)) then (bif decide (x19 < (0 : Int)) then ((m_impl_truthIf true).bind fun x50 =>
          m_impl_Compare_j3  x50)
        else (bif (t0 == (4 : Int)) then ((m_impl_truthIf (decide (x19 ≤ (0 : Int)))).bind fun x52 =>
            m_impl_Compare_j3  x52)
          else ((m_impl_truthIf false).bind fun x53 =>
            m_impl_Compare_j3  x53)))
      else (bif (t0 == (4 : Int)) then ((m_impl_truthIf (decide (x19 ≤ (0 : Int)))).bind fun x55 =>
          m_impl_Compare_j3  x55)
        else ((m_impl_truthIf false).bind fun x56 =>
          m_impl_Compare_j3  x56))))
  else (bif (t0 == (3 : Int)) then (bif decide (x19 < (0 : Int)) then ((m_impl_truthIf true).bind fun x59 =>
        m_impl_Compare_j3  x59)
      else (bif (t0 == (4 : Int)) then ((m_impl_truthIf (decide (x19 ≤ (0 : Int)))).bind fun x61 =>
          m_impl_Compare_j3  x61)
        else ((m_impl_truthIf false).bind fun x62 =>
          m_impl_Compare_j3  x62)))
    else (bif (t0 == (4 : Int)) then ((m_impl_truthIf (decide (x19 ≤ (0 : Int)))).bind fun x64 =>
        m_impl_Compare_j3  x64)
      else ((m_impl_truthIf false).bind fun x65 =>
        m_impl_Compare_j3  x65))))))
def m_impl_Compare_j1 (t0 : Int) (t4 : S_impl_Value) (t5 : S_impl_Value) (t8 : Bool) : Option Int :=
  bif t8 then (some (-1 : Int))
  else (bif (t4.Kind == (0 : Int)) then (m_impl_Compare_j2  t0 t4 t5 true)
    else (m_impl_Compare_j2  t0 t4 t5 (t5.Kind == (0 : Int))))
def m_impl_Compare (a0 : Int) (a1 : S_impl_Value) (a2 : S_impl_Value) : Option Int :=
  (m_impl_between a0 (1 : Int) (4 : Int)).bind fun x4 =>
  bif (!x4) then (m_impl_Compare_j1  a0 a1 a2 true)
  else ((m_impl_Value_ok a1).bind fun x6 =>
    bif (!x6) then (m_impl_Compare_j1  a0 a1 a2 true)
    else ((m_impl_Value_ok a2).bind fun x8 =>
      m_impl_Compare_j1  a0 a1 a2 (!x8)))
theorem c_impl_Compare (a0 : Int) (a1 : S_impl_Value) (a2 : S_impl_Value) (r : Int) (h : m_impl_Compare a0 a1 a2 = some r) : Ret Try.prog f_impl_Compare [e_int a0, e_impl_Value a1, e_impl_Value a2] (e_int r) := by
  refine Does.goG [] F_impl_Compare rfl e_impl_Compare n_impl_Compare rfl (rvs := [.tmp 6]) rfl rfl ?_
  intro w0 ok0 lent ρ0
  refine LWP.seq_k fun N1 hN1 => ?_
  refine LWP.region (l := [_,_,_]) ?_
  refine LWo.boxF (e_impl_Value a1) rfl rfl rfl (hn := ?_)
  refine LWo.boxF (e_impl_Value a2) rfl rfl rfl (hn := ?_)
  refine LWo.assign (e_int (0 : Int)) rfl (hn := ?_)
  refine LWo.nil (hN1 _ ?_)
  refine LWP.seq_k fun N2 hN2 => ?_
  refine LWP.block ?_
  refine LWP.join (α := Int × S_impl_Value × S_impl_Value × Bool) (fun z : Int × S_impl_Value × S_impl_Value × Bool => [(0, (e_int z.1)), (4, (.fp (e_impl_Value z.2.1).cells)), (5, (.fp (e_impl_Value z.2.2.1).cells)), (8, (e_bool z.2.2.2))]) (fun z : Int × S_impl_Value × S_impl_Value × Bool => []) (fun z : Int × S_impl_Value × S_impl_Value × Bool => m_impl_Compare_j1  z.1 z.2.1 z.2.2.1 z.2.2.2) r (fun _ => by simp [hkeys]) ?_ ?_
  ·rintro ⟨t0, t4, t5, t8⟩ h
   replace h : m_impl_Compare_j1  t0 t4 t5 t8 = some _ := h
   refine LWP.cond_split rfl (fun h9 => ?_) (fun h9 => ?_)
   ·have h := bT h9 h
    refine LWP.seq_k fun N10 hN10 => ?_
    refine LWP.region (l := [_]) ?_
    refine LWo.assign (e_int (-1 : Int)) rfl (hn := ?_)
    refine LWo.nil (hN10 _ ?_)
    obtain rfl := Option.some.inj h
    refine LWP.ret (QG.mk (.inr rfl) (.cons (.tmp (x := (e_int (-1 : Int))) rfl) (.nil)) (RetOK.one0 (.pure rfl) (by decide)) rfl rfl)
   ·have h := bF h9 h
    refine LWP.join (α := Int × S_impl_Value × S_impl_Value × Bool) (fun z : Int × S_impl_Value × S_impl_Value × Bool => [(0, (e_int z.1)), (4, (.fp (e_impl_Value z.2.1).cells)), (5, (.fp (e_impl_Value z.2.2.1).cells)), (22, (e_bool z.2.2.2))]) (fun z : Int × S_impl_Value × S_impl_Value × Bool => []) (fun z : Int × S_impl_Value × S_impl_Value × Bool => m_impl_Compare_j2  z.1 z.2.1 z.2.2.1 z.2.2.2) r (fun _ => by simp [hkeys]) ?_ ?_
    ·rintro ⟨t0, t4, t5, t22⟩ h
     replace h : m_impl_Compare_j2  t0 t4 t5 t22 = some _ := h
     refine LWP.cond_split rfl (fun h13 => ?_) (fun h13 => ?_)
     ·have h := bT h13 h
      refine LWP.seq_k fun N14 hN14 => ?_
      refine LWP.region (l := [_]) ?_
      refine LWo.assign (e_int (2 : Int)) rfl (hn := ?_)
      refine LWo.nil (hN14 _ ?_)
      obtain rfl := Option.some.inj h
      refine LWP.ret (QG.mk (.inr rfl) (.cons (.tmp (x := (e_int (2 : Int))) rfl) (.nil)) (RetOK.one0 (.pure rfl) (by decide)) rfl rfl)
     ·have h := bF h13 h
      refine LWP.seq_k fun N15 hN15 => ?_
      refine LWP.region (l := [_,_,_,_,_,_]) ?_
      refine LWo.fieldAddr _ u_impl_Value rfl s_int rfl rfl (hn := ?_)
      refine LWo.load1 (c := (e_int t4.Kind)) g_int rfl (hn := ?_)
      refine LWo.fieldAddr _ u_impl_Value rfl s_int rfl rfl (hn := ?_)
      refine LWo.load1 (c := (e_int t5.Kind)) g_int rfl (hn := ?_)
      refine LWo.int _ rfl rfl rfl (hn := ?_)
      refine LWo.assign (e_bool (t4.Kind != t5.Kind)) rfl (hn := ?_)
      refine LWo.nil (hN15 _ ?_)
      refine LWP.cond_split rfl (fun h16 => ?_) (fun h16 => ?_)
      ·have h := bT h16 h
       refine LWP.seq_k fun N17 hN17 => ?_
       refine LWP.region (l := [_]) ?_
       refine LWo.assign (e_int (-1 : Int)) rfl (hn := ?_)
       refine LWo.nil (hN17 _ ?_)
       obtain rfl := Option.some.inj h
       refine LWP.ret (QG.mk (.inr rfl) (.cons (.tmp (x := (e_int (-1 : Int))) rfl) (.nil)) (RetOK.one0 (.pure rfl) (by decide)) rfl rfl)
      ·have h := bF h16 h
       refine LWP.skip (hN2 _ ?_)
       refine LWP.seq_k fun N18 hN18 => ?_
       refine LWP.region (l := [_,_,_,_]) ?_
       refine LWo.loadN ((e_impl_Value t4)).cells g_impl_Value s_impl_Value rfl (Nat.le_of_ble_eq_true rfl) rfl (hn := ?_)
       refine LWo.loadN ((e_impl_Value t5)).cells g_impl_Value s_impl_Value rfl (Nat.le_of_ble_eq_true rfl) rfl (hn := ?_)
       refine bk h fun x19 e19 h => ?_
       refine LWo.vcall rfl rfl (c_impl_Value_order _ _ _ e19) (.same (.same (.nil))) (hn := ?_)
       refine LWo.assign (e_int x19) rfl (hn := ?_)
       refine LWo.nil (hN18 _ ?_)
       refine LWP.join (α := Int) (fun z : Int => [(6, (e_int z))]) (fun z : Int => []) (fun z : Int => m_impl_Compare_j3  z) r (fun _ => by simp [hkeys]) ?_ ?_
       ·rintro t6 h
        replace h : m_impl_Compare_j3  t6 = some _ := h
        obtain rfl := Option.some.inj h
        refine LWP.ret (QG.mk (.inr rfl) (.cons (.tmp (x := (e_int t6)) rfl) (.nil)) (RetOK.one0 (.pure rfl) (by decide)) rfl rfl)
       ·intro N20 hN20
        refine LWP.region (l := [_,_,_,_,_,_,_,_,_,_,_,_,_,_,_,_,_,_,_,_,_,_,_,_,_,_,_,_,_,_,_,_]) ?_
        refine LWo.move (e_int t0) rfl (hn := ?_)
        refine LWo.int _ rfl rfl rfl (hn := ?_)
        refine LWo.move (e_bool (t0 == (1 : Int))) rfl (hn := ?_)
        refine LWo.byCases (t := 42) _ rfl (fun h21 => ?_) (fun h21 => ?_)
        ·have h := bT h21 h
         refine LWo.guardY (t := 42) rfl h21 rfl rfl ?_
         refine LWo.move (e_int x19) rfl (hn := ?_)
         refine LWo.guardY (t := 42) rfl h21 rfl rfl ?_
         refine LWo.int _ rfl rfl rfl (hn := ?_)
         refine LWo.pickTM (e_bool (x19 == (0 : Int))) rfl h21 rfl (hn := ?_)
         refine LWo.move (e_bool (x19 == (0 : Int))) rfl (hn := ?_)
         refine LWo.byCases (t := 46) _ rfl (fun h22 => ?_) (fun h22 => ?_)
         ·have h := bT h22 h
          refine LWo.guardNU (t := 46) rfl h22 rfl rfl rfl rfl rfl ?_
          refine LWo.guardNU (t := 46) rfl h22 rfl rfl rfl rfl rfl ?_
          refine LWo.guardNU (t := 46) rfl h22 rfl rfl rfl rfl rfl ?_
          refine LWo.guardU (t := 49) rfl rfl rfl rfl rfl ?_
          refine LWo.guardU (t := 49) rfl rfl rfl rfl rfl ?_
          refine LWo.guardNU (t := 46) rfl h22 rfl rfl rfl rfl rfl ?_
          refine LWo.pickTM (e_bool true) rfl h22 rfl (hn := ?_)
          refine LWo.move (e_bool true) rfl (hn := ?_)
          refine LWo.guardNU (t := 54) rfl rfl rfl rfl rfl rfl rfl ?_
          refine LWo.guardNU (t := 54) rfl rfl rfl rfl rfl rfl rfl ?_
          refine LWo.guardNU (t := 54) rfl rfl rfl rfl rfl rfl rfl ?_
          refine LWo.guardU (t := 57) rfl rfl rfl rfl rfl ?_
          refine LWo.guardU (t := 57) rfl rfl rfl rfl rfl ?_
          refine LWo.guardNU (t := 54) rfl rfl rfl rfl rfl rfl rfl ?_
          refine LWo.pickTM (e_bool true) rfl rfl rfl (hn := ?_)
          refine LWo.move (e_bool true) rfl (hn := ?_)
          refine LWo.guardNU (t := 62) rfl rfl rfl rfl rfl rfl rfl ?_
          refine LWo.guardNU (t := 62) rfl rfl rfl rfl rfl rfl rfl ?_
          refine LWo.guardNU (t := 62) rfl rfl rfl rfl rfl rfl rfl ?_
          refine LWo.guardU (t := 65) rfl rfl rfl rfl rfl ?_
          refine LWo.guardU (t := 65) rfl rfl rfl rfl rfl ?_
          refine LWo.guardNU (t := 62) rfl rfl rfl rfl rfl rfl rfl ?_
          refine LWo.pickTM (e_bool true) rfl rfl rfl (hn := ?_)
          refine bk h fun x23 e23 h => ?_
          refine LWo.vcall rfl rfl (c_impl_truthIf _ _ e23) (.same (.nil)) (hn := ?_)
          refine LWo.assign (e_int x23) rfl (hn := ?_)
          refine LWo.nil (hN20 x23 _ ⟨rfl, trivial⟩ trivial h)
         ·have h := bF h22 h
          refine LWo.guardY (t := 46) rfl h22 rfl rfl ?_
          refine LWo.move (e_int t0) rfl (hn := ?_)
          refine LWo.guardY (t := 46) rfl h22 rfl rfl ?_
          refine LWo.int _ rfl rfl rfl (hn := ?_)
          refine LWo.guardY (t := 46) rfl h22 rfl rfl ?_
          refine LWo.move (e_bool (t0 == (2 : Int))) rfl (hn := ?_)
          refine LWo.byCases (t := 49) _ rfl (fun h24 => ?_) (fun h24 => ?_)
          ·have h := bT h24 h
           refine LWo.guardY (t := 49) rfl h24 rfl rfl ?_
           refine LWo.move (e_int x19) rfl (hn := ?_)
           refine LWo.guardY (t := 49) rfl h24 rfl rfl ?_
           refine LWo.int _ rfl rfl rfl (hn := ?_)
           refine LWo.guardY (t := 46) rfl h22 rfl rfl ?_
           refine LWo.pickTM (e_bool (x19 != (0 : Int))) rfl h24 rfl (hn := ?_)
           refine LWo.pickFM (e_bool (x19 != (0 : Int))) rfl h22 rfl (hn := ?_)
           refine LWo.move (e_bool (x19 != (0 : Int))) rfl (hn := ?_)
           refine LWo.byCases (t := 54) _ rfl (fun h25 => ?_) (fun h25 => ?_)
           ·have h := bT h25 h
            refine LWo.guardNU (t := 54) rfl h25 rfl rfl rfl rfl rfl ?_
            refine LWo.guardNU (t := 54) rfl h25 rfl rfl rfl rfl rfl ?_
            refine LWo.guardNU (t := 54) rfl h25 rfl rfl rfl rfl rfl ?_
            refine LWo.guardU (t := 57) rfl rfl rfl rfl rfl ?_
            refine LWo.guardU (t := 57) rfl rfl rfl rfl rfl ?_
            refine LWo.guardNU (t := 54) rfl h25 rfl rfl rfl rfl rfl ?_
            refine LWo.pickTM (e_bool true) rfl h25 rfl (hn := ?_)
            refine LWo.move (e_bool true) rfl (hn := ?_)
            refine LWo.guardNU (t := 62) rfl rfl rfl rfl rfl rfl rfl ?_
            refine LWo.guardNU (t := 62) rfl rfl rfl rfl rfl rfl rfl ?_
            refine LWo.guardNU (t := 62) rfl rfl rfl rfl rfl rfl rfl ?_
            refine LWo.guardU (t := 65) rfl rfl rfl rfl rfl ?_
            refine LWo.guardU (t := 65) rfl rfl rfl rfl rfl ?_
            refine LWo.guardNU (t := 62) rfl rfl rfl rfl rfl rfl rfl ?_
            refine LWo.pickTM (e_bool true) rfl rfl rfl (hn := ?_)
            refine bk h fun x26 e26 h => ?_
            refine LWo.vcall rfl rfl (c_impl_truthIf _ _ e26) (.same (.nil)) (hn := ?_)
            refine LWo.assign (e_int x26) rfl (hn := ?_)
            refine LWo.nil (hN20 x26 _ ⟨rfl, trivial⟩ trivial h)
           ·have h := bF h25 h
            refine LWo.guardY (t := 54) rfl h25 rfl rfl ?_
            refine LWo.move (e_int t0) rfl (hn := ?_)
            refine LWo.guardY (t := 54) rfl h25 rfl rfl ?_
            refine LWo.int _ rfl rfl rfl (hn := ?_)
            refine LWo.guardY (t := 54) rfl h25 rfl rfl ?_
            refine LWo.move (e_bool (t0 == (3 : Int))) rfl (hn := ?_)
            refine LWo.byCases (t := 57) _ rfl (fun h27 => ?_) (fun h27 => ?_)
            ·have h := bT h27 h
             refine LWo.guardY (t := 57) rfl h27 rfl rfl ?_
             refine LWo.move (e_int x19) rfl (hn := ?_)
             refine LWo.guardY (t := 57) rfl h27 rfl rfl ?_
             refine LWo.int _ rfl rfl rfl (hn := ?_)
             refine LWo.guardY (t := 54) rfl h25 rfl rfl ?_
             refine LWo.pickTM (e_bool (decide (x19 < (0 : Int)))) rfl h27 rfl (hn := ?_)
             refine LWo.pickFM (e_bool (decide (x19 < (0 : Int)))) rfl h25 rfl (hn := ?_)
             refine LWo.move (e_bool (decide (x19 < (0 : Int)))) rfl (hn := ?_)
             refine LWo.byCases (t := 62) _ rfl (fun h28 => ?_) (fun h28 => ?_)
             ·have h := bT h28 h
              refine LWo.guardNU (t := 62) rfl h28 rfl rfl rfl rfl rfl ?_
              refine LWo.guardNU (t := 62) rfl h28 rfl rfl rfl rfl rfl ?_
              refine LWo.guardNU (t := 62) rfl h28 rfl rfl rfl rfl rfl ?_
              refine LWo.guardU (t := 65) rfl rfl rfl rfl rfl ?_
              refine LWo.guardU (t := 65) rfl rfl rfl rfl rfl ?_
              refine LWo.guardNU (t := 62) rfl h28 rfl rfl rfl rfl rfl ?_
              refine LWo.pickTM (e_bool true) rfl h28 rfl (hn := ?_)
              refine bk h fun x29 e29 h => ?_
              refine LWo.vcall rfl rfl (c_impl_truthIf _ _ e29) (.same (.nil)) (hn := ?_)
              refine LWo.assign (e_int x29) rfl (hn := ?_)
              refine LWo.nil (hN20 x29 _ ⟨rfl, trivial⟩ trivial h)
             ·have h := bF h28 h
              refine LWo.guardY (t := 62) rfl h28 rfl rfl ?_
              refine LWo.move (e_int t0) rfl (hn := ?_)
              refine LWo.guardY (t := 62) rfl h28 rfl rfl ?_
              refine LWo.int _ rfl rfl rfl (hn := ?_)
              refine LWo.guardY (t := 62) rfl h28 rfl rfl ?_
              refine LWo.move (e_bool (t0 == (4 : Int))) rfl (hn := ?_)
              refine LWo.byCases (t := 65) _ rfl (fun h30 => ?_) (fun h30 => ?_)
              ·have h := bT h30 h
               refine LWo.guardY (t := 65) rfl h30 rfl rfl ?_
               refine LWo.move (e_int x19) rfl (hn := ?_)
               refine LWo.guardY (t := 65) rfl h30 rfl rfl ?_
               refine LWo.int _ rfl rfl rfl (hn := ?_)
               refine LWo.guardY (t := 62) rfl h28 rfl rfl ?_
               refine LWo.pickTM (e_bool (decide (x19 ≤ (0 : Int)))) rfl h30 rfl (hn := ?_)
               refine LWo.pickFM (e_bool (decide (x19 ≤ (0 : Int)))) rfl h28 rfl (hn := ?_)
               refine bk h fun x31 e31 h => ?_
               refine LWo.vcall rfl rfl (c_impl_truthIf _ _ e31) (.same (.nil)) (hn := ?_)
               refine LWo.assign (e_int x31) rfl (hn := ?_)
               refine LWo.nil (hN20 x31 _ ⟨rfl, trivial⟩ trivial h)
              ·have h := bF h30 h
               refine LWo.guardNU (t := 65) rfl h30 rfl rfl rfl rfl rfl ?_
               refine LWo.guardNU (t := 65) rfl h30 rfl rfl rfl rfl rfl ?_
               refine LWo.guardY (t := 62) rfl h28 rfl rfl ?_
               refine LWo.pickFM (e_bool false) rfl h30 rfl (hn := ?_)
               refine LWo.pickFM (e_bool false) rfl h28 rfl (hn := ?_)
               refine bk h fun x32 e32 h => ?_
               refine LWo.vcall rfl rfl (c_impl_truthIf _ _ e32) (.same (.nil)) (hn := ?_)
               refine LWo.assign (e_int x32) rfl (hn := ?_)
               refine LWo.nil (hN20 x32 _ ⟨rfl, trivial⟩ trivial h)
            ·have h := bF h27 h
             refine LWo.guardNU (t := 57) rfl h27 rfl rfl rfl rfl rfl ?_
             refine LWo.guardNU (t := 57) rfl h27 rfl rfl rfl rfl rfl ?_
             refine LWo.guardY (t := 54) rfl h25 rfl rfl ?_
             refine LWo.pickFM (e_bool false) rfl h27 rfl (hn := ?_)
             refine LWo.pickFM (e_bool false) rfl h25 rfl (hn := ?_)
             refine LWo.move (e_bool false) rfl (hn := ?_)
             refine LWo.guardY (t := 62) rfl rfl rfl rfl ?_
             refine LWo.move (e_int t0) rfl (hn := ?_)
             refine LWo.guardY (t := 62) rfl rfl rfl rfl ?_
             refine LWo.int _ rfl rfl rfl (hn := ?_)
             refine LWo.guardY (t := 62) rfl rfl rfl rfl ?_
             refine LWo.move (e_bool (t0 == (4 : Int))) rfl (hn := ?_)
             refine LWo.byCases (t := 65) _ rfl (fun h33 => ?_) (fun h33 => ?_)
             ·have h := bT h33 h
              refine LWo.guardY (t := 65) rfl h33 rfl rfl ?_
              refine LWo.move (e_int x19) rfl (hn := ?_)
              refine LWo.guardY (t := 65) rfl h33 rfl rfl ?_
              refine LWo.int _ rfl rfl rfl (hn := ?_)
              refine LWo.guardY (t := 62) rfl rfl rfl rfl ?_
              refine LWo.pickTM (e_bool (decide (x19 ≤ (0 : Int)))) rfl h33 rfl (hn := ?_)
              refine LWo.pickFM (e_bool (decide (x19 ≤ (0 : Int)))) rfl rfl rfl (hn := ?_)
              refine bk h fun x34 e34 h => ?_
              refine LWo.vcall rfl rfl (c_impl_truthIf _ _ e34) (.same (.nil)) (hn := ?_)
              refine LWo.assign (e_int x34) rfl (hn := ?_)
              refine LWo.nil (hN20 x34 _ ⟨rfl, trivial⟩ trivial h)
             ·have h := bF h33 h
              refine LWo.guardNU (t := 65) rfl h33 rfl rfl rfl rfl rfl ?_
              refine LWo.guardNU (t := 65) rfl h33 rfl rfl rfl rfl rfl ?_
              refine LWo.guardY (t := 62) rfl rfl rfl rfl ?_
              refine LWo.pickFM (e_bool false) rfl h33 rfl (hn := ?_)
              refine LWo.pickFM (e_bool false) rfl rfl rfl (hn := ?_)
              refine bk h fun x35 e35 h => ?_
              refine LWo.vcall rfl rfl (c_impl_truthIf _ _ e35) (.same (.nil)) (hn := ?_)
              refine LWo.assign (e_int x35) rfl (hn := ?_)
              refine LWo.nil (hN20 x35 _ ⟨rfl, trivial⟩ trivial h)
          ·have h := bF h24 h
           refine LWo.guardNU (t := 49) rfl h24 rfl rfl rfl rfl rfl ?_
           refine LWo.guardNU (t := 49) rfl h24 rfl rfl rfl rfl rfl ?_
           refine LWo.guardY (t := 46) rfl h22 rfl rfl ?_
           refine LWo.pickFM (e_bool false) rfl h24 rfl (hn := ?_)
           refine LWo.pickFM (e_bool false) rfl h22 rfl (hn := ?_)
           refine LWo.move (e_bool false) rfl (hn := ?_)
           refine LWo.guardY (t := 54) rfl rfl rfl rfl ?_
           refine LWo.move (e_int t0) rfl (hn := ?_)
           refine LWo.guardY (t := 54) rfl rfl rfl rfl ?_
           refine LWo.int _ rfl rfl rfl (hn := ?_)
           refine LWo.guardY (t := 54) rfl rfl rfl rfl ?_
           refine LWo.move (e_bool (t0 == (3 : Int))) rfl (hn := ?_)
           refine LWo.byCases (t := 57) _ rfl (fun h36 => ?_) (fun h36 => ?_)
           ·have h := bT h36 h
            refine LWo.guardY (t := 57) rfl h36 rfl rfl ?_
            refine LWo.move (e_int x19) rfl (hn := ?_)
            refine LWo.guardY (t := 57) rfl h36 rfl rfl ?_
            refine LWo.int _ rfl rfl rfl (hn := ?_)
            refine LWo.guardY (t := 54) rfl rfl rfl rfl ?_
            refine LWo.pickTM (e_bool (decide (x19 < (0 : Int)))) rfl h36 rfl (hn := ?_)
            refine LWo.pickFM (e_bool (decide (x19 < (0 : Int)))) rfl rfl rfl (hn := ?_)
            refine LWo.move (e_bool (decide (x19 < (0 : Int)))) rfl (hn := ?_)
            refine LWo.byCases (t := 62) _ rfl (fun h37 => ?_) (fun h37 => ?_)
            ·have h := bT h37 h
             refine LWo.guardNU (t := 62) rfl h37 rfl rfl rfl rfl rfl ?_
             refine LWo.guardNU (t := 62) rfl h37 rfl rfl rfl rfl rfl ?_
             refine LWo.guardNU (t := 62) rfl h37 rfl rfl rfl rfl rfl ?_
             refine LWo.guardU (t := 65) rfl rfl rfl rfl rfl ?_
             refine LWo.guardU (t := 65) rfl rfl rfl rfl rfl ?_
             refine LWo.guardNU (t := 62) rfl h37 rfl rfl rfl rfl rfl ?_
             refine LWo.pickTM (e_bool true) rfl h37 rfl (hn := ?_)
             refine bk h fun x38 e38 h => ?_
             refine LWo.vcall rfl rfl (c_impl_truthIf _ _ e38) (.same (.nil)) (hn := ?_)
             refine LWo.assign (e_int x38) rfl (hn := ?_)
             refine LWo.nil (hN20 x38 _ ⟨rfl, trivial⟩ trivial h)
            ·have h := bF h37 h
             refine LWo.guardY (t := 62) rfl h37 rfl rfl ?_
             refine LWo.move (e_int t0) rfl (hn := ?_)
             refine LWo.guardY (t := 62) rfl h37 rfl rfl ?_
             refine LWo.int _ rfl rfl rfl (hn := ?_)
             refine LWo.guardY (t := 62) rfl h37 rfl rfl ?_
             refine LWo.move (e_bool (t0 == (4 : Int))) rfl (hn := ?_)
             refine LWo.byCases (t := 65) _ rfl (fun h39 => ?_) (fun h39 => ?_)
             ·have h := bT h39 h
              refine LWo.guardY (t := 65) rfl h39 rfl rfl ?_
              refine LWo.move (e_int x19) rfl (hn := ?_)
              refine LWo.guardY (t := 65) rfl h39 rfl rfl ?_
              refine LWo.int _ rfl rfl rfl (hn := ?_)
              refine LWo.guardY (t := 62) rfl h37 rfl rfl ?_
              refine LWo.pickTM (e_bool (decide (x19 ≤ (0 : Int)))) rfl h39 rfl (hn := ?_)
              refine LWo.pickFM (e_bool (decide (x19 ≤ (0 : Int)))) rfl h37 rfl (hn := ?_)
              refine bk h fun x40 e40 h => ?_
              refine LWo.vcall rfl rfl (c_impl_truthIf _ _ e40) (.same (.nil)) (hn := ?_)
              refine LWo.assign (e_int x40) rfl (hn := ?_)
              refine LWo.nil (hN20 x40 _ ⟨rfl, trivial⟩ trivial h)
             ·have h := bF h39 h
              refine LWo.guardNU (t := 65) rfl h39 rfl rfl rfl rfl rfl ?_
              refine LWo.guardNU (t := 65) rfl h39 rfl rfl rfl rfl rfl ?_
              refine LWo.guardY (t := 62) rfl h37 rfl rfl ?_
              refine LWo.pickFM (e_bool false) rfl h39 rfl (hn := ?_)
              refine LWo.pickFM (e_bool false) rfl h37 rfl (hn := ?_)
              refine bk h fun x41 e41 h => ?_
              refine LWo.vcall rfl rfl (c_impl_truthIf _ _ e41) (.same (.nil)) (hn := ?_)
              refine LWo.assign (e_int x41) rfl (hn := ?_)
              refine LWo.nil (hN20 x41 _ ⟨rfl, trivial⟩ trivial h)
           ·have h := bF h36 h
            refine LWo.guardNU (t := 57) rfl h36 rfl rfl rfl rfl rfl ?_
            refine LWo.guardNU (t := 57) rfl h36 rfl rfl rfl rfl rfl ?_
            refine LWo.guardY (t := 54) rfl rfl rfl rfl ?_
            refine LWo.pickFM (e_bool false) rfl h36 rfl (hn := ?_)
            refine LWo.pickFM (e_bool false) rfl rfl rfl (hn := ?_)
            refine LWo.move (e_bool false) rfl (hn := ?_)
            refine LWo.guardY (t := 62) rfl rfl rfl rfl ?_
            refine LWo.move (e_int t0) rfl (hn := ?_)
            refine LWo.guardY (t := 62) rfl rfl rfl rfl ?_
            refine LWo.int _ rfl rfl rfl (hn := ?_)
            refine LWo.guardY (t := 62) rfl rfl rfl rfl ?_
            refine LWo.move (e_bool (t0 == (4 : Int))) rfl (hn := ?_)
            refine LWo.byCases (t := 65) _ rfl (fun h42 => ?_) (fun h42 => ?_)
            ·have h := bT h42 h
             refine LWo.guardY (t := 65) rfl h42 rfl rfl ?_
             refine LWo.move (e_int x19) rfl (hn := ?_)
             refine LWo.guardY (t := 65) rfl h42 rfl rfl ?_
             refine LWo.int _ rfl rfl rfl (hn := ?_)
             refine LWo.guardY (t := 62) rfl rfl rfl rfl ?_
             refine LWo.pickTM (e_bool (decide (x19 ≤ (0 : Int)))) rfl h42 rfl (hn := ?_)
             refine LWo.pickFM (e_bool (decide (x19 ≤ (0 : Int)))) rfl rfl rfl (hn := ?_)
             refine bk h fun x43 e43 h => ?_
             refine LWo.vcall rfl rfl (c_impl_truthIf _ _ e43) (.same (.nil)) (hn := ?_)
             refine LWo.assign (e_int x43) rfl (hn := ?_)
             refine LWo.nil (hN20 x43 _ ⟨rfl, trivial⟩ trivial h)
            ·have h := bF h42 h
             refine LWo.guardNU (t := 65) rfl h42 rfl rfl rfl rfl rfl ?_
             refine LWo.guardNU (t := 65) rfl h42 rfl rfl rfl rfl rfl ?_
             refine LWo.guardY (t := 62) rfl rfl rfl rfl ?_
             refine LWo.pickFM (e_bool false) rfl h42 rfl (hn := ?_)
             refine LWo.pickFM (e_bool false) rfl rfl rfl (hn := ?_)
             refine bk h fun x44 e44 h => ?_
             refine LWo.vcall rfl rfl (c_impl_truthIf _ _ e44) (.same (.nil)) (hn := ?_)
             refine LWo.assign (e_int x44) rfl (hn := ?_)
             refine LWo.nil (hN20 x44 _ ⟨rfl, trivial⟩ trivial h)
        ·have h := bF h21 h
         refine LWo.guardNU (t := 42) rfl h21 rfl rfl rfl rfl rfl ?_
         refine LWo.guardNU (t := 42) rfl h21 rfl rfl rfl rfl rfl ?_
         refine LWo.pickFM (e_bool false) rfl h21 rfl (hn := ?_)
         refine LWo.move (e_bool false) rfl (hn := ?_)
         refine LWo.guardY (t := 46) rfl rfl rfl rfl ?_
         refine LWo.move (e_int t0) rfl (hn := ?_)
         refine LWo.guardY (t := 46) rfl rfl rfl rfl ?_
         refine LWo.int _ rfl rfl rfl (hn := ?_)
         refine LWo.guardY (t := 46) rfl rfl rfl rfl ?_
         refine LWo.move (e_bool (t0 == (2 : Int))) rfl (hn := ?_)
         refine LWo.byCases (t := 49) _ rfl (fun h45 => ?_) (fun h45 => ?_)
         ·have h := bT h45 h
          refine LWo.guardY (t := 49) rfl h45 rfl rfl ?_
          refine LWo.move (e_int x19) rfl (hn := ?_)
          refine LWo.guardY (t := 49) rfl h45 rfl rfl ?_
          refine LWo.int _ rfl rfl rfl (hn := ?_)
          refine LWo.guardY (t := 46) rfl rfl rfl rfl ?_
          refine LWo.pickTM (e_bool (x19 != (0 : Int))) rfl h45 rfl (hn := ?_)
          refine LWo.pickFM (e_bool (x19 != (0 : Int))) rfl rfl rfl (hn := ?_)
          refine LWo.move (e_bool (x19 != (0 : Int))) rfl (hn := ?_)
          refine LWo.byCases (t := 54) _ rfl (fun h46 => ?_) (fun h46 => ?_)
          ·have h := bT h46 h
           refine LWo.guardNU (t := 54) rfl h46 rfl rfl rfl rfl rfl ?_
           refine LWo.guardNU (t := 54) rfl h46 rfl rfl rfl rfl rfl ?_
           refine LWo.guardNU (t := 54) rfl h46 rfl rfl rfl rfl rfl ?_
           refine LWo.guardU (t := 57) rfl rfl rfl rfl rfl ?_
           refine LWo.guardU (t := 57) rfl rfl rfl rfl rfl ?_
           refine LWo.guardNU (t := 54) rfl h46 rfl rfl rfl rfl rfl ?_
           refine LWo.pickTM (e_bool true) rfl h46 rfl (hn := ?_)
           refine LWo.move (e_bool true) rfl (hn := ?_)
           refine LWo.guardNU (t := 62) rfl rfl rfl rfl rfl rfl rfl ?_
           refine LWo.guardNU (t := 62) rfl rfl rfl rfl rfl rfl rfl ?_
           refine LWo.guardNU (t := 62) rfl rfl rfl rfl rfl rfl rfl ?_
           refine LWo.guardU (t := 65) rfl rfl rfl rfl rfl ?_
           refine LWo.guardU (t := 65) rfl rfl rfl rfl rfl ?_
           refine LWo.guardNU (t := 62) rfl rfl rfl rfl rfl rfl rfl ?_
           refine LWo.pickTM (e_bool true) rfl rfl rfl (hn := ?_)
           refine bk h fun x47 e47 h => ?_
           refine LWo.vcall rfl rfl (c_impl_truthIf _ _ e47) (.same (.nil)) (hn := ?_)
           refine LWo.assign (e_int x47) rfl (hn := ?_)
           refine LWo.nil (hN20 x47 _ ⟨rfl, trivial⟩ trivial h)
          ·have h := bF h46 h
           refine LWo.guardY (t := 54) rfl h46 rfl rfl ?_
           refine LWo.move (e_int t0) rfl (hn := ?_)
           refine LWo.guardY (t := 54) rfl h46 rfl rfl ?_
           refine LWo.int _ rfl rfl rfl (hn := ?_)
           refine LWo.guardY (t := 54) rfl h46 rfl rfl ?_
           refine LWo.move (e_bool (t0 == (3 : Int))) rfl (hn := ?_)
           refine LWo.byCases (t := 57) _ rfl (fun h48 => ?_) (fun h48 => ?_)
           ·have h := bT h48 h
            refine LWo.guardY (t := 57) rfl h48 rfl rfl ?_
            refine LWo.move (e_int x19) rfl (hn := ?_)
            refine LWo.guardY (t := 57) rfl h48 rfl rfl ?_
            refine LWo.int _ rfl rfl rfl (hn := ?_)
            refine LWo.guardY (t := 54) rfl h46 rfl rfl ?_
            refine LWo.pickTM (e_bool (decide (x19 < (0 : Int)))) rfl h48 rfl (hn := ?_)
            refine LWo.pickFM (e_bool (decide (x19 < (0 : Int)))) rfl h46 rfl (hn := ?_)
            refine LWo.move (e_bool (decide (x19 < (0 : Int)))) rfl (hn := ?_)
            refine LWo.byCases (t := 62) _ rfl (fun h49 => ?_) (fun h49 => ?_)
            ·have h := bT h49 h
             refine LWo.guardNU (t := 62) rfl h49 rfl rfl rfl rfl rfl ?_
             refine LWo.guardNU (t := 62) rfl h49 rfl rfl rfl rfl rfl ?_
             refine LWo.guardNU (t := 62) rfl h49 rfl rfl rfl rfl rfl ?_
             refine LWo.guardU (t := 65) rfl rfl rfl rfl rfl ?_
             refine LWo.guardU (t := 65) rfl rfl rfl rfl rfl ?_
             refine LWo.guardNU (t := 62) rfl h49 rfl rfl rfl rfl rfl ?_
             refine LWo.pickTM (e_bool true) rfl h49 rfl (hn := ?_)
             refine bk h fun x50 e50 h => ?_
             refine LWo.vcall rfl rfl (c_impl_truthIf _ _ e50) (.same (.nil)) (hn := ?_)
             refine LWo.assign (e_int x50) rfl (hn := ?_)
             refine LWo.nil (hN20 x50 _ ⟨rfl, trivial⟩ trivial h)
            ·have h := bF h49 h
             refine LWo.guardY (t := 62) rfl h49 rfl rfl ?_
             refine LWo.move (e_int t0) rfl (hn := ?_)
             refine LWo.guardY (t := 62) rfl h49 rfl rfl ?_
             refine LWo.int _ rfl rfl rfl (hn := ?_)
             refine LWo.guardY (t := 62) rfl h49 rfl rfl ?_
             refine LWo.move (e_bool (t0 == (4 : Int))) rfl (hn := ?_)
             refine LWo.byCases (t := 65) _ rfl (fun h51 => ?_) (fun h51 => ?_)
             ·have h := bT h51 h
              refine LWo.guardY (t := 65) rfl h51 rfl rfl ?_
              refine LWo.move (e_int x19) rfl (hn := ?_)
              refine LWo.guardY (t := 65) rfl h51 rfl rfl ?_
              refine LWo.int _ rfl rfl rfl (hn := ?_)
              refine LWo.guardY (t := 62) rfl h49 rfl rfl ?_
              refine LWo.pickTM (e_bool (decide (x19 ≤ (0 : Int)))) rfl h51 rfl (hn := ?_)
              refine LWo.pickFM (e_bool (decide (x19 ≤ (0 : Int)))) rfl h49 rfl (hn := ?_)
              refine bk h fun x52 e52 h => ?_
              refine LWo.vcall rfl rfl (c_impl_truthIf _ _ e52) (.same (.nil)) (hn := ?_)
              refine LWo.assign (e_int x52) rfl (hn := ?_)
              refine LWo.nil (hN20 x52 _ ⟨rfl, trivial⟩ trivial h)
             ·have h := bF h51 h
              refine LWo.guardNU (t := 65) rfl h51 rfl rfl rfl rfl rfl ?_
              refine LWo.guardNU (t := 65) rfl h51 rfl rfl rfl rfl rfl ?_
              refine LWo.guardY (t := 62) rfl h49 rfl rfl ?_
              refine LWo.pickFM (e_bool false) rfl h51 rfl (hn := ?_)
              refine LWo.pickFM (e_bool false) rfl h49 rfl (hn := ?_)
              refine bk h fun x53 e53 h => ?_
              refine LWo.vcall rfl rfl (c_impl_truthIf _ _ e53) (.same (.nil)) (hn := ?_)
              refine LWo.assign (e_int x53) rfl (hn := ?_)
              refine LWo.nil (hN20 x53 _ ⟨rfl, trivial⟩ trivial h)
           ·have h := bF h48 h
            refine LWo.guardNU (t := 57) rfl h48 rfl rfl rfl rfl rfl ?_
            refine LWo.guardNU (t := 57) rfl h48 rfl rfl rfl rfl rfl ?_
            refine LWo.guardY (t := 54) rfl h46 rfl rfl ?_
            refine LWo.pickFM (e_bool false) rfl h48 rfl (hn := ?_)
            refine LWo.pickFM (e_bool false) rfl h46 rfl (hn := ?_)
            refine LWo.move (e_bool false) rfl (hn := ?_)
            refine LWo.guardY (t := 62) rfl rfl rfl rfl ?_
            refine LWo.move (e_int t0) rfl (hn := ?_)
            refine LWo.guardY (t := 62) rfl rfl rfl rfl ?_
            refine LWo.int _ rfl rfl rfl (hn := ?_)
            refine LWo.guardY (t := 62) rfl rfl rfl rfl ?_
            refine LWo.move (e_bool (t0 == (4 : Int))) rfl (hn := ?_)
            refine LWo.byCases (t := 65) _ rfl (fun h54 => ?_) (fun h54 => ?_)
            ·have h := bT h54 h
             refine LWo.guardY (t := 65) rfl h54 rfl rfl ?_
             refine LWo.move (e_int x19) rfl (hn := ?_)
             refine LWo.guardY (t := 65) rfl h54 rfl rfl ?_
             refine LWo.int _ rfl rfl rfl (hn := ?_)
             refine LWo.guardY (t := 62) rfl rfl rfl rfl ?_
             refine LWo.pickTM (e_bool (decide (x19 ≤ (0 : Int)))) rfl h54 rfl (hn := ?_)
             refine LWo.pickFM (e_bool (decide (x19 ≤ (0 : Int)))) rfl rfl rfl (hn := ?_)
             refine bk h fun x55 e55 h => ?_
             refine LWo.vcall rfl rfl (c_impl_truthIf _ _ e55) (.same (.nil)) (hn := ?_)
             refine LWo.assign (e_int x55) rfl (hn := ?_)
             refine LWo.nil (hN20 x55 _ ⟨rfl, trivial⟩ trivial h)
            ·have h := bF h54 h
             refine LWo.guardNU (t := 65) rfl h54 rfl rfl rfl rfl rfl ?_
             refine LWo.guardNU (t := 65) rfl h54 rfl rfl rfl rfl rfl ?_
             refine LWo.guardY (t := 62) rfl rfl rfl rfl ?_
             refine LWo.pickFM (e_bool false) rfl h54 rfl (hn := ?_)
             refine LWo.pickFM (e_bool false) rfl rfl rfl (hn := ?_)
             refine bk h fun x56 e56 h => ?_
             refine LWo.vcall rfl rfl (c_impl_truthIf _ _ e56) (.same (.nil)) (hn := ?_)
             refine LWo.assign (e_int x56) rfl (hn := ?_)
             refine LWo.nil (hN20 x56 _ ⟨rfl, trivial⟩ trivial h)
         ·have h := bF h45 h
          refine LWo.guardNU (t := 49) rfl h45 rfl rfl rfl rfl rfl ?_
          refine LWo.guardNU (t := 49) rfl h45 rfl rfl rfl rfl rfl ?_
          refine LWo.guardY (t := 46) rfl rfl rfl rfl ?_
          refine LWo.pickFM (e_bool false) rfl h45 rfl (hn := ?_)
          refine LWo.pickFM (e_bool false) rfl rfl rfl (hn := ?_)
          refine LWo.move (e_bool false) rfl (hn := ?_)
          refine LWo.guardY (t := 54) rfl rfl rfl rfl ?_
          refine LWo.move (e_int t0) rfl (hn := ?_)
          refine LWo.guardY (t := 54) rfl rfl rfl rfl ?_
          refine LWo.int _ rfl rfl rfl (hn := ?_)
          refine LWo.guardY (t := 54) rfl rfl rfl rfl ?_
          refine LWo.move (e_bool (t0 == (3 : Int))) rfl (hn := ?_)
          refine LWo.byCases (t := 57) _ rfl (fun h57 => ?_) (fun h57 => ?_)
          ·have h := bT h57 h
           refine LWo.guardY (t := 57) rfl h57 rfl rfl ?_
           refine LWo.move (e_int x19) rfl (hn := ?_)
           refine LWo.guardY (t := 57) rfl h57 rfl rfl ?_
           refine LWo.int _ rfl rfl rfl (hn := ?_)
           refine LWo.guardY (t := 54) rfl rfl rfl rfl ?_
           refine LWo.pickTM (e_bool (decide (x19 < (0 : Int)))) rfl h57 rfl (hn := ?_)
           refine LWo.pickFM (e_bool (decide (x19 < (0 : Int)))) rfl rfl rfl (hn := ?_)
           refine LWo.move (e_bool (decide (x19 < (0 : Int)))) rfl (hn := ?_)
           refine LWo.byCases (t := 62) _ rfl (fun h58 => ?_) (fun h58 => ?_)
           ·have h := bT h58 h
            refine LWo.guardNU (t := 62) rfl h58 rfl rfl rfl rfl rfl ?_
            refine LWo.guardNU (t := 62) rfl h58 rfl rfl rfl rfl rfl ?_
            refine LWo.guardNU (t := 62) rfl h58 rfl rfl rfl rfl rfl ?_
            refine LWo.guardU (t := 65) rfl rfl rfl rfl rfl ?_
            refine LWo.guardU (t := 65) rfl rfl rfl rfl rfl ?_
            refine LWo.guardNU (t := 62) rfl h58 rfl rfl rfl rfl rfl ?_
            refine LWo.pickTM (e_bool true) rfl h58 rfl (hn := ?_)
            refine bk h fun x59 e59 h => ?_
            refine LWo.vcall rfl rfl (c_impl_truthIf _ _ e59) (.same (.nil)) (hn := ?_)
            refine LWo.assign (e_int x59) rfl (hn := ?_)
            refine LWo.nil (hN20 x59 _ ⟨rfl, trivial⟩ trivial h)
           ·have h := bF h58 h
            refine LWo.guardY (t := 62) rfl h58 rfl rfl ?_
            refine LWo.move (e_int t0) rfl (hn := ?_)
            refine LWo.guardY (t := 62) rfl h58 rfl rfl ?_
            refine LWo.int _ rfl rfl rfl (hn := ?_)
            refine LWo.guardY (t := 62) rfl h58 rfl rfl ?_
            refine LWo.move (e_bool (t0 == (4 : Int))) rfl (hn := ?_)
            refine LWo.byCases (t := 65) _ rfl (fun h60 => ?_) (fun h60 => ?_)
            ·have h := bT h60 h
             refine LWo.guardY (t := 65) rfl h60 rfl rfl ?_
             refine LWo.move (e_int x19) rfl (hn := ?_)
             refine LWo.guardY (t := 65) rfl h60 rfl rfl ?_
             refine LWo.int _ rfl rfl rfl (hn := ?_)
             refine LWo.guardY (t := 62) rfl h58 rfl rfl ?_
             refine LWo.pickTM (e_bool (decide (x19 ≤ (0 : Int)))) rfl h60 rfl (hn := ?_)
             refine LWo.pickFM (e_bool (decide (x19 ≤ (0 : Int)))) rfl h58 rfl (hn := ?_)
             refine bk h fun x61 e61 h => ?_
             refine LWo.vcall rfl rfl (c_impl_truthIf _ _ e61) (.same (.nil)) (hn := ?_)
             refine LWo.assign (e_int x61) rfl (hn := ?_)
             refine LWo.nil (hN20 x61 _ ⟨rfl, trivial⟩ trivial h)
            ·have h := bF h60 h
             refine LWo.guardNU (t := 65) rfl h60 rfl rfl rfl rfl rfl ?_
             refine LWo.guardNU (t := 65) rfl h60 rfl rfl rfl rfl rfl ?_
             refine LWo.guardY (t := 62) rfl h58 rfl rfl ?_
             refine LWo.pickFM (e_bool false) rfl h60 rfl (hn := ?_)
             refine LWo.pickFM (e_bool false) rfl h58 rfl (hn := ?_)
             refine bk h fun x62 e62 h => ?_
             refine LWo.vcall rfl rfl (c_impl_truthIf _ _ e62) (.same (.nil)) (hn := ?_)
             refine LWo.assign (e_int x62) rfl (hn := ?_)
             refine LWo.nil (hN20 x62 _ ⟨rfl, trivial⟩ trivial h)
          ·have h := bF h57 h
           refine LWo.guardNU (t := 57) rfl h57 rfl rfl rfl rfl rfl ?_
           refine LWo.guardNU (t := 57) rfl h57 rfl rfl rfl rfl rfl ?_
           refine LWo.guardY (t := 54) rfl rfl rfl rfl ?_
           refine LWo.pickFM (e_bool false) rfl h57 rfl (hn := ?_)
           refine LWo.pickFM (e_bool false) rfl rfl rfl (hn := ?_)
           refine LWo.move (e_bool false) rfl (hn := ?_)
           refine LWo.guardY (t := 62) rfl rfl rfl rfl ?_
           refine LWo.move (e_int t0) rfl (hn := ?_)
           refine LWo.guardY (t := 62) rfl rfl rfl rfl ?_
           refine LWo.int _ rfl rfl rfl (hn := ?_)
           refine LWo.guardY (t := 62) rfl rfl rfl rfl ?_
           refine LWo.move (e_bool (t0 == (4 : Int))) rfl (hn := ?_)
           refine LWo.byCases (t := 65) _ rfl (fun h63 => ?_) (fun h63 => ?_)
           ·have h := bT h63 h
            refine LWo.guardY (t := 65) rfl h63 rfl rfl ?_
            refine LWo.move (e_int x19) rfl (hn := ?_)
            refine LWo.guardY (t := 65) rfl h63 rfl rfl ?_
            refine LWo.int _ rfl rfl rfl (hn := ?_)
            refine LWo.guardY (t := 62) rfl rfl rfl rfl ?_
            refine LWo.pickTM (e_bool (decide (x19 ≤ (0 : Int)))) rfl h63 rfl (hn := ?_)
            refine LWo.pickFM (e_bool (decide (x19 ≤ (0 : Int)))) rfl rfl rfl (hn := ?_)
            refine bk h fun x64 e64 h => ?_
            refine LWo.vcall rfl rfl (c_impl_truthIf _ _ e64) (.same (.nil)) (hn := ?_)
            refine LWo.assign (e_int x64) rfl (hn := ?_)
            refine LWo.nil (hN20 x64 _ ⟨rfl, trivial⟩ trivial h)
           ·have h := bF h63 h
            refine LWo.guardNU (t := 65) rfl h63 rfl rfl rfl rfl rfl ?_
            refine LWo.guardNU (t := 65) rfl h63 rfl rfl rfl rfl rfl ?_
            refine LWo.guardY (t := 62) rfl rfl rfl rfl ?_
            refine LWo.pickFM (e_bool false) rfl h63 rfl (hn := ?_)
            refine LWo.pickFM (e_bool false) rfl rfl rfl (hn := ?_)
            refine bk h fun x65 e65 h => ?_
            refine LWo.vcall rfl rfl (c_impl_truthIf _ _ e65) (.same (.nil)) (hn := ?_)
            refine LWo.assign (e_int x65) rfl (hn := ?_)
            refine LWo.nil (hN20 x65 _ ⟨rfl, trivial⟩ trivial h)
    ·intro N11 hN11
     refine LWP.region (l := [_,_,_,_,_,_,_,_,_]) ?_
     refine LWo.fieldAddr _ u_impl_Value rfl s_int rfl rfl (hn := ?_)
     refine LWo.load1 (c := (e_int t4.Kind)) g_int rfl (hn := ?_)
     refine LWo.int _ rfl rfl rfl (hn := ?_)
     refine LWo.move (e_bool (t4.Kind == (0 : Int))) rfl (hn := ?_)
     refine LWo.byCases (t := 26) _ rfl (fun h12 => ?_) (fun h12 => ?_)
     ·have h := bT h12 h
      refine LWo.guardNU (t := 26) rfl h12 rfl rfl rfl rfl rfl ?_
      refine LWo.guardNU (t := 26) rfl h12 rfl rfl rfl rfl rfl ?_
      refine LWo.guardNU (t := 26) rfl h12 rfl rfl rfl rfl rfl ?_
      refine LWo.pickTM (e_bool true) rfl h12 rfl (hn := ?_)
      refine LWo.assign (e_bool true) rfl (hn := ?_)
      refine LWo.nil (hN11 (t0, t4, t5, true) _ ⟨rfl, rfl, rfl, rfl, trivial⟩ trivial h)
     ·have h := bF h12 h
      refine LWo.guardY (t := 26) rfl h12 rfl rfl ?_
      refine LWo.fieldAddr _ u_impl_Value rfl s_int rfl rfl (hn := ?_)
      refine LWo.guardY (t := 26) rfl h12 rfl rfl ?_
      refine LWo.load1 (c := (e_int t5.Kind)) g_int rfl (hn := ?_)
      refine LWo.guardY (t := 26) rfl h12 rfl rfl ?_
      refine LWo.int _ rfl rfl rfl (hn := ?_)
      refine LWo.pickFM (e_bool (t5.Kind == (0 : Int))) rfl h12 rfl (hn := ?_)
      refine LWo.assign (e_bool (t5.Kind == (0 : Int))) rfl (hn := ?_)
      refine LWo.nil (hN11 (t0, t4, t5, (t5.Kind == (0 : Int))) _ ⟨rfl, rfl, rfl, rfl, trivial⟩ trivial h)
  ·intro N3 hN3
   refine LWP.region (l := [_,_,_,_,_,_,_,_,_,_,_,_,_,_]) ?_
   refine LWo.move (e_int a0) rfl (hn := ?_)
   refine bk h fun x4 e4 h => ?_
   refine LWo.vcall rfl rfl (c_impl_between _ _ _ _ e4) (.same (.same (.same (.nil)))) (hn := ?_)
   refine LWo.not rfl (hn := ?_)
   refine LWo.move (e_bool (!x4)) rfl (hn := ?_)
   refine LWo.byCases (t := 12) _ rfl (fun h5 => ?_) (fun h5 => ?_)
   ·have h := bT h5 h
    refine LWo.guardNU (t := 12) rfl h5 rfl rfl rfl rfl rfl ?_
    refine LWo.guardNU (t := 12) rfl h5 rfl rfl rfl rfl rfl ?_
    refine LWo.guardNU (t := 12) rfl h5 rfl rfl rfl rfl rfl ?_
    refine LWo.pickTM (e_bool true) rfl h5 rfl (hn := ?_)
    refine LWo.move (e_bool true) rfl (hn := ?_)
    refine LWo.guardNU (t := 17) rfl rfl rfl rfl rfl rfl rfl ?_
    refine LWo.guardNU (t := 17) rfl rfl rfl rfl rfl rfl rfl ?_
    refine LWo.guardNU (t := 17) rfl rfl rfl rfl rfl rfl rfl ?_
    refine LWo.pickTM (e_bool true) rfl rfl rfl (hn := ?_)
    refine LWo.assign (e_bool true) rfl (hn := ?_)
    refine LWo.nil (hN3 (a0, a1, a2, true) _ ⟨rfl, rfl, rfl, rfl, trivial⟩ trivial h)
   ·have h := bF h5 h
    refine LWo.guardY (t := 12) rfl h5 rfl rfl ?_
    refine LWo.loadN ((e_impl_Value a1)).cells g_impl_Value s_impl_Value rfl (Nat.le_of_ble_eq_true rfl) rfl (hn := ?_)
    refine bk h fun x6 e6 h => ?_
    refine LWo.guardY (t := 12) rfl h5 rfl rfl ?_
    refine LWo.vcall rfl rfl (c_impl_Value_ok _ _ e6) (.same (.nil)) (hn := ?_)
    refine LWo.guardY (t := 12) rfl h5 rfl rfl ?_
    refine LWo.not rfl (hn := ?_)
    refine LWo.pickFM (e_bool (!x6)) rfl h5 rfl (hn := ?_)
    refine LWo.move (e_bool (!x6)) rfl (hn := ?_)
    refine LWo.byCases (t := 17) _ rfl (fun h7 => ?_) (fun h7 => ?_)
    ·have h := bT h7 h
     refine LWo.guardNU (t := 17) rfl h7 rfl rfl rfl rfl rfl ?_
     refine LWo.guardNU (t := 17) rfl h7 rfl rfl rfl rfl rfl ?_
     refine LWo.guardNU (t := 17) rfl h7 rfl rfl rfl rfl rfl ?_
     refine LWo.pickTM (e_bool true) rfl h7 rfl (hn := ?_)
     refine LWo.assign (e_bool true) rfl (hn := ?_)
     refine LWo.nil (hN3 (a0, a1, a2, true) _ ⟨rfl, rfl, rfl, rfl, trivial⟩ trivial h)
    ·have h := bF h7 h
     refine LWo.guardY (t := 17) rfl h7 rfl rfl ?_
     refine LWo.loadN ((e_impl_Value a2)).cells g_impl_Value s_impl_Value rfl (Nat.le_of_ble_eq_true rfl) rfl (hn := ?_)
     refine bk h fun x8 e8 h => ?_
     refine LWo.guardY (t := 17) rfl h7 rfl rfl ?_
     refine LWo.vcall rfl rfl (c_impl_Value_ok _ _ e8) (.same (.nil)) (hn := ?_)
     refine LWo.guardY (t := 17) rfl h7 rfl rfl ?_
     refine LWo.not rfl (hn := ?_)
     refine LWo.pickFM (e_bool (!x8)) rfl h7 rfl (hn := ?_)
     refine LWo.assign (e_bool (!x8)) rfl (hn := ?_)
     refine LWo.nil (hN3 (a0, a1, a2, (!x8)) _ ⟨rfl, rfl, rfl, rfl, trivial⟩ trivial h)

def m_impl_ValueOf (a0 : Int) : Option S_impl_Value :=
  (m_impl_between a0 (0 : Int) (1 : Int)).bind fun x4 =>
  bif (!x4) then (lt ((⟨(0 : Int), (0 : Int), (⟨#[]⟩ : ByteArray)⟩ : S_impl_Value)) fun y7 =>
    some y7)
  else (lt ((⟨(3 : Int), a0, (⟨#[]⟩ : ByteArray)⟩ : S_impl_Value)) fun y9 =>
  some y9)
theorem c_impl_ValueOf (a0 : Int) (r : S_impl_Value) (h : m_impl_ValueOf a0 = some r) : Ret Try.prog f_impl_ValueOf [e_int a0] (e_impl_Value r) := by
  refine Does.goG [] F_impl_ValueOf rfl e_impl_ValueOf n_impl_ValueOf rfl (rvs := [.cell 2 t_impl_Value]) rfl rfl ?_
  intro w0 ok0 lent ρ0
  refine LWP.seq_k fun N1 hN1 => ?_
  refine LWP.region (l := [_]) ?_
  refine LWo.alloc_impl_Value 2 rfl (hn := ?_)
  refine LWo.nil (hN1 _ ?_)
  refine LWP.seq_k fun N2 hN2 => ?_
  refine LWP.seq_k fun N3 hN3 => ?_
  refine LWP.region (l := [_,_,_]) ?_
  refine LWo.move (e_int a0) rfl (hn := ?_)
  refine bk h fun x4 e4 h => ?_
  refine LWo.vcall rfl rfl (c_impl_between _ _ _ _ e4) (.same (.same (.same (.nil)))) (hn := ?_)
  refine LWo.not rfl (hn := ?_)
  refine LWo.nil (hN3 _ ?_)
  refine LWP.cond_split rfl (fun h5 => ?_) (fun h5 => ?_)
  ·have h := bT h5 h
   refine LWP.seq_k fun N6 hN6 => ?_
   refine LWP.region (l := [_,_]) ?_
   refine LWo.build_impl_Value (parts := []) (⟨(0 : Int), (0 : Int), (⟨#[]⟩ : ByteArray)⟩ : S_impl_Value) rfl rfl rfl .refl (hn := ?_)
   refine lk h fun y7 e7 h => ?_
   refine LWo.storeW (y := (⟨(0 : Int), (0 : Int), (⟨#[]⟩ : ByteArray)⟩ : S_impl_Value)) y7 s_impl_Value rfl rfl rfl rfl rfl rfl (by rw [e7]; exact .refl) rfl (hn := ?_)
   refine LWo.nil (hN6 _ ?_)
   obtain rfl := Option.some.inj h
   refine LWP.ret (QG.mk (.inr rfl) (.cons (.cellN (ys := (e_impl_Value y7).cells) g_impl_Value s_impl_Value rfl rfl rfl rfl rfl (fun _ _ => rfl)) (.nil)) (RetOK.one0 (.pure rfl) (by decide)) rfl rfl)
  ·have h := bF h5 h
   refine LWP.skip (hN2 _ ?_)
   refine LWP.seq_k fun N8 hN8 => ?_
   refine LWP.region (l := [_,_,_]) ?_
   refine LWo.move (e_int a0) rfl (hn := ?_)
   refine LWo.build_impl_Value (parts := [_, _]) (⟨(3 : Int), a0, (⟨#[]⟩ : ByteArray)⟩ : S_impl_Value) rfl rfl rfl .refl (hn := ?_)
   refine lk h fun y9 e9 h => ?_
   refine LWo.storeW (y := (⟨(0 : Int), (0 : Int), (⟨#[]⟩ : ByteArray)⟩ : S_impl_Value)) y9 s_impl_Value rfl rfl rfl rfl rfl rfl (by rw [e9]; exact .refl) rfl (hn := ?_)
   refine LWo.nil (hN8 _ ?_)
   obtain rfl := Option.some.inj h
   refine LWP.ret (QG.mk (.inr rfl) (.cons (.cellN (ys := (e_impl_Value y9).cells) g_impl_Value s_impl_Value rfl rfl rfl rfl rfl (fun _ _ => rfl)) (.nil)) (RetOK.one0 (.pure rfl) (by decide)) rfl rfl)

def m_impl_TruthOf (a0 : S_impl_Value) : Option Int :=
  (m_impl_Value_ok a0).bind fun x4 =>
  bif (!x4) then (some (-1 : Int))
  else (bif (a0.Kind == (0 : Int)) then (some (2 : Int))
    else (bif (a0.Kind == (3 : Int)) then (some a0.N)
      else (some (-1 : Int))))
theorem c_impl_TruthOf (a0 : S_impl_Value) (r : Int) (h : m_impl_TruthOf a0 = some r) : Ret Try.prog f_impl_TruthOf [e_impl_Value a0] (e_int r) := by
  refine Does.goG [] F_impl_TruthOf rfl e_impl_TruthOf n_impl_TruthOf rfl (rvs := [.tmp 2]) rfl rfl ?_
  intro w0 ok0 lent ρ0
  refine LWP.seq_k fun N1 hN1 => ?_
  refine LWP.region (l := [_,_]) ?_
  refine LWo.boxF (e_impl_Value a0) rfl rfl rfl (hn := ?_)
  refine LWo.assign (e_int (0 : Int)) rfl (hn := ?_)
  refine LWo.nil (hN1 _ ?_)
  refine LWP.seq_k fun N2 hN2 => ?_
  refine LWP.block ?_
  refine LWP.seq_k fun N3 hN3 => ?_
  refine LWP.region (l := [_,_,_,_]) ?_
  refine LWo.loadN ((e_impl_Value a0)).cells g_impl_Value s_impl_Value rfl (Nat.le_of_ble_eq_true rfl) rfl (hn := ?_)
  refine bk h fun x4 e4 h => ?_
  refine LWo.vcall rfl rfl (c_impl_Value_ok _ _ e4) (.same (.nil)) (hn := ?_)
  refine LWo.not rfl (hn := ?_)
  refine LWo.assign (e_bool (!x4)) rfl (hn := ?_)
  refine LWo.nil (hN3 _ ?_)
  refine LWP.cond_split rfl (fun h5 => ?_) (fun h5 => ?_)
  ·have h := bT h5 h
   refine LWP.seq_k fun N6 hN6 => ?_
   refine LWP.region (l := [_]) ?_
   refine LWo.assign (e_int (-1 : Int)) rfl (hn := ?_)
   refine LWo.nil (hN6 _ ?_)
   obtain rfl := Option.some.inj h
   refine LWP.ret (QG.mk (.inr rfl) (.cons (.tmp (x := (e_int (-1 : Int))) rfl) (.nil)) (RetOK.one0 (.pure rfl) (by decide)) rfl rfl)
  ·have h := bF h5 h
   refine LWP.seq_k fun N7 hN7 => ?_
   refine LWP.region (l := [_,_,_,_]) ?_
   refine LWo.fieldAddr _ u_impl_Value rfl s_int rfl rfl (hn := ?_)
   refine LWo.load1 (c := (e_int a0.Kind)) g_int rfl (hn := ?_)
   refine LWo.int _ rfl rfl rfl (hn := ?_)
   refine LWo.assign (e_bool (a0.Kind == (0 : Int))) rfl (hn := ?_)
   refine LWo.nil (hN7 _ ?_)
   refine LWP.cond_split rfl (fun h8 => ?_) (fun h8 => ?_)
   ·have h := bT h8 h
    refine LWP.seq_k fun N9 hN9 => ?_
    refine LWP.region (l := [_]) ?_
    refine LWo.assign (e_int (2 : Int)) rfl (hn := ?_)
    refine LWo.nil (hN9 _ ?_)
    obtain rfl := Option.some.inj h
    refine LWP.ret (QG.mk (.inr rfl) (.cons (.tmp (x := (e_int (2 : Int))) rfl) (.nil)) (RetOK.one0 (.pure rfl) (by decide)) rfl rfl)
   ·have h := bF h8 h
    refine LWP.seq_k fun N10 hN10 => ?_
    refine LWP.region (l := [_,_,_,_]) ?_
    refine LWo.fieldAddr _ u_impl_Value rfl s_int rfl rfl (hn := ?_)
    refine LWo.load1 (c := (e_int a0.Kind)) g_int rfl (hn := ?_)
    refine LWo.int _ rfl rfl rfl (hn := ?_)
    refine LWo.assign (e_bool (a0.Kind == (3 : Int))) rfl (hn := ?_)
    refine LWo.nil (hN10 _ ?_)
    refine LWP.cond_split rfl (fun h11 => ?_) (fun h11 => ?_)
    ·have h := bT h11 h
     refine LWP.seq_k fun N12 hN12 => ?_
     refine LWP.region (l := [_,_,_]) ?_
     refine LWo.fieldAddr _ u_impl_Value rfl s_int rfl rfl (hn := ?_)
     refine LWo.load1 (c := (e_int a0.N)) g_int rfl (hn := ?_)
     refine LWo.assign (e_int a0.N) rfl (hn := ?_)
     refine LWo.nil (hN12 _ ?_)
     obtain rfl := Option.some.inj h
     refine LWP.ret (QG.mk (.inr rfl) (.cons (.tmp (x := (e_int a0.N)) rfl) (.nil)) (RetOK.one0 (.pure rfl) (by decide)) rfl rfl)
    ·have h := bF h11 h
     refine LWP.skip (hN2 _ ?_)
     refine LWP.seq_k fun N13 hN13 => ?_
     refine LWP.region (l := [_]) ?_
     refine LWo.assign (e_int (-1 : Int)) rfl (hn := ?_)
     refine LWo.nil (hN13 _ ?_)
     obtain rfl := Option.some.inj h
     refine LWP.ret (QG.mk (.inr rfl) (.cons (.tmp (x := (e_int (-1 : Int))) rfl) (.nil)) (RetOK.one0 (.pure rfl) (by decide)) rfl rfl)

def m_impl_TruthOk (a0 : Int) : Option Bool :=
  (m_impl_between a0 (0 : Int) (2 : Int)).bind fun x3 =>
  some x3
theorem c_impl_TruthOk (a0 : Int) (r : Bool) (h : m_impl_TruthOk a0 = some r) : Ret Try.prog f_impl_TruthOk [e_int a0] (e_bool r) := by
  refine Does.goG [] F_impl_TruthOk rfl e_impl_TruthOk n_impl_TruthOk rfl (rvs := [.tmp 2]) rfl rfl ?_
  intro w0 ok0 lent ρ0
  refine LWP.seq_k fun N1 hN1 => ?_
  refine LWP.region (l := [_]) ?_
  refine LWo.assign (e_bool false) rfl (hn := ?_)
  refine LWo.nil (hN1 _ ?_)
  refine LWP.seq_k fun N2 hN2 => ?_
  refine LWP.region (l := [_,_,_]) ?_
  refine LWo.move (e_int a0) rfl (hn := ?_)
  refine bk h fun x3 e3 h => ?_
  refine LWo.vcall rfl rfl (c_impl_between _ _ _ _ e3) (.same (.same (.same (.nil)))) (hn := ?_)
  refine LWo.assign (e_bool x3) rfl (hn := ?_)
  refine LWo.nil (hN2 _ ?_)
  obtain rfl := Option.some.inj h
  refine LWP.ret (QG.mk (.inr rfl) (.cons (.tmp (x := (e_bool x3)) rfl) (.nil)) (RetOK.one0 (.pure rfl) (by decide)) rfl rfl)

def m_impl_fold_j3 (t2 : Int) (t26 : Bool) : Option Int :=
  bif t26 then (some (2 : Int))
  else ((ckI ((1 : Int) - t2)).bind fun x18 =>
  some x18)
def m_impl_fold_j2 (t0 : Int) (t1 : Int) (t2 : Int) (t16 : Bool) : Option Int :=
  bif t16 then (some t2)
  else (bif (t0 == (2 : Int)) then (m_impl_fold_j3  t2 true)
    else (m_impl_fold_j3  t2 (t1 == (2 : Int))))
def m_impl_fold_j1 (t0 : Int) (t1 : Int) (t2 : Int) (t7 : Bool) : Option Int :=
  bif t7 then (some (-1 : Int))
  else (bif (t0 == t2) then (m_impl_fold_j2  t0 t1 t2 true)
    else (m_impl_fold_j2  t0 t1 t2 (t1 == t2)))
def m_impl_fold (a0 : Int) (a1 : Int) (a2 : Int) : Option Int :=
  (m_impl_TruthOk a0).bind fun x4 =>
  bif (!x4) then (m_impl_fold_j1  a0 a1 a2 true)
  else ((m_impl_TruthOk a1).bind fun x6 =>
    m_impl_fold_j1  a0 a1 a2 (!x6))
theorem c_impl_fold (a0 : Int) (a1 : Int) (a2 : Int) (r : Int) (h : m_impl_fold a0 a1 a2 = some r) : Ret Try.prog f_impl_fold [e_int a0, e_int a1, e_int a2] (e_int r) := by
  refine Does.goG [] F_impl_fold rfl e_impl_fold n_impl_fold rfl (rvs := [.tmp 6]) rfl rfl ?_
  intro w0 ok0 lent ρ0
  refine LWP.seq_k fun N1 hN1 => ?_
  refine LWP.region (l := [_]) ?_
  refine LWo.assign (e_int (0 : Int)) rfl (hn := ?_)
  refine LWo.nil (hN1 _ ?_)
  refine LWP.seq_k fun N2 hN2 => ?_
  refine LWP.block ?_
  refine LWP.join (α := Int × Int × Int × Bool) (fun z : Int × Int × Int × Bool => [(0, (e_int z.1)), (1, (e_int z.2.1)), (2, (e_int z.2.2.1)), (7, (e_bool z.2.2.2))]) (fun z : Int × Int × Int × Bool => []) (fun z : Int × Int × Int × Bool => m_impl_fold_j1  z.1 z.2.1 z.2.2.1 z.2.2.2) r (fun _ => by simp [hkeys]) ?_ ?_
  ·rintro ⟨t0, t1, t2, t7⟩ h
   replace h : m_impl_fold_j1  t0 t1 t2 t7 = some _ := h
   refine LWP.cond_split rfl (fun h7 => ?_) (fun h7 => ?_)
   ·have h := bT h7 h
    refine LWP.seq_k fun N8 hN8 => ?_
    refine LWP.region (l := [_]) ?_
    refine LWo.assign (e_int (-1 : Int)) rfl (hn := ?_)
    refine LWo.nil (hN8 _ ?_)
    obtain rfl := Option.some.inj h
    refine LWP.ret (QG.mk (.inr rfl) (.cons (.tmp (x := (e_int (-1 : Int))) rfl) (.nil)) (RetOK.one0 (.pure rfl) (by decide)) rfl rfl)
   ·have h := bF h7 h
    refine LWP.join (α := Int × Int × Int × Bool) (fun z : Int × Int × Int × Bool => [(0, (e_int z.1)), (1, (e_int z.2.1)), (2, (e_int z.2.2.1)), (16, (e_bool z.2.2.2))]) (fun z : Int × Int × Int × Bool => []) (fun z : Int × Int × Int × Bool => m_impl_fold_j2  z.1 z.2.1 z.2.2.1 z.2.2.2) r (fun _ => by simp [hkeys]) ?_ ?_
    ·rintro ⟨t0, t1, t2, t16⟩ h
     replace h : m_impl_fold_j2  t0 t1 t2 t16 = some _ := h
     refine LWP.cond_split rfl (fun h11 => ?_) (fun h11 => ?_)
     ·have h := bT h11 h
      refine LWP.seq_k fun N12 hN12 => ?_
      refine LWP.region (l := [_,_]) ?_
      refine LWo.move (e_int t2) rfl (hn := ?_)
      refine LWo.assign (e_int t2) rfl (hn := ?_)
      refine LWo.nil (hN12 _ ?_)
      obtain rfl := Option.some.inj h
      refine LWP.ret (QG.mk (.inr rfl) (.cons (.tmp (x := (e_int t2)) rfl) (.nil)) (RetOK.one0 (.pure rfl) (by decide)) rfl rfl)
     ·have h := bF h11 h
      refine LWP.join (α := Int × Bool) (fun z : Int × Bool => [(2, (e_int z.1)), (26, (e_bool z.2))]) (fun z : Int × Bool => []) (fun z : Int × Bool => m_impl_fold_j3  z.1 z.2) r (fun _ => by simp [hkeys]) ?_ ?_
      ·rintro ⟨t2, t26⟩ h
       replace h : m_impl_fold_j3  t2 t26 = some _ := h
       refine LWP.cond_split rfl (fun h15 => ?_) (fun h15 => ?_)
       ·have h := bT h15 h
        refine LWP.seq_k fun N16 hN16 => ?_
        refine LWP.region (l := [_]) ?_
        refine LWo.assign (e_int (2 : Int)) rfl (hn := ?_)
        refine LWo.nil (hN16 _ ?_)
        obtain rfl := Option.some.inj h
        refine LWP.ret (QG.mk (.inr rfl) (.cons (.tmp (x := (e_int (2 : Int))) rfl) (.nil)) (RetOK.one0 (.pure rfl) (by decide)) rfl rfl)
       ·have h := bF h15 h
        refine LWP.skip (hN2 _ ?_)
        refine LWP.seq_k fun N17 hN17 => ?_
        refine LWP.region (l := [_,_,_]) ?_
        refine LWo.move (e_int t2) rfl (hn := ?_)
        refine bk h fun x18 e18 h => ?_
        refine LWo.int _ rfl rfl (sub_ck e18) (hn := ?_)
        refine LWo.assign (e_int x18) rfl (hn := ?_)
        refine LWo.nil (hN17 _ ?_)
        obtain rfl := Option.some.inj h
        refine LWP.ret (QG.mk (.inr rfl) (.cons (.tmp (x := (e_int x18)) rfl) (.nil)) (RetOK.one0 (.pure rfl) (by decide)) rfl rfl)
      ·intro N13 hN13
       refine LWP.region (l := [_,_,_,_,_,_,_]) ?_
       refine LWo.move (e_int t0) rfl (hn := ?_)
       refine LWo.int _ rfl rfl rfl (hn := ?_)
       refine LWo.move (e_bool (t0 == (2 : Int))) rfl (hn := ?_)
       refine LWo.byCases (t := 29) _ rfl (fun h14 => ?_) (fun h14 => ?_)
       ·have h := bT h14 h
        refine LWo.guardNU (t := 29) rfl h14 rfl rfl rfl rfl rfl ?_
        refine LWo.guardNU (t := 29) rfl h14 rfl rfl rfl rfl rfl ?_
        refine LWo.pickTM (e_bool true) rfl h14 rfl (hn := ?_)
        refine LWo.assign (e_bool true) rfl (hn := ?_)
        refine LWo.nil (hN13 (t2, true) _ ⟨rfl, rfl, trivial⟩ trivial h)
       ·have h := bF h14 h
        refine LWo.guardY (t := 29) rfl h14 rfl rfl ?_
        refine LWo.move (e_int t1) rfl (hn := ?_)
        refine LWo.guardY (t := 29) rfl h14 rfl rfl ?_
        refine LWo.int _ rfl rfl rfl (hn := ?_)
        refine LWo.pickFM (e_bool (t1 == (2 : Int))) rfl h14 rfl (hn := ?_)
        refine LWo.assign (e_bool (t1 == (2 : Int))) rfl (hn := ?_)
        refine LWo.nil (hN13 (t2, (t1 == (2 : Int))) _ ⟨rfl, rfl, trivial⟩ trivial h)
    ·intro N9 hN9
     refine LWP.region (l := [_,_,_,_,_,_,_,_,_]) ?_
     refine LWo.move (e_int t0) rfl (hn := ?_)
     refine LWo.move (e_int t2) rfl (hn := ?_)
     refine LWo.int _ rfl rfl rfl (hn := ?_)
     refine LWo.move (e_bool (t0 == t2)) rfl (hn := ?_)
     refine LWo.byCases (t := 20) _ rfl (fun h10 => ?_) (fun h10 => ?_)
     ·have h := bT h10 h
      refine LWo.guardNU (t := 20) rfl h10 rfl rfl rfl rfl rfl ?_
      refine LWo.guardNU (t := 20) rfl h10 rfl rfl rfl rfl rfl ?_
      refine LWo.guardNU (t := 20) rfl h10 rfl rfl rfl rfl rfl ?_
      refine LWo.pickTM (e_bool true) rfl h10 rfl (hn := ?_)
      refine LWo.assign (e_bool true) rfl (hn := ?_)
      refine LWo.nil (hN9 (t0, t1, t2, true) _ ⟨rfl, rfl, rfl, rfl, trivial⟩ trivial h)
     ·have h := bF h10 h
      refine LWo.guardY (t := 20) rfl h10 rfl rfl ?_
      refine LWo.move (e_int t1) rfl (hn := ?_)
      refine LWo.guardY (t := 20) rfl h10 rfl rfl ?_
      refine LWo.move (e_int t2) rfl (hn := ?_)
      refine LWo.guardY (t := 20) rfl h10 rfl rfl ?_
      refine LWo.int _ rfl rfl rfl (hn := ?_)
      refine LWo.pickFM (e_bool (t1 == t2)) rfl h10 rfl (hn := ?_)
      refine LWo.assign (e_bool (t1 == t2)) rfl (hn := ?_)
      refine LWo.nil (hN9 (t0, t1, t2, (t1 == t2)) _ ⟨rfl, rfl, rfl, rfl, trivial⟩ trivial h)
  ·intro N3 hN3
   refine LWP.region (l := [_,_,_,_,_,_,_,_,_]) ?_
   refine LWo.move (e_int a0) rfl (hn := ?_)
   refine bk h fun x4 e4 h => ?_
   refine LWo.vcall rfl rfl (c_impl_TruthOk _ _ e4) (.same (.nil)) (hn := ?_)
   refine LWo.not rfl (hn := ?_)
   refine LWo.move (e_bool (!x4)) rfl (hn := ?_)
   refine LWo.byCases (t := 11) _ rfl (fun h5 => ?_) (fun h5 => ?_)
   ·have h := bT h5 h
    refine LWo.guardNU (t := 11) rfl h5 rfl rfl rfl rfl rfl ?_
    refine LWo.guardNU (t := 11) rfl h5 rfl rfl rfl rfl rfl ?_
    refine LWo.guardNU (t := 11) rfl h5 rfl rfl rfl rfl rfl ?_
    refine LWo.pickTM (e_bool true) rfl h5 rfl (hn := ?_)
    refine LWo.assign (e_bool true) rfl (hn := ?_)
    refine LWo.nil (hN3 (a0, a1, a2, true) _ ⟨rfl, rfl, rfl, rfl, trivial⟩ trivial h)
   ·have h := bF h5 h
    refine LWo.guardY (t := 11) rfl h5 rfl rfl ?_
    refine LWo.move (e_int a1) rfl (hn := ?_)
    refine bk h fun x6 e6 h => ?_
    refine LWo.guardY (t := 11) rfl h5 rfl rfl ?_
    refine LWo.vcall rfl rfl (c_impl_TruthOk _ _ e6) (.same (.nil)) (hn := ?_)
    refine LWo.guardY (t := 11) rfl h5 rfl rfl ?_
    refine LWo.not rfl (hn := ?_)
    refine LWo.pickFM (e_bool (!x6)) rfl h5 rfl (hn := ?_)
    refine LWo.assign (e_bool (!x6)) rfl (hn := ?_)
    refine LWo.nil (hN3 (a0, a1, a2, (!x6)) _ ⟨rfl, rfl, rfl, rfl, trivial⟩ trivial h)

def m_impl_AndOf (a0 : Int) (a1 : Int) : Option Int :=
  (m_impl_fold a0 a1 (0 : Int)).bind fun x3 =>
  some x3
theorem c_impl_AndOf (a0 : Int) (a1 : Int) (r : Int) (h : m_impl_AndOf a0 a1 = some r) : Ret Try.prog f_impl_AndOf [e_int a0, e_int a1] (e_int r) := by
  refine Does.goG [] F_impl_AndOf rfl e_impl_AndOf n_impl_AndOf rfl (rvs := [.tmp 4]) rfl rfl ?_
  intro w0 ok0 lent ρ0
  refine LWP.seq_k fun N1 hN1 => ?_
  refine LWP.region (l := [_]) ?_
  refine LWo.assign (e_int (0 : Int)) rfl (hn := ?_)
  refine LWo.nil (hN1 _ ?_)
  refine LWP.seq_k fun N2 hN2 => ?_
  refine LWP.region (l := [_,_,_,_]) ?_
  refine LWo.move (e_int a0) rfl (hn := ?_)
  refine LWo.move (e_int a1) rfl (hn := ?_)
  refine bk h fun x3 e3 h => ?_
  refine LWo.vcall rfl rfl (c_impl_fold _ _ _ _ e3) (.same (.same (.same (.nil)))) (hn := ?_)
  refine LWo.assign (e_int x3) rfl (hn := ?_)
  refine LWo.nil (hN2 _ ?_)
  obtain rfl := Option.some.inj h
  refine LWP.ret (QG.mk (.inr rfl) (.cons (.tmp (x := (e_int x3)) rfl) (.nil)) (RetOK.one0 (.pure rfl) (by decide)) rfl rfl)

def m_impl_OrOf (a0 : Int) (a1 : Int) : Option Int :=
  (m_impl_fold a0 a1 (1 : Int)).bind fun x3 =>
  some x3
theorem c_impl_OrOf (a0 : Int) (a1 : Int) (r : Int) (h : m_impl_OrOf a0 a1 = some r) : Ret Try.prog f_impl_OrOf [e_int a0, e_int a1] (e_int r) := by
  refine Does.goG [] F_impl_OrOf rfl e_impl_OrOf n_impl_OrOf rfl (rvs := [.tmp 4]) rfl rfl ?_
  intro w0 ok0 lent ρ0
  refine LWP.seq_k fun N1 hN1 => ?_
  refine LWP.region (l := [_]) ?_
  refine LWo.assign (e_int (0 : Int)) rfl (hn := ?_)
  refine LWo.nil (hN1 _ ?_)
  refine LWP.seq_k fun N2 hN2 => ?_
  refine LWP.region (l := [_,_,_,_]) ?_
  refine LWo.move (e_int a0) rfl (hn := ?_)
  refine LWo.move (e_int a1) rfl (hn := ?_)
  refine bk h fun x3 e3 h => ?_
  refine LWo.vcall rfl rfl (c_impl_fold _ _ _ _ e3) (.same (.same (.same (.nil)))) (hn := ?_)
  refine LWo.assign (e_int x3) rfl (hn := ?_)
  refine LWo.nil (hN2 _ ?_)
  obtain rfl := Option.some.inj h
  refine LWP.ret (QG.mk (.inr rfl) (.cons (.tmp (x := (e_int x3)) rfl) (.nil)) (RetOK.one0 (.pure rfl) (by decide)) rfl rfl)

def m_impl_NotOf (a0 : Int) : Option Int :=
  bif (a0 == (0 : Int)) then (some (1 : Int))
  else (bif (a0 == (1 : Int)) then (some (0 : Int))
    else (bif (a0 == (2 : Int)) then (some (2 : Int))
      else (some (-1 : Int))))
theorem c_impl_NotOf (a0 : Int) (r : Int) (h : m_impl_NotOf a0 = some r) : Ret Try.prog f_impl_NotOf [e_int a0] (e_int r) := by
  refine Does.goG [] F_impl_NotOf rfl e_impl_NotOf n_impl_NotOf rfl (rvs := [.tmp 2]) rfl rfl ?_
  intro w0 ok0 lent ρ0
  refine LWP.seq_k fun N1 hN1 => ?_
  refine LWP.region (l := [_]) ?_
  refine LWo.assign (e_int (0 : Int)) rfl (hn := ?_)
  refine LWo.nil (hN1 _ ?_)
  refine LWP.seq_k fun N2 hN2 => ?_
  refine LWP.seq_k fun N3 hN3 => ?_
  refine LWP.region (l := [_]) ?_
  refine LWo.move (e_int a0) rfl (hn := ?_)
  refine LWo.nil (hN3 _ ?_)
  refine LWP.block ?_
  refine LWP.seq_k fun N4 hN4 => ?_
  refine LWP.region (l := [_,_]) ?_
  refine LWo.int _ rfl rfl rfl (hn := ?_)
  refine LWo.assign (e_bool (a0 == (0 : Int))) rfl (hn := ?_)
  refine LWo.nil (hN4 _ ?_)
  refine LWP.cond_split rfl (fun h5 => ?_) (fun h5 => ?_)
  ·have h := bT h5 h
   refine LWP.seq_k fun N6 hN6 => ?_
   refine LWP.region (l := [_]) ?_
   refine LWo.assign (e_int (1 : Int)) rfl (hn := ?_)
   refine LWo.nil (hN6 _ ?_)
   obtain rfl := Option.some.inj h
   refine LWP.ret (QG.mk (.inr rfl) (.cons (.tmp (x := (e_int (1 : Int))) rfl) (.nil)) (RetOK.one0 (.pure rfl) (by decide)) rfl rfl)
  ·have h := bF h5 h
   refine LWP.seq_k fun N7 hN7 => ?_
   refine LWP.region (l := [_,_]) ?_
   refine LWo.int _ rfl rfl rfl (hn := ?_)
   refine LWo.assign (e_bool (a0 == (1 : Int))) rfl (hn := ?_)
   refine LWo.nil (hN7 _ ?_)
   refine LWP.cond_split rfl (fun h8 => ?_) (fun h8 => ?_)
   ·have h := bT h8 h
    refine LWP.seq_k fun N9 hN9 => ?_
    refine LWP.region (l := [_]) ?_
    refine LWo.assign (e_int (0 : Int)) rfl (hn := ?_)
    refine LWo.nil (hN9 _ ?_)
    obtain rfl := Option.some.inj h
    refine LWP.ret (QG.mk (.inr rfl) (.cons (.tmp (x := (e_int (0 : Int))) rfl) (.nil)) (RetOK.one0 (.pure rfl) (by decide)) rfl rfl)
   ·have h := bF h8 h
    refine LWP.seq_k fun N10 hN10 => ?_
    refine LWP.region (l := [_,_]) ?_
    refine LWo.int _ rfl rfl rfl (hn := ?_)
    refine LWo.assign (e_bool (a0 == (2 : Int))) rfl (hn := ?_)
    refine LWo.nil (hN10 _ ?_)
    refine LWP.cond_split rfl (fun h11 => ?_) (fun h11 => ?_)
    ·have h := bT h11 h
     refine LWP.seq_k fun N12 hN12 => ?_
     refine LWP.region (l := [_]) ?_
     refine LWo.assign (e_int (2 : Int)) rfl (hn := ?_)
     refine LWo.nil (hN12 _ ?_)
     obtain rfl := Option.some.inj h
     refine LWP.ret (QG.mk (.inr rfl) (.cons (.tmp (x := (e_int (2 : Int))) rfl) (.nil)) (RetOK.one0 (.pure rfl) (by decide)) rfl rfl)
    ·have h := bF h11 h
     refine LWP.skip (hN2 _ ?_)
     refine LWP.seq_k fun N13 hN13 => ?_
     refine LWP.region (l := [_]) ?_
     refine LWo.assign (e_int (-1 : Int)) rfl (hn := ?_)
     refine LWo.nil (hN13 _ ?_)
     obtain rfl := Option.some.inj h
     refine LWP.ret (QG.mk (.inr rfl) (.cons (.tmp (x := (e_int (-1 : Int))) rfl) (.nil)) (RetOK.one0 (.pure rfl) (by decide)) rfl rfl)

def m_impl_Part_value_j1 (t49 : Bool) (o6 : S_impl_Value) (o7 : S_impl_Value) : Option S_impl_Value :=
  bif t49 then (lt ((⟨(0 : Int), (0 : Int), (⟨#[]⟩ : ByteArray)⟩ : S_impl_Value)) fun y29 =>
    some y29)
  else (lt (o7) fun y31 =>
  some y31)
def m_impl_Part_value (a0 : S_impl_Part) (a1 : (List S_impl_Value)) (a2 : (List S_impl_Value)) : Option S_impl_Value :=
  bif (a0.Kind == (1 : Int)) then (lt (a0.V) fun y7 =>
    some y7)
  else (bif (a0.Kind == (2 : Int)) then ((at? a1 a0.N).bind fun x11 =>
      lt (x11) fun y12 =>
      some y12)
    else (bif (a0.Kind == (3 : Int)) then ((at? a2 (0 : Int)).bind fun x16 =>
        (at? a2 (1 : Int)).bind fun x17 =>
        (ckI (x16.N + x17.N)).bind fun x18 =>
        lt ((⟨(1 : Int), x18, (⟨#[]⟩ : ByteArray)⟩ : S_impl_Value)) fun y19 =>
        (at? a2 (0 : Int)).bind fun x22 =>
        bif (x22.Kind == (0 : Int)) then (m_impl_Part_value_j1  true (⟨(0 : Int), (0 : Int), (⟨#[]⟩ : ByteArray)⟩ : S_impl_Value) y19)
        else ((at? a2 (1 : Int)).bind fun x24 =>
          bif (x24.Kind == (0 : Int)) then (m_impl_Part_value_j1  true (⟨(0 : Int), (0 : Int), (⟨#[]⟩ : ByteArray)⟩ : S_impl_Value) y19)
          else ((m_impl_Value_ok y19).bind fun x26 =>
            m_impl_Part_value_j1  (!x26) (⟨(0 : Int), (0 : Int), (⟨#[]⟩ : ByteArray)⟩ : S_impl_Value) y19)))
      else (bif (a0.Kind == (4 : Int)) then ((at? a2 (0 : Int)).bind fun x35 =>
          (at? a2 (1 : Int)).bind fun x36 =>
          (m_impl_Compare a0.N x35 x36).bind fun x37 =>
          (m_impl_ValueOf x37).bind fun x38 =>
          lt (x38) fun y39 =>
          some y39)
        else (bif (a0.Kind == (5 : Int)) then ((at? a2 (0 : Int)).bind fun x43 =>
            (m_impl_TruthOf x43).bind fun x44 =>
            (at? a2 (1 : Int)).bind fun x45 =>
            (m_impl_TruthOf x45).bind fun x46 =>
            (m_impl_AndOf x44 x46).bind fun x47 =>
            (m_impl_ValueOf x47).bind fun x48 =>
            lt (x48) fun y49 =>
            some y49)
          else (bif (a0.Kind == (6 : Int)) then ((at? a2 (0 : Int)).bind fun x53 =>
              (m_impl_TruthOf x53).bind fun x54 =>
              (at? a2 (1 : Int)).bind fun x55 =>
              (m_impl_TruthOf x55).bind fun x56 =>
              (m_impl_OrOf x54 x56).bind fun x57 =>
              (m_impl_ValueOf x57).bind fun x58 =>
              lt (x58) fun y59 =>
              some y59)
            else (bif (a0.Kind == (7 : Int)) then ((at? a2 (0 : Int)).bind fun x63 =>
                (m_impl_TruthOf x63).bind fun x64 =>
                (m_impl_NotOf x64).bind fun x65 =>
                (m_impl_ValueOf x65).bind fun x66 =>
                lt (x66) fun y67 =>
                some y67)
              else ((at? a2 (0 : Int)).bind fun x69 =>
  (m_impl_truthIf (x69.Kind == (0 : Int))).bind fun x70 =>
  (m_impl_ValueOf x70).bind fun x71 =>
  lt (x71) fun y72 =>
  some y72)))))))
theorem c_impl_Part_value (a0 : S_impl_Part) (a1 : (List S_impl_Value)) (a2 : (List S_impl_Value)) (r : S_impl_Value) (h : m_impl_Part_value a0 a1 a2 = some r) : Ret Try.prog f_impl_Part_value [e_impl_Part a0, e_Limpl_Value a1, e_Limpl_Value a2] (e_impl_Value r) := by
  refine Does.goG [] F_impl_Part_value rfl e_impl_Part_value n_impl_Part_value rfl (rvs := [.cell 6 t_impl_Value]) rfl rfl ?_
  intro w0 ok0 lent ρ0
  refine LWP.seq_k fun N1 hN1 => ?_
  refine LWP.region (l := [_,_]) ?_
  refine LWo.boxF (e_impl_Part a0) rfl rfl rfl (hn := ?_)
  refine LWo.alloc_impl_Value 6 rfl (hn := ?_)
  refine LWo.nil (hN1 _ ?_)
  refine LWP.seq_k fun N2 hN2 => ?_
  refine LWP.seq_k fun N3 hN3 => ?_
  refine LWP.region (l := [_,_]) ?_
  refine LWo.fieldAddr _ u_impl_Part rfl s_int rfl rfl (hn := ?_)
  refine LWo.load1 (c := (e_int a0.Kind)) g_int rfl (hn := ?_)
  refine LWo.nil (hN3 _ ?_)
  refine LWP.block ?_
  refine LWP.seq_k fun N4 hN4 => ?_
  refine LWP.region (l := [_,_]) ?_
  refine LWo.int _ rfl rfl rfl (hn := ?_)
  refine LWo.assign (e_bool (a0.Kind == (1 : Int))) rfl (hn := ?_)
  refine LWo.nil (hN4 _ ?_)
  refine LWP.cond_split rfl (fun h5 => ?_) (fun h5 => ?_)
  ·have h := bT h5 h
   refine LWP.seq_k fun N6 hN6 => ?_
   refine LWP.region (l := [_,_,_]) ?_
   refine LWo.fieldAddr _ u_impl_Part rfl s_impl_Value rfl rfl (hn := ?_)
   refine LWo.loadN ((e_impl_Value a0.V)).cells g_impl_Value s_impl_Value rfl (Nat.le_of_ble_eq_true rfl) rfl (hn := ?_)
   refine lk h fun y7 e7 h => ?_
   refine LWo.storeW (y := (⟨(0 : Int), (0 : Int), (⟨#[]⟩ : ByteArray)⟩ : S_impl_Value)) y7 s_impl_Value rfl rfl rfl rfl rfl rfl (by rw [e7]; exact .refl) rfl (hn := ?_)
   refine LWo.nil (hN6 _ ?_)
   obtain rfl := Option.some.inj h
   refine LWP.ret (QG.mk (.inr rfl) (.cons (.cellN (ys := (e_impl_Value y7).cells) g_impl_Value s_impl_Value rfl rfl rfl rfl rfl (fun _ _ => rfl)) (.nil)) (RetOK.one0 (.pure rfl) (by decide)) rfl rfl)
  ·have h := bF h5 h
   refine LWP.seq_k fun N8 hN8 => ?_
   refine LWP.region (l := [_,_]) ?_
   refine LWo.int _ rfl rfl rfl (hn := ?_)
   refine LWo.assign (e_bool (a0.Kind == (2 : Int))) rfl (hn := ?_)
   refine LWo.nil (hN8 _ ?_)
   refine LWP.cond_split rfl (fun h9 => ?_) (fun h9 => ?_)
   ·have h := bT h9 h
    refine LWP.seq_k fun N10 hN10 => ?_
    refine LWP.region (l := [_,_,_,_,_,_]) ?_
    refine LWo.move (e_Limpl_Value a1) rfl (hn := ?_)
    refine LWo.fieldAddr _ u_impl_Part rfl s_int rfl rfl (hn := ?_)
    refine LWo.load1 (c := (e_int a0.N)) g_int rfl (hn := ?_)
    refine bk h fun x11 e11 h => ?_
    refine LWo.indexM (f := e_impl_Value) e11 u_Limpl_Value s_impl_Value rfl rfl (hn := ?_)
    refine LWo.loadN ((e_impl_Value x11)).cells g_impl_Value s_impl_Value rfl (Nat.le_of_ble_eq_true rfl) rfl (hn := ?_)
    refine lk h fun y12 e12 h => ?_
    refine LWo.storeW (y := (⟨(0 : Int), (0 : Int), (⟨#[]⟩ : ByteArray)⟩ : S_impl_Value)) y12 s_impl_Value rfl rfl rfl rfl rfl rfl (by rw [e12]; exact .refl) rfl (hn := ?_)
    refine LWo.nil (hN10 _ ?_)
    obtain rfl := Option.some.inj h
    refine LWP.ret (QG.mk (.inr rfl) (.cons (.cellN (ys := (e_impl_Value y12).cells) g_impl_Value s_impl_Value rfl rfl rfl rfl rfl (fun _ _ => rfl)) (.nil)) (RetOK.one0 (.pure rfl) (by decide)) rfl rfl)
   ·have h := bF h9 h
    refine LWP.seq_k fun N13 hN13 => ?_
    refine LWP.region (l := [_,_]) ?_
    refine LWo.int _ rfl rfl rfl (hn := ?_)
    refine LWo.assign (e_bool (a0.Kind == (3 : Int))) rfl (hn := ?_)
    refine LWo.nil (hN13 _ ?_)
    refine LWP.cond_split rfl (fun h14 => ?_) (fun h14 => ?_)
    ·have h := bT h14 h
     refine LWP.seq_k fun N15 hN15 => ?_
     refine bk h fun x16 e16 h => ?_
     refine bk h fun x17 e17 h => ?_
     refine bk h fun x18 e18 h => ?_
     refine lk h fun y19 e19 h => ?_
     refine LWP.drawF (l := [_,_,_,_,_,_,_,_,_,_,_,_]) [(7, 7)] [2, 6] [([2], []), ([23], []), ([24], []), ([25], []), ([2], []), ([27], []), ([28], []), ([29], []), ([26, 30], []), ([31], []), ([], []), ([7, 32], [7])] [2, 6, 7] [6, 7] mixed (by kernel_rfl) rfl (by decide) ?_
     refine dq 23 rfl (fun _ g u h => LWo.move (e_Limpl_Value a2) u.1 (hn := .nil (zn g))) ?_
     refine dq 24 rfl (fun _ g u h => LWo.indexM (f := e_impl_Value) e16 u_Limpl_Value s_impl_Value u.1 rfl (hn := .nil (zn g))) ?_
     refine dq 25 rfl (fun _ g u h => LWo.fieldAddr _ u_impl_Value rfl s_int u.1 rfl (hn := .nil (zn g))) ?_
     refine dq 26 rfl (fun _ g u h => LWo.load1 (c := (e_int x16.N)) g_int u.1 (hn := .nil (zn g))) ?_
     refine dq 27 rfl (fun _ g u h => LWo.move (e_Limpl_Value a2) u.1 (hn := .nil (zn g))) ?_
     refine dq 28 rfl (fun _ g u h => LWo.indexM (f := e_impl_Value) e17 u_Limpl_Value s_impl_Value u.1 rfl (hn := .nil (zn g))) ?_
     refine dq 29 rfl (fun _ g u h => LWo.fieldAddr _ u_impl_Value rfl s_int u.1 rfl (hn := .nil (zn g))) ?_
     refine dq 30 rfl (fun _ g u h => LWo.load1 (c := (e_int x17.N)) g_int u.1 (hn := .nil (zn g))) ?_
     refine dq 31 rfl (fun _ g u h => LWo.int _ u.1 u.2.1 (add_ck e18) (hn := .nil (zn g))) ?_
     refine dq 32 rfl (fun _ g u h => LWo.build_impl_Value (parts := [_, _]) (⟨(1 : Int), x18, (⟨#[]⟩ : ByteArray)⟩ : S_impl_Value) (pv2 rfl u.1) rfl rfl .refl (hn := .nil (zn g))) ?_
     refine ⟨rfl, .make 7 _ 7 _, (by exact (goodC rfl goodN)), fun _ g u h => LWo.alloc_impl_Value 7 (lone_of g rfl) (hn := LWo.nil ⟨rfl, .inl rfl, Ef.good_ok (e := .make 7 _ 7 _) (by exact (goodC rfl goodN)) g⟩), ?_⟩
     refine ⟨rfl, .upd none .junk 7 _, (by exact (goodC rfl goodN)), fun _ g u h => LWo.storeW (y := (⟨(0 : Int), (0 : Int), (⟨#[]⟩ : ByteArray)⟩ : S_impl_Value)) y19 s_impl_Value u.1 u.2.1 rfl rfl h.1 rfl (by rw [e19]; exact .refl) rfl (hn := LWo.nil ⟨rfl, .inl rfl, Ef.good_ok (e := .upd none .junk 7 _) (by exact (goodC rfl goodN)) g⟩), ?_⟩
     refine ⟨rfl, by kernel_rfl, hN15 _ ?_⟩
     refine LWP.seq_k fun N20 hN20 => ?_
     refine LWP.join (α := Bool × S_impl_Value × S_impl_Value) (fun z : Bool × S_impl_Value × S_impl_Value => [(6, (.ptr 6 0 0)), (7, (.ptr 7 0 0)), (49, (e_bool z.1))]) (fun z : Bool × S_impl_Value × S_impl_Value => [(6, (vob 3 e_impl_Value z.2.1)), (7, (vob 3 e_impl_Value z.2.2))]) (fun z : Bool × S_impl_Value × S_impl_Value => m_impl_Part_value_j1  z.1 z.2.1 z.2.2) r (fun _ => by simp [hkeys]) ?_ ?_
     ·rintro ⟨t49, o6, o7⟩ h
      replace h : m_impl_Part_value_j1  t49 o6 o7 = some _ := h
      refine LWP.cond_split rfl (fun h27 => ?_) (fun h27 => ?_)
      ·have h := bT h27 h
       refine LWP.seq_k fun N28 hN28 => ?_
       refine LWP.region (l := [_,_]) ?_
       refine LWo.build_impl_Value (parts := []) (⟨(0 : Int), (0 : Int), (⟨#[]⟩ : ByteArray)⟩ : S_impl_Value) rfl rfl rfl .refl (hn := ?_)
       refine lk h fun y29 e29 h => ?_
       refine LWo.storeW (y := o6) y29 s_impl_Value rfl rfl rfl rfl rfl rfl (by rw [e29]; exact .refl) rfl (hn := ?_)
       refine LWo.nil (hN28 _ ?_)
       obtain rfl := Option.some.inj h
       refine LWP.ret (QG.mk (.inr rfl) (.cons (.cellN (ys := (e_impl_Value y29).cells) g_impl_Value s_impl_Value rfl rfl rfl rfl rfl (fun _ _ => rfl)) (.nil)) (RetOK.one0 (.pure rfl) (by decide)) rfl rfl)
      ·have h := bF h27 h
       refine LWP.skip (hN20 _ ?_)
       refine LWP.seq_k fun N30 hN30 => ?_
       refine LWP.region (l := [_,_]) ?_
       refine LWo.loadVN ((e_impl_Value o7)).cells  g_impl_Value s_impl_Value rfl rfl rfl rfl (hn := ?_)
       refine lk h fun y31 e31 h => ?_
       refine LWo.storeW (y := o6) y31 s_impl_Value rfl rfl rfl rfl rfl rfl (by rw [e31]; exact .refl) rfl (hn := ?_)
       refine LWo.nil (hN30 _ ?_)
       obtain rfl := Option.some.inj h
       refine LWP.ret (QG.mk (.inr rfl) (.cons (.cellN (ys := (e_impl_Value y31).cells) g_impl_Value s_impl_Value rfl rfl rfl rfl rfl (fun _ _ => rfl)) (.nil)) (RetOK.one0 (.pure rfl) (by decide)) rfl rfl)
     ·intro N21 hN21
      refine LWP.region (l := [_,_,_,_,_,_,_,_,_,_,_,_,_,_,_,_,_]) ?_
      refine LWo.move (e_Limpl_Value a2) rfl (hn := ?_)
      refine bk h fun x22 e22 h => ?_
      refine LWo.indexM (f := e_impl_Value) e22 u_Limpl_Value s_impl_Value rfl rfl (hn := ?_)
      refine LWo.fieldAddr _ u_impl_Value rfl s_int rfl rfl (hn := ?_)
      refine LWo.load1 (c := (e_int x22.Kind)) g_int rfl (hn := ?_)
      refine LWo.int _ rfl rfl rfl (hn := ?_)
      refine LWo.move (e_bool (x22.Kind == (0 : Int))) rfl (hn := ?_)
      refine LWo.byCases (t := 38) _ rfl (fun h23 => ?_) (fun h23 => ?_)
      ·have h := bT h23 h
       refine LWo.guardNU (t := 38) rfl h23 rfl rfl rfl rfl rfl ?_
       refine LWo.guardNU (t := 38) rfl h23 rfl rfl rfl rfl rfl ?_
       refine LWo.guardNU (t := 38) rfl h23 rfl rfl rfl rfl rfl ?_
       refine LWo.guardNU (t := 38) rfl h23 rfl rfl rfl rfl rfl ?_
       refine LWo.guardNU (t := 38) rfl h23 rfl rfl rfl rfl rfl ?_
       refine LWo.pickTM (e_bool true) rfl h23 rfl (hn := ?_)
       refine LWo.move (e_bool true) rfl (hn := ?_)
       refine LWo.guardNU (t := 45) rfl rfl rfl rfl rfl rfl rfl ?_
       refine LWo.guardNU (t := 45) rfl rfl rfl rfl rfl rfl rfl ?_
       refine LWo.guardNU (t := 45) rfl rfl rfl rfl rfl rfl rfl ?_
       refine LWo.pickTM (e_bool true) rfl rfl rfl (hn := ?_)
       refine LWo.nil (hN21 (true, (⟨(0 : Int), (0 : Int), (⟨#[]⟩ : ByteArray)⟩ : S_impl_Value), y19) _ ⟨rfl, rfl, rfl, trivial⟩ ⟨rfl, rfl, trivial⟩ h)
      ·have h := bF h23 h
       refine LWo.guardY (t := 38) rfl h23 rfl rfl ?_
       refine LWo.move (e_Limpl_Value a2) rfl (hn := ?_)
       refine bk h fun x24 e24 h => ?_
       refine LWo.guardY (t := 38) rfl h23 rfl rfl ?_
       refine LWo.indexM (f := e_impl_Value) e24 u_Limpl_Value s_impl_Value rfl rfl (hn := ?_)
       refine LWo.guardY (t := 38) rfl h23 rfl rfl ?_
       refine LWo.fieldAddr _ u_impl_Value rfl s_int rfl rfl (hn := ?_)
       refine LWo.guardY (t := 38) rfl h23 rfl rfl ?_
       refine LWo.load1 (c := (e_int x24.Kind)) g_int rfl (hn := ?_)
       refine LWo.guardY (t := 38) rfl h23 rfl rfl ?_
       refine LWo.int _ rfl rfl rfl (hn := ?_)
       refine LWo.pickFM (e_bool (x24.Kind == (0 : Int))) rfl h23 rfl (hn := ?_)
       refine LWo.move (e_bool (x24.Kind == (0 : Int))) rfl (hn := ?_)
       refine LWo.byCases (t := 45) _ rfl (fun h25 => ?_) (fun h25 => ?_)
       ·have h := bT h25 h
        refine LWo.guardNU (t := 45) rfl h25 rfl rfl rfl rfl rfl ?_
        refine LWo.guardNU (t := 45) rfl h25 rfl rfl rfl rfl rfl ?_
        refine LWo.guardNU (t := 45) rfl h25 rfl rfl rfl rfl rfl ?_
        refine LWo.pickTM (e_bool true) rfl h25 rfl (hn := ?_)
        refine LWo.nil (hN21 (true, (⟨(0 : Int), (0 : Int), (⟨#[]⟩ : ByteArray)⟩ : S_impl_Value), y19) _ ⟨rfl, rfl, rfl, trivial⟩ ⟨rfl, rfl, trivial⟩ h)
       ·have h := bF h25 h
        refine LWo.guardY (t := 45) rfl h25 rfl rfl ?_
        refine LWo.loadVN ((e_impl_Value y19)).cells  g_impl_Value s_impl_Value rfl rfl rfl rfl (hn := ?_)
        refine bk h fun x26 e26 h => ?_
        refine LWo.guardY (t := 45) rfl h25 rfl rfl ?_
        refine LWo.vcall rfl rfl (c_impl_Value_ok _ _ e26) (.same (.nil)) (hn := ?_)
        refine LWo.guardY (t := 45) rfl h25 rfl rfl ?_
        refine LWo.not rfl (hn := ?_)
        refine LWo.pickFM (e_bool (!x26)) rfl h25 rfl (hn := ?_)
        refine LWo.nil (hN21 ((!x26), (⟨(0 : Int), (0 : Int), (⟨#[]⟩ : ByteArray)⟩ : S_impl_Value), y19) _ ⟨rfl, rfl, rfl, trivial⟩ ⟨rfl, rfl, trivial⟩ h)
    ·have h := bF h14 h
     refine LWP.seq_k fun N32 hN32 => ?_
     refine LWP.region (l := [_,_]) ?_
     refine LWo.int _ rfl rfl rfl (hn := ?_)
     refine LWo.assign (e_bool (a0.Kind == (4 : Int))) rfl (hn := ?_)
     refine LWo.nil (hN32 _ ?_)
     refine LWP.cond_split rfl (fun h33 => ?_) (fun h33 => ?_)
     ·have h := bT h33 h
      refine LWP.seq_k fun N34 hN34 => ?_
      refine bk h fun x35 e35 h => ?_
      refine bk h fun x36 e36 h => ?_
      refine bk h fun x37 e37 h => ?_
      refine bk h fun x38 e38 h => ?_
      refine lk h fun y39 e39 h => ?_
      refine LWP.drawF (l := [_,_,_,_,_,_,_,_,_,_,_]) [] [2, 3, 6] [([3], []), ([54], []), ([2], []), ([56], []), ([57], []), ([2], []), ([59], []), ([60], []), ([55, 58, 61], []), ([62], []), ([6, 63], [6])] [6] [6] mixed (by kernel_rfl) rfl (by decide) ?_
      refine dq 54 rfl (fun _ g u h => LWo.fieldAddr _ u_impl_Part rfl s_int u.1 rfl (hn := .nil (zn g))) ?_
      refine dq 55 rfl (fun _ g u h => LWo.load1 (c := (e_int a0.N)) g_int u.1 (hn := .nil (zn g))) ?_
      refine dq 56 rfl (fun _ g u h => LWo.move (e_Limpl_Value a2) u.1 (hn := .nil (zn g))) ?_
      refine dq 57 rfl (fun _ g u h => LWo.indexM (f := e_impl_Value) e35 u_Limpl_Value s_impl_Value u.1 rfl (hn := .nil (zn g))) ?_
      refine dq 58 rfl (fun _ g u h => LWo.loadN ((e_impl_Value x35)).cells g_impl_Value s_impl_Value u.1 (Nat.le_of_ble_eq_true rfl) rfl (hn := .nil (zn g))) ?_
      refine dq 59 rfl (fun _ g u h => LWo.move (e_Limpl_Value a2) u.1 (hn := .nil (zn g))) ?_
      refine dq 60 rfl (fun _ g u h => LWo.indexM (f := e_impl_Value) e36 u_Limpl_Value s_impl_Value u.1 rfl (hn := .nil (zn g))) ?_
      refine dq 61 rfl (fun _ g u h => LWo.loadN ((e_impl_Value x36)).cells g_impl_Value s_impl_Value u.1 (Nat.le_of_ble_eq_true rfl) rfl (hn := .nil (zn g))) ?_
      refine dq 62 rfl (fun _ g u h => LWo.vcall rfl (av3 u.1 u.2.1 u.2.2.1) (c_impl_Compare _ _ _ _ e37) (.same (.same (.same (.nil)))) (hn := .nil (zn g))) ?_
      refine dq 63 rfl (fun _ g u h => LWo.vcall rfl (av1 u.1) (c_impl_ValueOf _ _ e38) (.same (.nil)) (hn := .nil (zn g))) ?_
      refine ⟨rfl, .upd none .junk 6 _, (fun _ h => by cases h), fun _ g u h => LWo.storeW (y := (⟨(0 : Int), (0 : Int), (⟨#[]⟩ : ByteArray)⟩ : S_impl_Value)) y39 s_impl_Value u.1 u.2.1 rfl rfl h.1 rfl (by rw [e39]; exact .refl) rfl (hn := LWo.nil ⟨rfl, .inl rfl, Ef.good_ok (e := .upd none .junk 6 _) (fun _ h => by cases h) g⟩), ?_⟩
      refine ⟨rfl, by kernel_rfl, hN34 _ ?_⟩
      obtain rfl := Option.some.inj h
      refine LWP.ret (QG.mk (.inr rfl) (.cons (.cellN (ys := (e_impl_Value y39).cells) g_impl_Value s_impl_Value rfl rfl rfl rfl rfl (fun _ _ => rfl)) (.nil)) (RetOK.one0 (.pure rfl) (by decide)) rfl rfl)
     ·have h := bF h33 h
      refine LWP.seq_k fun N40 hN40 => ?_
      refine LWP.region (l := [_,_]) ?_
      refine LWo.int _ rfl rfl rfl (hn := ?_)
      refine LWo.assign (e_bool (a0.Kind == (5 : Int))) rfl (hn := ?_)
      refine LWo.nil (hN40 _ ?_)
      refine LWP.cond_split rfl (fun h41 => ?_) (fun h41 => ?_)
      ·have h := bT h41 h
       refine LWP.seq_k fun N42 hN42 => ?_
       refine bk h fun x43 e43 h => ?_
       refine bk h fun x44 e44 h => ?_
       refine bk h fun x45 e45 h => ?_
       refine bk h fun x46 e46 h => ?_
       refine bk h fun x47 e47 h => ?_
       refine bk h fun x48 e48 h => ?_
       refine lk h fun y49 e49 h => ?_
       refine LWP.drawF (l := [_,_,_,_,_,_,_,_,_,_,_]) [] [2, 6] [([2], []), ([66], []), ([67], []), ([68], []), ([2], []), ([70], []), ([71], []), ([72], []), ([69, 73], []), ([74], []), ([6, 75], [6])] [6] [6] mixed (by kernel_rfl) rfl (by decide) ?_
       refine dq 66 rfl (fun _ g u h => LWo.move (e_Limpl_Value a2) u.1 (hn := .nil (zn g))) ?_
       refine dq 67 rfl (fun _ g u h => LWo.indexM (f := e_impl_Value) e43 u_Limpl_Value s_impl_Value u.1 rfl (hn := .nil (zn g))) ?_
       refine dq 68 rfl (fun _ g u h => LWo.loadN ((e_impl_Value x43)).cells g_impl_Value s_impl_Value u.1 (Nat.le_of_ble_eq_true rfl) rfl (hn := .nil (zn g))) ?_
       refine dq 69 rfl (fun _ g u h => LWo.vcall rfl (av1 u.1) (c_impl_TruthOf _ _ e44) (.same (.nil)) (hn := .nil (zn g))) ?_
       refine dq 70 rfl (fun _ g u h => LWo.move (e_Limpl_Value a2) u.1 (hn := .nil (zn g))) ?_
       refine dq 71 rfl (fun _ g u h => LWo.indexM (f := e_impl_Value) e45 u_Limpl_Value s_impl_Value u.1 rfl (hn := .nil (zn g))) ?_
       refine dq 72 rfl (fun _ g u h => LWo.loadN ((e_impl_Value x45)).cells g_impl_Value s_impl_Value u.1 (Nat.le_of_ble_eq_true rfl) rfl (hn := .nil (zn g))) ?_
       refine dq 73 rfl (fun _ g u h => LWo.vcall rfl (av1 u.1) (c_impl_TruthOf _ _ e46) (.same (.nil)) (hn := .nil (zn g))) ?_
       refine dq 74 rfl (fun _ g u h => LWo.vcall rfl (av2 u.1 u.2.1) (c_impl_AndOf _ _ _ e47) (.same (.same (.nil))) (hn := .nil (zn g))) ?_
       refine dq 75 rfl (fun _ g u h => LWo.vcall rfl (av1 u.1) (c_impl_ValueOf _ _ e48) (.same (.nil)) (hn := .nil (zn g))) ?_
       refine ⟨rfl, .upd none .junk 6 _, (fun _ h => by cases h), fun _ g u h => LWo.storeW (y := (⟨(0 : Int), (0 : Int), (⟨#[]⟩ : ByteArray)⟩ : S_impl_Value)) y49 s_impl_Value u.1 u.2.1 rfl rfl h.1 rfl (by rw [e49]; exact .refl) rfl (hn := LWo.nil ⟨rfl, .inl rfl, Ef.good_ok (e := .upd none .junk 6 _) (fun _ h => by cases h) g⟩), ?_⟩
       refine ⟨rfl, by kernel_rfl, hN42 _ ?_⟩
       obtain rfl := Option.some.inj h
       refine LWP.ret (QG.mk (.inr rfl) (.cons (.cellN (ys := (e_impl_Value y49).cells) g_impl_Value s_impl_Value rfl rfl rfl rfl rfl (fun _ _ => rfl)) (.nil)) (RetOK.one0 (.pure rfl) (by decide)) rfl rfl)
      ·have h := bF h41 h
       refine LWP.seq_k fun N50 hN50 => ?_
       refine LWP.region (l := [_,_]) ?_
       refine LWo.int _ rfl rfl rfl (hn := ?_)
       refine LWo.assign (e_bool (a0.Kind == (6 : Int))) rfl (hn := ?_)
       refine LWo.nil (hN50 _ ?_)
       refine LWP.cond_split rfl (fun h51 => ?_) (fun h51 => ?_)
       ·have h := bT h51 h
        refine LWP.seq_k fun N52 hN52 => ?_
        refine bk h fun x53 e53 h => ?_
        refine bk h fun x54 e54 h => ?_
        refine bk h fun x55 e55 h => ?_
        refine bk h fun x56 e56 h => ?_
        refine bk h fun x57 e57 h => ?_
        refine bk h fun x58 e58 h => ?_
        refine lk h fun y59 e59 h => ?_
        refine LWP.drawF (l := [_,_,_,_,_,_,_,_,_,_,_]) [] [2, 6] [([2], []), ([78], []), ([79], []), ([80], []), ([2], []), ([82], []), ([83], []), ([84], []), ([81, 85], []), ([86], []), ([6, 87], [6])] [6] [6] mixed (by kernel_rfl) rfl (by decide) ?_
        refine dq 78 rfl (fun _ g u h => LWo.move (e_Limpl_Value a2) u.1 (hn := .nil (zn g))) ?_
        refine dq 79 rfl (fun _ g u h => LWo.indexM (f := e_impl_Value) e53 u_Limpl_Value s_impl_Value u.1 rfl (hn := .nil (zn g))) ?_
        refine dq 80 rfl (fun _ g u h => LWo.loadN ((e_impl_Value x53)).cells g_impl_Value s_impl_Value u.1 (Nat.le_of_ble_eq_true rfl) rfl (hn := .nil (zn g))) ?_
        refine dq 81 rfl (fun _ g u h => LWo.vcall rfl (av1 u.1) (c_impl_TruthOf _ _ e54) (.same (.nil)) (hn := .nil (zn g))) ?_
        refine dq 82 rfl (fun _ g u h => LWo.move (e_Limpl_Value a2) u.1 (hn := .nil (zn g))) ?_
        refine dq 83 rfl (fun _ g u h => LWo.indexM (f := e_impl_Value) e55 u_Limpl_Value s_impl_Value u.1 rfl (hn := .nil (zn g))) ?_
        refine dq 84 rfl (fun _ g u h => LWo.loadN ((e_impl_Value x55)).cells g_impl_Value s_impl_Value u.1 (Nat.le_of_ble_eq_true rfl) rfl (hn := .nil (zn g))) ?_
        refine dq 85 rfl (fun _ g u h => LWo.vcall rfl (av1 u.1) (c_impl_TruthOf _ _ e56) (.same (.nil)) (hn := .nil (zn g))) ?_
        refine dq 86 rfl (fun _ g u h => LWo.vcall rfl (av2 u.1 u.2.1) (c_impl_OrOf _ _ _ e57) (.same (.same (.nil))) (hn := .nil (zn g))) ?_
        refine dq 87 rfl (fun _ g u h => LWo.vcall rfl (av1 u.1) (c_impl_ValueOf _ _ e58) (.same (.nil)) (hn := .nil (zn g))) ?_
        refine ⟨rfl, .upd none .junk 6 _, (fun _ h => by cases h), fun _ g u h => LWo.storeW (y := (⟨(0 : Int), (0 : Int), (⟨#[]⟩ : ByteArray)⟩ : S_impl_Value)) y59 s_impl_Value u.1 u.2.1 rfl rfl h.1 rfl (by rw [e59]; exact .refl) rfl (hn := LWo.nil ⟨rfl, .inl rfl, Ef.good_ok (e := .upd none .junk 6 _) (fun _ h => by cases h) g⟩), ?_⟩
        refine ⟨rfl, by kernel_rfl, hN52 _ ?_⟩
        obtain rfl := Option.some.inj h
        refine LWP.ret (QG.mk (.inr rfl) (.cons (.cellN (ys := (e_impl_Value y59).cells) g_impl_Value s_impl_Value rfl rfl rfl rfl rfl (fun _ _ => rfl)) (.nil)) (RetOK.one0 (.pure rfl) (by decide)) rfl rfl)
       ·have h := bF h51 h
        refine LWP.seq_k fun N60 hN60 => ?_
        refine LWP.region (l := [_,_]) ?_
        refine LWo.int _ rfl rfl rfl (hn := ?_)
        refine LWo.assign (e_bool (a0.Kind == (7 : Int))) rfl (hn := ?_)
        refine LWo.nil (hN60 _ ?_)
        refine LWP.cond_split rfl (fun h61 => ?_) (fun h61 => ?_)
        ·have h := bT h61 h
         refine LWP.seq_k fun N62 hN62 => ?_
         refine LWP.region (l := [_,_,_,_,_,_,_]) ?_
         refine LWo.move (e_Limpl_Value a2) rfl (hn := ?_)
         refine bk h fun x63 e63 h => ?_
         refine LWo.indexM (f := e_impl_Value) e63 u_Limpl_Value s_impl_Value rfl rfl (hn := ?_)
         refine LWo.loadN ((e_impl_Value x63)).cells g_impl_Value s_impl_Value rfl (Nat.le_of_ble_eq_true rfl) rfl (hn := ?_)
         refine bk h fun x64 e64 h => ?_
         refine LWo.vcall rfl rfl (c_impl_TruthOf _ _ e64) (.same (.nil)) (hn := ?_)
         refine bk h fun x65 e65 h => ?_
         refine LWo.vcall rfl rfl (c_impl_NotOf _ _ e65) (.same (.nil)) (hn := ?_)
         refine bk h fun x66 e66 h => ?_
         refine LWo.vcall rfl rfl (c_impl_ValueOf _ _ e66) (.same (.nil)) (hn := ?_)
         refine lk h fun y67 e67 h => ?_
         refine LWo.storeW (y := (⟨(0 : Int), (0 : Int), (⟨#[]⟩ : ByteArray)⟩ : S_impl_Value)) y67 s_impl_Value rfl rfl rfl rfl rfl rfl (by rw [e67]; exact .refl) rfl (hn := ?_)
         refine LWo.nil (hN62 _ ?_)
         obtain rfl := Option.some.inj h
         refine LWP.ret (QG.mk (.inr rfl) (.cons (.cellN (ys := (e_impl_Value y67).cells) g_impl_Value s_impl_Value rfl rfl rfl rfl rfl (fun _ _ => rfl)) (.nil)) (RetOK.one0 (.pure rfl) (by decide)) rfl rfl)
        ·have h := bF h61 h
         refine LWP.skip (hN2 _ ?_)
         refine LWP.seq_k fun N68 hN68 => ?_
         refine LWP.region (l := [_,_,_,_,_,_,_,_]) ?_
         refine LWo.move (e_Limpl_Value a2) rfl (hn := ?_)
         refine bk h fun x69 e69 h => ?_
         refine LWo.indexM (f := e_impl_Value) e69 u_Limpl_Value s_impl_Value rfl rfl (hn := ?_)
         refine LWo.fieldAddr _ u_impl_Value rfl s_int rfl rfl (hn := ?_)
         refine LWo.load1 (c := (e_int x69.Kind)) g_int rfl (hn := ?_)
         refine LWo.int _ rfl rfl rfl (hn := ?_)
         refine bk h fun x70 e70 h => ?_
         refine LWo.vcall rfl rfl (c_impl_truthIf _ _ e70) (.same (.nil)) (hn := ?_)
         refine bk h fun x71 e71 h => ?_
         refine LWo.vcall rfl rfl (c_impl_ValueOf _ _ e71) (.same (.nil)) (hn := ?_)
         refine lk h fun y72 e72 h => ?_
         refine LWo.storeW (y := (⟨(0 : Int), (0 : Int), (⟨#[]⟩ : ByteArray)⟩ : S_impl_Value)) y72 s_impl_Value rfl rfl rfl rfl rfl rfl (by rw [e72]; exact .refl) rfl (hn := ?_)
         refine LWo.nil (hN68 _ ?_)
         obtain rfl := Option.some.inj h
         refine LWP.ret (QG.mk (.inr rfl) (.cons (.cellN (ys := (e_impl_Value y72).cells) g_impl_Value s_impl_Value rfl rfl rfl rfl rfl (fun _ _ => rfl)) (.nil)) (RetOK.one0 (.pure rfl) (by decide)) rfl rfl)

def m_impl_exprValue_j1 (o4 : S_impl_Value) (o1005 : (List S_impl_Value)) : Option S_impl_Value :=
  (at? o1005 (0 : Int)).bind fun x26 =>
  (at? o1005 (0 : Int)).bind fun x27 =>
  lt (x27) fun y28 =>
  some y28
def m_impl_exprValue_l1 : Nat → (List S_impl_Value) → (List S_impl_Part) → Int → Int → S_impl_Value → (List S_impl_Value) → Option S_impl_Value
  | 0, _, _, _, _, _, _ => none
  | n1 + 1, t0, t10, t11, t12, o4, o1005 =>
    bif decide (t12 < t11) then ((at? t10 t12).bind fun x12 =>
    lt (x12) fun y13 =>
    (m_impl_Part_takes y13).bind fun x15 =>
    (ckI ((o1005.length : Int) - x15)).bind fun x16 =>
    (rng? x16 ((o1005).length : Int) ((o1005).length)).bind fun u18 =>
    (leN ((0 + (x16).toNat) + ((o1005).length - (x16).toNat)) o1005.length).bind fun u19 =>
    (m_impl_Part_value y13 t0 ((o1005.drop (0 + (x16).toNat)).take ((o1005).length - (x16).toNat))).bind fun x20 =>
    lt (x20) fun y21 =>
    (rng? (0 : Int) x16 ((o1005).length)).bind fun u22 =>
    (appT? o1005 ((x16).toNat) ([y21] : (List S_impl_Value))).bind fun x23 =>
    (ckI (t12 + (1 : Int))).bind fun x24 =>
    (m_impl_exprValue_l1  n1) t0 t10 t11 x24 o4 x23)
    else (m_impl_exprValue_j1  o4 o1005)
def m_impl_exprValue (a0 : (List S_impl_Value)) (a1 : (List S_impl_Part)) : Option S_impl_Value :=
  m_impl_exprValue_l1  (((a1.length : Int) - (0 : Int)).toNat + 1) a0 a1 (a1.length : Int) (0 : Int) (⟨(0 : Int), (0 : Int), (⟨#[]⟩ : ByteArray)⟩ : S_impl_Value) ([] : (List S_impl_Value))
theorem c_impl_exprValue (a0 : (List S_impl_Value)) (a1 : (List S_impl_Part)) (r : S_impl_Value) (h : m_impl_exprValue a0 a1 = some r) : Ret Try.prog f_impl_exprValue [e_Limpl_Value a0, e_Limpl_Part a1] (e_impl_Value r) := by
  refine Does.goG [] F_impl_exprValue rfl e_impl_exprValue n_impl_exprValue rfl (rvs := [.cell 4 t_impl_Value]) rfl rfl ?_
  intro w0 ok0 lent ρ0
  refine LWP.seq_k fun N1 hN1 => ?_
  refine LWP.region (l := [_]) ?_
  refine LWo.alloc_impl_Value 4 rfl (hn := ?_)
  refine LWo.nil (hN1 _ ?_)
  refine LWP.seq_k fun N2 hN2 => ?_
  refine LWP.region (l := [_]) ?_
  refine LWo.assign _ rfl (hn := ?_)
  refine LWo.ownNil 5 1005 3 rfl rfl rfl ?_
  refine LWo.known 5 (.own 1005 0 ([] : (List S_impl_Value)).length) rfl ?_
  refine LWo.nil (hN2 _ ?_)
  refine LWP.join (α := S_impl_Value × (List S_impl_Value)) (fun z : S_impl_Value × (List S_impl_Value) => [(4, (.ptr 4 0 0)), (5, (.own 1005 0 (z.2).length))]) (fun z : S_impl_Value × (List S_impl_Value) => [(4, (vob 3 e_impl_Value z.1)), (1005, (lob 3 e_impl_Value z.2))]) (fun z : S_impl_Value × (List S_impl_Value) => m_impl_exprValue_j1  z.1 z.2) r (fun _ => by simp [hkeys]) ?_ ?_
  ·rintro ⟨o4, o1005⟩ h
   replace h : m_impl_exprValue_j1  o4 o1005 = some _ := h
   refine LWP.seq_k fun N25 hN25 => ?_
   refine LWP.region (l := [_,_,_,_]) ?_
   refine LWo.move (.own 1005 0 (o1005).length) rfl (hn := ?_)
   refine bk h fun x26 e26 h => ?_
   refine LWo.indexO e26 rfl u_Limpl_Value s_impl_Value rfl rfl rfl (hn := ?_)
   refine bk h fun x27 e27 h => ?_
   refine LWo.loadON ((e_impl_Value x27)).cells e27 g_impl_Value s_impl_Value rfl rfl rfl rfl (hn := ?_)
   refine lk h fun y28 e28 h => ?_
   refine LWo.storeW (y := o4) y28 s_impl_Value rfl rfl rfl rfl rfl rfl (by rw [e28]; exact .refl) rfl (hn := ?_)
   refine LWo.nil (hN25 _ ?_)
   obtain rfl := Option.some.inj h
   refine LWP.ret (QG.mk (.inr rfl) (.cons (.cellN (ys := (e_impl_Value y28).cells) g_impl_Value s_impl_Value rfl rfl rfl rfl rfl (fun _ _ => rfl)) (.nil)) (RetOK.one0 (.pure rfl) (by decide)) rfl rfl)
  ·intro N3 hN3
   refine LWP.seq_k fun N4 hN4 => ?_
   refine LWP.region (l := [_,_,_]) ?_
   refine LWo.move (e_Limpl_Part a1) rfl (hn := ?_)
   refine LWo.lenM (f := e_impl_Part) (l := a1) u_Limpl_Part rfl (hn := ?_)
   refine LWo.move (e_int (0 : Int)) rfl (hn := ?_)
   refine LWo.nil (hN4 _ ?_)
   refine LWP.block ?_
   refine LWP.loopM (α := (List S_impl_Value) × (List S_impl_Part) × Int × Int × S_impl_Value × (List S_impl_Value)) (fun z : (List S_impl_Value) × (List S_impl_Part) × Int × Int × S_impl_Value × (List S_impl_Value) => [(0, (e_Limpl_Value z.1)), (4, (.ptr 4 0 0)), (5, (.own 1005 0 (z.2.2.2.2.2).length)), (10, (e_Limpl_Part z.2.1)), (11, (e_int z.2.2.1)), (12, (e_int z.2.2.2.1))]) (fun z : (List S_impl_Value) × (List S_impl_Part) × Int × Int × S_impl_Value × (List S_impl_Value) => [(4, (vob 3 e_impl_Value z.2.2.2.2.1)), (1005, (lob 3 e_impl_Value z.2.2.2.2.2))]) (fun n1 (z : (List S_impl_Value) × (List S_impl_Part) × Int × Int × S_impl_Value × (List S_impl_Value)) => m_impl_exprValue_l1  n1 z.1 z.2.1 z.2.2.1 z.2.2.2.1 z.2.2.2.2.1 z.2.2.2.2.2) r _ (a0, a1, (a1.length : Int), (0 : Int), (⟨(0 : Int), (0 : Int), (⟨#[]⟩ : ByteArray)⟩ : S_impl_Value), ([] : (List S_impl_Value))) h (fun _ => rfl) (fun _ => by simp [hkeys]) ⟨rfl, rfl, rfl, rfl, rfl, rfl, trivial⟩ ⟨rfl, rfl, trivial⟩ ?_
   rintro n1 ⟨t0, t10, t11, t12, o4, o1005⟩ h N5 hN5
   replace h : m_impl_exprValue_l1  (n1 + 1) t0 t10 t11 t12 o4 o1005 = some _ := h
   refine LWP.seq_k fun N7 hN7 => ?_
   refine LWP.region (l := [_]) ?_
   refine LWo.int _ rfl rfl rfl (hn := ?_)
   refine LWo.nil (hN7 _ ?_)
   refine LWP.seq_k fun N8 hN8 => ?_
   refine LWP.cond_split rfl (fun h9 => ?_) (fun h9 => ?_)
   ·have h := bT h9 h
    refine LWP.skip (hN8 _ ?_)
    refine LWP.seq_k fun N10 hN10 => ?_
    refine LWP.block ?_
    refine LWP.seq_k fun N11 hN11 => ?_
    refine LWP.region (l := [_,_,_,_]) ?_
    refine bk h fun x12 e12 h => ?_
    refine LWo.indexM (f := e_impl_Part) e12 u_Limpl_Part s_impl_Part rfl rfl (hn := ?_)
    refine LWo.loadN ((e_impl_Part x12)).cells g_impl_Part s_impl_Part rfl (Nat.le_of_ble_eq_true rfl) rfl (hn := ?_)
    refine LWo.alloc_impl_Part 7 rfl (hn := ?_)
    refine lk h fun y13 e13 h => ?_
    refine LWo.storeW (y := (⟨(0 : Int), (0 : Int), (⟨(0 : Int), (0 : Int), (⟨#[]⟩ : ByteArray)⟩ : S_impl_Value)⟩ : S_impl_Part)) y13 s_impl_Part rfl rfl rfl rfl rfl rfl (by rw [e13]; exact .refl) rfl (hn := ?_)
    refine LWo.nil (hN11 _ ?_)
    refine LWP.seq_k fun N14 hN14 => ?_
    refine LWP.region (l := [_,_,_,_,_,_]) ?_
    refine LWo.move (.own 1005 0 (o1005).length) rfl (hn := ?_)
    refine LWo.lenO u_Limpl_Value rfl (hn := ?_)
    refine LWo.loadVN ((e_impl_Part y13)).cells  g_impl_Part s_impl_Part rfl rfl rfl rfl (hn := ?_)
    refine bk h fun x15 e15 h => ?_
    refine LWo.vcall rfl rfl (c_impl_Part_takes _ _ e15) (.same (.nil)) (hn := ?_)
    refine bk h fun x16 e16 h => ?_
    refine LWo.int _ rfl rfl (sub_ck e16) (hn := ?_)
    refine LWo.assign (e_int x16) rfl (hn := ?_)
    refine LWo.nil (hN14 _ ?_)
    refine LWP.seq_k fun N17 hN17 => ?_
    refine bk h fun u18 e18 h => ?_
    refine bk h fun u19 e19 h => ?_
    refine bk h fun x20 e20 h => ?_
    refine lk h fun y21 e21 h => ?_
    refine LWP.drawF (l := [_,_,_,_,_,_,_,_]) [(9, 9)] [0, 4, 5, 7, 8, 10, 11, 12] [([7], [7]), ([0], []), ([5], []), ([8], []), ([23, 24], [1005]), ([21, 22, 25], [1005]), ([], []), ([9, 26], [9])] [0, 4, 5, 8, 9, 10, 11, 12] [4, 9, 1005] mixed (by kernel_rfl) rfl (by decide) ?_
    refine dq 21 rfl (fun _ g u h => LWo.loadVN ((e_impl_Part y13)).cells  g_impl_Part s_impl_Part u.1 h.1 rfl rfl (hn := .nil (zn g))) ?_
    refine dq 22 rfl (fun _ g u h => LWo.move (e_Limpl_Value t0) u.1 (hn := .nil (zn g))) ?_
    refine dq 23 rfl (fun _ g u h => LWo.move (.own 1005 0 (o1005).length) u.1 (hn := .nil (zn g))) ?_
    refine dq 24 rfl (fun _ g u h => LWo.move (e_int x16) u.1 (hn := .nil (zn g))) ?_
    refine dq 25 rfl (fun _ g u h => LWo.cutOM e18 u_Limpl_Value s_impl_Value u.1 h.1 ⟨_, u.2.1⟩ rfl (hn := .nil (zn g))) ?_
    refine dq 26 rfl (fun _ g u h => LWo.wcall rfl (av3 u.1 u.2.1 u.2.2.1) (c_impl_Part_value _ _ _ _ e20) (.same (.same (.viewT h.1 (leN_b e19) rfl (.nil)))) rfl (hn := .nil (zn g))) ?_
    refine ⟨rfl, .make 9 _ 9 _, (by exact (goodC rfl goodN)), fun _ g u h => LWo.alloc_impl_Value 9 (lone_of g rfl) (hn := LWo.nil ⟨rfl, .inl rfl, Ef.good_ok (e := .make 9 _ 9 _) (by exact (goodC rfl goodN)) g⟩), ?_⟩
    refine ⟨rfl, .upd none .junk 9 _, (by exact (goodC rfl goodN)), fun _ g u h => LWo.storeW (y := (⟨(0 : Int), (0 : Int), (⟨#[]⟩ : ByteArray)⟩ : S_impl_Value)) y21 s_impl_Value u.1 u.2.1 rfl rfl h.1 rfl (by rw [e21]; exact .refl) rfl (hn := LWo.nil ⟨rfl, .inl rfl, Ef.good_ok (e := .upd none .junk 9 _) (by exact (goodC rfl goodN)) g⟩), ?_⟩
    refine ⟨rfl, by kernel_rfl, hN17 _ ?_⟩
    refine bk h fun u22 e22 h => ?_
    refine bk h fun x23 e23 h => ?_
    refine LWP.drawF (l := [_,_,_,_,_,_,_]) [(1005, 1005)] [0, 4, 5, 8, 9, 10, 11, 12] [([5], []), ([8], []), ([27, 28], [1005]), ([9], [9]), ([30], []), ([29, 31], [1005]), ([32], [])] [0, 4, 5, 10, 11, 12] [4, 1005] mixed (by kernel_rfl) rfl (by decide) ?_
    refine dq 27 rfl (fun _ g u h => LWo.move (.own 1005 0 (o1005).length) u.1 (hn := .nil (zn g))) ?_
    refine dq 28 rfl (fun _ g u h => LWo.move (e_int x16) u.1 (hn := .nil (zn g))) ?_
    refine dq 29 rfl (fun _ g u h => LWo.cutOM e22 u_Limpl_Value s_impl_Value u.1 h.1 rfl ⟨_, u.2.1⟩ (hn := .nil (zn g))) ?_
    refine dq 30 rfl (fun _ g u h => LWo.loadVN ((e_impl_Value y21)).cells  g_impl_Value s_impl_Value u.1 h.1 rfl rfl (hn := .nil (zn g))) ?_
    refine dq 31 rfl (fun _ g u h => LWo.lit (ops := [_]) [(e_impl_Value y21)] u_Limpl_Value s_impl_Value z_impl_Value (lv1 u.1) rfl rfl rfl rfl rfl (hn := .nil (zn g))) ?_
    refine ⟨rfl, .make 32 _ 1005 _, (by exact (goodC rfl goodN)), fun _ g u h => LWo.appendT (f := e_impl_Value) e23 u_Limpl_Value u_Limpl_Value (fun _ h => by cases h) s_impl_Value i_impl_Value rfl u.1 h.1 (.m (.sl u.2.1)) (lone_of g rfl) rfl (hn := LWo.nil ⟨rfl, .inl rfl, Ef.good_ok (e := .make 32 _ 1005 _) (by exact (goodC rfl goodN)) g⟩), ?_⟩
    refine dq 5 rfl (fun _ g u h => LWo.assign (.own 1005 0 (x23).length) u.1 (hn := .nil (zn g))) ?_
    refine ⟨rfl, by kernel_rfl, hN10 _ ?_⟩
    refine LWP.region (l := [_,_]) ?_
    refine bk h fun x24 e24 h => ?_
    refine LWo.int _ rfl rfl (add_ck e24) (hn := ?_)
    refine LWo.move (e_int x24) rfl (hn := ?_)
    refine LWo.nil (hN5 (t0, t10, t11, x24, o4, x23) _ ⟨rfl, rfl, rfl, rfl, rfl, rfl, trivial⟩ ⟨rfl, rfl, trivial⟩ h)
   ·have h := bF h9 h
    refine LWP.exit (hN3 (o4, o1005) _ ⟨rfl, rfl, trivial⟩ ⟨rfl, rfl, trivial⟩ h)
end Go.Proofs.Ytgepipglchpabaa
