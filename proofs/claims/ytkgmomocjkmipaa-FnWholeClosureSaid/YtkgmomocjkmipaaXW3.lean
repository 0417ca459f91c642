/- Mirrors of functions, and that the functions return what the mirrors say. -/
import Derived.Test.YtkgmomocjkmipaaXW2
set_option linter.unusedVariables false
set_option linter.unusedSimpArgs false
set_option linter.unnecessarySimpa false
namespace Go.Proofs.Ytkgmomocjkmipaa
open Go.Proofs Go.Lift Go.RowKit
def m_laws_manyPairs_j3 (t5 : Int) : Option Int :=
  some t5
def m_laws_manyPairs_j2 (k1 : (List S_impl_Pair) → (List S_impl_Pair) → Int → Int → Option Int) (t0 : (List S_impl_Pair)) (t1 : (List S_impl_Pair)) (t5 : Int) (t6 : Int) : Option Int :=
  (ckI (t6 + (1 : Int))).bind fun x24 =>
  k1 t0 t1 t5 x24
def m_laws_manyPairs_j1 (k1 : (List S_impl_Pair) → (List S_impl_Pair) → Int → Int → Option Int) (k2 : (List S_impl_Pair) → (List S_impl_Pair) → Int → Int → Int → Option Int) (t0 : (List S_impl_Pair)) (t1 : (List S_impl_Pair)) (t5 : Int) (t6 : Int) (t7 : Int) : Option Int :=
  (ckI (t7 + (1 : Int))).bind fun x23 =>
  k2 t0 t1 t5 t6 x23
def m_laws_manyPairs_l2 (k1 : (List S_impl_Pair) → (List S_impl_Pair) → Int → Int → Option Int) : Nat → (List S_impl_Pair) → (List S_impl_Pair) → Int → Int → Int → Option Int
  | 0, _, _, _, _, _ => none
  | n2 + 1, t0, t1, t5, t6, t7 =>
    bif decide (t7 < (t1.length : Int)) then ((at? t0 t6).bind fun x19 =>
    (at? t1 t7).bind fun x20 =>
    bif (decide (x19 = x20)) then ((ckI (t5 + (1 : Int))).bind fun x22 =>
      m_laws_manyPairs_j1  k1 (m_laws_manyPairs_l2  k1 n2) t0 t1 x22 t6 t7)
    else (m_laws_manyPairs_j1  k1 (m_laws_manyPairs_l2  k1 n2) t0 t1 t5 t6 t7))
    else (m_laws_manyPairs_j2  k1 t0 t1 t5 t6)
def m_laws_manyPairs_l1 : Nat → (List S_impl_Pair) → (List S_impl_Pair) → Int → Int → Option Int
  | 0, _, _, _, _ => none
  | n1 + 1, t0, t1, t5, t6 =>
    bif decide (t6 < (t0.length : Int)) then (m_laws_manyPairs_l2  (m_laws_manyPairs_l1  n1) (((t1.length : Int) - (0 : Int)).toNat + 1) t0 t1 t5 t6 (0 : Int))
    else (m_laws_manyPairs_j3  t5)
def m_laws_manyPairs (a0 : (List S_impl_Pair)) (a1 : (List S_impl_Pair)) : Option Int :=
  m_laws_manyPairs_l1  (((a0.length : Int) - (0 : Int)).toNat + 1) a0 a1 (0 : Int) (0 : Int)
theorem c_laws_manyPairs (a0 : (List S_impl_Pair)) (a1 : (List S_impl_Pair)) (r : Int) (h : m_laws_manyPairs a0 a1 = some r) : Ret Try.prog f_laws_manyPairs [e_Limpl_Pair a0, e_Limpl_Pair a1] (e_int r) := by
  refine Does.goG [] F_laws_manyPairs rfl e_laws_manyPairs n_laws_manyPairs rfl (rvs := [.tmp 4]) rfl rfl ?_
  intro w0 ok0 lent ρ0
  refine LWP.seq_k fun N1 hN1 => ?_
  refine LWP.region (l := [_]) ?_
  refine LWo.assign (e_int (0 : Int)) rfl (hn := ?_)
  refine LWo.nil (hN1 _ ?_)
  refine LWP.seq_k fun N2 hN2 => ?_
  refine LWP.region (l := [_]) ?_
  refine LWo.assign (e_int (0 : Int)) rfl (hn := ?_)
  refine LWo.nil (hN2 _ ?_)
  refine LWP.join (α := Int) (fun z : Int => [(5, (e_int z))]) (fun z : Int => []) (fun z : Int => m_laws_manyPairs_j3  z) r (fun _ => by simp [hkeys]) ?_ ?_
  ·rintro t5 h
   replace h : m_laws_manyPairs_j3  t5 = some _ := h
   refine LWP.seq_k fun N25 hN25 => ?_
   refine LWP.region (l := [_,_]) ?_
   refine LWo.move (e_int t5) rfl (hn := ?_)
   refine LWo.assign (e_int t5) rfl (hn := ?_)
   refine LWo.nil (hN25 _ ?_)
   obtain rfl := Option.some.inj h
   refine LWP.ret (QG.mk (.inr rfl) (.cons (.tmp (x := (e_int t5)) rfl) (.nil)) (RetOK.one0 (.pure rfl) (by decide)) rfl rfl)
  ·intro N3 hN3
   refine LWP.seq_k fun N4 hN4 => ?_
   refine LWP.region (l := [_]) ?_
   refine LWo.assign (e_int (0 : Int)) rfl (hn := ?_)
   refine LWo.nil (hN4 _ ?_)
   refine LWP.block ?_
   refine LWP.loopM (α := (List S_impl_Pair) × (List S_impl_Pair) × Int × Int) (fun z : (List S_impl_Pair) × (List S_impl_Pair) × Int × Int => [(0, (e_Limpl_Pair z.1)), (1, (e_Limpl_Pair z.2.1)), (5, (e_int z.2.2.1)), (6, (e_int z.2.2.2))]) (fun z : (List S_impl_Pair) × (List S_impl_Pair) × Int × Int => []) (fun n1 (z : (List S_impl_Pair) × (List S_impl_Pair) × Int × Int) => m_laws_manyPairs_l1  n1 z.1 z.2.1 z.2.2.1 z.2.2.2) r _ (a0, a1, (0 : Int), (0 : Int)) h (fun _ => rfl) (fun _ => by simp [hkeys]) ⟨rfl, rfl, rfl, rfl, trivial⟩ trivial ?_
   rintro n1 ⟨t0, t1, t5, t6⟩ h N5 hN5
   replace h : m_laws_manyPairs_l1  (n1 + 1) t0 t1 t5 t6 = some _ := h
   refine LWP.seq_k fun N7 hN7 => ?_
   refine LWP.seq_k fun N8 hN8 => ?_
   refine LWP.region (l := [_,_,_,_]) ?_
   refine LWo.move (e_int t6) rfl (hn := ?_)
   refine LWo.move (e_Limpl_Pair t0) rfl (hn := ?_)
   refine LWo.lenM (f := e_impl_Pair) (l := t0) u_Limpl_Pair rfl (hn := ?_)
   refine LWo.int _ rfl rfl rfl (hn := ?_)
   refine LWo.nil (hN8 _ ?_)
   refine LWP.cond_split rfl (fun h9 => ?_) (fun h9 => ?_)
   ·have h := bT h9 h
    refine LWP.skip (hN7 _ ?_)
    refine LWP.join (α := (List S_impl_Pair) × (List S_impl_Pair) × Int × Int) (fun z : (List S_impl_Pair) × (List S_impl_Pair) × Int × Int => [(0, (e_Limpl_Pair z.1)), (1, (e_Limpl_Pair z.2.1)), (5, (e_int z.2.2.1)), (6, (e_int z.2.2.2))]) (fun z : (List S_impl_Pair) × (List S_impl_Pair) × Int × Int => []) (fun z : (List S_impl_Pair) × (List S_impl_Pair) × Int × Int => m_laws_manyPairs_j2  (m_laws_manyPairs_l1  n1) z.1 z.2.1 z.2.2.1 z.2.2.2) r (fun _ => by simp [hkeys]) ?_ ?_
    ·rintro ⟨t0, t1, t5, t6⟩ h
     replace h : m_laws_manyPairs_j2  (m_laws_manyPairs_l1  n1) t0 t1 t5 t6 = some _ := h
     refine LWP.region (l := [_,_,_]) ?_
     refine LWo.move (e_int t6) rfl (hn := ?_)
     refine bk h fun x24 e24 h => ?_
     refine LWo.int _ rfl rfl (add_ck e24) (hn := ?_)
     refine LWo.assign (e_int x24) rfl (hn := ?_)
     refine LWo.nil (hN5 (t0, t1, t5, x24) _ ⟨rfl, rfl, rfl, rfl, trivial⟩ trivial h)
    ·intro N10 hN10
     refine LWP.block ?_
     refine LWP.seq_k fun N11 hN11 => ?_
     refine LWP.region (l := [_]) ?_
     refine LWo.assign (e_int (0 : Int)) rfl (hn := ?_)
     refine LWo.nil (hN11 _ ?_)
     refine LWP.block ?_
     refine LWP.loopM (α := (List S_impl_Pair) × (List S_impl_Pair) × Int × Int × Int) (fun z : (List S_impl_Pair) × (List S_impl_Pair) × Int × Int × Int => [(0, (e_Limpl_Pair z.1)), (1, (e_Limpl_Pair z.2.1)), (5, (e_int z.2.2.1)), (6, (e_int z.2.2.2.1)), (7, (e_int z.2.2.2.2))]) (fun z : (List S_impl_Pair) × (List S_impl_Pair) × Int × Int × Int => []) (fun n2 (z : (List S_impl_Pair) × (List S_impl_Pair) × Int × Int × Int) => m_laws_manyPairs_l2  (m_laws_manyPairs_l1  n1) n2 z.1 z.2.1 z.2.2.1 z.2.2.2.1 z.2.2.2.2) r _ (t0, t1, t5, t6, (0 : Int)) h (fun _ => rfl) (fun _ => by simp [hkeys]) ⟨rfl, rfl, rfl, rfl, rfl, trivial⟩ trivial ?_
     rintro n2 ⟨t0, t1, t5, t6, t7⟩ h N12 hN12
     replace h : m_laws_manyPairs_l2  (m_laws_manyPairs_l1  n1) (n2 + 1) t0 t1 t5 t6 t7 = some _ := h
     refine LWP.seq_k fun N14 hN14 => ?_
     refine LWP.seq_k fun N15 hN15 => ?_
     refine LWP.region (l := [_,_,_,_]) ?_
     refine LWo.move (e_int t7) rfl (hn := ?_)
     refine LWo.move (e_Limpl_Pair t1) rfl (hn := ?_)
     refine LWo.lenM (f := e_impl_Pair) (l := t1) u_Limpl_Pair rfl (hn := ?_)
     refine LWo.int _ rfl rfl rfl (hn := ?_)
     refine LWo.nil (hN15 _ ?_)
     refine LWP.cond_split rfl (fun h16 => ?_) (fun h16 => ?_)
     ·have h := bT h16 h
      refine LWP.skip (hN14 _ ?_)
      refine LWP.join (α := (List S_impl_Pair) × (List S_impl_Pair) × Int × Int × Int) (fun z : (List S_impl_Pair) × (List S_impl_Pair) × Int × Int × Int => [(0, (e_Limpl_Pair z.1)), (1, (e_Limpl_Pair z.2.1)), (5, (e_int z.2.2.1)), (6, (e_int z.2.2.2.1)), (7, (e_int z.2.2.2.2))]) (fun z : (List S_impl_Pair) × (List S_impl_Pair) × Int × Int × Int => []) (fun z : (List S_impl_Pair) × (List S_impl_Pair) × Int × Int × Int => m_laws_manyPairs_j1  (m_laws_manyPairs_l1  n1) (m_laws_manyPairs_l2  (m_laws_manyPairs_l1  n1) n2) z.1 z.2.1 z.2.2.1 z.2.2.2.1 z.2.2.2.2) r (fun _ => by simp [hkeys]) ?_ ?_
      ·rintro ⟨t0, t1, t5, t6, t7⟩ h
       replace h : m_laws_manyPairs_j1  (m_laws_manyPairs_l1  n1) (m_laws_manyPairs_l2  (m_laws_manyPairs_l1  n1) n2) t0 t1 t5 t6 t7 = some _ := h
       refine LWP.region (l := [_,_,_]) ?_
       refine LWo.move (e_int t7) rfl (hn := ?_)
       refine bk h fun x23 e23 h => ?_
       refine LWo.int _ rfl rfl (add_ck e23) (hn := ?_)
       refine LWo.assign (e_int x23) rfl (hn := ?_)
       refine LWo.nil (hN12 (t0, t1, t5, t6, x23) _ ⟨rfl, rfl, rfl, rfl, rfl, trivial⟩ trivial h)
      ·intro N17 hN17
       refine LWP.block ?_
       refine LWP.seq_k fun N18 hN18 => ?_
       refine bk h fun x19 e19 h => ?_
       refine bk h fun x20 e20 h => ?_
       refine LWP.drawF (l := [_,_,_,_,_,_,_,_,_]) [] [0, 1, 5, 6, 7] [([0], []), ([6], []), ([20, 21], []), ([22], []), ([1], []), ([7], []), ([24, 25], []), ([26], []), ([23, 27], [])] [0, 1, 5, 6, 7, 28] [] mixed (by kernel_rfl) rfl (by decide) ?_
       refine dq 20 rfl (fun _ g u h => LWo.move (e_Limpl_Pair t0) u.1 (hn := .nil (zn g))) ?_
       refine dq 21 rfl (fun _ g u h => LWo.move (e_int t6) u.1 (hn := .nil (zn g))) ?_
       refine dq 22 rfl (fun _ g u h => LWo.indexM (f := e_impl_Pair) e19 u_Limpl_Pair s_impl_Pair u.1 u.2.1 (hn := .nil (zn g))) ?_
       refine dq 23 rfl (fun _ g u h => LWo.loadN ((e_impl_Pair x19)).cells g_impl_Pair s_impl_Pair u.1 (Nat.le_of_ble_eq_true rfl) rfl (hn := .nil (zn g))) ?_
       refine dq 24 rfl (fun _ g u h => LWo.move (e_Limpl_Pair t1) u.1 (hn := .nil (zn g))) ?_
       refine dq 25 rfl (fun _ g u h => LWo.move (e_int t7) u.1 (hn := .nil (zn g))) ?_
       refine dq 26 rfl (fun _ g u h => LWo.indexM (f := e_impl_Pair) e20 u_Limpl_Pair s_impl_Pair u.1 u.2.1 (hn := .nil (zn g))) ?_
       refine dq 27 rfl (fun _ g u h => LWo.loadN ((e_impl_Pair x20)).cells g_impl_Pair s_impl_Pair u.1 (Nat.le_of_ble_eq_true rfl) rfl (hn := .nil (zn g))) ?_
       refine dq 28 rfl (fun _ g u h => LWo.eq_impl_Pair _ _ u.1 u.2.1 (hn := .nil (zn g))) ?_
       refine ⟨rfl, by kernel_rfl, hN18 _ ?_⟩
       refine LWP.cond_split rfl (fun h21 => ?_) (fun h21 => ?_)
       ·have h := bT h21 h
        refine LWP.region (l := [_,_,_]) ?_
        refine LWo.move (e_int t5) rfl (hn := ?_)
        refine bk h fun x22 e22 h => ?_
        refine LWo.int _ rfl rfl (add_ck e22) (hn := ?_)
        refine LWo.assign (e_int x22) rfl (hn := ?_)
        refine LWo.nil (hN17 (t0, t1, x22, t6, t7) _ ⟨rfl, rfl, rfl, rfl, rfl, trivial⟩ trivial h)
       ·have h := bF h21 h
        refine LWP.skip (hN17 (t0, t1, t5, t6, t7) _ ⟨rfl, rfl, rfl, rfl, rfl, trivial⟩ trivial h)
     ·have h := bF h16 h
      refine LWP.exit (hN10 (t0, t1, t5, t6) _ ⟨rfl, rfl, rfl, rfl, trivial⟩ trivial h)
   ·have h := bF h9 h
    refine LWP.exit (hN3 t5 _ ⟨rfl, trivial⟩ trivial h)

def m_impl_letters_j1  : Option Bool :=
  some true
def m_impl_letters_l1 : Nat → (List UInt8) → Int → Int → Option Bool
  | 0, _, _, _ => none
  | n1 + 1, t6, t7, t8 =>
    bif decide (t8 < t7) then ((at? t6 t8).bind fun x12 =>
    (m_impl_between (x12.toNat : Int) (97 : Int) (122 : Int)).bind fun x14 =>
    bif (!x14) then (some false)
    else ((ckI (t8 + (1 : Int))).bind fun x17 =>
    (m_impl_letters_l1  n1) t6 t7 x17))
    else (m_impl_letters_j1  )
def m_impl_letters (a0 : ByteArray) : Option Bool :=
  (sBytes? a0).bind fun x4 =>
  m_impl_letters_l1  (((x4.length : Int) - (0 : Int)).toNat + 1) x4 (x4.length : Int) (0 : Int)
theorem c_impl_letters (a0 : ByteArray) (r : Bool) (h : m_impl_letters a0 = some r) : Ret Try.prog f_impl_letters [e_string a0] (e_bool r) := by
  refine Does.goG [] F_impl_letters rfl e_impl_letters n_impl_letters rfl (rvs := [.tmp 2]) rfl rfl ?_
  intro w0 ok0 lent ρ0
  refine LWP.seq_k fun N1 hN1 => ?_
  refine LWP.region (l := [_]) ?_
  refine LWo.assign (e_bool false) rfl (hn := ?_)
  refine LWo.nil (hN1 _ ?_)
  refine LWP.join (α := Unit) (fun z : Unit => []) (fun z : Unit => []) (fun z : Unit => m_impl_letters_j1  ) r (fun _ => by simp [hkeys]) ?_ ?_
  ·rintro _ h
   replace h : m_impl_letters_j1   = some _ := h
   refine LWP.seq_k fun N18 hN18 => ?_
   refine LWP.region (l := [_]) ?_
   refine LWo.assign (e_bool true) rfl (hn := ?_)
   refine LWo.nil (hN18 _ ?_)
   obtain rfl := Option.some.inj h
   refine LWP.ret (QG.mk (.inr rfl) (.cons (.tmp (x := (e_bool true)) rfl) (.nil)) (RetOK.one0 (.pure rfl) (by decide)) rfl rfl)
  ·intro N2 hN2
   refine LWP.seq_k fun N3 hN3 => ?_
   refine LWP.region (l := [_,_,_,_]) ?_
   refine LWo.move (e_string a0) rfl (hn := ?_)
   refine bk h fun x4 e4 h => ?_
   refine LWo.bytesM e4 u_string u_Luint8 u_uint8 rfl (hn := ?_)
   refine LWo.lenM (f := e_uint8) (l := x4) u_Luint8 rfl (hn := ?_)
   refine LWo.move (e_int (0 : Int)) rfl (hn := ?_)
   refine LWo.nil (hN3 _ ?_)
   refine LWP.block ?_
   refine LWP.loopM (α := (List UInt8) × Int × Int) (fun z : (List UInt8) × Int × Int => [(6, (e_Luint8 z.1)), (7, (e_int z.2.1)), (8, (e_int z.2.2))]) (fun z : (List UInt8) × Int × Int => []) (fun n1 (z : (List UInt8) × Int × Int) => m_impl_letters_l1  n1 z.1 z.2.1 z.2.2) r _ (x4, (x4.length : Int), (0 : Int)) h (fun _ => rfl) (fun _ => by simp [hkeys]) ⟨rfl, rfl, rfl, trivial⟩ trivial ?_
   rintro n1 ⟨t6, t7, t8⟩ h N5 hN5
   replace h : m_impl_letters_l1  (n1 + 1) t6 t7 t8 = some _ := h
   refine LWP.seq_k fun N7 hN7 => ?_
   refine LWP.region (l := [_]) ?_
   refine LWo.int _ rfl rfl rfl (hn := ?_)
   refine LWo.nil (hN7 _ ?_)
   refine LWP.seq_k fun N8 hN8 => ?_
   refine LWP.cond_split rfl (fun h9 => ?_) (fun h9 => ?_)
   ·have h := bT h9 h
    refine LWP.skip (hN8 _ ?_)
    refine LWP.seq_k fun N10 hN10 => ?_
    refine LWP.block ?_
    refine LWP.seq_k fun N11 hN11 => ?_
    refine LWP.region (l := [_,_,_]) ?_
    refine bk h fun x12 e12 h => ?_
    refine LWo.indexM (f := e_uint8) e12 u_Luint8 s_uint8 rfl rfl (hn := ?_)
    refine LWo.load1 (c := (e_uint8 x12)) g_uint8 rfl (hn := ?_)
    refine LWo.assign (e_uint8 x12) rfl (hn := ?_)
    refine LWo.nil (hN11 _ ?_)
    refine LWP.seq_k fun N13 hN13 => ?_
    refine LWP.region (l := [_,_,_,_]) ?_
    refine LWo.move (e_uint8 x12) rfl (hn := ?_)
    refine LWo.convByte _ u_uint8 u_int rfl (hn := ?_)
    refine bk h fun x14 e14 h => ?_
    refine LWo.vcall rfl rfl (c_impl_between _ _ _ _ e14) (.same (.same (.same (.nil)))) (hn := ?_)
    refine LWo.not rfl (hn := ?_)
    refine LWo.nil (hN13 _ ?_)
    refine LWP.cond_split rfl (fun h15 => ?_) (fun h15 => ?_)
    ·have h := bT h15 h
     refine LWP.seq_k fun N16 hN16 => ?_
     refine LWP.region (l := [_]) ?_
     refine LWo.assign (e_bool false) rfl (hn := ?_)
     refine LWo.nil (hN16 _ ?_)
     obtain rfl := Option.some.inj h
     refine LWP.ret (QG.mk (.inr rfl) (.cons (.tmp (x := (e_bool false)) rfl) (.nil)) (RetOK.one0 (.pure rfl) (by decide)) rfl rfl)
    ·have h := bF h15 h
     refine LWP.skip (hN10 _ ?_)
     refine LWP.region (l := [_,_]) ?_
     refine bk h fun x17 e17 h => ?_
     refine LWo.int _ rfl rfl (add_ck e17) (hn := ?_)
     refine LWo.move (e_int x17) rfl (hn := ?_)
     refine LWo.nil (hN5 (t6, t7, x17) _ ⟨rfl, rfl, rfl, trivial⟩ trivial h)
   ·have h := bF h9 h
    refine LWP.exit (hN2 () _ trivial trivial h)

def m_impl_Value_ok_j1 (t2 : Bool) : Option Bool :=
  some t2
def m_impl_Value_ok_j2 (t2 : Bool) : Option Bool :=
  some t2
def m_impl_Value_ok_j3 (t2 : Bool) : Option Bool :=
  some t2
def m_impl_Value_ok (a0 : S_impl_Value) : Option Bool :=
  bif (a0.Kind == (0 : Int)) then (some (decide (a0 = (⟨(0 : Int), (0 : Int), (⟨#[]⟩ : ByteArray)⟩ : S_impl_Value))))
  else (bif (a0.Kind == (1 : Int)) then (bif (sEq a0.S (⟨#[]⟩ : ByteArray)) then ((m_impl_between a0.N (-9999 : Int) (9999 : Int)).bind fun x11 =>
        m_impl_Value_ok_j1  x11)
      else (m_impl_Value_ok_j1  false))
    else (bif (a0.Kind == (2 : Int)) then (bif (a0.N == (0 : Int)) then (bif decide ((a0.S.size : Int) ≤ (6 : Int)) then ((m_impl_letters a0.S).bind fun x17 =>
            m_impl_Value_ok_j2  x17)
          else (m_impl_Value_ok_j2  false))
        else (m_impl_Value_ok_j2  false))
      else (bif (a0.Kind == (3 : Int)) then (bif (sEq a0.S (⟨#[]⟩ : ByteArray)) then ((m_impl_between a0.N (0 : Int) (1 : Int)).bind fun x22 =>
            m_impl_Value_ok_j3  x22)
          else (m_impl_Value_ok_j3  false))
        else (some false))))
theorem c_impl_Value_ok (a0 : S_impl_Value) (r : Bool) (h : m_impl_Value_ok a0 = some r) : Ret Try.prog f_impl_Value_ok [e_impl_Value a0] (e_bool r) := by
  refine Does.goG [] F_impl_Value_ok rfl e_impl_Value_ok n_impl_Value_ok rfl (rvs := [.tmp 2]) rfl rfl ?_
  intro w0 ok0 lent ρ0
  refine LWP.seq_k fun N1 hN1 => ?_
  refine LWP.region (l := [_,_]) ?_
  refine LWo.boxF (e_impl_Value a0) rfl rfl rfl (hn := ?_)
  refine LWo.assign (e_bool false) rfl (hn := ?_)
  refine LWo.nil (hN1 _ ?_)
  refine LWP.seq_k fun N2 hN2 => ?_
  refine LWP.seq_k fun N3 hN3 => ?_
  refine LWP.region (l := [_,_]) ?_
  refine LWo.fieldAddr _ u_impl_Value rfl s_int rfl rfl (hn := ?_)
  refine LWo.load1 (c := (e_int a0.Kind)) g_int rfl (hn := ?_)
  refine LWo.nil (hN3 _ ?_)
  refine LWP.block ?_
  refine LWP.seq_k fun N4 hN4 => ?_
  refine LWP.region (l := [_,_]) ?_
  refine LWo.int _ rfl rfl rfl (hn := ?_)
  refine LWo.assign (e_bool (a0.Kind == (0 : Int))) rfl (hn := ?_)
  refine LWo.nil (hN4 _ ?_)
  refine LWP.cond_split rfl (fun h5 => ?_) (fun h5 => ?_)
  ·have h := bT h5 h
   refine LWP.seq_k fun N6 hN6 => ?_
   refine LWP.region (l := [_,_,_,_]) ?_
   refine LWo.loadN ((e_impl_Value a0)).cells g_impl_Value s_impl_Value rfl (Nat.le_of_ble_eq_true rfl) rfl (hn := ?_)
   refine LWo.build_impl_Value (parts := []) (⟨(0 : Int), (0 : Int), (⟨#[]⟩ : ByteArray)⟩ : S_impl_Value) rfl rfl rfl .refl (hn := ?_)
   refine LWo.eq_impl_Value _ _ rfl rfl (hn := ?_)
   refine LWo.assign (e_bool (decide (a0 = (⟨(0 : Int), (0 : Int), (⟨#[]⟩ : ByteArray)⟩ : S_impl_Value)))) rfl (hn := ?_)
   refine LWo.nil (hN6 _ ?_)
   obtain rfl := Option.some.inj h
   refine LWP.ret (QG.mk (.inr rfl) (.cons (.tmp (x := (e_bool (decide (a0 = (⟨(0 : Int), (0 : Int), (⟨#[]⟩ : ByteArray)⟩ : S_impl_Value))))) rfl) (.nil)) (RetOK.one0 (.pure rfl) (by decide)) rfl rfl)
  ·have h := bF h5 h
   refine LWP.seq_k fun N7 hN7 => ?_
   refine LWP.region (l := [_,_]) ?_
   refine LWo.int _ rfl rfl rfl (hn := ?_)
   refine LWo.assign (e_bool (a0.Kind == (1 : Int))) rfl (hn := ?_)
   refine LWo.nil (hN7 _ ?_)
   refine LWP.cond_split rfl (fun h8 => ?_) (fun h8 => ?_)
   ·have h := bT h8 h
    refine LWP.join (α := Bool) (fun z : Bool => [(2, (e_bool z))]) (fun z : Bool => []) (fun z : Bool => m_impl_Value_ok_j1  z) r (fun _ => by simp [hkeys]) ?_ ?_
    ·rintro t2 h
     replace h : m_impl_Value_ok_j1  t2 = some _ := h
     obtain rfl := Option.some.inj h
     refine LWP.ret (QG.mk (.inr rfl) (.cons (.tmp (x := (e_bool t2)) rfl) (.nil)) (RetOK.one0 (.pure rfl) (by decide)) rfl rfl)
    ·intro N9 hN9
     refine LWP.region (l := [_,_,_,_,_,_,_,_,_]) ?_
     refine LWo.fieldAddr _ u_impl_Value rfl s_string rfl rfl (hn := ?_)
     refine LWo.load1 (c := (e_string a0.S)) g_string rfl (hn := ?_)
     refine LWo.str _ rfl rfl rfl (hn := ?_)
     refine LWo.move (e_bool (sEq a0.S (⟨#[]⟩ : ByteArray))) rfl (hn := ?_)
     refine LWo.byCases (t := 15) _ rfl (fun h10 => ?_) (fun h10 => ?_)
     ·have h := bT h10 h
      refine LWo.guardY (t := 15) rfl h10 rfl rfl ?_
      refine LWo.fieldAddr _ u_impl_Value rfl s_int rfl rfl (hn := ?_)
      refine LWo.guardY (t := 15) rfl h10 rfl rfl ?_
      refine LWo.load1 (c := (e_int a0.N)) g_int rfl (hn := ?_)
      refine bk h fun x11 e11 h => ?_
      refine LWo.guardY (t := 15) rfl h10 rfl rfl ?_
      refine LWo.vcall rfl rfl (c_impl_between _ _ _ _ e11) (.same (.same (.same (.nil)))) (hn := ?_)
      refine LWo.pickTM (e_bool x11) rfl h10 rfl (hn := ?_)
      refine LWo.assign (e_bool x11) rfl (hn := ?_)
      refine LWo.nil (hN9 x11 _ ⟨rfl, trivial⟩ trivial h)
     ·have h := bF h10 h
      refine LWo.guardNU (t := 15) rfl h10 rfl rfl rfl rfl rfl ?_
      refine LWo.guardNU (t := 15) rfl h10 rfl rfl rfl rfl rfl ?_
      refine LWo.guardNU (t := 15) rfl h10 rfl rfl rfl rfl rfl ?_
      refine LWo.pickFM (e_bool false) rfl h10 rfl (hn := ?_)
      refine LWo.assign (e_bool false) rfl (hn := ?_)
      refine LWo.nil (hN9 false _ ⟨rfl, trivial⟩ trivial h)
   ·have h := bF h8 h
    refine LWP.seq_k fun N12 hN12 => ?_
    refine LWP.region (l := [_,_]) ?_
    refine LWo.int _ rfl rfl rfl (hn := ?_)
    refine LWo.assign (e_bool (a0.Kind == (2 : Int))) rfl (hn := ?_)
    refine LWo.nil (hN12 _ ?_)
    refine LWP.cond_split rfl (fun h13 => ?_) (fun h13 => ?_)
    ·have h := bT h13 h
     refine LWP.join (α := Bool) (fun z : Bool => [(2, (e_bool z))]) (fun z : Bool => []) (fun z : Bool => m_impl_Value_ok_j2  z) r (fun _ => by simp [hkeys]) ?_ ?_
     ·rintro t2 h
      replace h : m_impl_Value_ok_j2  t2 = some _ := h
      obtain rfl := Option.some.inj h
      refine LWP.ret (QG.mk (.inr rfl) (.cons (.tmp (x := (e_bool t2)) rfl) (.nil)) (RetOK.one0 (.pure rfl) (by decide)) rfl rfl)
     ·intro N14 hN14
      refine LWP.region (l := [_,_,_,_,_,_,_,_,_,_,_,_,_,_,_]) ?_
      refine LWo.fieldAddr _ u_impl_Value rfl s_int rfl rfl (hn := ?_)
      refine LWo.load1 (c := (e_int a0.N)) g_int rfl (hn := ?_)
      refine LWo.int _ rfl rfl rfl (hn := ?_)
      refine LWo.move (e_bool (a0.N == (0 : Int))) rfl (hn := ?_)
      refine LWo.byCases (t := 25) _ rfl (fun h15 => ?_) (fun h15 => ?_)
      ·have h := bT h15 h
       refine LWo.guardY (t := 25) rfl h15 rfl rfl ?_
       refine LWo.fieldAddr _ u_impl_Value rfl s_string rfl rfl (hn := ?_)
       refine LWo.guardY (t := 25) rfl h15 rfl rfl ?_
       refine LWo.load1 (c := (e_string a0.S)) g_string rfl (hn := ?_)
       refine LWo.guardY (t := 25) rfl h15 rfl rfl ?_
       refine LWo.lenS u_string rfl (hn := ?_)
       refine LWo.guardY (t := 25) rfl h15 rfl rfl ?_
       refine LWo.int _ rfl rfl rfl (hn := ?_)
       refine LWo.pickTM (e_bool (decide ((a0.S.size : Int) ≤ (6 : Int)))) rfl h15 rfl (hn := ?_)
       refine LWo.move (e_bool (decide ((a0.S.size : Int) ≤ (6 : Int)))) rfl (hn := ?_)
       refine LWo.byCases (t := 31) _ rfl (fun h16 => ?_) (fun h16 => ?_)
       ·have h := bT h16 h
        refine LWo.guardY (t := 31) rfl h16 rfl rfl ?_
        refine LWo.fieldAddr _ u_impl_Value rfl s_string rfl rfl (hn := ?_)
        refine LWo.guardY (t := 31) rfl h16 rfl rfl ?_
        refine LWo.load1 (c := (e_string a0.S)) g_string rfl (hn := ?_)
        refine bk h fun x17 e17 h => ?_
        refine LWo.guardY (t := 31) rfl h16 rfl rfl ?_
        refine LWo.vcall rfl rfl (c_impl_letters _ _ e17) (.same (.nil)) (hn := ?_)
        refine LWo.pickTM (e_bool x17) rfl h16 rfl (hn := ?_)
        refine LWo.assign (e_bool x17) rfl (hn := ?_)
        refine LWo.nil (hN14 x17 _ ⟨rfl, trivial⟩ trivial h)
       ·have h := bF h16 h
        refine LWo.guardNU (t := 31) rfl h16 rfl rfl rfl rfl rfl ?_
        refine LWo.guardNU (t := 31) rfl h16 rfl rfl rfl rfl rfl ?_
        refine LWo.guardNU (t := 31) rfl h16 rfl rfl rfl rfl rfl ?_
        refine LWo.pickFM (e_bool false) rfl h16 rfl (hn := ?_)
        refine LWo.assign (e_bool false) rfl (hn := ?_)
        refine LWo.nil (hN14 false _ ⟨rfl, trivial⟩ trivial h)
      ·have h := bF h15 h
       refine LWo.guardNU (t := 25) rfl h15 rfl rfl rfl rfl rfl ?_
       refine LWo.guardNU (t := 25) rfl h15 rfl rfl rfl rfl rfl ?_
       refine LWo.guardNU (t := 25) rfl h15 rfl rfl rfl rfl rfl ?_
       refine LWo.guardNU (t := 25) rfl h15 rfl rfl rfl rfl rfl ?_
       refine LWo.pickFM (e_bool false) rfl h15 rfl (hn := ?_)
       refine LWo.move (e_bool false) rfl (hn := ?_)
       refine LWo.guardNU (t := 31) rfl rfl rfl rfl rfl rfl rfl ?_
       refine LWo.guardNU (t := 31) rfl rfl rfl rfl rfl rfl rfl ?_
       refine LWo.guardNU (t := 31) rfl rfl rfl rfl rfl rfl rfl ?_
       refine LWo.pickFM (e_bool false) rfl rfl rfl (hn := ?_)
       refine LWo.assign (e_bool false) rfl (hn := ?_)
       refine LWo.nil (hN14 false _ ⟨rfl, trivial⟩ trivial h)
    ·have h := bF h13 h
     refine LWP.seq_k fun N18 hN18 => ?_
     refine LWP.region (l := [_,_]) ?_
     refine LWo.int _ rfl rfl rfl (hn := ?_)
     refine LWo.assign (e_bool (a0.Kind == (3 : Int))) rfl (hn := ?_)
     refine LWo.nil (hN18 _ ?_)
     refine LWP.cond_split rfl (fun h19 => ?_) (fun h19 => ?_)
     ·have h := bT h19 h
      refine LWP.join (α := Bool) (fun z : Bool => [(2, (e_bool z))]) (fun z : Bool => []) (fun z : Bool => m_impl_Value_ok_j3  z) r (fun _ => by simp [hkeys]) ?_ ?_
      ·rintro t2 h
       replace h : m_impl_Value_ok_j3  t2 = some _ := h
       obtain rfl := Option.some.inj h
       refine LWP.ret (QG.mk (.inr rfl) (.cons (.tmp (x := (e_bool t2)) rfl) (.nil)) (RetOK.one0 (.pure rfl) (by decide)) rfl rfl)
      ·intro N20 hN20
       refine LWP.region (l := [_,_,_,_,_,_,_,_,_]) ?_
       refine LWo.fieldAddr _ u_impl_Value rfl s_string rfl rfl (hn := ?_)
       refine LWo.load1 (c := (e_string a0.S)) g_string rfl (hn := ?_)
       refine LWo.str _ rfl rfl rfl (hn := ?_)
       refine LWo.move (e_bool (sEq a0.S (⟨#[]⟩ : ByteArray))) rfl (hn := ?_)
       refine LWo.byCases (t := 41) _ rfl (fun h21 => ?_) (fun h21 => ?_)
       ·have h := bT h21 h
        refine LWo.guardY (t := 41) rfl h21 rfl rfl ?_
        refine LWo.fieldAddr _ u_impl_Value rfl s_int rfl rfl (hn := ?_)
        refine LWo.guardY (t := 41) rfl h21 rfl rfl ?_
        refine LWo.load1 (c := (e_int a0.N)) g_int rfl (hn := ?_)
        refine bk h fun x22 e22 h => ?_
        refine LWo.guardY (t := 41) rfl h21 rfl rfl ?_
        refine LWo.vcall rfl rfl (c_impl_between _ _ _ _ e22) (.same (.same (.same (.nil)))) (hn := ?_)
        refine LWo.pickTM (e_bool x22) rfl h21 rfl (hn := ?_)
        refine LWo.assign (e_bool x22) rfl (hn := ?_)
        refine LWo.nil (hN20 x22 _ ⟨rfl, trivial⟩ trivial h)
       ·have h := bF h21 h
        refine LWo.guardNU (t := 41) rfl h21 rfl rfl rfl rfl rfl ?_
        refine LWo.guardNU (t := 41) rfl h21 rfl rfl rfl rfl rfl ?_
        refine LWo.guardNU (t := 41) rfl h21 rfl rfl rfl rfl rfl ?_
        refine LWo.pickFM (e_bool false) rfl h21 rfl (hn := ?_)
        refine LWo.assign (e_bool false) rfl (hn := ?_)
        refine LWo.nil (hN20 false _ ⟨rfl, trivial⟩ trivial h)
     ·have h := bF h19 h
      refine LWP.skip (hN2 _ ?_)
      refine LWP.seq_k fun N23 hN23 => ?_
      refine LWP.region (l := [_]) ?_
      refine LWo.assign (e_bool false) rfl (hn := ?_)
      refine LWo.nil (hN23 _ ?_)
      obtain rfl := Option.some.inj h
      refine LWP.ret (QG.mk (.inr rfl) (.cons (.tmp (x := (e_bool false)) rfl) (.nil)) (RetOK.one0 (.pure rfl) (by decide)) rfl rfl)

def m_impl_ValueOk (a0 : S_impl_Value) : Option Bool :=
  (m_impl_Value_ok a0).bind fun x3 =>
  some x3
theorem c_impl_ValueOk (a0 : S_impl_Value) (r : Bool) (h : m_impl_ValueOk a0 = some r) : Ret Try.prog f_impl_ValueOk [e_impl_Value a0] (e_bool r) := by
  refine Does.goG [] F_impl_ValueOk rfl e_impl_ValueOk n_impl_ValueOk rfl (rvs := [.tmp 2]) rfl rfl ?_
  intro w0 ok0 lent ρ0
  refine LWP.seq_k fun N1 hN1 => ?_
  refine LWP.region (l := [_,_]) ?_
  refine LWo.boxF (e_impl_Value a0) rfl rfl rfl (hn := ?_)
  refine LWo.assign (e_bool false) rfl (hn := ?_)
  refine LWo.nil (hN1 _ ?_)
  refine LWP.seq_k fun N2 hN2 => ?_
  refine LWP.region (l := [_,_,_]) ?_
  refine LWo.loadN ((e_impl_Value a0)).cells g_impl_Value s_impl_Value rfl (Nat.le_of_ble_eq_true rfl) rfl (hn := ?_)
  refine bk h fun x3 e3 h => ?_
  refine LWo.vcall rfl rfl (c_impl_Value_ok _ _ e3) (.same (.nil)) (hn := ?_)
  refine LWo.assign (e_bool x3) rfl (hn := ?_)
  refine LWo.nil (hN2 _ ?_)
  obtain rfl := Option.some.inj h
  refine LWP.ret (QG.mk (.inr rfl) (.cons (.tmp (x := (e_bool x3)) rfl) (.nil)) (RetOK.one0 (.pure rfl) (by decide)) rfl rfl)

def m_laws_alive_j1 (t0 : Bool) : Option Bool :=
  some t0
def m_laws_alive  : Option Bool :=
  (m_impl_ValueOk (⟨(1 : Int), (3 : Int), (⟨#[]⟩ : ByteArray)⟩ : S_impl_Value)).bind fun x3 =>
  bif x3 then ((m_impl_ValueOk (⟨(9 : Int), (0 : Int), (⟨#[]⟩ : ByteArray)⟩ : S_impl_Value)).bind fun x5 =>
    m_laws_alive_j1  (!x5))
  else (m_laws_alive_j1  false)
theorem c_laws_alive  (r : Bool) (h : m_laws_alive  = some r) : Ret Try.prog f_laws_alive [] (e_bool r) := by
  refine Does.goG [] F_laws_alive rfl e_laws_alive n_laws_alive rfl (rvs := [.tmp 0]) rfl rfl ?_
  intro w0 ok0 lent ρ0
  refine LWP.seq_k fun N1 hN1 => ?_
  refine LWP.region (l := [_]) ?_
  refine LWo.assign (e_bool false) rfl (hn := ?_)
  refine LWo.nil (hN1 _ ?_)
  refine LWP.join (α := Bool) (fun z : Bool => [(0, (e_bool z))]) (fun z : Bool => []) (fun z : Bool => m_laws_alive_j1  z) r (fun _ => by simp [hkeys]) ?_ ?_
  ·rintro t0 h
   replace h : m_laws_alive_j1  t0 = some _ := h
   obtain rfl := Option.some.inj h
   refine LWP.ret (QG.mk (.inr rfl) (.cons (.tmp (x := (e_bool t0)) rfl) (.nil)) (RetOK.one0 (.pure rfl) (by decide)) rfl rfl)
  ·intro N2 hN2
   refine LWP.region (l := [_,_,_,_,_,_,_,_]) ?_
   refine LWo.build_impl_Value (parts := [_, _]) (⟨(1 : Int), (3 : Int), (⟨#[]⟩ : ByteArray)⟩ : S_impl_Value) rfl rfl rfl .refl (hn := ?_)
   refine bk h fun x3 e3 h => ?_
   refine LWo.vcall rfl rfl (c_impl_ValueOk _ _ e3) (.same (.nil)) (hn := ?_)
   refine LWo.move (e_bool x3) rfl (hn := ?_)
   refine LWo.byCases (t := 3) _ rfl (fun h4 => ?_) (fun h4 => ?_)
   ·have h := bT h4 h
    refine LWo.guardY (t := 3) rfl h4 rfl rfl ?_
    refine LWo.build_impl_Value (parts := [_]) (⟨(9 : Int), (0 : Int), (⟨#[]⟩ : ByteArray)⟩ : S_impl_Value) rfl rfl rfl .refl (hn := ?_)
    refine bk h fun x5 e5 h => ?_
    refine LWo.guardY (t := 3) rfl h4 rfl rfl ?_
    refine LWo.vcall rfl rfl (c_impl_ValueOk _ _ e5) (.same (.nil)) (hn := ?_)
    refine LWo.guardY (t := 3) rfl h4 rfl rfl ?_
    refine LWo.not rfl (hn := ?_)
    refine LWo.pickTM (e_bool (!x5)) rfl h4 rfl (hn := ?_)
    refine LWo.assign (e_bool (!x5)) rfl (hn := ?_)
    refine LWo.nil (hN2 (!x5) _ ⟨rfl, trivial⟩ trivial h)
   ·have h := bF h4 h
    refine LWo.guardNU (t := 3) rfl h4 rfl rfl rfl rfl rfl ?_
    refine LWo.guardNU (t := 3) rfl h4 rfl rfl rfl rfl rfl ?_
    refine LWo.guardNU (t := 3) rfl h4 rfl rfl rfl rfl rfl ?_
    refine LWo.pickFM (e_bool false) rfl h4 rfl (hn := ?_)
    refine LWo.assign (e_bool false) rfl (hn := ?_)
    refine LWo.nil (hN2 false _ ⟨rfl, trivial⟩ trivial h)

def m_laws_FnWholeClosure_j6 (t2 : Bool) : Option Bool :=
  some t2
def m_laws_FnWholeClosure_j5 (t5 : (List S_impl_Pair)) (o1046 : (List S_impl_Pair)) : Option Bool :=
  (m_impl_ClosureOf o1046).bind fun x60 =>
  (m_laws_samePairs t5 x60).bind fun x61 =>
  bif x61 then ((m_laws_alive ).bind fun x63 =>
    m_laws_FnWholeClosure_j6  x63)
  else (m_laws_FnWholeClosure_j6  false)
def m_laws_FnWholeClosure_j4 (k2 : (List S_impl_Pair) → (List S_impl_Pair) → (List S_impl_Pair) → Int → (List S_impl_Pair) → Option Bool) (t3 : (List S_impl_Pair)) (t4 : (List S_impl_Pair)) (t5 : (List S_impl_Pair)) (t9 : Int) (o1046 : (List S_impl_Pair)) : Option Bool :=
  (ckI (t9 + (1 : Int))).bind fun x58 =>
  k2 t3 t4 t5 x58 o1046
def m_laws_FnWholeClosure_j3 (k2 : (List S_impl_Pair) → (List S_impl_Pair) → (List S_impl_Pair) → Int → (List S_impl_Pair) → Option Bool) (k3 : (List S_impl_Pair) → (List S_impl_Pair) → (List S_impl_Pair) → Int → Int → (List S_impl_Pair) → Option Bool) (t3 : (List S_impl_Pair)) (t4 : (List S_impl_Pair)) (t5 : (List S_impl_Pair)) (t9 : Int) (t10 : Int) (o1046 : (List S_impl_Pair)) : Option Bool :=
  (ckI (t10 + (1 : Int))).bind fun x57 =>
  k3 t3 t4 t5 t9 x57 o1046
def m_laws_FnWholeClosure_j2 (k2 : (List S_impl_Pair) → (List S_impl_Pair) → (List S_impl_Pair) → Int → (List S_impl_Pair) → Option Bool) (k3 : (List S_impl_Pair) → (List S_impl_Pair) → (List S_impl_Pair) → Int → Int → (List S_impl_Pair) → Option Bool) (t3 : (List S_impl_Pair)) (t4 : (List S_impl_Pair)) (t5 : (List S_impl_Pair)) (t9 : Int) (t10 : Int) (t11 : (List S_impl_Pair)) (t68 : Bool) (o1046 : (List S_impl_Pair)) : Option Bool :=
  bif t68 then ((at? t11 (0 : Int)).bind fun x55 =>
    (app? o1046 ([x55] : (List S_impl_Pair))).bind fun x56 =>
    m_laws_FnWholeClosure_j3  k2 k3 t3 t4 t5 t9 t10 x56)
  else (m_laws_FnWholeClosure_j3  k2 k3 t3 t4 t5 t9 t10 o1046)
def m_laws_FnWholeClosure_l3 (k2 : (List S_impl_Pair) → (List S_impl_Pair) → (List S_impl_Pair) → Int → (List S_impl_Pair) → Option Bool) : Nat → (List S_impl_Pair) → (List S_impl_Pair) → (List S_impl_Pair) → Int → Int → (List S_impl_Pair) → Option Bool
  | 0, _, _, _, _, _, _ => none
  | n3 + 1, t3, t4, t5, t9, t10, o1046 =>
    bif decide (t10 < (7 : Int)) then ((m_laws_manyPairs ([(⟨t9, t10⟩ : S_impl_Pair)] : (List S_impl_Pair)) t3).bind fun x51 =>
    bif decide (x51 > (0 : Int)) then (m_laws_FnWholeClosure_j2  k2 (m_laws_FnWholeClosure_l3  k2 n3) t3 t4 t5 t9 t10 ([(⟨t9, t10⟩ : S_impl_Pair)] : (List S_impl_Pair)) true o1046)
    else ((m_laws_manyPairs ([(⟨t9, t10⟩ : S_impl_Pair)] : (List S_impl_Pair)) t4).bind fun x53 =>
      m_laws_FnWholeClosure_j2  k2 (m_laws_FnWholeClosure_l3  k2 n3) t3 t4 t5 t9 t10 ([(⟨t9, t10⟩ : S_impl_Pair)] : (List S_impl_Pair)) (decide (x53 > (0 : Int))) o1046))
    else (m_laws_FnWholeClosure_j4  k2 t3 t4 t5 t9 o1046)
def m_laws_FnWholeClosure_l2 : Nat → (List S_impl_Pair) → (List S_impl_Pair) → (List S_impl_Pair) → Int → (List S_impl_Pair) → Option Bool
  | 0, _, _, _, _, _ => none
  | n2 + 1, t3, t4, t5, t9, o1046 =>
    bif decide (t9 < (7 : Int)) then (m_laws_FnWholeClosure_l3  (m_laws_FnWholeClosure_l2  n2) (((7 : Int) - (0 : Int)).toNat + 1) t3 t4 t5 t9 (0 : Int) o1046)
    else (m_laws_FnWholeClosure_j5  t5 o1046)
def m_laws_FnWholeClosure_j1 (t3 : (List S_impl_Pair)) (t4 : (List S_impl_Pair)) (t5 : (List S_impl_Pair)) : Option Bool :=
  m_laws_FnWholeClosure_l2  (((7 : Int) - (0 : Int)).toNat + 1) t3 t4 t5 (0 : Int) ([] : (List S_impl_Pair))
def m_laws_FnWholeClosure_l1 : Nat → (List S_impl_Pair) → (List S_impl_Pair) → (List S_impl_Pair) → Int → Option Bool
  | 0, _, _, _, _ => none
  | n1 + 1, t3, t4, t5, t6 =>
    bif decide (t6 < (t4.length : Int)) then ((at? t4 t6).bind fun x25 =>
    (m_impl_ClosureMore t5 x25).bind fun x26 =>
    (m_laws_manyPairs t5 x26).bind fun x29 =>
    bif (x29 != (t5.length : Int)) then (some false)
    else ((ckI (t6 + (1 : Int))).bind fun x32 =>
    (m_laws_FnWholeClosure_l1  n1) t3 t4 x26 x32))
    else (m_laws_FnWholeClosure_j1  t3 t4 t5)
def m_laws_FnWholeClosure (a0 : (List UInt8)) : Option Bool :=
  bif decide ((a0.length : Int) > (1048576 : Int)) then (some true)
  else ((m_spec_DrawTwoPairs a0).bind fun x7 =>
  (m_impl_ClosureOf x7.1).bind fun x9 =>
  (m_spec_ClosureOf x7.1).bind fun x12 =>
  (m_laws_samePairs x9 x12).bind fun x13 =>
  bif (!x13) then (some false)
  else (m_laws_FnWholeClosure_l1  (((x7.2.length : Int) - (0 : Int)).toNat + 1) x7.1 x7.2 x9 (0 : Int)))
theorem c_laws_FnWholeClosure (a0 : (List UInt8)) (r : Bool) (h : m_laws_FnWholeClosure a0 = some r) : Ret Try.prog f_laws_FnWholeClosure [e_Luint8 a0] (e_bool r) := by
  refine Does.goG [] F_laws_FnWholeClosure rfl e_laws_FnWholeClosure n_laws_FnWholeClosure rfl (rvs := [.tmp 2]) rfl rfl ?_
  intro w0 ok0 lent ρ0
  refine LWP.seq_k fun N1 hN1 => ?_
  refine LWP.region (l := [_]) ?_
  refine LWo.assign (e_bool false) rfl (hn := ?_)
  refine LWo.nil (hN1 _ ?_)
  refine LWP.seq_k fun N2 hN2 => ?_
  refine LWP.seq_k fun N3 hN3 => ?_
  refine LWP.region (l := [_,_,_]) ?_
  refine LWo.move (e_Luint8 a0) rfl (hn := ?_)
  refine LWo.lenM (f := e_uint8) (l := a0) u_Luint8 rfl (hn := ?_)
  refine LWo.int _ rfl rfl rfl (hn := ?_)
  refine LWo.nil (hN3 _ ?_)
  refine LWP.cond_split rfl (fun h4 => ?_) (fun h4 => ?_)
  ·have h := bT h4 h
   refine LWP.seq_k fun N5 hN5 => ?_
   refine LWP.region (l := [_]) ?_
   refine LWo.assign (e_bool true) rfl (hn := ?_)
   refine LWo.nil (hN5 _ ?_)
   obtain rfl := Option.some.inj h
   refine LWP.ret (QG.mk (.inr rfl) (.cons (.tmp (x := (e_bool true)) rfl) (.nil)) (RetOK.one0 (.pure rfl) (by decide)) rfl rfl)
  ·have h := bF h4 h
   refine LWP.skip (hN2 _ ?_)
   refine LWP.seq_k fun N6 hN6 => ?_
   refine LWP.region (l := [_,_,_,_,_,_,_]) ?_
   refine LWo.move (e_Luint8 a0) rfl (hn := ?_)
   refine bk h fun x7 e7 h => ?_
   refine LWo.vcall rfl rfl (c_spec_DrawTwoPairs _ _ e7) (.same (.nil)) (hn := ?_)
   refine LWo.move (.tup [(e_Limpl_Pair x7.1), (e_Limpl_Pair x7.2)]) rfl (hn := ?_)
   refine LWo.extract (e_Limpl_Pair x7.1) rfl rfl (hn := ?_)
   refine LWo.extract (e_Limpl_Pair x7.2) rfl rfl (hn := ?_)
   refine LWo.assign (e_Limpl_Pair x7.1) rfl (hn := ?_)
   refine LWo.assign (e_Limpl_Pair x7.2) rfl (hn := ?_)
   refine LWo.nil (hN6 _ ?_)
   refine LWP.seq_k fun N8 hN8 => ?_
   refine LWP.region (l := [_,_,_]) ?_
   refine LWo.move (e_Limpl_Pair x7.1) rfl (hn := ?_)
   refine bk h fun x9 e9 h => ?_
   refine LWo.vcall rfl rfl (c_impl_ClosureOf _ _ e9) (.same (.nil)) (hn := ?_)
   refine LWo.assign (e_Limpl_Pair x9) rfl (hn := ?_)
   refine LWo.nil (hN8 _ ?_)
   refine LWP.seq_k fun N10 hN10 => ?_
   refine LWP.seq_k fun N11 hN11 => ?_
   refine LWP.region (l := [_,_,_,_,_]) ?_
   refine LWo.move (e_Limpl_Pair x9) rfl (hn := ?_)
   refine LWo.move (e_Limpl_Pair x7.1) rfl (hn := ?_)
   refine bk h fun x12 e12 h => ?_
   refine LWo.vcall rfl rfl (c_spec_ClosureOf _ _ e12) (.same (.nil)) (hn := ?_)
   refine bk h fun x13 e13 h => ?_
   refine LWo.vcall rfl rfl (c_laws_samePairs _ _ _ e13) (.same (.same (.nil))) (hn := ?_)
   refine LWo.not rfl (hn := ?_)
   refine LWo.nil (hN11 _ ?_)
   refine LWP.cond_split rfl (fun h14 => ?_) (fun h14 => ?_)
   ·have h := bT h14 h
    refine LWP.seq_k fun N15 hN15 => ?_
    refine LWP.region (l := [_]) ?_
    refine LWo.assign (e_bool false) rfl (hn := ?_)
    refine LWo.nil (hN15 _ ?_)
    obtain rfl := Option.some.inj h
    refine LWP.ret (QG.mk (.inr rfl) (.cons (.tmp (x := (e_bool false)) rfl) (.nil)) (RetOK.one0 (.pure rfl) (by decide)) rfl rfl)
   ·have h := bF h14 h
    refine LWP.skip (hN10 _ ?_)
    refine LWP.join (α := (List S_impl_Pair) × (List S_impl_Pair) × (List S_impl_Pair)) (fun z : (List S_impl_Pair) × (List S_impl_Pair) × (List S_impl_Pair) => [(3, (e_Limpl_Pair z.1)), (4, (e_Limpl_Pair z.2.1)), (5, (e_Limpl_Pair z.2.2))]) (fun z : (List S_impl_Pair) × (List S_impl_Pair) × (List S_impl_Pair) => []) (fun z : (List S_impl_Pair) × (List S_impl_Pair) × (List S_impl_Pair) => m_laws_FnWholeClosure_j1  z.1 z.2.1 z.2.2) r (fun _ => by simp [hkeys]) ?_ ?_
    ·rintro ⟨t3, t4, t5⟩ h
     replace h : m_laws_FnWholeClosure_j1  t3 t4 t5 = some _ := h
     refine LWP.seq_k fun N33 hN33 => ?_
     refine LWP.region (l := [_,_]) ?_
     refine LWo.lit0 1046 u_Limpl_Pair s_impl_Pair z_impl_Pair (hn := ?_)
     refine LWo.known 46 (.own 1046 0 ([] : (List S_impl_Pair)).length) rfl ?_
     refine LWo.assign (.own 1046 0 (([] : (List S_impl_Pair))).length) rfl (hn := ?_)
     refine LWo.nil (hN33 _ ?_)
     refine LWP.join (α := (List S_impl_Pair) × (List S_impl_Pair)) (fun z : (List S_impl_Pair) × (List S_impl_Pair) => [(5, (e_Limpl_Pair z.1)), (8, (.own 1046 0 (z.2).length))]) (fun z : (List S_impl_Pair) × (List S_impl_Pair) => [(1046, (lob 2 e_impl_Pair z.2))]) (fun z : (List S_impl_Pair) × (List S_impl_Pair) => m_laws_FnWholeClosure_j5  z.1 z.2) r (fun _ => by simp [hkeys]) ?_ ?_
     ·rintro ⟨t5, o1046⟩ h
      replace h : m_laws_FnWholeClosure_j5  t5 o1046 = some _ := h
      refine LWP.join (α := Bool) (fun z : Bool => [(2, (e_bool z))]) (fun z : Bool => []) (fun z : Bool => m_laws_FnWholeClosure_j6  z) r (fun _ => by simp [hkeys]) ?_ ?_
      ·rintro t2 h
       replace h : m_laws_FnWholeClosure_j6  t2 = some _ := h
       obtain rfl := Option.some.inj h
       refine LWP.ret (QG.mk (.inr rfl) (.cons (.tmp (x := (e_bool t2)) rfl) (.nil)) (RetOK.one0 (.pure rfl) (by decide)) rfl rfl)
      ·intro N59 hN59
       refine LWP.region (l := [_,_,_,_,_,_,_,_]) ?_
       refine LWo.move (e_Limpl_Pair t5) rfl (hn := ?_)
       refine LWo.move (.own 1046 0 (o1046).length) rfl (hn := ?_)
       refine bk h fun x60 e60 h => ?_
       refine LWo.frzL (f := e_impl_Pair) (l := o1046) [8, 76] 1046 rfl rfl ⟨rfl, rfl, trivial⟩ ?_
       refine LWo.vcall rfl rfl (c_impl_ClosureOf _ _ e60) (.same (.nil)) (hn := ?_)
       refine bk h fun x61 e61 h => ?_
       refine LWo.vcall rfl rfl (c_laws_samePairs _ _ _ e61) (.same (.same (.nil))) (hn := ?_)
       refine LWo.move (e_bool x61) rfl (hn := ?_)
       refine LWo.byCases (t := 79) _ rfl (fun h62 => ?_) (fun h62 => ?_)
       ·have h := bT h62 h
        refine bk h fun x63 e63 h => ?_
        refine LWo.guardY (t := 79) rfl h62 rfl rfl ?_
        refine LWo.vcall rfl rfl (c_laws_alive  _ e63) (.nil) (hn := ?_)
        refine LWo.pickTM (e_bool x63) rfl h62 rfl (hn := ?_)
        refine LWo.assign (e_bool x63) rfl (hn := ?_)
        refine LWo.nil (hN59 x63 _ ⟨rfl, trivial⟩ trivial h)
       ·have h := bF h62 h
        refine LWo.guardNU (t := 79) rfl h62 rfl rfl rfl rfl rfl ?_
        refine LWo.pickFM (e_bool false) rfl h62 rfl (hn := ?_)
        refine LWo.assign (e_bool false) rfl (hn := ?_)
        refine LWo.nil (hN59 false _ ⟨rfl, trivial⟩ trivial h)
     ·intro N34 hN34
      refine LWP.seq_k fun N35 hN35 => ?_
      refine LWP.region (l := [_]) ?_
      refine LWo.assign (e_int (0 : Int)) rfl (hn := ?_)
      refine LWo.nil (hN35 _ ?_)
      refine LWP.block ?_
      refine LWP.loopM (α := (List S_impl_Pair) × (List S_impl_Pair) × (List S_impl_Pair) × Int × (List S_impl_Pair)) (fun z : (List S_impl_Pair) × (List S_impl_Pair) × (List S_impl_Pair) × Int × (List S_impl_Pair) => [(3, (e_Limpl_Pair z.1)), (4, (e_Limpl_Pair z.2.1)), (5, (e_Limpl_Pair z.2.2.1)), (8, (.own 1046 0 (z.2.2.2.2).length)), (9, (e_int z.2.2.2.1))]) (fun z : (List S_impl_Pair) × (List S_impl_Pair) × (List S_impl_Pair) × Int × (List S_impl_Pair) => [(1046, (lob 2 e_impl_Pair z.2.2.2.2))]) (fun n2 (z : (List S_impl_Pair) × (List S_impl_Pair) × (List S_impl_Pair) × Int × (List S_impl_Pair)) => m_laws_FnWholeClosure_l2  n2 z.1 z.2.1 z.2.2.1 z.2.2.2.1 z.2.2.2.2) r _ (t3, t4, t5, (0 : Int), ([] : (List S_impl_Pair))) h (fun _ => rfl) (fun _ => by simp [hkeys]) ⟨rfl, rfl, rfl, rfl, rfl, trivial⟩ ⟨rfl, trivial⟩ ?_
      rintro n2 ⟨t3, t4, t5, t9, o1046⟩ h N36 hN36
      replace h : m_laws_FnWholeClosure_l2  (n2 + 1) t3 t4 t5 t9 o1046 = some _ := h
      refine LWP.seq_k fun N38 hN38 => ?_
      refine LWP.seq_k fun N39 hN39 => ?_
      refine LWP.region (l := [_,_]) ?_
      refine LWo.move (e_int t9) rfl (hn := ?_)
      refine LWo.int _ rfl rfl rfl (hn := ?_)
      refine LWo.nil (hN39 _ ?_)
      refine LWP.cond_split rfl (fun h40 => ?_) (fun h40 => ?_)
      ·have h := bT h40 h
       refine LWP.skip (hN38 _ ?_)
       refine LWP.join (α := (List S_impl_Pair) × (List S_impl_Pair) × (List S_impl_Pair) × Int × (List S_impl_Pair)) (fun z : (List S_impl_Pair) × (List S_impl_Pair) × (List S_impl_Pair) × Int × (List S_impl_Pair) => [(3, (e_Limpl_Pair z.1)), (4, (e_Limpl_Pair z.2.1)), (5, (e_Limpl_Pair z.2.2.1)), (8, (.own 1046 0 (z.2.2.2.2).length)), (9, (e_int z.2.2.2.1))]) (fun z : (List S_impl_Pair) × (List S_impl_Pair) × (List S_impl_Pair) × Int × (List S_impl_Pair) => [(1046, (lob 2 e_impl_Pair z.2.2.2.2))]) (fun z : (List S_impl_Pair) × (List S_impl_Pair) × (List S_impl_Pair) × Int × (List S_impl_Pair) => m_laws_FnWholeClosure_j4  (m_laws_FnWholeClosure_l2  n2) z.1 z.2.1 z.2.2.1 z.2.2.2.1 z.2.2.2.2) r (fun _ => by simp [hkeys]) ?_ ?_
       ·rintro ⟨t3, t4, t5, t9, o1046⟩ h
        replace h : m_laws_FnWholeClosure_j4  (m_laws_FnWholeClosure_l2  n2) t3 t4 t5 t9 o1046 = some _ := h
        refine LWP.region (l := [_,_,_]) ?_
        refine LWo.move (e_int t9) rfl (hn := ?_)
        refine bk h fun x58 e58 h => ?_
        refine LWo.int _ rfl rfl (add_ck e58) (hn := ?_)
        refine LWo.assign (e_int x58) rfl (hn := ?_)
        refine LWo.nil (hN36 (t3, t4, t5, x58, o1046) _ ⟨rfl, rfl, rfl, rfl, rfl, trivial⟩ ⟨rfl, trivial⟩ h)
       ·intro N41 hN41
        refine LWP.block ?_
        refine LWP.seq_k fun N42 hN42 => ?_
        refine LWP.region (l := [_]) ?_
        refine LWo.assign (e_int (0 : Int)) rfl (hn := ?_)
        refine LWo.nil (hN42 _ ?_)
        refine LWP.block ?_
        refine LWP.loopM (α := (List S_impl_Pair) × (List S_impl_Pair) × (List S_impl_Pair) × Int × Int × (List S_impl_Pair)) (fun z : (List S_impl_Pair) × (List S_impl_Pair) × (List S_impl_Pair) × Int × Int × (List S_impl_Pair) => [(3, (e_Limpl_Pair z.1)), (4, (e_Limpl_Pair z.2.1)), (5, (e_Limpl_Pair z.2.2.1)), (8, (.own 1046 0 (z.2.2.2.2.2).length)), (9, (e_int z.2.2.2.1)), (10, (e_int z.2.2.2.2.1))]) (fun z : (List S_impl_Pair) × (List S_impl_Pair) × (List S_impl_Pair) × Int × Int × (List S_impl_Pair) => [(1046, (lob 2 e_impl_Pair z.2.2.2.2.2))]) (fun n3 (z : (List S_impl_Pair) × (List S_impl_Pair) × (List S_impl_Pair) × Int × Int × (List S_impl_Pair)) => m_laws_FnWholeClosure_l3  (m_laws_FnWholeClosure_l2  n2) n3 z.1 z.2.1 z.2.2.1 z.2.2.2.1 z.2.2.2.2.1 z.2.2.2.2.2) r _ (t3, t4, t5, t9, (0 : Int), o1046) h (fun _ => rfl) (fun _ => by simp [hkeys]) ⟨rfl, rfl, rfl, rfl, rfl, rfl, trivial⟩ ⟨rfl, trivial⟩ ?_
        rintro n3 ⟨t3, t4, t5, t9, t10, o1046⟩ h N43 hN43
        replace h : m_laws_FnWholeClosure_l3  (m_laws_FnWholeClosure_l2  n2) (n3 + 1) t3 t4 t5 t9 t10 o1046 = some _ := h
        refine LWP.seq_k fun N45 hN45 => ?_
        refine LWP.seq_k fun N46 hN46 => ?_
        refine LWP.region (l := [_,_]) ?_
        refine LWo.move (e_int t10) rfl (hn := ?_)
        refine LWo.int _ rfl rfl rfl (hn := ?_)
        refine LWo.nil (hN46 _ ?_)
        refine LWP.cond_split rfl (fun h47 => ?_) (fun h47 => ?_)
        ·have h := bT h47 h
         refine LWP.skip (hN45 _ ?_)
         refine LWP.join (α := (List S_impl_Pair) × (List S_impl_Pair) × (List S_impl_Pair) × Int × Int × (List S_impl_Pair)) (fun z : (List S_impl_Pair) × (List S_impl_Pair) × (List S_impl_Pair) × Int × Int × (List S_impl_Pair) => [(3, (e_Limpl_Pair z.1)), (4, (e_Limpl_Pair z.2.1)), (5, (e_Limpl_Pair z.2.2.1)), (8, (.own 1046 0 (z.2.2.2.2.2).length)), (9, (e_int z.2.2.2.1)), (10, (e_int z.2.2.2.2.1))]) (fun z : (List S_impl_Pair) × (List S_impl_Pair) × (List S_impl_Pair) × Int × Int × (List S_impl_Pair) => [(1046, (lob 2 e_impl_Pair z.2.2.2.2.2))]) (fun z : (List S_impl_Pair) × (List S_impl_Pair) × (List S_impl_Pair) × Int × Int × (List S_impl_Pair) => m_laws_FnWholeClosure_j3  (m_laws_FnWholeClosure_l2  n2) (m_laws_FnWholeClosure_l3  (m_laws_FnWholeClosure_l2  n2) n3) z.1 z.2.1 z.2.2.1 z.2.2.2.1 z.2.2.2.2.1 z.2.2.2.2.2) r (fun _ => by simp [hkeys]) ?_ ?_
         ·rintro ⟨t3, t4, t5, t9, t10, o1046⟩ h
          replace h : m_laws_FnWholeClosure_j3  (m_laws_FnWholeClosure_l2  n2) (m_laws_FnWholeClosure_l3  (m_laws_FnWholeClosure_l2  n2) n3) t3 t4 t5 t9 t10 o1046 = some _ := h
          refine LWP.region (l := [_,_,_]) ?_
          refine LWo.move (e_int t10) rfl (hn := ?_)
          refine bk h fun x57 e57 h => ?_
          refine LWo.int _ rfl rfl (add_ck e57) (hn := ?_)
          refine LWo.assign (e_int x57) rfl (hn := ?_)
          refine LWo.nil (hN43 (t3, t4, t5, t9, x57, o1046) _ ⟨rfl, rfl, rfl, rfl, rfl, rfl, trivial⟩ ⟨rfl, trivial⟩ h)
         ·intro N48 hN48
          refine LWP.block ?_
          refine LWP.seq_k fun N49 hN49 => ?_
          refine LWP.region (l := [_,_,_,_,_]) ?_
          refine LWo.move (e_int t9) rfl (hn := ?_)
          refine LWo.move (e_int t10) rfl (hn := ?_)
          refine LWo.build_impl_Pair (parts := [_, _]) (⟨t9, t10⟩ : S_impl_Pair) rfl rfl rfl .refl (hn := ?_)
          refine LWo.lit (ops := [_]) [(e_impl_Pair (⟨t9, t10⟩ : S_impl_Pair))] u_Limpl_Pair s_impl_Pair z_impl_Pair rfl rfl rfl rfl rfl rfl (hn := ?_)
          refine LWo.assign (e_Limpl_Pair ([(⟨t9, t10⟩ : S_impl_Pair)] : (List S_impl_Pair))) rfl (hn := ?_)
          refine LWo.nil (hN49 _ ?_)
          refine LWP.join (α := (List S_impl_Pair) × (List S_impl_Pair) × (List S_impl_Pair) × Int × Int × (List S_impl_Pair) × Bool × (List S_impl_Pair)) (fun z : (List S_impl_Pair) × (List S_impl_Pair) × (List S_impl_Pair) × Int × Int × (List S_impl_Pair) × Bool × (List S_impl_Pair) => [(3, (e_Limpl_Pair z.1)), (4, (e_Limpl_Pair z.2.1)), (5, (e_Limpl_Pair z.2.2.1)), (8, (.own 1046 0 (z.2.2.2.2.2.2.2).length)), (9, (e_int z.2.2.2.1)), (10, (e_int z.2.2.2.2.1)), (11, (e_Limpl_Pair z.2.2.2.2.2.1)), (68, (e_bool z.2.2.2.2.2.2.1))]) (fun z : (List S_impl_Pair) × (List S_impl_Pair) × (List S_impl_Pair) × Int × Int × (List S_impl_Pair) × Bool × (List S_impl_Pair) => [(1046, (lob 2 e_impl_Pair z.2.2.2.2.2.2.2))]) (fun z : (List S_impl_Pair) × (List S_impl_Pair) × (List S_impl_Pair) × Int × Int × (List S_impl_Pair) × Bool × (List S_impl_Pair) => m_laws_FnWholeClosure_j2  (m_laws_FnWholeClosure_l2  n2) (m_laws_FnWholeClosure_l3  (m_laws_FnWholeClosure_l2  n2) n3) z.1 z.2.1 z.2.2.1 z.2.2.2.1 z.2.2.2.2.1 z.2.2.2.2.2.1 z.2.2.2.2.2.2.1 z.2.2.2.2.2.2.2) r (fun _ => by simp [hkeys]) ?_ ?_
          ·rintro ⟨t3, t4, t5, t9, t10, t11, t68, o1046⟩ h
           replace h : m_laws_FnWholeClosure_j2  (m_laws_FnWholeClosure_l2  n2) (m_laws_FnWholeClosure_l3  (m_laws_FnWholeClosure_l2  n2) n3) t3 t4 t5 t9 t10 t11 t68 o1046 = some _ := h
           refine LWP.cond_split rfl (fun h54 => ?_) (fun h54 => ?_)
           ·have h := bT h54 h
            refine LWP.region (l := [_,_,_,_,_,_,_]) ?_
            refine LWo.move (.own 1046 0 (o1046).length) rfl (hn := ?_)
            refine LWo.move (e_Limpl_Pair t11) rfl (hn := ?_)
            refine bk h fun x55 e55 h => ?_
            refine LWo.indexM (f := e_impl_Pair) e55 u_Limpl_Pair s_impl_Pair rfl rfl (hn := ?_)
            refine LWo.loadN ((e_impl_Pair x55)).cells g_impl_Pair s_impl_Pair rfl (Nat.le_of_ble_eq_true rfl) rfl (hn := ?_)
            refine LWo.lit (ops := [_]) [(e_impl_Pair x55)] u_Limpl_Pair s_impl_Pair z_impl_Pair rfl rfl rfl rfl rfl rfl (hn := ?_)
            refine bk h fun x56 e56 h => ?_
            refine LWo.appendM (f := e_impl_Pair) e56 rfl u_Limpl_Pair u_Limpl_Pair (fun _ h => by cases h) s_impl_Pair i_impl_Pair rfl rfl rfl (.sl rfl) rfl rfl (hn := ?_)
            refine LWo.assign (.own 1046 0 (x56).length) rfl (hn := ?_)
            refine LWo.nil (hN48 (t3, t4, t5, t9, t10, x56) _ ⟨rfl, rfl, rfl, rfl, rfl, rfl, trivial⟩ ⟨rfl, trivial⟩ h)
           ·have h := bF h54 h
            refine LWP.skip (hN48 (t3, t4, t5, t9, t10, o1046) _ ⟨rfl, rfl, rfl, rfl, rfl, rfl, trivial⟩ ⟨rfl, trivial⟩ h)
          ·intro N50 hN50
           refine LWP.region (l := [_,_,_,_,_,_,_,_,_,_]) ?_
           refine LWo.move (e_Limpl_Pair ([(⟨t9, t10⟩ : S_impl_Pair)] : (List S_impl_Pair))) rfl (hn := ?_)
           refine LWo.move (e_Limpl_Pair t3) rfl (hn := ?_)
           refine bk h fun x51 e51 h => ?_
           refine LWo.vcall rfl rfl (c_laws_manyPairs _ _ _ e51) (.same (.same (.nil))) (hn := ?_)
           refine LWo.int _ rfl rfl rfl (hn := ?_)
           refine LWo.move (e_bool (decide (x51 > (0 : Int)))) rfl (hn := ?_)
           refine LWo.byCases (t := 63) _ rfl (fun h52 => ?_) (fun h52 => ?_)
           ·have h := bT h52 h
            refine LWo.guardNU (t := 63) rfl h52 rfl rfl rfl rfl rfl ?_
            refine LWo.guardNU (t := 63) rfl h52 rfl rfl rfl rfl rfl ?_
            refine LWo.guardNU (t := 63) rfl h52 rfl rfl rfl rfl rfl ?_
            refine LWo.guardNU (t := 63) rfl h52 rfl rfl rfl rfl rfl ?_
            refine LWo.pickTM (e_bool true) rfl h52 rfl (hn := ?_)
            refine LWo.nil (hN50 (t3, t4, t5, t9, t10, ([(⟨t9, t10⟩ : S_impl_Pair)] : (List S_impl_Pair)), true, o1046) _ ⟨rfl, rfl, rfl, rfl, rfl, rfl, rfl, rfl, trivial⟩ ⟨rfl, trivial⟩ h)
           ·have h := bF h52 h
            refine LWo.guardY (t := 63) rfl h52 rfl rfl ?_
            refine LWo.move (e_Limpl_Pair ([(⟨t9, t10⟩ : S_impl_Pair)] : (List S_impl_Pair))) rfl (hn := ?_)
            refine LWo.guardY (t := 63) rfl h52 rfl rfl ?_
            refine LWo.move (e_Limpl_Pair t4) rfl (hn := ?_)
            refine bk h fun x53 e53 h => ?_
            refine LWo.guardY (t := 63) rfl h52 rfl rfl ?_
            refine LWo.vcall rfl rfl (c_laws_manyPairs _ _ _ e53) (.same (.same (.nil))) (hn := ?_)
            refine LWo.guardY (t := 63) rfl h52 rfl rfl ?_
            refine LWo.int _ rfl rfl rfl (hn := ?_)
            refine LWo.pickFM (e_bool (decide (x53 > (0 : Int)))) rfl h52 rfl (hn := ?_)
            refine LWo.nil (hN50 (t3, t4, t5, t9, t10, ([(⟨t9, t10⟩ : S_impl_Pair)] : (List S_impl_Pair)), decide (x53 > (0 : Int)), o1046) _ ⟨rfl, rfl, rfl, rfl, rfl, rfl, rfl, rfl, trivial⟩ ⟨rfl, trivial⟩ h)
        ·have h := bF h47 h
         refine LWP.exit (hN41 (t3, t4, t5, t9, o1046) _ ⟨rfl, rfl, rfl, rfl, rfl, trivial⟩ ⟨rfl, trivial⟩ h)
      ·have h := bF h40 h
       refine LWP.exit (hN34 (t5, o1046) _ ⟨rfl, rfl, trivial⟩ ⟨rfl, trivial⟩ h)
    ·intro N16 hN16
     refine LWP.seq_k fun N17 hN17 => ?_
     refine LWP.region (l := [_]) ?_
     refine LWo.assign (e_int (0 : Int)) rfl (hn := ?_)
     refine LWo.nil (hN17 _ ?_)
     refine LWP.block ?_
     refine LWP.loopM (α := (List S_impl_Pair) × (List S_impl_Pair) × (List S_impl_Pair) × Int) (fun z : (List S_impl_Pair) × (List S_impl_Pair) × (List S_impl_Pair) × Int => [(3, (e_Limpl_Pair z.1)), (4, (e_Limpl_Pair z.2.1)), (5, (e_Limpl_Pair z.2.2.1)), (6, (e_int z.2.2.2))]) (fun z : (List S_impl_Pair) × (List S_impl_Pair) × (List S_impl_Pair) × Int => []) (fun n1 (z : (List S_impl_Pair) × (List S_impl_Pair) × (List S_impl_Pair) × Int) => m_laws_FnWholeClosure_l1  n1 z.1 z.2.1 z.2.2.1 z.2.2.2) r _ (x7.1, x7.2, x9, (0 : Int)) h (fun _ => rfl) (fun _ => by simp [hkeys]) ⟨rfl, rfl, rfl, rfl, trivial⟩ trivial ?_
     rintro n1 ⟨t3, t4, t5, t6⟩ h N18 hN18
     replace h : m_laws_FnWholeClosure_l1  (n1 + 1) t3 t4 t5 t6 = some _ := h
     refine LWP.seq_k fun N20 hN20 => ?_
     refine LWP.seq_k fun N21 hN21 => ?_
     refine LWP.region (l := [_,_,_,_]) ?_
     refine LWo.move (e_int t6) rfl (hn := ?_)
     refine LWo.move (e_Limpl_Pair t4) rfl (hn := ?_)
     refine LWo.lenM (f := e_impl_Pair) (l := t4) u_Limpl_Pair rfl (hn := ?_)
     refine LWo.int _ rfl rfl rfl (hn := ?_)
     refine LWo.nil (hN21 _ ?_)
     refine LWP.cond_split rfl (fun h22 => ?_) (fun h22 => ?_)
     ·have h := bT h22 h
      refine LWP.skip (hN20 _ ?_)
      refine LWP.seq_k fun N23 hN23 => ?_
      refine LWP.block ?_
      refine LWP.seq_k fun N24 hN24 => ?_
      refine LWP.region (l := [_,_,_,_,_,_,_]) ?_
      refine LWo.move (e_Limpl_Pair t5) rfl (hn := ?_)
      refine LWo.move (e_Limpl_Pair t4) rfl (hn := ?_)
      refine LWo.move (e_int t6) rfl (hn := ?_)
      refine bk h fun x25 e25 h => ?_
      refine LWo.indexM (f := e_impl_Pair) e25 u_Limpl_Pair s_impl_Pair rfl rfl (hn := ?_)
      refine LWo.loadN ((e_impl_Pair x25)).cells g_impl_Pair s_impl_Pair rfl (Nat.le_of_ble_eq_true rfl) rfl (hn := ?_)
      refine bk h fun x26 e26 h => ?_
      refine LWo.vcall rfl rfl (c_impl_ClosureMore _ _ _ e26) (.same (.same (.nil))) (hn := ?_)
      refine LWo.assign (e_Limpl_Pair x26) rfl (hn := ?_)
      refine LWo.nil (hN24 _ ?_)
      refine LWP.seq_k fun N27 hN27 => ?_
      refine LWP.seq_k fun N28 hN28 => ?_
      refine LWP.region (l := [_,_,_,_,_,_]) ?_
      refine LWo.move (e_Limpl_Pair t5) rfl (hn := ?_)
      refine LWo.move (e_Limpl_Pair x26) rfl (hn := ?_)
      refine bk h fun x29 e29 h => ?_
      refine LWo.vcall rfl rfl (c_laws_manyPairs _ _ _ e29) (.same (.same (.nil))) (hn := ?_)
      refine LWo.move (e_Limpl_Pair t5) rfl (hn := ?_)
      refine LWo.lenM (f := e_impl_Pair) (l := t5) u_Limpl_Pair rfl (hn := ?_)
      refine LWo.int _ rfl rfl rfl (hn := ?_)
      refine LWo.nil (hN28 _ ?_)
      refine LWP.cond_split rfl (fun h30 => ?_) (fun h30 => ?_)
      ·have h := bT h30 h
       refine LWP.seq_k fun N31 hN31 => ?_
       refine LWP.region (l := [_]) ?_
       refine LWo.assign (e_bool false) rfl (hn := ?_)
       refine LWo.nil (hN31 _ ?_)
       obtain rfl := Option.some.inj h
       refine LWP.ret (QG.mk (.inr rfl) (.cons (.tmp (x := (e_bool false)) rfl) (.nil)) (RetOK.one0 (.pure rfl) (by decide)) rfl rfl)
      ·have h := bF h30 h
       refine LWP.skip (hN27 _ ?_)
       refine LWP.region (l := [_,_]) ?_
       refine LWo.move (e_Limpl_Pair x26) rfl (hn := ?_)
       refine LWo.assign (e_Limpl_Pair x26) rfl (hn := ?_)
       refine LWo.nil (hN23 _ ?_)
       refine LWP.region (l := [_,_,_]) ?_
       refine LWo.move (e_int t6) rfl (hn := ?_)
       refine bk h fun x32 e32 h => ?_
       refine LWo.int _ rfl rfl (add_ck e32) (hn := ?_)
       refine LWo.assign (e_int x32) rfl (hn := ?_)
       refine LWo.nil (hN18 (t3, t4, x26, x32) _ ⟨rfl, rfl, rfl, rfl, trivial⟩ trivial h)
     ·have h := bF h22 h
      refine LWP.exit (hN16 (t3, t4, t5) _ ⟨rfl, rfl, rfl, trivial⟩ trivial h)
end Go.Proofs.Ytkgmomocjkmipaa
