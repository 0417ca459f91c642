/- Mirrors of functions, and that the functions return what the mirrors say. -/
import Derived.Test.YtdkpmckpcejceaaDoorXTy
set_option linter.unusedVariables false
set_option linter.unusedSimpArgs false
set_option linter.unnecessarySimpa false
set_option maxHeartbeats 4000000
namespace Go.Proofs.YtdkpmckpcejceaaDoor
open Go.Proofs Go.Lift Go.RowKit
def m_spec_l1In_j1 (t6 : Bool) : Option Bool :=
  some t6
def m_spec_l1In (a0 : Int) (a1 : Int) (a2 : Int) : Option Bool :=
  bif decide (a0 ≥ a1) then (m_spec_l1In_j1  (decide (a0 ≤ a2)))
  else (m_spec_l1In_j1  false)
theorem c_spec_l1In (a0 : Int) (a1 : Int) (a2 : Int) (r : Bool) (h : m_spec_l1In a0 a1 a2 = some r) : Does Tryd.prog f_spec_l1In [e_int a0, e_int a1, e_int a2] [] (fun x hh => x = e_bool r ∧ hh = []) := by
  refine Does.goG [] F_spec_l1In rfl e_spec_l1In n_spec_l1In rfl (rvs := [.tmp 6]) rfl rfl ?_; intro w0 ok0 lent ρ0; refine .seq_k fun N1 hN1 => ?_; refine .region (l := [_]) (.assign (e_bool false) rfl (hn := .nil (hN1 _ ?_))); refine .join (α := Bool) (fun z : Bool => [(6, (e_bool z))]) (fun z : Bool => []) (fun z : Bool => m_spec_l1In_j1  z) r (fun _ => by simp [hkeys]) ?_ ?_
  ·rintro t6 h; replace h : m_spec_l1In_j1  t6 = some _ := h; obtain rfl := so h; refine .ret .p
  ·intro N2 hN2; refine .region (l := [_,_,_,_,_,_,_,_,_]) (.move (e_int a0) rfl (hn := .move (e_int a1) rfl (hn := .int _ rfl rfl rfl (hn := .move (e_bool (decide (a0 ≥ a1))) rfl (hn := .byCases (t := 10) _ rfl (fun h3 => ?_) (fun h3 => ?_))))))
   ·have h := bT h3 h; refine .gY 10 h3 (.move (e_int a0) rfl (hn := .gY 10 h3 (.move (e_int a2) rfl (hn := .gY 10 h3 (.int _ rfl rfl rfl (hn := .pickTM (e_bool (decide (a0 ≤ a2))) rfl h3 rfl (hn := .assign (e_bool (decide (a0 ≤ a2))) rfl (hn := .nil (hN2 (decide (a0 ≤ a2)) _ ⟨rfl, trivial⟩ trivial h)))))))))
   ·have h := bF h3 h; refine .gN 10 h3 (.gN 10 h3 (.gN 10 h3 (.pickFM (e_bool false) rfl h3 rfl (hn := .assign (e_bool false) rfl (hn := .nil (hN2 false _ ⟨rfl, trivial⟩ trivial h))))))

def m_spec_l1Digits_j3 (t3 : Int) : Option Int :=
  some t3
def m_spec_l1Digits_j2 (k1 : ByteArray → Int → Int → Option Int) (t0 : ByteArray) (t3 : Int) (t4 : Int) (t34 : Bool) : Option Int :=
  bif t34 then (some (-1 : Int))
  else ((ckI ((10 : Int) * t3)).bind fun x26 =>
  (sAt? t0 t4).bind fun x27 =>
  (ckI (x26 + ((x27 - (48 : UInt8)).toNat : Int))).bind fun x28 =>
  (ckI (t4 + (1 : Int))).bind fun x29 =>
  k1 t0 x28 x29)
def m_spec_l1Digits_l1 : Nat → ByteArray → Int → Int → Option Int
  | 0, _, _, _ => none
  | n1 + 1, t0, t3, t4 =>
    bif decide (t4 < (t0.size : Int)) then ((sAt? t0 t4).bind fun x21 =>
    bif decide ((x21.toNat : Int) < ((48 : UInt8).toNat : Int)) then (m_spec_l1Digits_j2  (m_spec_l1Digits_l1  n1) t0 t3 t4 true)
    else ((sAt? t0 t4).bind fun x23 =>
      m_spec_l1Digits_j2  (m_spec_l1Digits_l1  n1) t0 t3 t4 (decide ((x23.toNat : Int) > ((57 : UInt8).toNat : Int)))))
    else (m_spec_l1Digits_j3  t3)
def m_spec_l1Digits_j1 (t0 : ByteArray) (t18 : Bool) : Option Int :=
  bif t18 then (some (-1 : Int))
  else (m_spec_l1Digits_l1  (((t0.size : Int) - (0 : Int)).toNat + 1) t0 (0 : Int) (0 : Int))
def m_spec_l1Digits (a0 : ByteArray) : Option Int :=
  (m_spec_l1In (a0.size : Int) (1 : Int) (4 : Int)).bind fun x4 =>
  bif (!x4) then (m_spec_l1Digits_j1  a0 true)
  else (bif decide ((a0.size : Int) > (1 : Int)) then ((sAt? a0 (0 : Int)).bind fun x7 =>
      m_spec_l1Digits_j1  a0 ((x7.toNat : Int) == ((48 : UInt8).toNat : Int)))
    else (m_spec_l1Digits_j1  a0 false))
theorem c_spec_l1Digits (a0 : ByteArray) (r : Int) (h : m_spec_l1Digits a0 = some r) : Does Tryd.prog f_spec_l1Digits [e_string a0] [] (fun x hh => x = e_int r ∧ hh = []) := by
  refine Does.goG [] F_spec_l1Digits rfl e_spec_l1Digits n_spec_l1Digits rfl (rvs := [.tmp 2]) rfl rfl ?_; intro w0 ok0 lent ρ0; refine .seq_k fun N1 hN1 => ?_; refine .region (l := [_]) (.assign (e_int (0 : Int)) rfl (hn := .nil (hN1 _ ?_))); refine .seq_k fun N2 hN2 => ?_; refine .join (α := ByteArray × Bool) (fun z : ByteArray × Bool => [(0, (e_string z.1)), (18, (e_bool z.2))]) (fun z : ByteArray × Bool => []) (fun z : ByteArray × Bool => m_spec_l1Digits_j1  z.1 z.2) r (fun _ => by simp [hkeys]) ?_ ?_
  ·rintro ⟨t0, t18⟩ h; replace h : m_spec_l1Digits_j1  t0 t18 = some _ := h; refine .cond_split rfl (fun h8 => ?_) (fun h8 => ?_)
   ·have h := bT h8 h; refine .seq_k fun N9 hN9 => ?_; refine .region (l := [_]) (.assign (e_int (-1 : Int)) rfl (hn := .nil (hN9 _ ?_))); obtain rfl := so h; refine .ret .p
   ·have h := bF h8 h; refine .skip (hN2 _ ?_); refine .seq_k fun N10 hN10 => ?_; refine .region (l := [_]) (.assign (e_int (0 : Int)) rfl (hn := .nil (hN10 _ ?_))); refine .join (α := Int) (fun z : Int => [(3, (e_int z))]) (fun z : Int => []) (fun z : Int => m_spec_l1Digits_j3  z) r (fun _ => by simp [hkeys]) ?_ ?_
    ·rintro t3 h; replace h : m_spec_l1Digits_j3  t3 = some _ := h; refine .seq_k fun N30 hN30 => ?_; refine .region (l := [_,_]) (.move (e_int t3) rfl (hn := .assign (e_int t3) rfl (hn := .nil (hN30 _ ?_)))); obtain rfl := so h; refine .ret .p
    ·intro N11 hN11; refine .seq_k fun N12 hN12 => ?_; refine .region (l := [_]) (.assign (e_int (0 : Int)) rfl (hn := .nil (hN12 _ ?_))); refine .block ?_; refine .loopM (α := ByteArray × Int × Int) (fun z : ByteArray × Int × Int => [(0, (e_string z.1)), (3, (e_int z.2.1)), (4, (e_int z.2.2))]) (fun z : ByteArray × Int × Int => []) (fun n1 (z : ByteArray × Int × Int) => m_spec_l1Digits_l1  n1 z.1 z.2.1 z.2.2) r _ (t0, (0 : Int), (0 : Int)) h (fun _ => rfl) (fun _ => by simp [hkeys]) ⟨rfl, rfl, rfl, trivial⟩ trivial ?_; rintro n1 ⟨t0, t3, t4⟩ h N13 hN13; replace h : m_spec_l1Digits_l1  (n1 + 1) t0 t3 t4 = some _ := h; refine .seq_k fun N15 hN15 => ?_; refine .seq_k fun N16 hN16 => ?_; refine .region (l := [_,_,_,_]) (.move (e_int t4) rfl (hn := .move (e_string t0) rfl (hn := .lenS u_string rfl (hn := ?_)))); refine .int _ rfl rfl rfl (hn := .nil (hN16 _ ?_)); refine .cond_split rfl (fun h17 => ?_) (fun h17 => ?_)
     ·have h := bT h17 h; refine .skip (hN15 _ ?_); refine .seq_k fun N18 hN18 => ?_; refine .block ?_; refine .seq_k fun N19 hN19 => ?_; refine .join (α := ByteArray × Int × Int × Bool) (fun z : ByteArray × Int × Int × Bool => [(0, (e_string z.1)), (3, (e_int z.2.1)), (4, (e_int z.2.2.1)), (34, (e_bool z.2.2.2))]) (fun z : ByteArray × Int × Int × Bool => []) (fun z : ByteArray × Int × Int × Bool => m_spec_l1Digits_j2  (m_spec_l1Digits_l1  n1) z.1 z.2.1 z.2.2.1 z.2.2.2) r (fun _ => by simp [hkeys]) ?_ ?_
      ·rintro ⟨t0, t3, t4, t34⟩ h; replace h : m_spec_l1Digits_j2  (m_spec_l1Digits_l1  n1) t0 t3 t4 t34 = some _ := h; refine .cond_split rfl (fun h24 => ?_) (fun h24 => ?_)
       ·have h := bT h24 h; refine .seq_k fun N25 hN25 => ?_; refine .region (l := [_]) (.assign (e_int (-1 : Int)) rfl (hn := .nil (hN25 _ ?_))); obtain rfl := so h; refine .ret .p
       ·have h := bF h24 h; refine .skip (hN19 _ ?_); refine .region (l := [_,_,_,_,_,_,_,_,_]) (.move (e_int t3) rfl (hn := bk h fun x26 e26 h => ?_)); refine .int _ rfl rfl (mul_ck e26) (hn := .move (e_string t0) rfl (hn := .move (e_int t4) rfl (hn := bk h fun x27 e27 h => ?_))); refine .indexStr u_string rfl rfl (sAt_0 e27) (sAt_g e27) (hn := ?_); refine .int _ rfl rfl (u8_sub x27 (48 : UInt8)) (hn := .convByte _ u_uint8 u_int rfl (hn := ?_)); refine bk h fun x28 e28 h => ?_; refine .int _ rfl rfl (add_ck e28) (hn := .assign (e_int x28) rfl (hn := .nil (hN18 _ ?_))); refine .region (l := [_,_,_]) (.move (e_int t4) rfl (hn := bk h fun x29 e29 h => ?_)); refine .int _ rfl rfl (add_ck e29) (hn := .assign (e_int x29) rfl (hn := .nil (hN13 (t0, x28, x29) _ ⟨rfl, rfl, rfl, trivial⟩ trivial h)))
      ·intro N20 hN20; refine .region (l := [_,_,_,_,_,_,_,_,_,_]) (.move (e_string t0) rfl (hn := .move (e_int t4) rfl (hn := bk h fun x21 e21 h => ?_))); refine .indexStr u_string rfl rfl (sAt_0 e21) (sAt_g e21) (hn := ?_); refine .int _ rfl rfl rfl (hn := .move (e_bool (decide ((x21.toNat : Int) < ((48 : UInt8).toNat : Int)))) rfl (hn := .byCases (t := 29) _ rfl (fun h22 => ?_) (fun h22 => ?_)))
       ·have h := bT h22 h; refine .gN 29 h22 (.gN 29 h22 (.gN 29 h22 (.gN 29 h22 (.pickTM (e_bool true) rfl h22 rfl (hn := .nil (hN20 (t0, t3, t4, true) _ ⟨rfl, rfl, rfl, rfl, trivial⟩ trivial h))))))
       ·have h := bF h22 h; refine .gY 29 h22 (.move (e_string t0) rfl (hn := .gY 29 h22 (.move (e_int t4) rfl (hn := bk h fun x23 e23 h => ?_)))); refine .gY 29 h22 (.indexStr u_string rfl rfl (sAt_0 e23) (sAt_g e23) (hn := ?_)); refine .gY 29 h22 (.int _ rfl rfl rfl (hn := .pickFM (e_bool (decide ((x23.toNat : Int) > ((57 : UInt8).toNat : Int)))) rfl h22 rfl (hn := .nil (hN20 (t0, t3, t4, decide ((x23.toNat : Int) > ((57 : UInt8).toNat : Int))) _ ⟨rfl, rfl, rfl, rfl, trivial⟩ trivial h))))
     ·have h := bF h17 h; refine .exit (hN11 t3 _ ⟨rfl, trivial⟩ trivial h)
  ·intro N3 hN3; refine .region (l := [_,_,_,_,_,_,_,_,_,_,_,_,_,_]) (.move (e_string a0) rfl (hn := .lenS u_string rfl (hn := ?_))); refine bk h fun x4 e4 h => ?_; refine .vcall rfl rfl (c_spec_l1In _ _ _ _ e4) (.same (.same (.same (.nil)))) (hn := ?_); refine .not rfl (hn := ?_); refine .move (e_bool (!x4)) rfl (hn := .byCases (t := 9) _ rfl (fun h5 => ?_) (fun h5 => ?_))
   ·have h := bT h5 h; refine .gN 9 h5 (.gN 9 h5 (.gN 9 h5 (.gN 9 h5 (.gU 13 (.gU 13 (.gU 13 (.gN 9 h5 (.pickTM (e_bool true) rfl h5 rfl (hn := .nil (hN3 (a0, true) _ ⟨rfl, rfl, trivial⟩ trivial h))))))))))
   ·have h := bF h5 h; refine .gY 9 h5 (.move (e_string a0) rfl (hn := .gY 9 h5 (.lenS u_string rfl (hn := ?_)))); refine .gY 9 h5 (.int _ rfl rfl rfl (hn := .gY 9 h5 (.move (e_bool (decide ((a0.size : Int) > (1 : Int)))) rfl (hn := .byCases (t := 13) _ rfl (fun h6 => ?_) (fun h6 => ?_)))))
    ·have h := bT h6 h; refine .gY 13 h6 (.move (e_string a0) rfl (hn := bk h fun x7 e7 h => ?_)); refine .gY 13 h6 (.indexStr u_string rfl rfl (sAt_0 e7) (sAt_g e7) (hn := ?_)); refine .gY 13 h6 (.int _ rfl rfl rfl (hn := .gY 9 h5 (.pickTM (e_bool ((x7.toNat : Int) == ((48 : UInt8).toNat : Int))) rfl h6 rfl (hn := .pickFM (e_bool ((x7.toNat : Int) == ((48 : UInt8).toNat : Int))) rfl h5 rfl (hn := .nil (hN3 (a0, ((x7.toNat : Int) == ((48 : UInt8).toNat : Int))) _ ⟨rfl, rfl, trivial⟩ trivial h))))))
    ·have h := bF h6 h; refine .gN 13 h6 (.gN 13 h6 (.gN 13 h6 (.gY 9 h5 (.pickFM (e_bool false) rfl h6 rfl (hn := .pickFM (e_bool false) rfl h5 rfl (hn := .nil (hN3 (a0, false) _ ⟨rfl, rfl, trivial⟩ trivial h)))))))

def m_spec_l1Text_j2 (t0 : ByteArray) : Option Bool :=
  some (decide ((t0.size : Int) ≤ (6 : Int)))
def m_spec_l1Text_j1 (k1 : ByteArray → Int → Option Bool) (t0 : ByteArray) (t3 : Int) (t19 : Bool) : Option Bool :=
  bif t19 then (some false)
  else ((ckI (t3 + (1 : Int))).bind fun x16 =>
  k1 t0 x16)
def m_spec_l1Text_l1 : Nat → ByteArray → Int → Option Bool
  | 0, _, _ => none
  | n1 + 1, t0, t3 =>
    bif decide (t3 < (t0.size : Int)) then ((sAt? t0 t3).bind fun x11 =>
    bif decide ((x11.toNat : Int) < ((97 : UInt8).toNat : Int)) then (m_spec_l1Text_j1  (m_spec_l1Text_l1  n1) t0 t3 true)
    else ((sAt? t0 t3).bind fun x13 =>
      m_spec_l1Text_j1  (m_spec_l1Text_l1  n1) t0 t3 (decide ((x13.toNat : Int) > ((122 : UInt8).toNat : Int)))))
    else (m_spec_l1Text_j2  t0)
def m_spec_l1Text (a0 : ByteArray) : Option Bool :=
  m_spec_l1Text_l1  (((a0.size : Int) - (0 : Int)).toNat + 1) a0 (0 : Int)
theorem c_spec_l1Text (a0 : ByteArray) (r : Bool) (h : m_spec_l1Text a0 = some r) : Does Tryd.prog f_spec_l1Text [e_string a0] [] (fun x hh => x = e_bool r ∧ hh = []) := by
  refine Does.goG [] F_spec_l1Text rfl e_spec_l1Text n_spec_l1Text rfl (rvs := [.tmp 2]) rfl rfl ?_; intro w0 ok0 lent ρ0; refine .seq_k fun N1 hN1 => ?_; refine .region (l := [_]) (.assign (e_bool false) rfl (hn := .nil (hN1 _ ?_))); refine .join (α := ByteArray) (fun z : ByteArray => [(0, (e_string z))]) (fun z : ByteArray => []) (fun z : ByteArray => m_spec_l1Text_j2  z) r (fun _ => by simp [hkeys]) ?_ ?_
  ·rintro t0 h; replace h : m_spec_l1Text_j2  t0 = some _ := h; refine .seq_k fun N17 hN17 => ?_; refine .region (l := [_,_,_,_]) (.move (e_string t0) rfl (hn := .lenS u_string rfl (hn := ?_))); refine .int _ rfl rfl rfl (hn := .assign (e_bool (decide ((t0.size : Int) ≤ (6 : Int)))) rfl (hn := .nil (hN17 _ ?_))); obtain rfl := so h; refine .ret .p
  ·intro N2 hN2; refine .seq_k fun N3 hN3 => ?_; refine .region (l := [_]) (.assign (e_int (0 : Int)) rfl (hn := .nil (hN3 _ ?_))); refine .block ?_; refine .loopM (α := ByteArray × Int) (fun z : ByteArray × Int => [(0, (e_string z.1)), (3, (e_int z.2))]) (fun z : ByteArray × Int => []) (fun n1 (z : ByteArray × Int) => m_spec_l1Text_l1  n1 z.1 z.2) r _ (a0, (0 : Int)) h (fun _ => rfl) (fun _ => by simp [hkeys]) ⟨rfl, rfl, trivial⟩ trivial ?_; rintro n1 ⟨t0, t3⟩ h N4 hN4; replace h : m_spec_l1Text_l1  (n1 + 1) t0 t3 = some _ := h; refine .seq_k fun N6 hN6 => ?_; refine .seq_k fun N7 hN7 => ?_; refine .region (l := [_,_,_,_]) (.move (e_int t3) rfl (hn := .move (e_string t0) rfl (hn := .lenS u_string rfl (hn := ?_)))); refine .int _ rfl rfl rfl (hn := .nil (hN7 _ ?_)); refine .cond_split rfl (fun h8 => ?_) (fun h8 => ?_)
   ·have h := bT h8 h; refine .skip (hN6 _ ?_); refine .seq_k fun N9 hN9 => ?_; refine .block ?_; refine .join (α := ByteArray × Int × Bool) (fun z : ByteArray × Int × Bool => [(0, (e_string z.1)), (3, (e_int z.2.1)), (19, (e_bool z.2.2))]) (fun z : ByteArray × Int × Bool => []) (fun z : ByteArray × Int × Bool => m_spec_l1Text_j1  (m_spec_l1Text_l1  n1) z.1 z.2.1 z.2.2) r (fun _ => by simp [hkeys]) ?_ ?_
    ·rintro ⟨t0, t3, t19⟩ h; replace h : m_spec_l1Text_j1  (m_spec_l1Text_l1  n1) t0 t3 t19 = some _ := h; refine .cond_split rfl (fun h14 => ?_) (fun h14 => ?_)
     ·have h := bT h14 h; refine .seq_k fun N15 hN15 => ?_; refine .region (l := [_]) (.assign (e_bool false) rfl (hn := .nil (hN15 _ ?_))); obtain rfl := so h; refine .ret .p
     ·have h := bF h14 h; refine .skip (hN9 _ ?_); refine .region (l := [_,_,_]) (.move (e_int t3) rfl (hn := bk h fun x16 e16 h => ?_)); refine .int _ rfl rfl (add_ck e16) (hn := .assign (e_int x16) rfl (hn := .nil (hN4 (t0, x16) _ ⟨rfl, rfl, trivial⟩ trivial h)))
    ·intro N10 hN10; refine .region (l := [_,_,_,_,_,_,_,_,_,_]) (.move (e_string t0) rfl (hn := .move (e_int t3) rfl (hn := bk h fun x11 e11 h => ?_))); refine .indexStr u_string rfl rfl (sAt_0 e11) (sAt_g e11) (hn := ?_); refine .int _ rfl rfl rfl (hn := .move (e_bool (decide ((x11.toNat : Int) < ((97 : UInt8).toNat : Int)))) rfl (hn := .byCases (t := 14) _ rfl (fun h12 => ?_) (fun h12 => ?_)))
     ·have h := bT h12 h; refine .gN 14 h12 (.gN 14 h12 (.gN 14 h12 (.gN 14 h12 (.pickTM (e_bool true) rfl h12 rfl (hn := .nil (hN10 (t0, t3, true) _ ⟨rfl, rfl, rfl, trivial⟩ trivial h))))))
     ·have h := bF h12 h; refine .gY 14 h12 (.move (e_string t0) rfl (hn := .gY 14 h12 (.move (e_int t3) rfl (hn := bk h fun x13 e13 h => ?_)))); refine .gY 14 h12 (.indexStr u_string rfl rfl (sAt_0 e13) (sAt_g e13) (hn := ?_)); refine .gY 14 h12 (.int _ rfl rfl rfl (hn := .pickFM (e_bool (decide ((x13.toNat : Int) > ((122 : UInt8).toNat : Int)))) rfl h12 rfl (hn := .nil (hN10 (t0, t3, decide ((x13.toNat : Int) > ((122 : UInt8).toNat : Int))) _ ⟨rfl, rfl, rfl, trivial⟩ trivial h))))
   ·have h := bF h8 h; refine .exit (hN2 t0 _ ⟨rfl, trivial⟩ trivial h)

def m_spec_ValueOk_j1 (t2 : Bool) : Option Bool :=
  some t2
def m_spec_ValueOk_j2 (t2 : Bool) : Option Bool :=
  some t2
def m_spec_ValueOk_j3 (t2 : Bool) : Option Bool :=
  some t2
def m_spec_ValueOk_j4 (t2 : Bool) : Option Bool :=
  some t2
def m_spec_ValueOk (a0 : S_impl_Value) : Option Bool :=
  bif (a0.Kind == (0 : Int)) then (bif (a0.N == (0 : Int)) then (m_spec_ValueOk_j1  (sEq a0.S (⟨#[]⟩ : ByteArray)))
    else (m_spec_ValueOk_j1  false))
  else (bif (a0.Kind == (1 : Int)) then ((m_spec_l1In a0.N (-9999 : Int) (9999 : Int)).bind fun x11 =>
      bif x11 then (m_spec_ValueOk_j2  (sEq a0.S (⟨#[]⟩ : ByteArray)))
      else (m_spec_ValueOk_j2  false))
    else (bif (a0.Kind == (2 : Int)) then (bif (a0.N == (0 : Int)) then ((m_spec_l1Text a0.S).bind fun x17 =>
          m_spec_ValueOk_j3  x17)
        else (m_spec_ValueOk_j3  false))
      else (bif (a0.Kind == (3 : Int)) then ((m_spec_l1In a0.N (0 : Int) (1 : Int)).bind fun x21 =>
          bif x21 then (m_spec_ValueOk_j4  (sEq a0.S (⟨#[]⟩ : ByteArray)))
          else (m_spec_ValueOk_j4  false))
        else (some false))))
theorem c_spec_ValueOk (a0 : S_impl_Value) (r : Bool) (h : m_spec_ValueOk a0 = some r) : Does Tryd.prog f_spec_ValueOk [e_impl_Value a0] [] (fun x hh => x = e_bool r ∧ hh = []) := by
  refine Does.goG [] F_spec_ValueOk rfl e_spec_ValueOk n_spec_ValueOk rfl (rvs := [.tmp 2]) rfl rfl ?_; intro w0 ok0 lent ρ0; refine .seq_k fun N1 hN1 => ?_; refine .region (l := [_,_]) (.boxF (e_impl_Value a0) rfl rfl rfl (hn := .assign (e_bool false) rfl (hn := .nil (hN1 _ ?_)))); refine .seq_k fun N2 hN2 => ?_; refine .seq_k fun N3 hN3 => ?_; refine .region (l := [_,_]) (.fieldAddr _ u_impl_Value rfl s_int rfl rfl (hn := .load1 (c := (e_int a0.Kind)) g_int rfl (hn := .nil (hN3 _ ?_)))); refine .block ?_; refine .seq_k fun N4 hN4 => ?_; refine .region (l := [_,_]) (.int _ rfl rfl rfl (hn := .assign (e_bool (a0.Kind == (0 : Int))) rfl (hn := .nil (hN4 _ ?_)))); refine .cond_split rfl (fun h5 => ?_) (fun h5 => ?_)
  ·have h := bT h5 h; refine .join (α := Bool) (fun z : Bool => [(2, (e_bool z))]) (fun z : Bool => []) (fun z : Bool => m_spec_ValueOk_j1  z) r (fun _ => by simp [hkeys]) ?_ ?_
   ·rintro t2 h; replace h : m_spec_ValueOk_j1  t2 = some _ := h; obtain rfl := so h; refine .ret .p
   ·intro N6 hN6; refine .region (l := [_,_,_,_,_,_,_,_,_]) (.fieldAddr _ u_impl_Value rfl s_int rfl rfl (hn := .load1 (c := (e_int a0.N)) g_int rfl (hn := .int _ rfl rfl rfl (hn := .move (e_bool (a0.N == (0 : Int))) rfl (hn := .byCases (t := 10) _ rfl (fun h7 => ?_) (fun h7 => ?_))))))
    ·have h := bT h7 h; refine .gY 10 h7 (.fieldAddr _ u_impl_Value rfl s_string rfl rfl (hn := .gY 10 h7 (.load1 (c := (e_string a0.S)) g_string rfl (hn := .gY 10 h7 (.str _ rfl rfl rfl (hn := .pickTM (e_bool (sEq a0.S (⟨#[]⟩ : ByteArray))) rfl h7 rfl (hn := .assign (e_bool (sEq a0.S (⟨#[]⟩ : ByteArray))) rfl (hn := .nil (hN6 (sEq a0.S (⟨#[]⟩ : ByteArray)) _ ⟨rfl, trivial⟩ trivial h)))))))))
    ·have h := bF h7 h; refine .gN 10 h7 (.gN 10 h7 (.gN 10 h7 (.pickFM (e_bool false) rfl h7 rfl (hn := .assign (e_bool false) rfl (hn := .nil (hN6 false _ ⟨rfl, trivial⟩ trivial h))))))
  ·have h := bF h5 h; refine .seq_k fun N8 hN8 => ?_; refine .region (l := [_,_]) (.int _ rfl rfl rfl (hn := .assign (e_bool (a0.Kind == (1 : Int))) rfl (hn := .nil (hN8 _ ?_)))); refine .cond_split rfl (fun h9 => ?_) (fun h9 => ?_)
   ·have h := bT h9 h; refine .join (α := Bool) (fun z : Bool => [(2, (e_bool z))]) (fun z : Bool => []) (fun z : Bool => m_spec_ValueOk_j2  z) r (fun _ => by simp [hkeys]) ?_ ?_
    ·rintro t2 h; replace h : m_spec_ValueOk_j2  t2 = some _ := h; obtain rfl := so h; refine .ret .p
    ·intro N10 hN10; refine .region (l := [_,_,_,_,_,_,_,_,_]) (.fieldAddr _ u_impl_Value rfl s_int rfl rfl (hn := .load1 (c := (e_int a0.N)) g_int rfl (hn := bk h fun x11 e11 h => ?_))); refine .vcall rfl rfl (c_spec_l1In _ _ _ _ e11) (.same (.same (.same (.nil)))) (hn := ?_); refine .move (e_bool x11) rfl (hn := .byCases (t := 20) _ rfl (fun h12 => ?_) (fun h12 => ?_))
     ·have h := bT h12 h; refine .gY 20 h12 (.fieldAddr _ u_impl_Value rfl s_string rfl rfl (hn := .gY 20 h12 (.load1 (c := (e_string a0.S)) g_string rfl (hn := .gY 20 h12 (.str _ rfl rfl rfl (hn := .pickTM (e_bool (sEq a0.S (⟨#[]⟩ : ByteArray))) rfl h12 rfl (hn := .assign (e_bool (sEq a0.S (⟨#[]⟩ : ByteArray))) rfl (hn := .nil (hN10 (sEq a0.S (⟨#[]⟩ : ByteArray)) _ ⟨rfl, trivial⟩ trivial h)))))))))
     ·have h := bF h12 h; refine .gN 20 h12 (.gN 20 h12 (.gN 20 h12 (.pickFM (e_bool false) rfl h12 rfl (hn := .assign (e_bool false) rfl (hn := .nil (hN10 false _ ⟨rfl, trivial⟩ trivial h))))))
   ·have h := bF h9 h; refine .seq_k fun N13 hN13 => ?_; refine .region (l := [_,_]) (.int _ rfl rfl rfl (hn := .assign (e_bool (a0.Kind == (2 : Int))) rfl (hn := .nil (hN13 _ ?_)))); refine .cond_split rfl (fun h14 => ?_) (fun h14 => ?_)
    ·have h := bT h14 h; refine .join (α := Bool) (fun z : Bool => [(2, (e_bool z))]) (fun z : Bool => []) (fun z : Bool => m_spec_ValueOk_j3  z) r (fun _ => by simp [hkeys]) ?_ ?_
     ·rintro t2 h; replace h : m_spec_ValueOk_j3  t2 = some _ := h; obtain rfl := so h; refine .ret .p
     ·intro N15 hN15; refine .region (l := [_,_,_,_,_,_,_,_,_]) (.fieldAddr _ u_impl_Value rfl s_int rfl rfl (hn := .load1 (c := (e_int a0.N)) g_int rfl (hn := .int _ rfl rfl rfl (hn := .move (e_bool (a0.N == (0 : Int))) rfl (hn := .byCases (t := 30) _ rfl (fun h16 => ?_) (fun h16 => ?_))))))
      ·have h := bT h16 h; refine .gY 30 h16 (.fieldAddr _ u_impl_Value rfl s_string rfl rfl (hn := .gY 30 h16 (.load1 (c := (e_string a0.S)) g_string rfl (hn := bk h fun x17 e17 h => ?_)))); refine .gY 30 h16 (.vcall rfl rfl (c_spec_l1Text _ _ e17) (.same (.nil)) (hn := ?_)); refine .pickTM (e_bool x17) rfl h16 rfl (hn := .assign (e_bool x17) rfl (hn := .nil (hN15 x17 _ ⟨rfl, trivial⟩ trivial h)))
      ·have h := bF h16 h; refine .gN 30 h16 (.gN 30 h16 (.gN 30 h16 (.pickFM (e_bool false) rfl h16 rfl (hn := .assign (e_bool false) rfl (hn := .nil (hN15 false _ ⟨rfl, trivial⟩ trivial h))))))
    ·have h := bF h14 h; refine .seq_k fun N18 hN18 => ?_; refine .region (l := [_,_]) (.int _ rfl rfl rfl (hn := .assign (e_bool (a0.Kind == (3 : Int))) rfl (hn := .nil (hN18 _ ?_)))); refine .cond_split rfl (fun h19 => ?_) (fun h19 => ?_)
     ·have h := bT h19 h; refine .join (α := Bool) (fun z : Bool => [(2, (e_bool z))]) (fun z : Bool => []) (fun z : Bool => m_spec_ValueOk_j4  z) r (fun _ => by simp [hkeys]) ?_ ?_
      ·rintro t2 h; replace h : m_spec_ValueOk_j4  t2 = some _ := h; obtain rfl := so h; refine .ret .p
      ·intro N20 hN20; refine .region (l := [_,_,_,_,_,_,_,_,_]) (.fieldAddr _ u_impl_Value rfl s_int rfl rfl (hn := .load1 (c := (e_int a0.N)) g_int rfl (hn := bk h fun x21 e21 h => ?_))); refine .vcall rfl rfl (c_spec_l1In _ _ _ _ e21) (.same (.same (.same (.nil)))) (hn := ?_); refine .move (e_bool x21) rfl (hn := .byCases (t := 40) _ rfl (fun h22 => ?_) (fun h22 => ?_))
       ·have h := bT h22 h; refine .gY 40 h22 (.fieldAddr _ u_impl_Value rfl s_string rfl rfl (hn := .gY 40 h22 (.load1 (c := (e_string a0.S)) g_string rfl (hn := .gY 40 h22 (.str _ rfl rfl rfl (hn := .pickTM (e_bool (sEq a0.S (⟨#[]⟩ : ByteArray))) rfl h22 rfl (hn := .assign (e_bool (sEq a0.S (⟨#[]⟩ : ByteArray))) rfl (hn := .nil (hN20 (sEq a0.S (⟨#[]⟩ : ByteArray)) _ ⟨rfl, trivial⟩ trivial h)))))))))
       ·have h := bF h22 h; refine .gN 40 h22 (.gN 40 h22 (.gN 40 h22 (.pickFM (e_bool false) rfl h22 rfl (hn := .assign (e_bool false) rfl (hn := .nil (hN20 false _ ⟨rfl, trivial⟩ trivial h))))))
     ·have h := bF h19 h; refine .skip (hN2 _ ?_); refine .seq_k fun N23 hN23 => ?_; refine .region (l := [_]) (.assign (e_bool false) rfl (hn := .nil (hN23 _ ?_))); obtain rfl := so h; refine .ret .p

def m_spec_l1Plain_b (rc : (Int) → Option ByteArray) (a0 : Int) : Option ByteArray :=
  bif decide (a0 < (10 : Int)) then ((ckI ((48 : Int) + (maxI a0 (0 : Int)))).bind fun x6 =>
    some (bStr ([(Lift.byteOf x6)] : (List UInt8))))
  else ((quoI a0 (10 : Int)).bind fun x8 =>
  (rc x8).bind fun x9 =>
  (remI a0 (10 : Int)).bind fun x10 =>
  (ckI ((48 : Int) + x10)).bind fun x11 =>
  (sCat? x9 (bStr ([(Lift.byteOf x11)] : (List UInt8)))).bind fun x12 =>
  some x12)
def m_spec_l1Plain : Nat → (Int) → Option ByteArray
  | 0, _ => none
  | fu + 1, a0 => m_spec_l1Plain_b (m_spec_l1Plain fu) a0
theorem cb_spec_l1Plain (rc : (Int) → Option ByteArray) (hrc : ∀ (a0 : Int) (r : ByteArray), rc a0 = some r → Does Tryd.prog f_spec_l1Plain [e_int a0] [] (fun x hh => x = e_string r ∧ hh = [])) (a0 : Int) (r : ByteArray) (h : m_spec_l1Plain_b rc a0 = some r) : Does Tryd.prog f_spec_l1Plain [e_int a0] [] (fun x hh => x = e_string r ∧ hh = []) := by
  refine Does.goG [] F_spec_l1Plain rfl e_spec_l1Plain n_spec_l1Plain rfl (rvs := [.tmp 2]) rfl rfl ?_; intro w0 ok0 lent ρ0; refine .seq_k fun N1 hN1 => ?_; refine .region (l := [_]) (.assign (e_string (⟨#[]⟩ : ByteArray)) rfl (hn := .nil (hN1 _ ?_))); refine .seq_k fun N2 hN2 => ?_; refine .seq_k fun N3 hN3 => ?_; refine .region (l := [_,_]) (.move (e_int a0) rfl (hn := .int _ rfl rfl rfl (hn := .nil (hN3 _ ?_)))); refine .cond_split rfl (fun h4 => ?_) (fun h4 => ?_)
  ·have h := bT h4 h; refine .seq_k fun N5 hN5 => ?_; refine .region (l := [_,_,_,_,_,_,_]) (.move (e_int a0) rfl (hn := .max2 rfl rfl (hn := ?_))); refine bk h fun x6 e6 h => ?_; refine .int _ rfl rfl (add_ck e6) (hn := .convU8 u_int u_uint8 rfl (hn := ?_)); refine .lit (ops := [_]) [(e_uint8 (Lift.byteOf x6))] u_Luint8 s_uint8 z_uint8 rfl rfl rfl rfl rfl rfl (hn := ?_); refine .strM (l := ([(Lift.byteOf x6)] : (List UInt8))) u_Luint8 u_string u_uint8 rfl (hn := ?_); refine .assign (e_string (bStr ([(Lift.byteOf x6)] : (List UInt8)))) rfl (hn := .nil (hN5 _ ?_)); obtain rfl := so h; refine .ret .p
  ·have h := bF h4 h; refine .skip (hN2 _ ?_); refine .seq_k fun N7 hN7 => ?_; refine bk h fun x8 e8 h => ?_; refine bk h fun x9 e9 h => ?_; refine bk h fun x10 e10 h => ?_; refine bk h fun x11 e11 h => ?_; refine bk h fun x12 e12 h => ?_; refine .drawF (l := [_,_,_,_,_,_,_,_,_,_,_]) [] [0] [([0], []), ([11], []), ([12], []), ([0], []), ([14], []), ([15], []), ([16], []), ([17], []), ([18], []), ([13, 19], []), ([20], [])] [2] [] mixed (by kernel_rfl) rfl (by decide) ?_; refine dq 11 rfl (fun _ g u h => LWo.move (e_int a0) u.1 (hn := .nil (zn g))) ?_; refine dq 12 rfl (fun _ g u h => LWo.int _ u.1 rfl (quo_ck e8) (hn := .nil (zn g))) ?_; refine dq 13 rfl (fun _ g u h => LWo.vcall rfl (av1 u.1) (hrc _ _ e9) (.same (.nil)) (hn := .nil (zn g))) ?_; refine dq 14 rfl (fun _ g u h => LWo.move (e_int a0) u.1 (hn := .nil (zn g))) ?_; refine dq 15 rfl (fun _ g u h => LWo.int _ u.1 rfl (rem_ck e10) (hn := .nil (zn g))) ?_; refine dq 16 rfl (fun _ g u h => LWo.int _ rfl u.1 (add_ck e11) (hn := .nil (zn g))) ?_; refine dq 17 rfl (fun _ g u h => LWo.convU8 u_int u_uint8 u.1 (hn := .nil (zn g))) ?_; refine dq 18 rfl (fun _ g u h => LWo.lit (ops := [_]) [(e_uint8 (Lift.byteOf x11))] u_Luint8 s_uint8 z_uint8 (lv1 u.1) rfl rfl rfl rfl rfl (hn := .nil (zn g))) ?_; refine dq 19 rfl (fun _ g u h => LWo.strM (l := ([(Lift.byteOf x11)] : (List UInt8))) u_Luint8 u_string u_uint8 u.1 (hn := .nil (zn g))) ?_; refine dq 20 rfl (fun _ g u h => LWo.str _ u.1 u.2.1 (cat_ck e12) (hn := .nil (zn g))) ?_; refine dq 2 rfl (fun _ g u h => LWo.assign (e_string x12) u.1 (hn := .nil (zn g))) ?_; refine ⟨rfl, by kernel_rfl, hN7 _ ?_⟩; obtain rfl := so h; refine .ret .p
theorem c_spec_l1Plain (fu : Nat) : ∀ (a0 : Int) (r : ByteArray) (h : m_spec_l1Plain fu a0 = some r), Does Tryd.prog f_spec_l1Plain [e_int a0] [] (fun x hh => x = e_string r ∧ hh = []) := by
  induction fu with
  | zero => intro a0 r h; cases h
  | succ fu ih => intro a0 r h; exact cb_spec_l1Plain (m_spec_l1Plain fu) ih a0 r h

def m_spec_l1Signed (a0 : Int) : Option ByteArray :=
  bif decide (a0 < (0 : Int)) then ((ckI (0 - a0)).bind fun x6 =>
    (m_spec_l1Plain 1000000000 x6).bind fun x7 =>
    (sCat? (⟨#[45]⟩ : ByteArray) x7).bind fun x8 =>
    some x8)
  else ((m_spec_l1Plain 1000000000 a0).bind fun x10 =>
  some x10)
theorem c_spec_l1Signed (a0 : Int) (r : ByteArray) (h : m_spec_l1Signed a0 = some r) : Does Tryd.prog f_spec_l1Signed [e_int a0] [] (fun x hh => x = e_string r ∧ hh = []) := by
  refine Does.goG [] F_spec_l1Signed rfl e_spec_l1Signed n_spec_l1Signed rfl (rvs := [.tmp 2]) rfl rfl ?_; intro w0 ok0 lent ρ0; refine .seq_k fun N1 hN1 => ?_; refine .region (l := [_]) (.assign (e_string (⟨#[]⟩ : ByteArray)) rfl (hn := .nil (hN1 _ ?_))); refine .seq_k fun N2 hN2 => ?_; refine .seq_k fun N3 hN3 => ?_; refine .region (l := [_,_]) (.move (e_int a0) rfl (hn := .int _ rfl rfl rfl (hn := .nil (hN3 _ ?_)))); refine .cond_split rfl (fun h4 => ?_) (fun h4 => ?_)
  ·have h := bT h4 h; refine .seq_k fun N5 hN5 => ?_; refine .region (l := [_,_,_,_,_]) (.move (e_int a0) rfl (hn := bk h fun x6 e6 h => ?_)); refine .neg _ rfl (sub_ck e6) (hn := ?_); refine bk h fun x7 e7 h => ?_; refine .vcall rfl rfl (c_spec_l1Plain 1000000000 _ _ e7) (.same (.nil)) (hn := ?_); refine bk h fun x8 e8 h => ?_; refine .str _ rfl rfl (cat_ck e8) (hn := .assign (e_string x8) rfl (hn := .nil (hN5 _ ?_))); obtain rfl := so h; refine .ret .p
  ·have h := bF h4 h; refine .skip (hN2 _ ?_); refine .seq_k fun N9 hN9 => ?_; refine .region (l := [_,_,_]) (.move (e_int a0) rfl (hn := bk h fun x10 e10 h => ?_)); refine .vcall rfl rfl (c_spec_l1Plain 1000000000 _ _ e10) (.same (.nil)) (hn := ?_); refine .assign (e_string x10) rfl (hn := .nil (hN9 _ ?_)); obtain rfl := so h; refine .ret .p

def m_spec_ValueText (a0 : S_impl_Value) : Option ByteArray :=
  (m_spec_ValueOk a0).bind fun x4 =>
  bif (!x4) then (some (⟨#[]⟩ : ByteArray))
  else (bif (a0.Kind == (1 : Int)) then ((m_spec_l1Signed a0.N).bind fun x12 =>
    some x12)
  else (bif (a0.Kind == (2 : Int)) then ((sCat? (⟨#[39]⟩ : ByteArray) a0.S).bind fun x16 =>
      (sCat? x16 (⟨#[39]⟩ : ByteArray)).bind fun x17 =>
      some x17)
    else (bif (a0.Kind == (3 : Int)) then ((at? ([(⟨#[102, 97, 108, 115, 101]⟩ : ByteArray), (⟨#[116, 114, 117, 101]⟩ : ByteArray)] : (List ByteArray)) a0.N).bind fun x21 =>
        some x21)
      else (some (⟨#[110, 111, 110, 101]⟩ : ByteArray)))))
theorem c_spec_ValueText (a0 : S_impl_Value) (r : ByteArray) (h : m_spec_ValueText a0 = some r) : Does Tryd.prog f_spec_ValueText [e_impl_Value a0] [] (fun x hh => x = e_string r ∧ hh = []) := by
  refine Does.goG [] F_spec_ValueText rfl e_spec_ValueText n_spec_ValueText rfl (rvs := [.tmp 2]) rfl rfl ?_; intro w0 ok0 lent ρ0; refine .seq_k fun N1 hN1 => ?_; refine .region (l := [_,_]) (.boxF (e_impl_Value a0) rfl rfl rfl (hn := .assign (e_string (⟨#[]⟩ : ByteArray)) rfl (hn := .nil (hN1 _ ?_)))); refine .seq_k fun N2 hN2 => ?_; refine .seq_k fun N3 hN3 => ?_; refine .region (l := [_,_,_]) (.loadN ((e_impl_Value a0)).cells g_impl_Value s_impl_Value rfl (Nat.le_of_ble_eq_true rfl) rfl (hn := ?_)); refine bk h fun x4 e4 h => ?_; refine .vcall rfl rfl (c_spec_ValueOk _ _ e4) (.same (.nil)) (hn := ?_); refine .not rfl (hn := ?_); refine .nil (hN3 _ ?_); refine .cond_split rfl (fun h5 => ?_) (fun h5 => ?_)
  ·have h := bT h5 h; refine .seq_k fun N6 hN6 => ?_; refine .region (l := [_]) (.assign (e_string (⟨#[]⟩ : ByteArray)) rfl (hn := .nil (hN6 _ ?_))); obtain rfl := so h; refine .ret .p
  ·have h := bF h5 h; refine .skip (hN2 _ ?_); refine .seq_k fun N7 hN7 => ?_; refine .seq_k fun N8 hN8 => ?_; refine .region (l := [_,_]) (.fieldAddr _ u_impl_Value rfl s_int rfl rfl (hn := .load1 (c := (e_int a0.Kind)) g_int rfl (hn := .nil (hN8 _ ?_)))); refine .block ?_; refine .seq_k fun N9 hN9 => ?_; refine .region (l := [_,_]) (.int _ rfl rfl rfl (hn := .assign (e_bool (a0.Kind == (1 : Int))) rfl (hn := .nil (hN9 _ ?_)))); refine .cond_split rfl (fun h10 => ?_) (fun h10 => ?_)
   ·have h := bT h10 h; refine .seq_k fun N11 hN11 => ?_; refine .region (l := [_,_,_,_]) (.fieldAddr _ u_impl_Value rfl s_int rfl rfl (hn := .load1 (c := (e_int a0.N)) g_int rfl (hn := bk h fun x12 e12 h => ?_))); refine .vcall rfl rfl (c_spec_l1Signed _ _ e12) (.same (.nil)) (hn := ?_); refine .assign (e_string x12) rfl (hn := .nil (hN11 _ ?_)); obtain rfl := so h; refine .ret .p
   ·have h := bF h10 h; refine .seq_k fun N13 hN13 => ?_; refine .region (l := [_,_]) (.int _ rfl rfl rfl (hn := .assign (e_bool (a0.Kind == (2 : Int))) rfl (hn := .nil (hN13 _ ?_)))); refine .cond_split rfl (fun h14 => ?_) (fun h14 => ?_)
    ·have h := bT h14 h; refine .seq_k fun N15 hN15 => ?_; refine .region (l := [_,_,_,_,_]) (.fieldAddr _ u_impl_Value rfl s_string rfl rfl (hn := .load1 (c := (e_string a0.S)) g_string rfl (hn := bk h fun x16 e16 h => ?_))); refine .str _ rfl rfl (cat_ck e16) (hn := bk h fun x17 e17 h => ?_); refine .str _ rfl rfl (cat_ck e17) (hn := .assign (e_string x17) rfl (hn := .nil (hN15 _ ?_))); obtain rfl := so h; refine .ret .p
    ·have h := bF h14 h; refine .seq_k fun N18 hN18 => ?_; refine .region (l := [_,_]) (.int _ rfl rfl rfl (hn := .assign (e_bool (a0.Kind == (3 : Int))) rfl (hn := .nil (hN18 _ ?_)))); refine .cond_split rfl (fun h19 => ?_) (fun h19 => ?_)
     ·have h := bT h19 h; refine .seq_k fun N20 hN20 => ?_; refine .region (l := [_,_,_,_,_,_]) (.lit (ops := [_, _]) [(e_string (⟨#[102, 97, 108, 115, 101]⟩ : ByteArray)), (e_string (⟨#[116, 114, 117, 101]⟩ : ByteArray))] u_Lstring s_string z_string rfl rfl rfl rfl rfl rfl (hn := ?_)); refine .fieldAddr _ u_impl_Value rfl s_int rfl rfl (hn := .load1 (c := (e_int a0.N)) g_int rfl (hn := bk h fun x21 e21 h => ?_)); refine .indexM (f := e_string) e21 u_Lstring s_string rfl rfl (hn := ?_); refine .load1 (c := (e_string x21)) g_string rfl (hn := .assign (e_string x21) rfl (hn := .nil (hN20 _ ?_))); obtain rfl := so h; refine .ret .p
     ·have h := bF h19 h; refine .skip (hN7 _ ?_); refine .seq_k fun N22 hN22 => ?_; refine .region (l := [_]) (.assign (e_string (⟨#[110, 111, 110, 101]⟩ : ByteArray)) rfl (hn := .nil (hN22 _ ?_))); obtain rfl := so h; refine .ret .p

def m_spec_ValueRead_j4 (t0 : ByteArray) (o2 : S_impl_Value) (o4 : S_impl_Value) : Option (S_impl_Value × Bool) :=
  (m_spec_ValueText o4).bind fun x33 =>
  bif (!(sEq x33 t0)) then (lt ((⟨(0 : Int), (0 : Int), (⟨#[]⟩ : ByteArray)⟩ : S_impl_Value)) fun y36 =>
    some (y36, false))
  else (lt (o4) fun y38 =>
  some (y38, true))
def m_spec_ValueRead_j3 (t0 : ByteArray) (t40 : Bool) (o2 : S_impl_Value) (o4 : S_impl_Value) : Option (S_impl_Value × Bool) :=
  bif t40 then ((sCut? t0 (1 : Int) (t0.size : Int)).bind fun x25 =>
    (m_spec_l1Digits x25).bind fun x26 =>
    (ckI (0 - (maxI x26 (0 : Int)))).bind fun x27 =>
    lt ((⟨(1 : Int), x27, (⟨#[]⟩ : ByteArray)⟩ : S_impl_Value)) fun y28 =>
    m_spec_ValueRead_j4  t0 o2 y28)
  else ((m_spec_l1Digits t0).bind fun x29 =>
    lt ((⟨(1 : Int), (maxI x29 (0 : Int)), (⟨#[]⟩ : ByteArray)⟩ : S_impl_Value)) fun y30 =>
    m_spec_ValueRead_j4  t0 o2 y30)
def m_spec_ValueRead_j2 (t0 : ByteArray) (t25 : Bool) (o2 : S_impl_Value) (o4 : S_impl_Value) : Option (S_impl_Value × Bool) :=
  bif t25 then ((ckI ((t0.size : Int) - (1 : Int))).bind fun x18 =>
    (sCut? t0 (1 : Int) x18).bind fun x19 =>
    lt ((⟨(2 : Int), (0 : Int), x19⟩ : S_impl_Value)) fun y20 =>
    m_spec_ValueRead_j4  t0 o2 y20)
  else (bif decide ((t0.size : Int) > (1 : Int)) then ((sAt? t0 (0 : Int)).bind fun x23 =>
      m_spec_ValueRead_j3  t0 ((x23.toNat : Int) == ((45 : UInt8).toNat : Int)) o2 o4)
    else (m_spec_ValueRead_j3  t0 false o2 o4))
def m_spec_ValueRead_j1 (t0 : ByteArray) (t14 : Bool) (o2 : S_impl_Value) (o4 : S_impl_Value) : Option (S_impl_Value × Bool) :=
  bif t14 then ((ckI ((5 : Int) - (t0.size : Int))).bind fun x12 =>
    lt ((⟨(3 : Int), x12, (⟨#[]⟩ : ByteArray)⟩ : S_impl_Value)) fun y13 =>
    m_spec_ValueRead_j4  t0 o2 y13)
  else (bif decide ((t0.size : Int) > (1 : Int)) then ((sAt? t0 (0 : Int)).bind fun x16 =>
      m_spec_ValueRead_j2  t0 ((x16.toNat : Int) == ((39 : UInt8).toNat : Int)) o2 o4)
    else (m_spec_ValueRead_j2  t0 false o2 o4))
def m_spec_ValueRead (a0 : ByteArray) : Option (S_impl_Value × Bool) :=
  lt ((⟨(0 : Int), (0 : Int), (⟨#[]⟩ : ByteArray)⟩ : S_impl_Value)) fun y3 =>
  bif (sEq a0 (⟨#[110, 111, 110, 101]⟩ : ByteArray)) then (lt (y3) fun y8 =>
    some (y8, true))
  else (bif (sEq a0 (⟨#[116, 114, 117, 101]⟩ : ByteArray)) then (m_spec_ValueRead_j1  a0 true (⟨(0 : Int), (0 : Int), (⟨#[]⟩ : ByteArray)⟩ : S_impl_Value) y3)
    else (m_spec_ValueRead_j1  a0 (sEq a0 (⟨#[102, 97, 108, 115, 101]⟩ : ByteArray)) (⟨(0 : Int), (0 : Int), (⟨#[]⟩ : ByteArray)⟩ : S_impl_Value) y3))
theorem c_spec_ValueRead (a0 : ByteArray) (r : (S_impl_Value × Bool)) (h : m_spec_ValueRead a0 = some r) : Does Tryd.prog f_spec_ValueRead [e_string a0] [] (fun x hh => x = .tup [e_impl_Value r.1, e_bool r.2] ∧ hh = []) := by
  refine Does.goG [] F_spec_ValueRead rfl e_spec_ValueRead n_spec_ValueRead rfl (rvs := [.cell 2 t_impl_Value, .tmp 3]) rfl rfl ?_; intro w0 ok0 lent ρ0; refine .seq_k fun N1 hN1 => ?_; refine .region (l := [_,_]) (.alloc_impl_Value 2 rfl (hn := ?_)); refine .assign (e_bool false) rfl (hn := .nil (hN1 _ ?_)); refine .seq_k fun N2 hN2 => ?_; refine .region (l := [_,_,_]) (.build_impl_Value (parts := []) (⟨(0 : Int), (0 : Int), (⟨#[]⟩ : ByteArray)⟩ : S_impl_Value) rfl rfl rfl .refl (hn := ?_)); refine .alloc_impl_Value 4 rfl (hn := ?_); refine lk h fun y3 e3 h => ?_; refine .storeW (y := (⟨(0 : Int), (0 : Int), (⟨#[]⟩ : ByteArray)⟩ : S_impl_Value)) y3 s_impl_Value rfl rfl rfl rfl rfl rfl (by rw [e3]; exact .refl) rfl (hn := ?_); refine .nil (hN2 _ ?_); refine .join (α := ByteArray × S_impl_Value × S_impl_Value) (fun z : ByteArray × S_impl_Value × S_impl_Value => [(0, (e_string z.1)), (2, (.ptr 2 0 0)), (4, (.ptr 4 0 0))]) (fun z : ByteArray × S_impl_Value × S_impl_Value => [(2, (vob 3 e_impl_Value z.2.1)), (4, (vob 3 e_impl_Value z.2.2))]) (fun z : ByteArray × S_impl_Value × S_impl_Value => m_spec_ValueRead_j4  z.1 z.2.1 z.2.2) r (fun _ => by simp [hkeys]) ?_ ?_
  ·rintro ⟨t0, o2, o4⟩ h; replace h : m_spec_ValueRead_j4  t0 o2 o4 = some _ := h; refine .seq_k fun N31 hN31 => ?_; refine .seq_k fun N32 hN32 => ?_; refine .region (l := [_,_,_,_]) (.loadVN ((e_impl_Value o4)).cells  g_impl_Value s_impl_Value rfl rfl rfl rfl (hn := ?_)); refine bk h fun x33 e33 h => ?_; refine .vcall rfl rfl (c_spec_ValueText _ _ e33) (.same (.nil)) (hn := ?_); refine .move (e_string t0) rfl (hn := .str _ rfl rfl rfl (hn := .nil (hN32 _ ?_))); refine .cond_split rfl (fun h34 => ?_) (fun h34 => ?_)
   ·have h := bT h34 h; refine .seq_k fun N35 hN35 => ?_; refine .region (l := [_,_,_]) (.build_impl_Value (parts := []) (⟨(0 : Int), (0 : Int), (⟨#[]⟩ : ByteArray)⟩ : S_impl_Value) rfl rfl rfl .refl (hn := ?_)); refine lk h fun y36 e36 h => ?_; refine .storeW (y := o2) y36 s_impl_Value rfl rfl rfl rfl rfl rfl (by rw [e36]; exact .refl) rfl (hn := ?_); refine .assign (e_bool false) rfl (hn := .nil (hN35 _ ?_)); obtain rfl := so h; refine .ret (QG.mk (.inr rfl) (.cons (.cellN (ys := (e_impl_Value y36).cells) g_impl_Value s_impl_Value rfl rfl rfl rfl rfl (fun _ _ => rfl)) (.cons (.tmp (x := (e_bool false)) rfl) (.nil))) (RetOK.many0 (.cons (.pure rfl) (.cons (.pure rfl) (.nil))) (by simp) (by decide)) rfl rfl)
   ·have h := bF h34 h; refine .skip (hN31 _ ?_); refine .seq_k fun N37 hN37 => ?_; refine .region (l := [_,_,_]) (.loadVN ((e_impl_Value o4)).cells  g_impl_Value s_impl_Value rfl rfl rfl rfl (hn := ?_)); refine lk h fun y38 e38 h => ?_; refine .storeW (y := o2) y38 s_impl_Value rfl rfl rfl rfl rfl rfl (by rw [e38]; exact .refl) rfl (hn := ?_); refine .assign (e_bool true) rfl (hn := .nil (hN37 _ ?_)); obtain rfl := so h; refine .ret (QG.mk (.inr rfl) (.cons (.cellN (ys := (e_impl_Value y38).cells) g_impl_Value s_impl_Value rfl rfl rfl rfl rfl (fun _ _ => rfl)) (.cons (.tmp (x := (e_bool true)) rfl) (.nil))) (RetOK.many0 (.cons (.pure rfl) (.cons (.pure rfl) (.nil))) (by simp) (by decide)) rfl rfl)
  ·intro N4 hN4; refine .block ?_; refine .seq_k fun N5 hN5 => ?_; refine .region (l := [_,_,_]) (.move (e_string a0) rfl (hn := .str _ rfl rfl rfl (hn := .assign (e_bool (sEq a0 (⟨#[110, 111, 110, 101]⟩ : ByteArray))) rfl (hn := .nil (hN5 _ ?_))))); refine .cond_split rfl (fun h6 => ?_) (fun h6 => ?_)
   ·have h := bT h6 h; refine .seq_k fun N7 hN7 => ?_; refine .region (l := [_,_,_]) (.loadVN ((e_impl_Value y3)).cells  g_impl_Value s_impl_Value rfl rfl rfl rfl (hn := ?_)); refine lk h fun y8 e8 h => ?_; refine .storeW (y := (⟨(0 : Int), (0 : Int), (⟨#[]⟩ : ByteArray)⟩ : S_impl_Value)) y8 s_impl_Value rfl rfl rfl rfl rfl rfl (by rw [e8]; exact .refl) rfl (hn := ?_); refine .assign (e_bool true) rfl (hn := .nil (hN7 _ ?_)); obtain rfl := so h; refine .ret (QG.mk (.inr rfl) (.cons (.cellN (ys := (e_impl_Value y8).cells) g_impl_Value s_impl_Value rfl rfl rfl rfl rfl (fun _ _ => rfl)) (.cons (.tmp (x := (e_bool true)) rfl) (.nil))) (RetOK.many0 (.cons (.pure rfl) (.cons (.pure rfl) (.nil))) (by simp) (by decide)) rfl rfl)
   ·have h := bF h6 h; refine .join (α := ByteArray × Bool × S_impl_Value × S_impl_Value) (fun z : ByteArray × Bool × S_impl_Value × S_impl_Value => [(0, (e_string z.1)), (2, (.ptr 2 0 0)), (4, (.ptr 4 0 0)), (14, (e_bool z.2.1))]) (fun z : ByteArray × Bool × S_impl_Value × S_impl_Value => [(2, (vob 3 e_impl_Value z.2.2.1)), (4, (vob 3 e_impl_Value z.2.2.2))]) (fun z : ByteArray × Bool × S_impl_Value × S_impl_Value => m_spec_ValueRead_j1  z.1 z.2.1 z.2.2.1 z.2.2.2) r (fun _ => by simp [hkeys]) ?_ ?_
    ·rintro ⟨t0, t14, o2, o4⟩ h; replace h : m_spec_ValueRead_j1  t0 t14 o2 o4 = some _ := h; refine .cond_split rfl (fun h11 => ?_) (fun h11 => ?_)
     ·have h := bT h11 h; refine .region (l := [_,_,_,_,_]) (.move (e_string t0) rfl (hn := .lenS u_string rfl (hn := ?_))); refine bk h fun x12 e12 h => ?_; refine .int _ rfl rfl (sub_ck e12) (hn := .build_impl_Value (parts := [_, _]) (⟨(3 : Int), x12, (⟨#[]⟩ : ByteArray)⟩ : S_impl_Value) rfl rfl rfl .refl (hn := ?_)); refine lk h fun y13 e13 h => ?_; refine .storeW (y := o4) y13 s_impl_Value rfl rfl rfl rfl rfl rfl (by rw [e13]; exact .refl) rfl (hn := ?_); refine .nil (hN4 (t0, o2, y13) _ ⟨rfl, rfl, rfl, trivial⟩ ⟨rfl, rfl, trivial⟩ h)
     ·have h := bF h11 h; refine .join (α := ByteArray × Bool × S_impl_Value × S_impl_Value) (fun z : ByteArray × Bool × S_impl_Value × S_impl_Value => [(0, (e_string z.1)), (2, (.ptr 2 0 0)), (4, (.ptr 4 0 0)), (25, (e_bool z.2.1))]) (fun z : ByteArray × Bool × S_impl_Value × S_impl_Value => [(2, (vob 3 e_impl_Value z.2.2.1)), (4, (vob 3 e_impl_Value z.2.2.2))]) (fun z : ByteArray × Bool × S_impl_Value × S_impl_Value => m_spec_ValueRead_j2  z.1 z.2.1 z.2.2.1 z.2.2.2) r (fun _ => by simp [hkeys]) ?_ ?_
      ·rintro ⟨t0, t25, o2, o4⟩ h; replace h : m_spec_ValueRead_j2  t0 t25 o2 o4 = some _ := h; refine .cond_split rfl (fun h17 => ?_) (fun h17 => ?_)
       ·have h := bT h17 h; refine .region (l := [_,_,_,_,_,_,_]) (.move (e_string t0) rfl (hn := .move (e_string t0) rfl (hn := .lenS u_string rfl (hn := ?_)))); refine bk h fun x18 e18 h => ?_; refine .int _ rfl rfl (sub_ck e18) (hn := bk h fun x19 e19 h => ?_); refine .cutS e19 u_string rfl ⟨_, rfl⟩ ⟨_, rfl⟩ (hn := ?_); refine .build_impl_Value (parts := [_, _]) (⟨(2 : Int), (0 : Int), x19⟩ : S_impl_Value) rfl rfl rfl .refl (hn := ?_); refine lk h fun y20 e20 h => ?_; refine .storeW (y := o4) y20 s_impl_Value rfl rfl rfl rfl rfl rfl (by rw [e20]; exact .refl) rfl (hn := ?_); refine .nil (hN4 (t0, o2, y20) _ ⟨rfl, rfl, rfl, trivial⟩ ⟨rfl, rfl, trivial⟩ h)
       ·have h := bF h17 h; refine .join (α := ByteArray × Bool × S_impl_Value × S_impl_Value) (fun z : ByteArray × Bool × S_impl_Value × S_impl_Value => [(0, (e_string z.1)), (2, (.ptr 2 0 0)), (4, (.ptr 4 0 0)), (40, (e_bool z.2.1))]) (fun z : ByteArray × Bool × S_impl_Value × S_impl_Value => [(2, (vob 3 e_impl_Value z.2.2.1)), (4, (vob 3 e_impl_Value z.2.2.2))]) (fun z : ByteArray × Bool × S_impl_Value × S_impl_Value => m_spec_ValueRead_j3  z.1 z.2.1 z.2.2.1 z.2.2.2) r (fun _ => by simp [hkeys]) ?_ ?_
        ·rintro ⟨t0, t40, o2, o4⟩ h; replace h : m_spec_ValueRead_j3  t0 t40 o2 o4 = some _ := h; refine .cond_split rfl (fun h24 => ?_) (fun h24 => ?_)
         ·have h := bT h24 h; refine .region (l := [_,_,_,_,_,_,_]) (.move (e_string t0) rfl (hn := bk h fun x25 e25 h => ?_)); refine .cutS e25 u_string rfl ⟨_, rfl⟩ rfl (hn := ?_); refine bk h fun x26 e26 h => ?_; refine .vcall rfl rfl (c_spec_l1Digits _ _ e26) (.same (.nil)) (hn := ?_); refine .max2 rfl rfl (hn := ?_); refine bk h fun x27 e27 h => ?_; refine .neg _ rfl (sub_ck e27) (hn := ?_); refine .build_impl_Value (parts := [_, _]) (⟨(1 : Int), x27, (⟨#[]⟩ : ByteArray)⟩ : S_impl_Value) rfl rfl rfl .refl (hn := ?_); refine lk h fun y28 e28 h => ?_; refine .storeW (y := o4) y28 s_impl_Value rfl rfl rfl rfl rfl rfl (by rw [e28]; exact .refl) rfl (hn := ?_); refine .nil (hN4 (t0, o2, y28) _ ⟨rfl, rfl, rfl, trivial⟩ ⟨rfl, rfl, trivial⟩ h)
         ·have h := bF h24 h; refine .region (l := [_,_,_,_,_]) (.move (e_string t0) rfl (hn := bk h fun x29 e29 h => ?_)); refine .vcall rfl rfl (c_spec_l1Digits _ _ e29) (.same (.nil)) (hn := ?_); refine .max2 rfl rfl (hn := ?_); refine .build_impl_Value (parts := [_, _]) (⟨(1 : Int), (maxI x29 (0 : Int)), (⟨#[]⟩ : ByteArray)⟩ : S_impl_Value) rfl rfl rfl .refl (hn := ?_); refine lk h fun y30 e30 h => ?_; refine .storeW (y := o4) y30 s_impl_Value rfl rfl rfl rfl rfl rfl (by rw [e30]; exact .refl) rfl (hn := ?_); refine .nil (hN4 (t0, o2, y30) _ ⟨rfl, rfl, rfl, trivial⟩ ⟨rfl, rfl, trivial⟩ h)
        ·intro N21 hN21; refine .region (l := [_,_,_,_,_,_,_,_,_]) (.move (e_string t0) rfl (hn := .lenS u_string rfl (hn := ?_))); refine .int _ rfl rfl rfl (hn := .move (e_bool (decide ((t0.size : Int) > (1 : Int)))) rfl (hn := .byCases (t := 44) _ rfl (fun h22 => ?_) (fun h22 => ?_)))
         ·have h := bT h22 h; refine .gY 44 h22 (.move (e_string t0) rfl (hn := bk h fun x23 e23 h => ?_)); refine .gY 44 h22 (.indexStr u_string rfl rfl (sAt_0 e23) (sAt_g e23) (hn := ?_)); refine .gY 44 h22 (.int _ rfl rfl rfl (hn := .pickTM (e_bool ((x23.toNat : Int) == ((45 : UInt8).toNat : Int))) rfl h22 rfl (hn := .assign (e_bool ((x23.toNat : Int) == ((45 : UInt8).toNat : Int))) rfl (hn := .nil (hN21 (t0, ((x23.toNat : Int) == ((45 : UInt8).toNat : Int)), o2, o4) _ ⟨rfl, rfl, rfl, rfl, trivial⟩ ⟨rfl, rfl, trivial⟩ h)))))
         ·have h := bF h22 h; refine .gN 44 h22 (.gN 44 h22 (.gN 44 h22 (.pickFM (e_bool false) rfl h22 rfl (hn := .assign (e_bool false) rfl (hn := .nil (hN21 (t0, false, o2, o4) _ ⟨rfl, rfl, rfl, rfl, trivial⟩ ⟨rfl, rfl, trivial⟩ h))))))
      ·intro N14 hN14; refine .region (l := [_,_,_,_,_,_,_,_,_]) (.move (e_string t0) rfl (hn := .lenS u_string rfl (hn := ?_))); refine .int _ rfl rfl rfl (hn := .move (e_bool (decide ((t0.size : Int) > (1 : Int)))) rfl (hn := .byCases (t := 29) _ rfl (fun h15 => ?_) (fun h15 => ?_)))
       ·have h := bT h15 h; refine .gY 29 h15 (.move (e_string t0) rfl (hn := bk h fun x16 e16 h => ?_)); refine .gY 29 h15 (.indexStr u_string rfl rfl (sAt_0 e16) (sAt_g e16) (hn := ?_)); refine .gY 29 h15 (.int _ rfl rfl rfl (hn := .pickTM (e_bool ((x16.toNat : Int) == ((39 : UInt8).toNat : Int))) rfl h15 rfl (hn := .assign (e_bool ((x16.toNat : Int) == ((39 : UInt8).toNat : Int))) rfl (hn := .nil (hN14 (t0, ((x16.toNat : Int) == ((39 : UInt8).toNat : Int)), o2, o4) _ ⟨rfl, rfl, rfl, rfl, trivial⟩ ⟨rfl, rfl, trivial⟩ h)))))
       ·have h := bF h15 h; refine .gN 29 h15 (.gN 29 h15 (.gN 29 h15 (.pickFM (e_bool false) rfl h15 rfl (hn := .assign (e_bool false) rfl (hn := .nil (hN14 (t0, false, o2, o4) _ ⟨rfl, rfl, rfl, rfl, trivial⟩ ⟨rfl, rfl, trivial⟩ h))))))
    ·intro N9 hN9; refine .region (l := [_,_,_,_,_,_,_]) (.move (e_string a0) rfl (hn := .str _ rfl rfl rfl (hn := .move (e_bool (sEq a0 (⟨#[116, 114, 117, 101]⟩ : ByteArray))) rfl (hn := .byCases (t := 17) _ rfl (fun h10 => ?_) (fun h10 => ?_)))))
     ·have h := bT h10 h; refine .gN 17 h10 (.gN 17 h10 (.pickTM (e_bool true) rfl h10 rfl (hn := .assign (e_bool true) rfl (hn := .nil (hN9 (a0, true, (⟨(0 : Int), (0 : Int), (⟨#[]⟩ : ByteArray)⟩ : S_impl_Value), y3) _ ⟨rfl, rfl, rfl, rfl, trivial⟩ ⟨rfl, rfl, trivial⟩ h)))))
     ·have h := bF h10 h; refine .gY 17 h10 (.move (e_string a0) rfl (hn := .gY 17 h10 (.str _ rfl rfl rfl (hn := .pickFM (e_bool (sEq a0 (⟨#[102, 97, 108, 115, 101]⟩ : ByteArray))) rfl h10 rfl (hn := .assign (e_bool (sEq a0 (⟨#[102, 97, 108, 115, 101]⟩ : ByteArray))) rfl (hn := .nil (hN9 (a0, (sEq a0 (⟨#[102, 97, 108, 115, 101]⟩ : ByteArray)), (⟨(0 : Int), (0 : Int), (⟨#[]⟩ : ByteArray)⟩ : S_impl_Value), y3) _ ⟨rfl, rfl, rfl, rfl, trivial⟩ ⟨rfl, rfl, trivial⟩ h)))))))

def m_strconv_Atoi (a0 : ByteArray) : Option (Int × Bool) := if a0.size ≤ 281474976710656 then some (Go.Proofs.atoiE a0) else none
theorem c_strconv_Atoi (a0 : ByteArray) (r : Int × Bool) (h : m_strconv_Atoi a0 = some r) : DoesG Tryd.prog GW f_strconv_Atoi [e_string a0] (fun x hh => (∃ ev, errV r.2 ev ∧ x = .tup [e_int r.1, .imm ev]) ∧ hh = []) := by
  unfold m_strconv_Atoi at h
  split at h
  · rename_i hb
    cases h; exact Tryd.atoi_does e_strconv_Atoi a0 hb
  · cases h



def m_impl_between_j1 (t6 : Bool) : Option Bool :=
  some t6
def m_impl_between (a0 : Int) (a1 : Int) (a2 : Int) : Option Bool :=
  bif decide (a0 ≥ a1) then (m_impl_between_j1  (decide (a0 ≤ a2)))
  else (m_impl_between_j1  false)
theorem c_impl_between (a0 : Int) (a1 : Int) (a2 : Int) (r : Bool) (h : m_impl_between a0 a1 a2 = some r) : Does Tryd.prog f_impl_between [e_int a0, e_int a1, e_int a2] [] (fun x hh => x = e_bool r ∧ hh = []) := by
  refine Does.goG [] F_impl_between rfl e_impl_between n_impl_between rfl (rvs := [.tmp 6]) rfl rfl ?_; intro w0 ok0 lent ρ0; refine .seq_k fun N1 hN1 => ?_; refine .region (l := [_]) (.assign (e_bool false) rfl (hn := .nil (hN1 _ ?_))); refine .join (α := Bool) (fun z : Bool => [(6, (e_bool z))]) (fun z : Bool => []) (fun z : Bool => m_impl_between_j1  z) r (fun _ => by simp [hkeys]) ?_ ?_
  ·rintro t6 h; replace h : m_impl_between_j1  t6 = some _ := h; obtain rfl := so h; refine .ret .p
  ·intro N2 hN2; refine .region (l := [_,_,_,_,_,_,_,_,_]) (.move (e_int a0) rfl (hn := .move (e_int a1) rfl (hn := .int _ rfl rfl rfl (hn := .move (e_bool (decide (a0 ≥ a1))) rfl (hn := .byCases (t := 10) _ rfl (fun h3 => ?_) (fun h3 => ?_))))))
   ·have h := bT h3 h; refine .gY 10 h3 (.move (e_int a0) rfl (hn := .gY 10 h3 (.move (e_int a2) rfl (hn := .gY 10 h3 (.int _ rfl rfl rfl (hn := .pickTM (e_bool (decide (a0 ≤ a2))) rfl h3 rfl (hn := .assign (e_bool (decide (a0 ≤ a2))) rfl (hn := .nil (hN2 (decide (a0 ≤ a2)) _ ⟨rfl, trivial⟩ trivial h)))))))))
   ·have h := bF h3 h; refine .gN 10 h3 (.gN 10 h3 (.gN 10 h3 (.pickFM (e_bool false) rfl h3 rfl (hn := .assign (e_bool false) rfl (hn := .nil (hN2 false _ ⟨rfl, trivial⟩ trivial h))))))

def m_impl_letters_j1  : Option Bool :=
  some true
def m_impl_letters_l1 : Nat → (List UInt8) → Int → Int → Option Bool
  | 0, _, _, _ => none
  | n1 + 1, t6, t7, t8 =>
    bif decide (t8 < t7) then ((at? t6 t8).bind fun x12 =>
    (m_impl_between (x12.toNat : Int) (97 : Int) (122 : Int)).bind fun x14 =>
    bif (!x14) then (some false)
    else ((ckI (t8 + (1 : Int))).bind fun x17 =>
    (m_impl_letters_l1  n1) t6 t7 x17))
    else (m_impl_letters_j1  )
def m_impl_letters (a0 : ByteArray) : Option Bool :=
  (sBytes? a0).bind fun x4 =>
  m_impl_letters_l1  (((x4.length : Int) - (0 : Int)).toNat + 1) x4 (x4.length : Int) (0 : Int)
theorem c_impl_letters (a0 : ByteArray) (r : Bool) (h : m_impl_letters a0 = some r) : Does Tryd.prog f_impl_letters [e_string a0] [] (fun x hh => x = e_bool r ∧ hh = []) := by
  refine Does.goG [] F_impl_letters rfl e_impl_letters n_impl_letters rfl (rvs := [.tmp 2]) rfl rfl ?_; intro w0 ok0 lent ρ0; refine .seq_k fun N1 hN1 => ?_; refine .region (l := [_]) (.assign (e_bool false) rfl (hn := .nil (hN1 _ ?_))); refine .join (α := Unit) (fun z : Unit => []) (fun z : Unit => []) (fun z : Unit => m_impl_letters_j1  ) r (fun _ => by simp [hkeys]) ?_ ?_
  ·rintro _ h; replace h : m_impl_letters_j1   = some _ := h; refine .seq_k fun N18 hN18 => ?_; refine .region (l := [_]) (.assign (e_bool true) rfl (hn := .nil (hN18 _ ?_))); obtain rfl := so h; refine .ret .p
  ·intro N2 hN2; refine .seq_k fun N3 hN3 => ?_; refine .region (l := [_,_,_,_]) (.move (e_string a0) rfl (hn := bk h fun x4 e4 h => ?_)); refine .bytesM e4 u_string u_Luint8 u_uint8 rfl (hn := ?_); refine .lenM (f := e_uint8) (l := x4) u_Luint8 rfl (hn := ?_); refine .move (e_int (0 : Int)) rfl (hn := .nil (hN3 _ ?_)); refine .block ?_; refine .loopM (α := (List UInt8) × Int × Int) (fun z : (List UInt8) × Int × Int => [(6, (e_Luint8 z.1)), (7, (e_int z.2.1)), (8, (e_int z.2.2))]) (fun z : (List UInt8) × Int × Int => []) (fun n1 (z : (List UInt8) × Int × Int) => m_impl_letters_l1  n1 z.1 z.2.1 z.2.2) r _ (x4, (x4.length : Int), (0 : Int)) h (fun _ => rfl) (fun _ => by simp [hkeys]) ⟨rfl, rfl, rfl, trivial⟩ trivial ?_; rintro n1 ⟨t6, t7, t8⟩ h N5 hN5; replace h : m_impl_letters_l1  (n1 + 1) t6 t7 t8 = some _ := h; refine .seq_k fun N7 hN7 => ?_; refine .region (l := [_]) (.int _ rfl rfl rfl (hn := .nil (hN7 _ ?_))); refine .seq_k fun N8 hN8 => ?_; refine .cond_split rfl (fun h9 => ?_) (fun h9 => ?_)
   ·have h := bT h9 h; refine .skip (hN8 _ ?_); refine .seq_k fun N10 hN10 => ?_; refine .block ?_; refine .seq_k fun N11 hN11 => ?_; refine .region (l := [_,_,_]) (bk h fun x12 e12 h => ?_); refine .indexM (f := e_uint8) e12 u_Luint8 s_uint8 rfl rfl (hn := ?_); refine .load1 (c := (e_uint8 x12)) g_uint8 rfl (hn := .assign (e_uint8 x12) rfl (hn := .nil (hN11 _ ?_))); refine .seq_k fun N13 hN13 => ?_; refine .region (l := [_,_,_,_]) (.move (e_uint8 x12) rfl (hn := .convByte _ u_uint8 u_int rfl (hn := ?_))); refine bk h fun x14 e14 h => ?_; refine .vcall rfl rfl (c_impl_between _ _ _ _ e14) (.same (.same (.same (.nil)))) (hn := ?_); refine .not rfl (hn := ?_); refine .nil (hN13 _ ?_); refine .cond_split rfl (fun h15 => ?_) (fun h15 => ?_)
    ·have h := bT h15 h; refine .seq_k fun N16 hN16 => ?_; refine .region (l := [_]) (.assign (e_bool false) rfl (hn := .nil (hN16 _ ?_))); obtain rfl := so h; refine .ret .p
    ·have h := bF h15 h; refine .skip (hN10 _ ?_); refine .region (l := [_,_]) (bk h fun x17 e17 h => ?_); refine .int _ rfl rfl (add_ck e17) (hn := .move (e_int x17) rfl (hn := .nil (hN5 (t6, t7, x17) _ ⟨rfl, rfl, rfl, trivial⟩ trivial h)))
   ·have h := bF h9 h; refine .exit (hN2 () _ trivial trivial h)

def m_impl_Value_ok_j1 (t2 : Bool) : Option Bool :=
  some t2
def m_impl_Value_ok_j2 (t2 : Bool) : Option Bool :=
  some t2
def m_impl_Value_ok_j3 (t2 : Bool) : Option Bool :=
  some t2
def m_impl_Value_ok (a0 : S_impl_Value) : Option Bool :=
  bif (a0.Kind == (0 : Int)) then (some (decide (a0 = (⟨(0 : Int), (0 : Int), (⟨#[]⟩ : ByteArray)⟩ : S_impl_Value))))
  else (bif (a0.Kind == (1 : Int)) then (bif (sEq a0.S (⟨#[]⟩ : ByteArray)) then ((m_impl_between a0.N (-9999 : Int) (9999 : Int)).bind fun x11 =>
        m_impl_Value_ok_j1  x11)
      else (m_impl_Value_ok_j1  false))
    else (bif (a0.Kind == (2 : Int)) then (bif (a0.N == (0 : Int)) then (bif decide ((a0.S.size : Int) ≤ (6 : Int)) then ((m_impl_letters a0.S).bind fun x17 =>
            m_impl_Value_ok_j2  x17)
          else (m_impl_Value_ok_j2  false))
        else (m_impl_Value_ok_j2  false))
      else (bif (a0.Kind == (3 : Int)) then (bif (sEq a0.S (⟨#[]⟩ : ByteArray)) then ((m_impl_between a0.N (0 : Int) (1 : Int)).bind fun x22 =>
            m_impl_Value_ok_j3  x22)
          else (m_impl_Value_ok_j3  false))
        else (some false))))
theorem c_impl_Value_ok (a0 : S_impl_Value) (r : Bool) (h : m_impl_Value_ok a0 = some r) : Does Tryd.prog f_impl_Value_ok [e_impl_Value a0] [] (fun x hh => x = e_bool r ∧ hh = []) := by
  refine Does.goG [] F_impl_Value_ok rfl e_impl_Value_ok n_impl_Value_ok rfl (rvs := [.tmp 2]) rfl rfl ?_; intro w0 ok0 lent ρ0; refine .seq_k fun N1 hN1 => ?_; refine .region (l := [_,_]) (.boxF (e_impl_Value a0) rfl rfl rfl (hn := .assign (e_bool false) rfl (hn := .nil (hN1 _ ?_)))); refine .seq_k fun N2 hN2 => ?_; refine .seq_k fun N3 hN3 => ?_; refine .region (l := [_,_]) (.fieldAddr _ u_impl_Value rfl s_int rfl rfl (hn := .load1 (c := (e_int a0.Kind)) g_int rfl (hn := .nil (hN3 _ ?_)))); refine .block ?_; refine .seq_k fun N4 hN4 => ?_; refine .region (l := [_,_]) (.int _ rfl rfl rfl (hn := .assign (e_bool (a0.Kind == (0 : Int))) rfl (hn := .nil (hN4 _ ?_)))); refine .cond_split rfl (fun h5 => ?_) (fun h5 => ?_)
  ·have h := bT h5 h; refine .seq_k fun N6 hN6 => ?_; refine .region (l := [_,_,_,_]) (.loadN ((e_impl_Value a0)).cells g_impl_Value s_impl_Value rfl (Nat.le_of_ble_eq_true rfl) rfl (hn := ?_)); refine .build_impl_Value (parts := []) (⟨(0 : Int), (0 : Int), (⟨#[]⟩ : ByteArray)⟩ : S_impl_Value) rfl rfl rfl .refl (hn := ?_); refine .eq_impl_Value _ _ rfl rfl (hn := ?_); refine .assign (e_bool (decide (a0 = (⟨(0 : Int), (0 : Int), (⟨#[]⟩ : ByteArray)⟩ : S_impl_Value)))) rfl (hn := .nil (hN6 _ ?_)); obtain rfl := so h; refine .ret .p
  ·have h := bF h5 h; refine .seq_k fun N7 hN7 => ?_; refine .region (l := [_,_]) (.int _ rfl rfl rfl (hn := .assign (e_bool (a0.Kind == (1 : Int))) rfl (hn := .nil (hN7 _ ?_)))); refine .cond_split rfl (fun h8 => ?_) (fun h8 => ?_)
   ·have h := bT h8 h; refine .join (α := Bool) (fun z : Bool => [(2, (e_bool z))]) (fun z : Bool => []) (fun z : Bool => m_impl_Value_ok_j1  z) r (fun _ => by simp [hkeys]) ?_ ?_
    ·rintro t2 h; replace h : m_impl_Value_ok_j1  t2 = some _ := h; obtain rfl := so h; refine .ret .p
    ·intro N9 hN9; refine .region (l := [_,_,_,_,_,_,_,_,_]) (.fieldAddr _ u_impl_Value rfl s_string rfl rfl (hn := .load1 (c := (e_string a0.S)) g_string rfl (hn := .str _ rfl rfl rfl (hn := .move (e_bool (sEq a0.S (⟨#[]⟩ : ByteArray))) rfl (hn := .byCases (t := 15) _ rfl (fun h10 => ?_) (fun h10 => ?_))))))
     ·have h := bT h10 h; refine .gY 15 h10 (.fieldAddr _ u_impl_Value rfl s_int rfl rfl (hn := .gY 15 h10 (.load1 (c := (e_int a0.N)) g_int rfl (hn := bk h fun x11 e11 h => ?_)))); refine .gY 15 h10 (.vcall rfl rfl (c_impl_between _ _ _ _ e11) (.same (.same (.same (.nil)))) (hn := ?_)); refine .pickTM (e_bool x11) rfl h10 rfl (hn := .assign (e_bool x11) rfl (hn := .nil (hN9 x11 _ ⟨rfl, trivial⟩ trivial h)))
     ·have h := bF h10 h; refine .gN 15 h10 (.gN 15 h10 (.gN 15 h10 (.pickFM (e_bool false) rfl h10 rfl (hn := .assign (e_bool false) rfl (hn := .nil (hN9 false _ ⟨rfl, trivial⟩ trivial h))))))
   ·have h := bF h8 h; refine .seq_k fun N12 hN12 => ?_; refine .region (l := [_,_]) (.int _ rfl rfl rfl (hn := .assign (e_bool (a0.Kind == (2 : Int))) rfl (hn := .nil (hN12 _ ?_)))); refine .cond_split rfl (fun h13 => ?_) (fun h13 => ?_)
    ·have h := bT h13 h; refine .join (α := Bool) (fun z : Bool => [(2, (e_bool z))]) (fun z : Bool => []) (fun z : Bool => m_impl_Value_ok_j2  z) r (fun _ => by simp [hkeys]) ?_ ?_
     ·rintro t2 h; replace h : m_impl_Value_ok_j2  t2 = some _ := h; obtain rfl := so h; refine .ret .p
     ·intro N14 hN14; refine .region (l := [_,_,_,_,_,_,_,_,_,_,_,_,_,_,_]) (.fieldAddr _ u_impl_Value rfl s_int rfl rfl (hn := .load1 (c := (e_int a0.N)) g_int rfl (hn := .int _ rfl rfl rfl (hn := .move (e_bool (a0.N == (0 : Int))) rfl (hn := .byCases (t := 25) _ rfl (fun h15 => ?_) (fun h15 => ?_))))))
      ·have h := bT h15 h; refine .gY 25 h15 (.fieldAddr _ u_impl_Value rfl s_string rfl rfl (hn := .gY 25 h15 (.load1 (c := (e_string a0.S)) g_string rfl (hn := .gY 25 h15 (.lenS u_string rfl (hn := ?_)))))); refine .gY 25 h15 (.int _ rfl rfl rfl (hn := .pickTM (e_bool (decide ((a0.S.size : Int) ≤ (6 : Int)))) rfl h15 rfl (hn := .move (e_bool (decide ((a0.S.size : Int) ≤ (6 : Int)))) rfl (hn := .byCases (t := 31) _ rfl (fun h16 => ?_) (fun h16 => ?_)))))
       ·have h := bT h16 h; refine .gY 31 h16 (.fieldAddr _ u_impl_Value rfl s_string rfl rfl (hn := .gY 31 h16 (.load1 (c := (e_string a0.S)) g_string rfl (hn := bk h fun x17 e17 h => ?_)))); refine .gY 31 h16 (.vcall rfl rfl (c_impl_letters _ _ e17) (.same (.nil)) (hn := ?_)); refine .pickTM (e_bool x17) rfl h16 rfl (hn := .assign (e_bool x17) rfl (hn := .nil (hN14 x17 _ ⟨rfl, trivial⟩ trivial h)))
       ·have h := bF h16 h; refine .gN 31 h16 (.gN 31 h16 (.gN 31 h16 (.pickFM (e_bool false) rfl h16 rfl (hn := .assign (e_bool false) rfl (hn := .nil (hN14 false _ ⟨rfl, trivial⟩ trivial h))))))
      ·have h := bF h15 h; refine .gN 25 h15 (.gN 25 h15 (.gN 25 h15 (.gN 25 h15 (.pickFM (e_bool false) rfl h15 rfl (hn := .move (e_bool false) rfl (hn := .gN 31 rfl (.gN 31 rfl (.gN 31 rfl (.pickFM (e_bool false) rfl rfl rfl (hn := .assign (e_bool false) rfl (hn := .nil (hN14 false _ ⟨rfl, trivial⟩ trivial h))))))))))))
    ·have h := bF h13 h; refine .seq_k fun N18 hN18 => ?_; refine .region (l := [_,_]) (.int _ rfl rfl rfl (hn := .assign (e_bool (a0.Kind == (3 : Int))) rfl (hn := .nil (hN18 _ ?_)))); refine .cond_split rfl (fun h19 => ?_) (fun h19 => ?_)
     ·have h := bT h19 h; refine .join (α := Bool) (fun z : Bool => [(2, (e_bool z))]) (fun z : Bool => []) (fun z : Bool => m_impl_Value_ok_j3  z) r (fun _ => by simp [hkeys]) ?_ ?_
      ·rintro t2 h; replace h : m_impl_Value_ok_j3  t2 = some _ := h; obtain rfl := so h; refine .ret .p
      ·intro N20 hN20; refine .region (l := [_,_,_,_,_,_,_,_,_]) (.fieldAddr _ u_impl_Value rfl s_string rfl rfl (hn := .load1 (c := (e_string a0.S)) g_string rfl (hn := .str _ rfl rfl rfl (hn := .move (e_bool (sEq a0.S (⟨#[]⟩ : ByteArray))) rfl (hn := .byCases (t := 41) _ rfl (fun h21 => ?_) (fun h21 => ?_))))))
       ·have h := bT h21 h; refine .gY 41 h21 (.fieldAddr _ u_impl_Value rfl s_int rfl rfl (hn := .gY 41 h21 (.load1 (c := (e_int a0.N)) g_int rfl (hn := bk h fun x22 e22 h => ?_)))); refine .gY 41 h21 (.vcall rfl rfl (c_impl_between _ _ _ _ e22) (.same (.same (.same (.nil)))) (hn := ?_)); refine .pickTM (e_bool x22) rfl h21 rfl (hn := .assign (e_bool x22) rfl (hn := .nil (hN20 x22 _ ⟨rfl, trivial⟩ trivial h)))
       ·have h := bF h21 h; refine .gN 41 h21 (.gN 41 h21 (.gN 41 h21 (.pickFM (e_bool false) rfl h21 rfl (hn := .assign (e_bool false) rfl (hn := .nil (hN20 false _ ⟨rfl, trivial⟩ trivial h))))))
     ·have h := bF h19 h; refine .skip (hN2 _ ?_); refine .seq_k fun N23 hN23 => ?_; refine .region (l := [_]) (.assign (e_bool false) rfl (hn := .nil (hN23 _ ?_))); obtain rfl := so h; refine .ret .p

def m_strconv_Itoa (a0 : Int) : Option ByteArray := if -9223372036854775808 ≤ a0 ∧ a0 ≤ 9223372036854775807 then some ⟨(Go.Lib.itoa a0).toArray⟩ else none
theorem c_strconv_Itoa (a0 : Int) (r : ByteArray) (h : m_strconv_Itoa a0 = some r) : RetG Tryd.prog GW f_strconv_Itoa [e_int a0] (e_string r) := by
  unfold m_strconv_Itoa at h
  split at h
  · rename_i hb
    cases h; exact DoesG.pure e_strconv_Itoa fun w hG => (Go.Proofs.Any.strconv_Itoa Tryd.laysItoa a0 hb.1 hb.2 w hG.1).mono fun e w' ⟨he, k, os, hw⟩ => ⟨_, _, he, ⟨rfl, rfl⟩, hw ▸ ext_of_grow, fun ok => .fro (.imm _)⟩
  · cases h



def m_internal_strconv_FormatBool (a0 : Bool) : Option ByteArray :=
  bif a0 then (some (⟨#[116, 114, 117, 101]⟩ : ByteArray))
  else (some (⟨#[102, 97, 108, 115, 101]⟩ : ByteArray))
theorem c_internal_strconv_FormatBool (a0 : Bool) (r : ByteArray) (h : m_internal_strconv_FormatBool a0 = some r) : Does Tryd.prog f_internal_strconv_FormatBool [e_bool a0] [] (fun x hh => x = e_string r ∧ hh = []) := by
  refine Does.goG [] F_internal_strconv_FormatBool rfl e_internal_strconv_FormatBool n_internal_strconv_FormatBool rfl (rvs := [.tmp 2]) rfl rfl ?_; intro w0 ok0 lent ρ0; refine .seq_k fun N1 hN1 => ?_; refine .region (l := [_]) (.assign (e_string (⟨#[]⟩ : ByteArray)) rfl (hn := .nil (hN1 _ ?_))); refine .seq_k fun N2 hN2 => ?_; refine .seq_k fun N3 hN3 => ?_; refine .region (l := [_]) (.move (e_bool a0) rfl (hn := .nil (hN3 _ ?_))); refine .cond_split rfl (fun h4 => ?_) (fun h4 => ?_)
  ·have h := bT h4 h; refine .seq_k fun N5 hN5 => ?_; refine .region (l := [_]) (.assign (e_string (⟨#[116, 114, 117, 101]⟩ : ByteArray)) rfl (hn := .nil (hN5 _ ?_))); obtain rfl := so h; refine .ret .p
  ·have h := bF h4 h; refine .skip (hN2 _ ?_); refine .seq_k fun N6 hN6 => ?_; refine .region (l := [_]) (.assign (e_string (⟨#[102, 97, 108, 115, 101]⟩ : ByteArray)) rfl (hn := .nil (hN6 _ ?_))); obtain rfl := so h; refine .ret .p

def m_strconv_FormatBool (a0 : Bool) : Option ByteArray :=
  (m_internal_strconv_FormatBool a0).bind fun x3 =>
  some x3
theorem c_strconv_FormatBool (a0 : Bool) (r : ByteArray) (h : m_strconv_FormatBool a0 = some r) : Does Tryd.prog f_strconv_FormatBool [e_bool a0] [] (fun x hh => x = e_string r ∧ hh = []) := by
  refine Does.goG [] F_strconv_FormatBool rfl e_strconv_FormatBool n_strconv_FormatBool rfl (rvs := [.tmp 2]) rfl rfl ?_; intro w0 ok0 lent ρ0; refine .seq_k fun N1 hN1 => ?_; refine .region (l := [_]) (.assign (e_string (⟨#[]⟩ : ByteArray)) rfl (hn := .nil (hN1 _ ?_))); refine .seq_k fun N2 hN2 => ?_; refine .region (l := [_,_,_]) (.move (e_bool a0) rfl (hn := bk h fun x3 e3 h => ?_)); refine .vcall rfl rfl (c_internal_strconv_FormatBool _ _ e3) (.same (.nil)) (hn := ?_); refine .assign (e_string x3) rfl (hn := .nil (hN2 _ ?_)); obtain rfl := so h; refine .ret .p

def m_impl_ValueText (a0 : S_impl_Value) : Option ByteArray :=
  (m_impl_Value_ok a0).bind fun x4 =>
  bif (!x4) then (some (⟨#[]⟩ : ByteArray))
  else (bif (a0.Kind == (1 : Int)) then ((m_strconv_Itoa a0.N).bind fun x12 =>
    some x12)
  else (bif (a0.Kind == (2 : Int)) then ((sCat? (⟨#[39]⟩ : ByteArray) a0.S).bind fun x16 =>
      (sCat? x16 (⟨#[39]⟩ : ByteArray)).bind fun x17 =>
      some x17)
    else (bif (a0.Kind == (3 : Int)) then ((m_strconv_FormatBool (a0.N == (1 : Int))).bind fun x21 =>
        some x21)
      else (some (⟨#[110, 111, 110, 101]⟩ : ByteArray)))))
theorem c_impl_ValueText (a0 : S_impl_Value) (r : ByteArray) (h : m_impl_ValueText a0 = some r) : RetG Tryd.prog GW f_impl_ValueText [e_impl_Value a0] (e_string r) := by
  refine DoesG.goG GW_st F_impl_ValueText rfl e_impl_ValueText n_impl_ValueText rfl (rvs := [.tmp 2]) rfl ?_; intro w0 ok0 ρ0 hG; refine .seq_k fun N1 hN1 => ?_; refine .region (l := [_,_]) (.boxF (e_impl_Value a0) rfl rfl rfl (hn := .assign (e_string (⟨#[]⟩ : ByteArray)) rfl (hn := .nil (hN1 _ ?_)))); refine .seq_k fun N2 hN2 => ?_; refine .seq_k fun N3 hN3 => ?_; refine .region (l := [_,_,_]) (.loadN ((e_impl_Value a0)).cells g_impl_Value s_impl_Value rfl (Nat.le_of_ble_eq_true rfl) rfl (hn := ?_)); refine bk h fun x4 e4 h => ?_; refine .vcall rfl rfl (c_impl_Value_ok _ _ e4) (.same (.nil)) (hn := ?_); refine .not rfl (hn := ?_); refine .nil (hN3 _ ?_); refine .cond_split rfl (fun h5 => ?_) (fun h5 => ?_)
  ·have h := bT h5 h; refine .seq_k fun N6 hN6 => ?_; refine .region (l := [_]) (.assign (e_string (⟨#[]⟩ : ByteArray)) rfl (hn := .nil (hN6 _ ?_))); obtain rfl := so h; refine .ret .p
  ·have h := bF h5 h; refine .skip (hN2 _ ?_); refine .seq_k fun N7 hN7 => ?_; refine .seq_k fun N8 hN8 => ?_; refine .region (l := [_,_]) (.fieldAddr _ u_impl_Value rfl s_int rfl rfl (hn := .load1 (c := (e_int a0.Kind)) g_int rfl (hn := .nil (hN8 _ ?_)))); refine .block ?_; refine .seq_k fun N9 hN9 => ?_; refine .region (l := [_,_]) (.int _ rfl rfl rfl (hn := .assign (e_bool (a0.Kind == (1 : Int))) rfl (hn := .nil (hN9 _ ?_)))); refine .cond_split rfl (fun h10 => ?_) (fun h10 => ?_)
   ·have h := bT h10 h; refine .seq_k fun N11 hN11 => ?_; refine .region (l := [_,_,_,_]) (.fieldAddr _ u_impl_Value rfl s_int rfl rfl (hn := .load1 (c := (e_int a0.N)) g_int rfl (hn := bk h fun x12 e12 h => ?_))); refine .vcallG hG rfl rfl (c_strconv_Itoa _ _ e12) (.same (.nil)) (hn := ?_); refine .assign (e_string x12) rfl (hn := .nil (hN11 _ ?_)); obtain rfl := so h; refine .ret .p
   ·have h := bF h10 h; refine .seq_k fun N13 hN13 => ?_; refine .region (l := [_,_]) (.int _ rfl rfl rfl (hn := .assign (e_bool (a0.Kind == (2 : Int))) rfl (hn := .nil (hN13 _ ?_)))); refine .cond_split rfl (fun h14 => ?_) (fun h14 => ?_)
    ·have h := bT h14 h; refine .seq_k fun N15 hN15 => ?_; refine .region (l := [_,_,_,_,_]) (.fieldAddr _ u_impl_Value rfl s_string rfl rfl (hn := .load1 (c := (e_string a0.S)) g_string rfl (hn := bk h fun x16 e16 h => ?_))); refine .str _ rfl rfl (cat_ck e16) (hn := bk h fun x17 e17 h => ?_); refine .str _ rfl rfl (cat_ck e17) (hn := .assign (e_string x17) rfl (hn := .nil (hN15 _ ?_))); obtain rfl := so h; refine .ret .p
    ·have h := bF h14 h; refine .seq_k fun N18 hN18 => ?_; refine .region (l := [_,_]) (.int _ rfl rfl rfl (hn := .assign (e_bool (a0.Kind == (3 : Int))) rfl (hn := .nil (hN18 _ ?_)))); refine .cond_split rfl (fun h19 => ?_) (fun h19 => ?_)
     ·have h := bT h19 h; refine .seq_k fun N20 hN20 => ?_; refine .region (l := [_,_,_,_,_]) (.fieldAddr _ u_impl_Value rfl s_int rfl rfl (hn := .load1 (c := (e_int a0.N)) g_int rfl (hn := .int _ rfl rfl rfl (hn := bk h fun x21 e21 h => ?_)))); refine .vcall rfl rfl (c_strconv_FormatBool _ _ e21) (.same (.nil)) (hn := ?_); refine .assign (e_string x21) rfl (hn := .nil (hN20 _ ?_)); obtain rfl := so h; refine .ret .p
     ·have h := bF h19 h; refine .skip (hN7 _ ?_); refine .seq_k fun N22 hN22 => ?_; refine .region (l := [_]) (.assign (e_string (⟨#[110, 111, 110, 101]⟩ : ByteArray)) rfl (hn := .nil (hN22 _ ?_))); obtain rfl := so h; refine .ret .p

def m_impl_ValueRead_j2 (t0 : ByteArray) (o2 : S_impl_Value) (o4 : S_impl_Value) : Option (S_impl_Value × Bool) :=
  (m_impl_ValueText o4).bind fun x33 =>
  bif (!(sEq x33 t0)) then (lt ((⟨(0 : Int), (0 : Int), (⟨#[]⟩ : ByteArray)⟩ : S_impl_Value)) fun y36 =>
    some (y36, false))
  else (lt (o4) fun y38 =>
  some (y38, true))
def m_impl_ValueRead_j1 (t0 : ByteArray) (t28 : Bool) (o2 : S_impl_Value) (o4 : S_impl_Value) : Option (S_impl_Value × Bool) :=
  bif t28 then ((ckI ((t0.size : Int) - (1 : Int))).bind fun x19 =>
    (sCut? t0 (1 : Int) x19).bind fun x20 =>
    lt ((⟨(2 : Int), (0 : Int), x20⟩ : S_impl_Value)) fun y21 =>
    m_impl_ValueRead_j2  t0 o2 y21)
  else ((m_strconv_Atoi t0).bind fun x23 =>
    bif x23.2 then (lt ((⟨(0 : Int), (0 : Int), (⟨#[]⟩ : ByteArray)⟩ : S_impl_Value)) fun y29 =>
      some (y29, false))
    else (lt ((⟨(1 : Int), x23.1, (⟨#[]⟩ : ByteArray)⟩ : S_impl_Value)) fun y30 =>
    m_impl_ValueRead_j2  t0 o2 y30))
def m_impl_ValueRead (a0 : ByteArray) : Option (S_impl_Value × Bool) :=
  bif (sEq a0 (⟨#[110, 111, 110, 101]⟩ : ByteArray)) then (m_impl_ValueRead_j2  a0 (⟨(0 : Int), (0 : Int), (⟨#[]⟩ : ByteArray)⟩ : S_impl_Value) (⟨(0 : Int), (0 : Int), (⟨#[]⟩ : ByteArray)⟩ : S_impl_Value))
  else (bif (sEq a0 (⟨#[116, 114, 117, 101]⟩ : ByteArray)) then (lt ((⟨(3 : Int), (1 : Int), (⟨#[]⟩ : ByteArray)⟩ : S_impl_Value)) fun y8 =>
      m_impl_ValueRead_j2  a0 (⟨(0 : Int), (0 : Int), (⟨#[]⟩ : ByteArray)⟩ : S_impl_Value) y8)
    else (bif (sEq a0 (⟨#[102, 97, 108, 115, 101]⟩ : ByteArray)) then (lt ((⟨(3 : Int), (0 : Int), (⟨#[]⟩ : ByteArray)⟩ : S_impl_Value)) fun y11 =>
        m_impl_ValueRead_j2  a0 (⟨(0 : Int), (0 : Int), (⟨#[]⟩ : ByteArray)⟩ : S_impl_Value) y11)
      else (bif decide ((a0.size : Int) ≥ (2 : Int)) then ((sAt? a0 (0 : Int)).bind fun x14 =>
          bif ((x14.toNat : Int) == ((39 : UInt8).toNat : Int)) then ((ckI ((a0.size : Int) - (1 : Int))).bind fun x16 =>
            (sAt? a0 x16).bind fun x17 =>
            m_impl_ValueRead_j1  a0 ((x17.toNat : Int) == ((39 : UInt8).toNat : Int)) (⟨(0 : Int), (0 : Int), (⟨#[]⟩ : ByteArray)⟩ : S_impl_Value) (⟨(0 : Int), (0 : Int), (⟨#[]⟩ : ByteArray)⟩ : S_impl_Value))
          else (m_impl_ValueRead_j1  a0 false (⟨(0 : Int), (0 : Int), (⟨#[]⟩ : ByteArray)⟩ : S_impl_Value) (⟨(0 : Int), (0 : Int), (⟨#[]⟩ : ByteArray)⟩ : S_impl_Value)))
        else (m_impl_ValueRead_j1  a0 false (⟨(0 : Int), (0 : Int), (⟨#[]⟩ : ByteArray)⟩ : S_impl_Value) (⟨(0 : Int), (0 : Int), (⟨#[]⟩ : ByteArray)⟩ : S_impl_Value)))))
theorem c_impl_ValueRead (a0 : ByteArray) (r : (S_impl_Value × Bool)) (h : m_impl_ValueRead a0 = some r) : RetG Tryd.prog GW f_impl_ValueRead [e_string a0] (.tup [e_impl_Value r.1, e_bool r.2]) := by
  refine DoesG.goG GW_st F_impl_ValueRead rfl e_impl_ValueRead n_impl_ValueRead rfl (rvs := [.cell 2 t_impl_Value, .tmp 3]) rfl ?_; intro w0 ok0 ρ0 hG; refine .seq_k fun N1 hN1 => ?_; refine .region (l := [_,_]) (.alloc_impl_Value 2 rfl (hn := ?_)); refine .assign (e_bool false) rfl (hn := .nil (hN1 _ ?_)); refine .seq_k fun N2 hN2 => ?_; refine .region (l := [_]) (.alloc_impl_Value 4 rfl (hn := ?_)); refine .nil (hN2 _ ?_); refine .join (α := ByteArray × S_impl_Value × S_impl_Value) (fun z : ByteArray × S_impl_Value × S_impl_Value => [(0, (e_string z.1)), (2, (.ptr 2 0 0)), (4, (.ptr 4 0 0))]) (fun z : ByteArray × S_impl_Value × S_impl_Value => [(2, (vob 3 e_impl_Value z.2.1)), (4, (vob 3 e_impl_Value z.2.2))]) (fun z : ByteArray × S_impl_Value × S_impl_Value => m_impl_ValueRead_j2  z.1 z.2.1 z.2.2) r (fun _ => by simp [hkeys]) ?_ ?_
  ·rintro ⟨t0, o2, o4⟩ h; replace h : m_impl_ValueRead_j2  t0 o2 o4 = some _ := h; refine .seq_k fun N31 hN31 => ?_; refine .seq_k fun N32 hN32 => ?_; refine .region (l := [_,_,_,_]) (.loadVN ((e_impl_Value o4)).cells  g_impl_Value s_impl_Value rfl rfl rfl rfl (hn := ?_)); refine bk h fun x33 e33 h => ?_; refine .vcallG hG rfl rfl (c_impl_ValueText _ _ e33) (.same (.nil)) (hn := ?_); refine .move (e_string t0) rfl (hn := .str _ rfl rfl rfl (hn := .nil (hN32 _ ?_))); refine .cond_split rfl (fun h34 => ?_) (fun h34 => ?_)
   ·have h := bT h34 h; refine .seq_k fun N35 hN35 => ?_; refine .region (l := [_,_,_]) (.build_impl_Value (parts := []) (⟨(0 : Int), (0 : Int), (⟨#[]⟩ : ByteArray)⟩ : S_impl_Value) rfl rfl rfl .refl (hn := ?_)); refine lk h fun y36 e36 h => ?_; refine .storeW (y := o2) y36 s_impl_Value rfl rfl rfl rfl rfl rfl (by rw [e36]; exact .refl) rfl (hn := ?_); refine .assign (e_bool false) rfl (hn := .nil (hN35 _ ?_)); obtain rfl := so h; refine .ret (QG.mk (.inr rfl) (.cons (.cellN (ys := (e_impl_Value y36).cells) g_impl_Value s_impl_Value rfl rfl rfl rfl rfl (fun _ _ => rfl)) (.cons (.tmp (x := (e_bool false)) rfl) (.nil))) (RetOK.many0 (.cons (.pure rfl) (.cons (.pure rfl) (.nil))) (by simp) (by decide)) rfl rfl)
   ·have h := bF h34 h; refine .skip (hN31 _ ?_); refine .seq_k fun N37 hN37 => ?_; refine .region (l := [_,_,_]) (.loadVN ((e_impl_Value o4)).cells  g_impl_Value s_impl_Value rfl rfl rfl rfl (hn := ?_)); refine lk h fun y38 e38 h => ?_; refine .storeW (y := o2) y38 s_impl_Value rfl rfl rfl rfl rfl rfl (by rw [e38]; exact .refl) rfl (hn := ?_); refine .assign (e_bool true) rfl (hn := .nil (hN37 _ ?_)); obtain rfl := so h; refine .ret (QG.mk (.inr rfl) (.cons (.cellN (ys := (e_impl_Value y38).cells) g_impl_Value s_impl_Value rfl rfl rfl rfl rfl (fun _ _ => rfl)) (.cons (.tmp (x := (e_bool true)) rfl) (.nil))) (RetOK.many0 (.cons (.pure rfl) (.cons (.pure rfl) (.nil))) (by simp) (by decide)) rfl rfl)
  ·intro N3 hN3; refine .block ?_; refine .seq_k fun N4 hN4 => ?_; refine .region (l := [_,_,_]) (.move (e_string a0) rfl (hn := .str _ rfl rfl rfl (hn := .assign (e_bool (sEq a0 (⟨#[110, 111, 110, 101]⟩ : ByteArray))) rfl (hn := .nil (hN4 _ ?_))))); refine .cond_split rfl (fun h5 => ?_) (fun h5 => ?_)
   ·have h := bT h5 h; refine .skip (hN3 (a0, (⟨(0 : Int), (0 : Int), (⟨#[]⟩ : ByteArray)⟩ : S_impl_Value), (⟨(0 : Int), (0 : Int), (⟨#[]⟩ : ByteArray)⟩ : S_impl_Value)) _ ⟨rfl, rfl, rfl, trivial⟩ ⟨rfl, rfl, trivial⟩ h)
   ·have h := bF h5 h; refine .seq_k fun N6 hN6 => ?_; refine .region (l := [_,_,_]) (.move (e_string a0) rfl (hn := .str _ rfl rfl rfl (hn := .assign (e_bool (sEq a0 (⟨#[116, 114, 117, 101]⟩ : ByteArray))) rfl (hn := .nil (hN6 _ ?_))))); refine .cond_split rfl (fun h7 => ?_) (fun h7 => ?_)
    ·have h := bT h7 h; refine .region (l := [_,_]) (.build_impl_Value (parts := [_, _]) (⟨(3 : Int), (1 : Int), (⟨#[]⟩ : ByteArray)⟩ : S_impl_Value) rfl rfl rfl .refl (hn := ?_)); refine lk h fun y8 e8 h => ?_; refine .storeW (y := (⟨(0 : Int), (0 : Int), (⟨#[]⟩ : ByteArray)⟩ : S_impl_Value)) y8 s_impl_Value rfl rfl rfl rfl rfl rfl (by rw [e8]; exact .refl) rfl (hn := ?_); refine .nil (hN3 (a0, (⟨(0 : Int), (0 : Int), (⟨#[]⟩ : ByteArray)⟩ : S_impl_Value), y8) _ ⟨rfl, rfl, rfl, trivial⟩ ⟨rfl, rfl, trivial⟩ h)
    ·have h := bF h7 h; refine .seq_k fun N9 hN9 => ?_; refine .region (l := [_,_,_]) (.move (e_string a0) rfl (hn := .str _ rfl rfl rfl (hn := .assign (e_bool (sEq a0 (⟨#[102, 97, 108, 115, 101]⟩ : ByteArray))) rfl (hn := .nil (hN9 _ ?_))))); refine .cond_split rfl (fun h10 => ?_) (fun h10 => ?_)
     ·have h := bT h10 h; refine .region (l := [_,_]) (.build_impl_Value (parts := [_]) (⟨(3 : Int), (0 : Int), (⟨#[]⟩ : ByteArray)⟩ : S_impl_Value) rfl rfl rfl .refl (hn := ?_)); refine lk h fun y11 e11 h => ?_; refine .storeW (y := (⟨(0 : Int), (0 : Int), (⟨#[]⟩ : ByteArray)⟩ : S_impl_Value)) y11 s_impl_Value rfl rfl rfl rfl rfl rfl (by rw [e11]; exact .refl) rfl (hn := ?_); refine .nil (hN3 (a0, (⟨(0 : Int), (0 : Int), (⟨#[]⟩ : ByteArray)⟩ : S_impl_Value), y11) _ ⟨rfl, rfl, rfl, trivial⟩ ⟨rfl, rfl, trivial⟩ h)
     ·have h := bF h10 h; refine .join (α := ByteArray × Bool × S_impl_Value × S_impl_Value) (fun z : ByteArray × Bool × S_impl_Value × S_impl_Value => [(0, (e_string z.1)), (2, (.ptr 2 0 0)), (4, (.ptr 4 0 0)), (28, (e_bool z.2.1))]) (fun z : ByteArray × Bool × S_impl_Value × S_impl_Value => [(2, (vob 3 e_impl_Value z.2.2.1)), (4, (vob 3 e_impl_Value z.2.2.2))]) (fun z : ByteArray × Bool × S_impl_Value × S_impl_Value => m_impl_ValueRead_j1  z.1 z.2.1 z.2.2.1 z.2.2.2) r (fun _ => by simp [hkeys]) ?_ ?_
      ·rintro ⟨t0, t28, o2, o4⟩ h; replace h : m_impl_ValueRead_j1  t0 t28 o2 o4 = some _ := h; refine .cond_split rfl (fun h18 => ?_) (fun h18 => ?_)
       ·have h := bT h18 h; refine .region (l := [_,_,_,_,_,_,_]) (.move (e_string t0) rfl (hn := .move (e_string t0) rfl (hn := .lenS u_string rfl (hn := ?_)))); refine bk h fun x19 e19 h => ?_; refine .int _ rfl rfl (sub_ck e19) (hn := bk h fun x20 e20 h => ?_); refine .cutS e20 u_string rfl ⟨_, rfl⟩ ⟨_, rfl⟩ (hn := ?_); refine .build_impl_Value (parts := [_, _]) (⟨(2 : Int), (0 : Int), x20⟩ : S_impl_Value) rfl rfl rfl .refl (hn := ?_); refine lk h fun y21 e21 h => ?_; refine .storeW (y := o4) y21 s_impl_Value rfl rfl rfl rfl rfl rfl (by rw [e21]; exact .refl) rfl (hn := ?_); refine .nil (hN3 (t0, o2, y21) _ ⟨rfl, rfl, rfl, trivial⟩ ⟨rfl, rfl, trivial⟩ h)
       ·have h := bF h18 h; refine .seq_k fun N22 hN22 => ?_; refine .region (l := [_,_,_,_,_,_,_]) (.move (e_string t0) rfl (hn := bk h fun x23 e23 h => ?_)); refine .ecallG hG rfl rfl (c_strconv_Atoi _ _ e23) ⟨_, rfl⟩ (.same (.nil)) (hn := fun v24 hv24 => ?_); refine .move (.tup [(e_int x23.1), (.imm v24)]) rfl (hn := .extract (e_int x23.1) rfl rfl (hn := ?_)); refine .extract (.imm v24) rfl rfl (hn := ?_); refine .assign (e_int x23.1) rfl (hn := .assign (.imm v24) rfl (hn := .nil (hN22 _ ?_))); refine .seq_k fun N25 hN25 => ?_; refine .seq_k fun N26 hN26 => ?_; refine .region (l := [_,_]) (.move (.imm v24) rfl (hn := .neqErr hv24 Tryd.underlying42 rfl (hn := ?_))); refine .nil (hN26 _ ?_); refine .cond_split rfl (fun h27 => ?_) (fun h27 => ?_)
        ·have h := bT h27 h; refine .seq_k fun N28 hN28 => ?_; refine .region (l := [_,_,_]) (.build_impl_Value (parts := []) (⟨(0 : Int), (0 : Int), (⟨#[]⟩ : ByteArray)⟩ : S_impl_Value) rfl rfl rfl .refl (hn := ?_)); refine lk h fun y29 e29 h => ?_; refine .storeW (y := o2) y29 s_impl_Value rfl rfl rfl rfl rfl rfl (by rw [e29]; exact .refl) rfl (hn := ?_); refine .assign (e_bool false) rfl (hn := .nil (hN28 _ ?_)); obtain rfl := so h; refine .ret (QG.mk (.inr rfl) (.cons (.cellN (ys := (e_impl_Value y29).cells) g_impl_Value s_impl_Value rfl rfl rfl rfl rfl (fun _ _ => rfl)) (.cons (.tmp (x := (e_bool false)) rfl) (.nil))) (RetOK.many0 (.cons (.pure rfl) (.cons (.pure rfl) (.nil))) (by simp) (by decide)) rfl rfl)
        ·have h := bF h27 h; refine .skip (hN25 _ ?_); refine .region (l := [_,_,_]) (.move (e_int x23.1) rfl (hn := .build_impl_Value (parts := [_, _]) (⟨(1 : Int), x23.1, (⟨#[]⟩ : ByteArray)⟩ : S_impl_Value) rfl rfl rfl .refl (hn := ?_))); refine lk h fun y30 e30 h => ?_; refine .storeW (y := o4) y30 s_impl_Value rfl rfl rfl rfl rfl rfl (by rw [e30]; exact .refl) rfl (hn := ?_); refine .nil (hN3 (t0, o2, y30) _ ⟨rfl, rfl, rfl, trivial⟩ ⟨rfl, rfl, trivial⟩ h)
      ·intro N12 hN12; refine .region (l := [_,_,_,_,_,_,_,_,_,_,_,_,_,_,_,_,_]) (.move (e_string a0) rfl (hn := .lenS u_string rfl (hn := ?_))); refine .int _ rfl rfl rfl (hn := .move (e_bool (decide ((a0.size : Int) ≥ (2 : Int)))) rfl (hn := .byCases (t := 32) _ rfl (fun h13 => ?_) (fun h13 => ?_)))
       ·have h := bT h13 h; refine .gY 32 h13 (.move (e_string a0) rfl (hn := bk h fun x14 e14 h => ?_)); refine .gY 32 h13 (.indexStr u_string rfl rfl (sAt_0 e14) (sAt_g e14) (hn := ?_)); refine .gY 32 h13 (.int _ rfl rfl rfl (hn := .pickTM (e_bool ((x14.toNat : Int) == ((39 : UInt8).toNat : Int))) rfl h13 rfl (hn := .move (e_bool ((x14.toNat : Int) == ((39 : UInt8).toNat : Int))) rfl (hn := .byCases (t := 37) _ rfl (fun h15 => ?_) (fun h15 => ?_)))))
        ·have h := bT h15 h; refine .gY 37 h15 (.move (e_string a0) rfl (hn := .gY 37 h15 (.move (e_string a0) rfl (hn := .gY 37 h15 (.lenS u_string rfl (hn := ?_)))))); refine bk h fun x16 e16 h => ?_; refine .gY 37 h15 (.int _ rfl rfl (sub_ck e16) (hn := bk h fun x17 e17 h => ?_)); refine .gY 37 h15 (.indexStr u_string rfl rfl (sAt_0 e17) (sAt_g e17) (hn := ?_)); refine .gY 37 h15 (.int _ rfl rfl rfl (hn := .pickTM (e_bool ((x17.toNat : Int) == ((39 : UInt8).toNat : Int))) rfl h15 rfl (hn := .assign (e_bool ((x17.toNat : Int) == ((39 : UInt8).toNat : Int))) rfl (hn := .nil (hN12 (a0, ((x17.toNat : Int) == ((39 : UInt8).toNat : Int)), (⟨(0 : Int), (0 : Int), (⟨#[]⟩ : ByteArray)⟩ : S_impl_Value), (⟨(0 : Int), (0 : Int), (⟨#[]⟩ : ByteArray)⟩ : S_impl_Value)) _ ⟨rfl, rfl, rfl, rfl, trivial⟩ ⟨rfl, rfl, trivial⟩ h)))))
        ·have h := bF h15 h; refine .gN 37 h15 (.gN 37 h15 (.gN 37 h15 (.gN 37 h15 (.gN 37 h15 (.gN 37 h15 (.pickFM (e_bool false) rfl h15 rfl (hn := .assign (e_bool false) rfl (hn := .nil (hN12 (a0, false, (⟨(0 : Int), (0 : Int), (⟨#[]⟩ : ByteArray)⟩ : S_impl_Value), (⟨(0 : Int), (0 : Int), (⟨#[]⟩ : ByteArray)⟩ : S_impl_Value)) _ ⟨rfl, rfl, rfl, rfl, trivial⟩ ⟨rfl, rfl, trivial⟩ h)))))))))
       ·have h := bF h13 h; refine .gN 32 h13 (.gN 32 h13 (.gN 32 h13 (.pickFM (e_bool false) rfl h13 rfl (hn := .move (e_bool false) rfl (hn := .gN 37 rfl (.gN 37 rfl (.gN 37 rfl (.gN 37 rfl (.gN 37 rfl (.gN 37 rfl (.pickFM (e_bool false) rfl rfl rfl (hn := .assign (e_bool false) rfl (hn := .nil (hN12 (a0, false, (⟨(0 : Int), (0 : Int), (⟨#[]⟩ : ByteArray)⟩ : S_impl_Value), (⟨(0 : Int), (0 : Int), (⟨#[]⟩ : ByteArray)⟩ : S_impl_Value)) _ ⟨rfl, rfl, rfl, rfl, trivial⟩ ⟨rfl, rfl, trivial⟩ h))))))))))))))

def m_laws_eqValue (a0 : S_impl_Value) (a1 : S_impl_Value) : Option Bool :=
  bif (a0.Kind != a1.Kind) then (some false)
  else (bif (a0.N != a1.N) then (some false)
  else (bif (!(sEq a0.S a1.S)) then (some false)
  else (some true)))
theorem c_laws_eqValue (a0 : S_impl_Value) (a1 : S_impl_Value) (r : Bool) (h : m_laws_eqValue a0 a1 = some r) : Does Tryd.prog f_laws_eqValue [e_impl_Value a0, e_impl_Value a1] [] (fun x hh => x = e_bool r ∧ hh = []) := by
  refine Does.goG [] F_laws_eqValue rfl e_laws_eqValue n_laws_eqValue rfl (rvs := [.tmp 4]) rfl rfl ?_; intro w0 ok0 lent ρ0; refine .seq_k fun N1 hN1 => ?_; refine .region (l := [_,_,_]) (.boxF (e_impl_Value a0) rfl rfl rfl (hn := .boxF (e_impl_Value a1) rfl rfl rfl (hn := .assign (e_bool false) rfl (hn := .nil (hN1 _ ?_))))); refine .seq_k fun N2 hN2 => ?_; refine .seq_k fun N3 hN3 => ?_; refine .region (l := [_,_,_,_,_]) (.fieldAddr _ u_impl_Value rfl s_int rfl rfl (hn := .load1 (c := (e_int a0.Kind)) g_int rfl (hn := .fieldAddr _ u_impl_Value rfl s_int rfl rfl (hn := .load1 (c := (e_int a1.Kind)) g_int rfl (hn := .int _ rfl rfl rfl (hn := .nil (hN3 _ ?_))))))); refine .cond_split rfl (fun h4 => ?_) (fun h4 => ?_)
  ·have h := bT h4 h; refine .seq_k fun N5 hN5 => ?_; refine .region (l := [_]) (.assign (e_bool false) rfl (hn := .nil (hN5 _ ?_))); obtain rfl := so h; refine .ret .p
  ·have h := bF h4 h; refine .skip (hN2 _ ?_); refine .seq_k fun N6 hN6 => ?_; refine .seq_k fun N7 hN7 => ?_; refine .region (l := [_,_,_,_,_]) (.fieldAddr _ u_impl_Value rfl s_int rfl rfl (hn := .load1 (c := (e_int a0.N)) g_int rfl (hn := .fieldAddr _ u_impl_Value rfl s_int rfl rfl (hn := .load1 (c := (e_int a1.N)) g_int rfl (hn := .int _ rfl rfl rfl (hn := .nil (hN7 _ ?_))))))); refine .cond_split rfl (fun h8 => ?_) (fun h8 => ?_)
   ·have h := bT h8 h; refine .seq_k fun N9 hN9 => ?_; refine .region (l := [_]) (.assign (e_bool false) rfl (hn := .nil (hN9 _ ?_))); obtain rfl := so h; refine .ret .p
   ·have h := bF h8 h; refine .skip (hN6 _ ?_); refine .seq_k fun N10 hN10 => ?_; refine .seq_k fun N11 hN11 => ?_; refine .region (l := [_,_,_,_,_]) (.fieldAddr _ u_impl_Value rfl s_string rfl rfl (hn := .load1 (c := (e_string a0.S)) g_string rfl (hn := .fieldAddr _ u_impl_Value rfl s_string rfl rfl (hn := .load1 (c := (e_string a1.S)) g_string rfl (hn := .str _ rfl rfl rfl (hn := .nil (hN11 _ ?_))))))); refine .cond_split rfl (fun h12 => ?_) (fun h12 => ?_)
    ·have h := bT h12 h; refine .seq_k fun N13 hN13 => ?_; refine .region (l := [_]) (.assign (e_bool false) rfl (hn := .nil (hN13 _ ?_))); obtain rfl := so h; refine .ret .p
    ·have h := bF h12 h; refine .skip (hN10 _ ?_); refine .seq_k fun N14 hN14 => ?_; refine .region (l := [_]) (.assign (e_bool true) rfl (hn := .nil (hN14 _ ?_))); obtain rfl := so h; refine .ret .p

def m_laws_FnExactValueRead_j1 (t28 : Bool) : Option Bool :=
  bif t28 then (some false)
  else (some true)
def m_laws_FnExactValueRead (a0 : ByteArray) : Option Bool :=
  bif decide ((a0.size : Int) > (1048576 : Int)) then (some true)
  else ((m_spec_ValueRead a0).bind fun x7 =>
  lt (x7.1) fun y8 =>
  (m_impl_ValueRead a0).bind fun x10 =>
  lt (x10.1) fun y11 =>
  (m_laws_eqValue y11 y8).bind fun x14 =>
  bif (!x14) then (m_laws_FnExactValueRead_j1  true)
  else (m_laws_FnExactValueRead_j1  (x10.2 != x7.2)))
theorem c_laws_FnExactValueRead (a0 : ByteArray) (r : Bool) (h : m_laws_FnExactValueRead a0 = some r) : RetG Tryd.prog GW f_laws_FnExactValueRead [e_string a0] (e_bool r) := by
  refine DoesG.goG GW_st F_laws_FnExactValueRead rfl e_laws_FnExactValueRead n_laws_FnExactValueRead rfl (rvs := [.tmp 2]) rfl ?_; intro w0 ok0 ρ0 hG; refine .seq_k fun N1 hN1 => ?_; refine .region (l := [_]) (.assign (e_bool false) rfl (hn := .nil (hN1 _ ?_))); refine .seq_k fun N2 hN2 => ?_; refine .seq_k fun N3 hN3 => ?_; refine .region (l := [_,_,_]) (.move (e_string a0) rfl (hn := .lenS u_string rfl (hn := ?_))); refine .int _ rfl rfl rfl (hn := .nil (hN3 _ ?_)); refine .cond_split rfl (fun h4 => ?_) (fun h4 => ?_)
  ·have h := bT h4 h; refine .seq_k fun N5 hN5 => ?_; refine .region (l := [_]) (.assign (e_bool true) rfl (hn := .nil (hN5 _ ?_))); obtain rfl := so h; refine .ret .p
  ·have h := bF h4 h; refine .skip (hN2 _ ?_); refine .seq_k fun N6 hN6 => ?_; refine .region (l := [_,_,_,_,_,_,_,_]) (.move (e_string a0) rfl (hn := bk h fun x7 e7 h => ?_)); refine .vcall rfl rfl (c_spec_ValueRead _ _ e7) (.same (.nil)) (hn := ?_); refine .move (.tup [(e_impl_Value x7.1), (e_bool x7.2)]) rfl (hn := .extract (e_impl_Value x7.1) rfl rfl (hn := ?_)); refine .extract (e_bool x7.2) rfl rfl (hn := ?_); refine .alloc_impl_Value 3 rfl (hn := ?_); refine lk h fun y8 e8 h => ?_; refine .storeW (y := (⟨(0 : Int), (0 : Int), (⟨#[]⟩ : ByteArray)⟩ : S_impl_Value)) y8 s_impl_Value rfl rfl rfl rfl rfl rfl (by rw [e8]; exact .refl) rfl (hn := ?_); refine .assign (e_bool x7.2) rfl (hn := .nil (hN6 _ ?_)); refine .seq_k fun N9 hN9 => ?_; refine .region (l := [_,_,_,_,_,_,_,_]) (.move (e_string a0) rfl (hn := bk h fun x10 e10 h => ?_)); refine .vcallG hG rfl rfl (c_impl_ValueRead _ _ e10) (.same (.nil)) (hn := ?_); refine .move (.tup [(e_impl_Value x10.1), (e_bool x10.2)]) rfl (hn := .extract (e_impl_Value x10.1) rfl rfl (hn := ?_)); refine .extract (e_bool x10.2) rfl rfl (hn := ?_); refine .alloc_impl_Value 5 rfl (hn := ?_); refine lk h fun y11 e11 h => ?_; refine .storeW (y := (⟨(0 : Int), (0 : Int), (⟨#[]⟩ : ByteArray)⟩ : S_impl_Value)) y11 s_impl_Value rfl rfl rfl rfl rfl rfl (by rw [e11]; exact .refl) rfl (hn := ?_); refine .assign (e_bool x10.2) rfl (hn := .nil (hN9 _ ?_)); refine .seq_k fun N12 hN12 => ?_; refine .join (α := Bool) (fun z : Bool => [(28, (e_bool z))]) (fun z : Bool => []) (fun z : Bool => m_laws_FnExactValueRead_j1  z) r (fun _ => by simp [hkeys]) ?_ ?_
   ·rintro t28 h; replace h : m_laws_FnExactValueRead_j1  t28 = some _ := h; refine .cond_split rfl (fun h16 => ?_) (fun h16 => ?_)
    ·have h := bT h16 h; refine .seq_k fun N17 hN17 => ?_; refine .region (l := [_]) (.assign (e_bool false) rfl (hn := .nil (hN17 _ ?_))); obtain rfl := so h; refine .ret .p
    ·have h := bF h16 h; refine .skip (hN12 _ ?_); refine .seq_k fun N18 hN18 => ?_; refine .region (l := [_]) (.assign (e_bool true) rfl (hn := .nil (hN18 _ ?_))); obtain rfl := so h; refine .ret .p
   ·intro N13 hN13; refine .region (l := [_,_,_,_,_,_,_,_,_]) (.loadVN ((e_impl_Value y11)).cells  g_impl_Value s_impl_Value rfl rfl rfl rfl (hn := ?_)); refine .loadVN ((e_impl_Value y8)).cells  g_impl_Value s_impl_Value rfl rfl rfl rfl (hn := ?_); refine bk h fun x14 e14 h => ?_; refine .vcall rfl rfl (c_laws_eqValue _ _ _ e14) (.same (.same (.nil))) (hn := ?_); refine .not rfl (hn := ?_); refine .move (e_bool (!x14)) rfl (hn := .byCases (t := 24) _ rfl (fun h15 => ?_) (fun h15 => ?_))
    ·have h := bT h15 h; refine .gN 24 h15 (.gN 24 h15 (.gN 24 h15 (.pickTM (e_bool true) rfl h15 rfl (hn := .nil (hN13 true _ ⟨rfl, trivial⟩ trivial h)))))
    ·have h := bF h15 h; refine .gY 24 h15 (.move (e_bool x10.2) rfl (hn := .gY 24 h15 (.move (e_bool x7.2) rfl (hn := .gY 24 h15 (.boolNe u_bool rfl rfl (hn := ?_)))))); refine .pickFM (e_bool (x10.2 != x7.2)) rfl h15 rfl (hn := .nil (hN13 (x10.2 != x7.2) _ ⟨rfl, trivial⟩ trivial h))
end Go.Proofs.YtdkpmckpcejceaaDoor
