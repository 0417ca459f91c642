/- Mirrors of functions, and that the functions return what the mirrors say. -/
import Derived.Test.YtdkpmckpcejceaaDoorXW1
set_option linter.unusedVariables false
set_option linter.unusedSimpArgs false
set_option linter.unnecessarySimpa false
set_option maxHeartbeats 4000000
namespace Go.Proofs.YtdkpmckpcejceaaDoor
open Go.Proofs Go.Lift Go.RowKit
def m_spec_l1Digits_j3 (t3 : Int) : Option Int :=
  some t3
def m_spec_l1Digits_j2 (k1 : ByteArray → Int → Int → Option Int) (t0 : ByteArray) (t3 : Int) (t4 : Int) (t34 : Bool) : Option Int :=
  bif t34 then (some (-1 : Int))
  else ((ckI ((10 : Int) * t3)).bind fun x26 =>
  (sAt? t0 t4).bind fun x27 =>
  (ckI (x26 + ((x27 - (48 : UInt8)).toNat : Int))).bind fun x28 =>
  (ckI (t4 + (1 : Int))).bind fun x29 =>
  k1 t0 x28 x29)
def m_spec_l1Digits_l1 : Nat → ByteArray → Int → Int → Option Int
  | 0, _, _, _ => none
  | n1 + 1, t0, t3, t4 =>
    bif decide (t4 < (t0.size : Int)) then ((sAt? t0 t4).bind fun x21 =>
    bif decide ((x21.toNat : Int) < ((48 : UInt8).toNat : Int)) then (m_spec_l1Digits_j2  (m_spec_l1Digits_l1  n1) t0 t3 t4 true)
    else ((sAt? t0 t4).bind fun x23 =>
      m_spec_l1Digits_j2  (m_spec_l1Digits_l1  n1) t0 t3 t4 (decide ((x23.toNat : Int) > ((57 : UInt8).toNat : Int)))))
    else (m_spec_l1Digits_j3  t3)
def m_spec_l1Digits_j1 (t0 : ByteArray) (t18 : Bool) : Option Int :=
  bif t18 then (some (-1 : Int))
  else (m_spec_l1Digits_l1  (((t0.size : Int) - (0 : Int)).toNat + 1) t0 (0 : Int) (0 : Int))
def m_spec_l1Digits (a0 : ByteArray) : Option Int :=
  (m_spec_l1In (a0.size : Int) (1 : Int) (4 : Int)).bind fun x4 =>
  bif (!x4) then (m_spec_l1Digits_j1  a0 true)
  else (bif decide ((a0.size : Int) > (1 : Int)) then ((sAt? a0 (0 : Int)).bind fun x7 =>
      m_spec_l1Digits_j1  a0 ((x7.toNat : Int) == ((48 : UInt8).toNat : Int)))
    else (m_spec_l1Digits_j1  a0 false))
theorem c_spec_l1Digits (a0 : ByteArray) (r : Int) (h : m_spec_l1Digits a0 = some r) : Does Tryd.prog f_spec_l1Digits [e_string a0] [] (fun x hh => x = e_int r ∧ hh = []) := by
  refine Does.goG [] F_spec_l1Digits rfl e_spec_l1Digits n_spec_l1Digits rfl (rvs := [.tmp 2]) rfl rfl ?_; intro w0 ok0 lent ρ0; refine .seq_k fun N1 hN1 => ?_; refine .region (l := [_]) (.assign (e_int (0 : Int)) rfl (hn := .nil (hN1 _ ?_))); refine .seq_k fun N2 hN2 => ?_; refine .join (α := ByteArray × Bool) (fun z : ByteArray × Bool => [(0, (e_string z.1)), (18, (e_bool z.2))]) (fun z : ByteArray × Bool => []) (fun z : ByteArray × Bool => m_spec_l1Digits_j1  z.1 z.2) r (fun _ => by simp [hkeys]) ?_ ?_
  ·rintro ⟨t0, t18⟩ h; replace h : m_spec_l1Digits_j1  t0 t18 = some _ := h; refine .cond_split rfl (fun h8 => ?_) (fun h8 => ?_)
   ·have h := bT h8 h; refine .seq_k fun N9 hN9 => ?_; refine .region (l := [_]) (.assign (e_int (-1 : Int)) rfl (hn := .nil (hN9 _ ?_))); obtain rfl := so h; refine .ret .p
   ·have h := bF h8 h; refine .skip (hN2 _ ?_); refine .seq_k fun N10 hN10 => ?_; refine .region (l := [_]) (.assign (e_int (0 : Int)) rfl (hn := .nil (hN10 _ ?_))); refine .join (α := Int) (fun z : Int => [(3, (e_int z))]) (fun z : Int => []) (fun z : Int => m_spec_l1Digits_j3  z) r (fun _ => by simp [hkeys]) ?_ ?_
    ·rintro t3 h; replace h : m_spec_l1Digits_j3  t3 = some _ := h; refine .seq_k fun N30 hN30 => ?_; refine .region (l := [_,_]) (.move (e_int t3) rfl (hn := .assign (e_int t3) rfl (hn := .nil (hN30 _ ?_)))); obtain rfl := so h; refine .ret .p
    ·intro N11 hN11; refine .seq_k fun N12 hN12 => ?_; refine .region (l := [_]) (.assign (e_int (0 : Int)) rfl (hn := .nil (hN12 _ ?_))); refine .block ?_; refine .loopM (α := ByteArray × Int × Int) (fun z : ByteArray × Int × Int => [(0, (e_string z.1)), (3, (e_int z.2.1)), (4, (e_int z.2.2))]) (fun z : ByteArray × Int × Int => []) (fun n1 (z : ByteArray × Int × Int) => m_spec_l1Digits_l1  n1 z.1 z.2.1 z.2.2) r _ (t0, (0 : Int), (0 : Int)) h (fun _ => rfl) (fun _ => by simp [hkeys]) ⟨rfl, rfl, rfl, trivial⟩ trivial ?_; rintro n1 ⟨t0, t3, t4⟩ h N13 hN13; replace h : m_spec_l1Digits_l1  (n1 + 1) t0 t3 t4 = some _ := h; refine .seq_k fun N15 hN15 => ?_; refine .seq_k fun N16 hN16 => ?_; refine .region (l := [_,_,_,_]) (.move (e_int t4) rfl (hn := .move (e_string t0) rfl (hn := .lenS u_string rfl (hn := ?_)))); refine .int _ rfl rfl rfl (hn := .nil (hN16 _ ?_)); refine .cond_split rfl (fun h17 => ?_) (fun h17 => ?_)
     ·have h := bT h17 h; refine .skip (hN15 _ ?_); refine .seq_k fun N18 hN18 => ?_; refine .block ?_; refine .seq_k fun N19 hN19 => ?_; refine .join (α := ByteArray × Int × Int × Bool) (fun z : ByteArray × Int × Int × Bool => [(0, (e_string z.1)), (3, (e_int z.2.1)), (4, (e_int z.2.2.1)), (34, (e_bool z.2.2.2))]) (fun z : ByteArray × Int × Int × Bool => []) (fun z : ByteArray × Int × Int × Bool => m_spec_l1Digits_j2  (m_spec_l1Digits_l1  n1) z.1 z.2.1 z.2.2.1 z.2.2.2) r (fun _ => by simp [hkeys]) ?_ ?_
      ·rintro ⟨t0, t3, t4, t34⟩ h; replace h : m_spec_l1Digits_j2  (m_spec_l1Digits_l1  n1) t0 t3 t4 t34 = some _ := h; refine .cond_split rfl (fun h24 => ?_) (fun h24 => ?_)
       ·have h := bT h24 h; refine .seq_k fun N25 hN25 => ?_; refine .region (l := [_]) (.assign (e_int (-1 : Int)) rfl (hn := .nil (hN25 _ ?_))); obtain rfl := so h; refine .ret .p
       ·have h := bF h24 h; refine .skip (hN19 _ ?_); refine .region (l := [_,_,_,_,_,_,_,_,_]) (.move (e_int t3) rfl (hn := bk h fun x26 e26 h => ?_)); refine .int _ rfl rfl (mul_ck e26) (hn := .move (e_string t0) rfl (hn := .move (e_int t4) rfl (hn := bk h fun x27 e27 h => ?_))); refine .indexStr u_string rfl rfl (sAt_0 e27) (sAt_g e27) (hn := ?_); refine .int _ rfl rfl (u8_sub x27 (48 : UInt8)) (hn := .convByte _ u_uint8 u_int rfl (hn := ?_)); refine bk h fun x28 e28 h => ?_; refine .int _ rfl rfl (add_ck e28) (hn := .assign (e_int x28) rfl (hn := .nil (hN18 _ ?_))); refine .region (l := [_,_,_]) (.move (e_int t4) rfl (hn := bk h fun x29 e29 h => ?_)); refine .int _ rfl rfl (add_ck e29) (hn := .assign (e_int x29) rfl (hn := .nil (hN13 (t0, x28, x29) _ ⟨rfl, rfl, rfl, trivial⟩ trivial h)))
      ·intro N20 hN20; refine .region (l := [_,_,_,_,_,_,_,_,_,_]) (.move (e_string t0) rfl (hn := .move (e_int t4) rfl (hn := bk h fun x21 e21 h => ?_))); refine .indexStr u_string rfl rfl (sAt_0 e21) (sAt_g e21) (hn := ?_); refine .int _ rfl rfl rfl (hn := .move (e_bool (decide ((x21.toNat : Int) < ((48 : UInt8).toNat : Int)))) rfl (hn := .byCases (t := 29) _ rfl (fun h22 => ?_) (fun h22 => ?_)))
       ·have h := bT h22 h; refine .gN 29 h22 (.gN 29 h22 (.gN 29 h22 (.gN 29 h22 (.pickTM (e_bool true) rfl h22 rfl (hn := .nil (hN20 (t0, t3, t4, true) _ ⟨rfl, rfl, rfl, rfl, trivial⟩ trivial h))))))
       ·have h := bF h22 h; refine .gY 29 h22 (.move (e_string t0) rfl (hn := .gY 29 h22 (.move (e_int t4) rfl (hn := bk h fun x23 e23 h => ?_)))); refine .gY 29 h22 (.indexStr u_string rfl rfl (sAt_0 e23) (sAt_g e23) (hn := ?_)); refine .gY 29 h22 (.int _ rfl rfl rfl (hn := .pickFM (e_bool (decide ((x23.toNat : Int) > ((57 : UInt8).toNat : Int)))) rfl h22 rfl (hn := .nil (hN20 (t0, t3, t4, decide ((x23.toNat : Int) > ((57 : UInt8).toNat : Int))) _ ⟨rfl, rfl, rfl, rfl, trivial⟩ trivial h))))
     ·have h := bF h17 h; refine .exit (hN11 t3 _ ⟨rfl, trivial⟩ trivial h)
  ·intro N3 hN3; refine .region (l := [_,_,_,_,_,_,_,_,_,_,_,_,_,_]) (.move (e_string a0) rfl (hn := .lenS u_string rfl (hn := ?_))); refine bk h fun x4 e4 h => ?_; refine .vcall rfl rfl (c_spec_l1In _ _ _ _ e4) (.same (.same (.same (.nil)))) (hn := ?_); refine .not rfl (hn := ?_); refine .move (e_bool (!x4)) rfl (hn := .byCases (t := 9) _ rfl (fun h5 => ?_) (fun h5 => ?_))
   ·have h := bT h5 h; refine .gN 9 h5 (.gN 9 h5 (.gN 9 h5 (.gN 9 h5 (.gU 13 (.gU 13 (.gU 13 (.gN 9 h5 (.pickTM (e_bool true) rfl h5 rfl (hn := .nil (hN3 (a0, true) _ ⟨rfl, rfl, trivial⟩ trivial h))))))))))
   ·have h := bF h5 h; refine .gY 9 h5 (.move (e_string a0) rfl (hn := .gY 9 h5 (.lenS u_string rfl (hn := ?_)))); refine .gY 9 h5 (.int _ rfl rfl rfl (hn := .gY 9 h5 (.move (e_bool (decide ((a0.size : Int) > (1 : Int)))) rfl (hn := .byCases (t := 13) _ rfl (fun h6 => ?_) (fun h6 => ?_)))))
    ·have h := bT h6 h; refine .gY 13 h6 (.move (e_string a0) rfl (hn := bk h fun x7 e7 h => ?_)); refine .gY 13 h6 (.indexStr u_string rfl rfl (sAt_0 e7) (sAt_g e7) (hn := ?_)); refine .gY 13 h6 (.int _ rfl rfl rfl (hn := .gY 9 h5 (.pickTM (e_bool ((x7.toNat : Int) == ((48 : UInt8).toNat : Int))) rfl h6 rfl (hn := .pickFM (e_bool ((x7.toNat : Int) == ((48 : UInt8).toNat : Int))) rfl h5 rfl (hn := .nil (hN3 (a0, ((x7.toNat : Int) == ((48 : UInt8).toNat : Int))) _ ⟨rfl, rfl, trivial⟩ trivial h))))))
    ·have h := bF h6 h; refine .gN 13 h6 (.gN 13 h6 (.gN 13 h6 (.gY 9 h5 (.pickFM (e_bool false) rfl h6 rfl (hn := .pickFM (e_bool false) rfl h5 rfl (hn := .nil (hN3 (a0, false) _ ⟨rfl, rfl, trivial⟩ trivial h)))))))

def m_spec_ValueRead_j4 (t0 : ByteArray) (o2 : S_impl_Value) (o4 : S_impl_Value) : Option (S_impl_Value × Bool) :=
  (m_spec_ValueText o4).bind fun x33 =>
  bif (!(sEq x33 t0)) then (lt ((⟨(0 : Int), (0 : Int), (⟨#[]⟩ : ByteArray)⟩ : S_impl_Value)) fun y36 =>
    some (y36, false))
  else (lt (o4) fun y38 =>
  some (y38, true))
def m_spec_ValueRead_j3 (t0 : ByteArray) (t40 : Bool) (o2 : S_impl_Value) (o4 : S_impl_Value) : Option (S_impl_Value × Bool) :=
  bif t40 then ((sCut? t0 (1 : Int) (t0.size : Int)).bind fun x25 =>
    (m_spec_l1Digits x25).bind fun x26 =>
    (ckI (0 - (maxI x26 (0 : Int)))).bind fun x27 =>
    lt ((⟨(1 : Int), x27, (⟨#[]⟩ : ByteArray)⟩ : S_impl_Value)) fun y28 =>
    m_spec_ValueRead_j4  t0 o2 y28)
  else ((m_spec_l1Digits t0).bind fun x29 =>
    lt ((⟨(1 : Int), (maxI x29 (0 : Int)), (⟨#[]⟩ : ByteArray)⟩ : S_impl_Value)) fun y30 =>
    m_spec_ValueRead_j4  t0 o2 y30)
def m_spec_ValueRead_j2 (t0 : ByteArray) (t25 : Bool) (o2 : S_impl_Value) (o4 : S_impl_Value) : Option (S_impl_Value × Bool) :=
  bif t25 then ((ckI ((t0.size : Int) - (1 : Int))).bind fun x18 =>
    (sCut? t0 (1 : Int) x18).bind fun x19 =>
    lt ((⟨(2 : Int), (0 : Int), x19⟩ : S_impl_Value)) fun y20 =>
    m_spec_ValueRead_j4  t0 o2 y20)
  else (bif decide ((t0.size : Int) > (1 : Int)) then ((sAt? t0 (0 : Int)).bind fun x23 =>
      m_spec_ValueRead_j3  t0 ((x23.toNat : Int) == ((45 : UInt8).toNat : Int)) o2 o4)
    else (m_spec_ValueRead_j3  t0 false o2 o4))
def m_spec_ValueRead_j1 (t0 : ByteArray) (t14 : Bool) (o2 : S_impl_Value) (o4 : S_impl_Value) : Option (S_impl_Value × Bool) :=
  bif t14 then ((ckI ((5 : Int) - (t0.size : Int))).bind fun x12 =>
    lt ((⟨(3 : Int), x12, (⟨#[]⟩ : ByteArray)⟩ : S_impl_Value)) fun y13 =>
    m_spec_ValueRead_j4  t0 o2 y13)
  else (bif decide ((t0.size : Int) > (1 : Int)) then ((sAt? t0 (0 : Int)).bind fun x16 =>
      m_spec_ValueRead_j2  t0 ((x16.toNat : Int) == ((39 : UInt8).toNat : Int)) o2 o4)
    else (m_spec_ValueRead_j2  t0 false o2 o4))
def m_spec_ValueRead (a0 : ByteArray) : Option (S_impl_Value × Bool) :=
  lt ((⟨(0 : Int), (0 : Int), (⟨#[]⟩ : ByteArray)⟩ : S_impl_Value)) fun y3 =>
  bif (sEq a0 (⟨#[110, 111, 110, 101]⟩ : ByteArray)) then (lt (y3) fun y8 =>
    some (y8, true))
  else (bif (sEq a0 (⟨#[116, 114, 117, 101]⟩ : ByteArray)) then (m_spec_ValueRead_j1  a0 true (⟨(0 : Int), (0 : Int), (⟨#[]⟩ : ByteArray)⟩ : S_impl_Value) y3)
    else (m_spec_ValueRead_j1  a0 (sEq a0 (⟨#[102, 97, 108, 115, 101]⟩ : ByteArray)) (⟨(0 : Int), (0 : Int), (⟨#[]⟩ : ByteArray)⟩ : S_impl_Value) y3))
theorem c_spec_ValueRead (a0 : ByteArray) (r : (S_impl_Value × Bool)) (h : m_spec_ValueRead a0 = some r) : Does Tryd.prog f_spec_ValueRead [e_string a0] [] (fun x hh => x = .tup [e_impl_Value r.1, e_bool r.2] ∧ hh = []) := by
  refine Does.goG [] F_spec_ValueRead rfl e_spec_ValueRead n_spec_ValueRead rfl (rvs := [.cell 2 t_impl_Value, .tmp 3]) rfl rfl ?_; intro w0 ok0 lent ρ0; refine .seq_k fun N1 hN1 => ?_; refine .region (l := [_,_]) (.alloc_impl_Value 2 rfl (hn := ?_)); refine .assign (e_bool false) rfl (hn := .nil (hN1 _ ?_)); refine .seq_k fun N2 hN2 => ?_; refine .region (l := [_,_,_]) (.build_impl_Value (parts := []) (⟨(0 : Int), (0 : Int), (⟨#[]⟩ : ByteArray)⟩ : S_impl_Value) rfl rfl rfl .refl (hn := ?_)); refine .alloc_impl_Value 4 rfl (hn := ?_); refine lk h fun y3 e3 h => ?_; refine .storeW (y := (⟨(0 : Int), (0 : Int), (⟨#[]⟩ : ByteArray)⟩ : S_impl_Value)) y3 s_impl_Value rfl rfl rfl rfl rfl rfl (by rw [e3]; exact .refl) rfl (hn := ?_); refine .nil (hN2 _ ?_); refine .join (α := ByteArray × S_impl_Value × S_impl_Value) (fun z : ByteArray × S_impl_Value × S_impl_Value => [(0, (e_string z.1)), (2, (.ptr 2 0 0)), (4, (.ptr 4 0 0))]) (fun z : ByteArray × S_impl_Value × S_impl_Value => [(2, (vob 3 e_impl_Value z.2.1)), (4, (vob 3 e_impl_Value z.2.2))]) (fun z : ByteArray × S_impl_Value × S_impl_Value => m_spec_ValueRead_j4  z.1 z.2.1 z.2.2) r (fun _ => by simp [hkeys]) ?_ ?_
  ·rintro ⟨t0, o2, o4⟩ h; replace h : m_spec_ValueRead_j4  t0 o2 o4 = some _ := h; refine .seq_k fun N31 hN31 => ?_; refine .seq_k fun N32 hN32 => ?_; refine .region (l := [_,_,_,_]) (.loadVN ((e_impl_Value o4)).cells  g_impl_Value s_impl_Value rfl rfl rfl rfl (hn := ?_)); refine bk h fun x33 e33 h => ?_; refine .vcall rfl rfl (c_spec_ValueText _ _ e33) (.same (.nil)) (hn := ?_); refine .move (e_string t0) rfl (hn := .str _ rfl rfl rfl (hn := .nil (hN32 _ ?_))); refine .cond_split rfl (fun h34 => ?_) (fun h34 => ?_)
   ·have h := bT h34 h; refine .seq_k fun N35 hN35 => ?_; refine .region (l := [_,_,_]) (.build_impl_Value (parts := []) (⟨(0 : Int), (0 : Int), (⟨#[]⟩ : ByteArray)⟩ : S_impl_Value) rfl rfl rfl .refl (hn := ?_)); refine lk h fun y36 e36 h => ?_; refine .storeW (y := o2) y36 s_impl_Value rfl rfl rfl rfl rfl rfl (by rw [e36]; exact .refl) rfl (hn := ?_); refine .assign (e_bool false) rfl (hn := .nil (hN35 _ ?_)); obtain rfl := so h; refine .ret (QG.mk (.inr rfl) (.cons (.cellN (ys := (e_impl_Value y36).cells) g_impl_Value s_impl_Value rfl rfl rfl rfl rfl (fun _ _ => rfl)) (.cons (.tmp (x := (e_bool false)) rfl) (.nil))) (RetOK.many0 (.cons (.pure rfl) (.cons (.pure rfl) (.nil))) (by simp) (by decide)) rfl rfl)
   ·have h := bF h34 h; refine .skip (hN31 _ ?_); refine .seq_k fun N37 hN37 => ?_; refine .region (l := [_,_,_]) (.loadVN ((e_impl_Value o4)).cells  g_impl_Value s_impl_Value rfl rfl rfl rfl (hn := ?_)); refine lk h fun y38 e38 h => ?_; refine .storeW (y := o2) y38 s_impl_Value rfl rfl rfl rfl rfl rfl (by rw [e38]; exact .refl) rfl (hn := ?_); refine .assign (e_bool true) rfl (hn := .nil (hN37 _ ?_)); obtain rfl := so h; refine .ret (QG.mk (.inr rfl) (.cons (.cellN (ys := (e_impl_Value y38).cells) g_impl_Value s_impl_Value rfl rfl rfl rfl rfl (fun _ _ => rfl)) (.cons (.tmp (x := (e_bool true)) rfl) (.nil))) (RetOK.many0 (.cons (.pure rfl) (.cons (.pure rfl) (.nil))) (by simp) (by decide)) rfl rfl)
  ·intro N4 hN4; refine .block ?_; refine .seq_k fun N5 hN5 => ?_; refine .region (l := [_,_,_]) (.move (e_string a0) rfl (hn := .str _ rfl rfl rfl (hn := .assign (e_bool (sEq a0 (⟨#[110, 111, 110, 101]⟩ : ByteArray))) rfl (hn := .nil (hN5 _ ?_))))); refine .cond_split rfl (fun h6 => ?_) (fun h6 => ?_)
   ·have h := bT h6 h; refine .seq_k fun N7 hN7 => ?_; refine .region (l := [_,_,_]) (.loadVN ((e_impl_Value y3)).cells  g_impl_Value s_impl_Value rfl rfl rfl rfl (hn := ?_)); refine lk h fun y8 e8 h => ?_; refine .storeW (y := (⟨(0 : Int), (0 : Int), (⟨#[]⟩ : ByteArray)⟩ : S_impl_Value)) y8 s_impl_Value rfl rfl rfl rfl rfl rfl (by rw [e8]; exact .refl) rfl (hn := ?_); refine .assign (e_bool true) rfl (hn := .nil (hN7 _ ?_)); obtain rfl := so h; refine .ret (QG.mk (.inr rfl) (.cons (.cellN (ys := (e_impl_Value y8).cells) g_impl_Value s_impl_Value rfl rfl rfl rfl rfl (fun _ _ => rfl)) (.cons (.tmp (x := (e_bool true)) rfl) (.nil))) (RetOK.many0 (.cons (.pure rfl) (.cons (.pure rfl) (.nil))) (by simp) (by decide)) rfl rfl)
   ·have h := bF h6 h; refine .join (α := ByteArray × Bool × S_impl_Value × S_impl_Value) (fun z : ByteArray × Bool × S_impl_Value × S_impl_Value => [(0, (e_string z.1)), (2, (.ptr 2 0 0)), (4, (.ptr 4 0 0)), (14, (e_bool z.2.1))]) (fun z : ByteArray × Bool × S_impl_Value × S_impl_Value => [(2, (vob 3 e_impl_Value z.2.2.1)), (4, (vob 3 e_impl_Value z.2.2.2))]) (fun z : ByteArray × Bool × S_impl_Value × S_impl_Value => m_spec_ValueRead_j1  z.1 z.2.1 z.2.2.1 z.2.2.2) r (fun _ => by simp [hkeys]) ?_ ?_
    ·rintro ⟨t0, t14, o2, o4⟩ h; replace h : m_spec_ValueRead_j1  t0 t14 o2 o4 = some _ := h; refine .cond_split rfl (fun h11 => ?_) (fun h11 => ?_)
     ·have h := bT h11 h; refine .region (l := [_,_,_,_,_]) (.move (e_string t0) rfl (hn := .lenS u_string rfl (hn := ?_))); refine bk h fun x12 e12 h => ?_; refine .int _ rfl rfl (sub_ck e12) (hn := .build_impl_Value (parts := [_, _]) (⟨(3 : Int), x12, (⟨#[]⟩ : ByteArray)⟩ : S_impl_Value) rfl rfl rfl .refl (hn := ?_)); refine lk h fun y13 e13 h => ?_; refine .storeW (y := o4) y13 s_impl_Value rfl rfl rfl rfl rfl rfl (by rw [e13]; exact .refl) rfl (hn := ?_); refine .nil (hN4 (t0, o2, y13) _ ⟨rfl, rfl, rfl, trivial⟩ ⟨rfl, rfl, trivial⟩ h)
     ·have h := bF h11 h; refine .join (α := ByteArray × Bool × S_impl_Value × S_impl_Value) (fun z : ByteArray × Bool × S_impl_Value × S_impl_Value => [(0, (e_string z.1)), (2, (.ptr 2 0 0)), (4, (.ptr 4 0 0)), (25, (e_bool z.2.1))]) (fun z : ByteArray × Bool × S_impl_Value × S_impl_Value => [(2, (vob 3 e_impl_Value z.2.2.1)), (4, (vob 3 e_impl_Value z.2.2.2))]) (fun z : ByteArray × Bool × S_impl_Value × S_impl_Value => m_spec_ValueRead_j2  z.1 z.2.1 z.2.2.1 z.2.2.2) r (fun _ => by simp [hkeys]) ?_ ?_
      ·rintro ⟨t0, t25, o2, o4⟩ h; replace h : m_spec_ValueRead_j2  t0 t25 o2 o4 = some _ := h; refine .cond_split rfl (fun h17 => ?_) (fun h17 => ?_)
       ·have h := bT h17 h; refine .region (l := [_,_,_,_,_,_,_]) (.move (e_string t0) rfl (hn := .move (e_string t0) rfl (hn := .lenS u_string rfl (hn := ?_)))); refine bk h fun x18 e18 h => ?_; refine .int _ rfl rfl (sub_ck e18) (hn := bk h fun x19 e19 h => ?_); refine .cutS e19 u_string rfl ⟨_, rfl⟩ ⟨_, rfl⟩ (hn := ?_); refine .build_impl_Value (parts := [_, _]) (⟨(2 : Int), (0 : Int), x19⟩ : S_impl_Value) rfl rfl rfl .refl (hn := ?_); refine lk h fun y20 e20 h => ?_; refine .storeW (y := o4) y20 s_impl_Value rfl rfl rfl rfl rfl rfl (by rw [e20]; exact .refl) rfl (hn := ?_); refine .nil (hN4 (t0, o2, y20) _ ⟨rfl, rfl, rfl, trivial⟩ ⟨rfl, rfl, trivial⟩ h)
       ·have h := bF h17 h; refine .join (α := ByteArray × Bool × S_impl_Value × S_impl_Value) (fun z : ByteArray × Bool × S_impl_Value × S_impl_Value => [(0, (e_string z.1)), (2, (.ptr 2 0 0)), (4, (.ptr 4 0 0)), (40, (e_bool z.2.1))]) (fun z : ByteArray × Bool × S_impl_Value × S_impl_Value => [(2, (vob 3 e_impl_Value z.2.2.1)), (4, (vob 3 e_impl_Value z.2.2.2))]) (fun z : ByteArray × Bool × S_impl_Value × S_impl_Value => m_spec_ValueRead_j3  z.1 z.2.1 z.2.2.1 z.2.2.2) r (fun _ => by simp [hkeys]) ?_ ?_
        ·rintro ⟨t0, t40, o2, o4⟩ h; replace h : m_spec_ValueRead_j3  t0 t40 o2 o4 = some _ := h; refine .cond_split rfl (fun h24 => ?_) (fun h24 => ?_)
         ·have h := bT h24 h; refine .region (l := [_,_,_,_,_,_,_]) (.move (e_string t0) rfl (hn := bk h fun x25 e25 h => ?_)); refine .cutS e25 u_string rfl ⟨_, rfl⟩ rfl (hn := ?_); refine bk h fun x26 e26 h => ?_; refine .vcall rfl rfl (c_spec_l1Digits _ _ e26) (.same (.nil)) (hn := ?_); refine .max2 rfl rfl (hn := ?_); refine bk h fun x27 e27 h => ?_; refine .neg _ rfl (sub_ck e27) (hn := ?_); refine .build_impl_Value (parts := [_, _]) (⟨(1 : Int), x27, (⟨#[]⟩ : ByteArray)⟩ : S_impl_Value) rfl rfl rfl .refl (hn := ?_); refine lk h fun y28 e28 h => ?_; refine .storeW (y := o4) y28 s_impl_Value rfl rfl rfl rfl rfl rfl (by rw [e28]; exact .refl) rfl (hn := ?_); refine .nil (hN4 (t0, o2, y28) _ ⟨rfl, rfl, rfl, trivial⟩ ⟨rfl, rfl, trivial⟩ h)
         ·have h := bF h24 h; refine .region (l := [_,_,_,_,_]) (.move (e_string t0) rfl (hn := bk h fun x29 e29 h => ?_)); refine .vcall rfl rfl (c_spec_l1Digits _ _ e29) (.same (.nil)) (hn := ?_); refine .max2 rfl rfl (hn := ?_); refine .build_impl_Value (parts := [_, _]) (⟨(1 : Int), (maxI x29 (0 : Int)), (⟨#[]⟩ : ByteArray)⟩ : S_impl_Value) rfl rfl rfl .refl (hn := ?_); refine lk h fun y30 e30 h => ?_; refine .storeW (y := o4) y30 s_impl_Value rfl rfl rfl rfl rfl rfl (by rw [e30]; exact .refl) rfl (hn := ?_); refine .nil (hN4 (t0, o2, y30) _ ⟨rfl, rfl, rfl, trivial⟩ ⟨rfl, rfl, trivial⟩ h)
        ·intro N21 hN21; refine .region (l := [_,_,_,_,_,_,_,_,_]) (.move (e_string t0) rfl (hn := .lenS u_string rfl (hn := ?_))); refine .int _ rfl rfl rfl (hn := .move (e_bool (decide ((t0.size : Int) > (1 : Int)))) rfl (hn := .byCases (t := 44) _ rfl (fun h22 => ?_) (fun h22 => ?_)))
         ·have h := bT h22 h; refine .gY 44 h22 (.move (e_string t0) rfl (hn := bk h fun x23 e23 h => ?_)); refine .gY 44 h22 (.indexStr u_string rfl rfl (sAt_0 e23) (sAt_g e23) (hn := ?_)); refine .gY 44 h22 (.int _ rfl rfl rfl (hn := .pickTM (e_bool ((x23.toNat : Int) == ((45 : UInt8).toNat : Int))) rfl h22 rfl (hn := .assign (e_bool ((x23.toNat : Int) == ((45 : UInt8).toNat : Int))) rfl (hn := .nil (hN21 (t0, ((x23.toNat : Int) == ((45 : UInt8).toNat : Int)), o2, o4) _ ⟨rfl, rfl, rfl, rfl, trivial⟩ ⟨rfl, rfl, trivial⟩ h)))))
         ·have h := bF h22 h; refine .gN 44 h22 (.gN 44 h22 (.gN 44 h22 (.pickFM (e_bool false) rfl h22 rfl (hn := .assign (e_bool false) rfl (hn := .nil (hN21 (t0, false, o2, o4) _ ⟨rfl, rfl, rfl, rfl, trivial⟩ ⟨rfl, rfl, trivial⟩ h))))))
      ·intro N14 hN14; refine .region (l := [_,_,_,_,_,_,_,_,_]) (.move (e_string t0) rfl (hn := .lenS u_string rfl (hn := ?_))); refine .int _ rfl rfl rfl (hn := .move (e_bool (decide ((t0.size : Int) > (1 : Int)))) rfl (hn := .byCases (t := 29) _ rfl (fun h15 => ?_) (fun h15 => ?_)))
       ·have h := bT h15 h; refine .gY 29 h15 (.move (e_string t0) rfl (hn := bk h fun x16 e16 h => ?_)); refine .gY 29 h15 (.indexStr u_string rfl rfl (sAt_0 e16) (sAt_g e16) (hn := ?_)); refine .gY 29 h15 (.int _ rfl rfl rfl (hn := .pickTM (e_bool ((x16.toNat : Int) == ((39 : UInt8).toNat : Int))) rfl h15 rfl (hn := .assign (e_bool ((x16.toNat : Int) == ((39 : UInt8).toNat : Int))) rfl (hn := .nil (hN14 (t0, ((x16.toNat : Int) == ((39 : UInt8).toNat : Int)), o2, o4) _ ⟨rfl, rfl, rfl, rfl, trivial⟩ ⟨rfl, rfl, trivial⟩ h)))))
       ·have h := bF h15 h; refine .gN 29 h15 (.gN 29 h15 (.gN 29 h15 (.pickFM (e_bool false) rfl h15 rfl (hn := .assign (e_bool false) rfl (hn := .nil (hN14 (t0, false, o2, o4) _ ⟨rfl, rfl, rfl, rfl, trivial⟩ ⟨rfl, rfl, trivial⟩ h))))))
    ·intro N9 hN9; refine .region (l := [_,_,_,_,_,_,_]) (.move (e_string a0) rfl (hn := .str _ rfl rfl rfl (hn := .move (e_bool (sEq a0 (⟨#[116, 114, 117, 101]⟩ : ByteArray))) rfl (hn := .byCases (t := 17) _ rfl (fun h10 => ?_) (fun h10 => ?_)))))
     ·have h := bT h10 h; refine .gN 17 h10 (.gN 17 h10 (.pickTM (e_bool true) rfl h10 rfl (hn := .assign (e_bool true) rfl (hn := .nil (hN9 (a0, true, (⟨(0 : Int), (0 : Int), (⟨#[]⟩ : ByteArray)⟩ : S_impl_Value), y3) _ ⟨rfl, rfl, rfl, rfl, trivial⟩ ⟨rfl, rfl, trivial⟩ h)))))
     ·have h := bF h10 h; refine .gY 17 h10 (.move (e_string a0) rfl (hn := .gY 17 h10 (.str _ rfl rfl rfl (hn := .pickFM (e_bool (sEq a0 (⟨#[102, 97, 108, 115, 101]⟩ : ByteArray))) rfl h10 rfl (hn := .assign (e_bool (sEq a0 (⟨#[102, 97, 108, 115, 101]⟩ : ByteArray))) rfl (hn := .nil (hN9 (a0, (sEq a0 (⟨#[102, 97, 108, 115, 101]⟩ : ByteArray)), (⟨(0 : Int), (0 : Int), (⟨#[]⟩ : ByteArray)⟩ : S_impl_Value), y3) _ ⟨rfl, rfl, rfl, rfl, trivial⟩ ⟨rfl, rfl, trivial⟩ h)))))))

def m_impl_ValueOk (a0 : S_impl_Value) : Option Bool :=
  (m_impl_Value_ok a0).bind fun x3 =>
  some x3
theorem c_impl_ValueOk (a0 : S_impl_Value) (r : Bool) (h : m_impl_ValueOk a0 = some r) : Does Tryd.prog f_impl_ValueOk [e_impl_Value a0] [] (fun x hh => x = e_bool r ∧ hh = []) := by
  refine Does.goG [] F_impl_ValueOk rfl e_impl_ValueOk n_impl_ValueOk rfl (rvs := [.tmp 2]) rfl rfl ?_; intro w0 ok0 lent ρ0; refine .seq_k fun N1 hN1 => ?_; refine .region (l := [_,_]) (.boxF (e_impl_Value a0) rfl rfl rfl (hn := .assign (e_bool false) rfl (hn := .nil (hN1 _ ?_)))); refine .seq_k fun N2 hN2 => ?_; refine .region (l := [_,_,_]) (.loadN ((e_impl_Value a0)).cells g_impl_Value s_impl_Value rfl (Nat.le_of_ble_eq_true rfl) rfl (hn := ?_)); refine bk h fun x3 e3 h => ?_; refine .vcall rfl rfl (c_impl_Value_ok _ _ e3) (.same (.nil)) (hn := ?_); refine .assign (e_bool x3) rfl (hn := .nil (hN2 _ ?_)); obtain rfl := so h; refine .ret .p

def m_laws_alive_j1 (t0 : Bool) : Option Bool :=
  some t0
def m_laws_alive  : Option Bool :=
  (m_impl_ValueOk (⟨(1 : Int), (3 : Int), (⟨#[]⟩ : ByteArray)⟩ : S_impl_Value)).bind fun x3 =>
  bif x3 then ((m_impl_ValueOk (⟨(9 : Int), (0 : Int), (⟨#[]⟩ : ByteArray)⟩ : S_impl_Value)).bind fun x5 =>
    m_laws_alive_j1  (!x5))
  else (m_laws_alive_j1  false)
theorem c_laws_alive  (r : Bool) (h : m_laws_alive  = some r) : Does Tryd.prog f_laws_alive [] [] (fun x hh => x = e_bool r ∧ hh = []) := by
  refine Does.goG [] F_laws_alive rfl e_laws_alive n_laws_alive rfl (rvs := [.tmp 0]) rfl rfl ?_; intro w0 ok0 lent ρ0; refine .seq_k fun N1 hN1 => ?_; refine .region (l := [_]) (.assign (e_bool false) rfl (hn := .nil (hN1 _ ?_))); refine .join (α := Bool) (fun z : Bool => [(0, (e_bool z))]) (fun z : Bool => []) (fun z : Bool => m_laws_alive_j1  z) r (fun _ => by simp [hkeys]) ?_ ?_
  ·rintro t0 h; replace h : m_laws_alive_j1  t0 = some _ := h; obtain rfl := so h; refine .ret .p
  ·intro N2 hN2; refine .region (l := [_,_,_,_,_,_,_,_]) (.build_impl_Value (parts := [_, _]) (⟨(1 : Int), (3 : Int), (⟨#[]⟩ : ByteArray)⟩ : S_impl_Value) rfl rfl rfl .refl (hn := ?_)); refine bk h fun x3 e3 h => ?_; refine .vcall rfl rfl (c_impl_ValueOk _ _ e3) (.same (.nil)) (hn := ?_); refine .move (e_bool x3) rfl (hn := .byCases (t := 3) _ rfl (fun h4 => ?_) (fun h4 => ?_))
   ·have h := bT h4 h; refine .gY 3 h4 (.build_impl_Value (parts := [_]) (⟨(9 : Int), (0 : Int), (⟨#[]⟩ : ByteArray)⟩ : S_impl_Value) rfl rfl rfl .refl (hn := ?_)); refine bk h fun x5 e5 h => ?_; refine .gY 3 h4 (.vcall rfl rfl (c_impl_ValueOk _ _ e5) (.same (.nil)) (hn := ?_)); refine .gY 3 h4 (.not rfl (hn := ?_)); refine .pickTM (e_bool (!x5)) rfl h4 rfl (hn := .assign (e_bool (!x5)) rfl (hn := .nil (hN2 (!x5) _ ⟨rfl, trivial⟩ trivial h)))
   ·have h := bF h4 h; refine .gN 3 h4 (.gN 3 h4 (.gN 3 h4 (.pickFM (e_bool false) rfl h4 rfl (hn := .assign (e_bool false) rfl (hn := .nil (hN2 false _ ⟨rfl, trivial⟩ trivial h))))))

def m_laws_FnValueRead_j2 (t2 : Bool) : Option Bool :=
  some t2
def m_laws_FnValueRead_j1 (t3 : ByteArray) (t5 : Bool) (t30 : Bool) (o4 : S_impl_Value) : Option Bool :=
  bif t30 then (some false)
  else (bif (!t5) then ((m_laws_alive ).bind fun x21 =>
  m_laws_FnValueRead_j2  x21)
  else ((m_impl_ValueOk o4).bind fun x22 =>
  bif x22 then ((m_impl_ValueText o4).bind fun x24 =>
    bif (sEq x24 t3) then ((m_laws_alive ).bind fun x26 =>
      m_laws_FnValueRead_j2  x26)
    else (m_laws_FnValueRead_j2  false))
  else (m_laws_FnValueRead_j2  false)))
def m_laws_FnValueRead (a0 : (List UInt8)) : Option Bool :=
  bif decide ((a0.length : Int) > (1048576 : Int)) then (some true)
  else ((m_spec_DrawValueRead a0).bind fun x7 =>
  (m_impl_ValueRead x7).bind fun x9 =>
  lt (x9.1) fun y10 =>
  (m_spec_ValueRead x7).bind fun x12 =>
  lt (x12.1) fun y13 =>
  bif (x9.2 != x12.2) then (m_laws_FnValueRead_j1  x7 x9.2 true y10)
  else (m_laws_FnValueRead_j1  x7 x9.2 (!(decide (y10 = y13))) y10))
theorem c_laws_FnValueRead (a0 : (List UInt8)) (r : Bool) (h : m_laws_FnValueRead a0 = some r) : RetG Tryd.prog GW f_laws_FnValueRead [e_Luint8 a0] (e_bool r) := by
  refine DoesG.goG GW_st F_laws_FnValueRead rfl e_laws_FnValueRead n_laws_FnValueRead rfl (rvs := [.tmp 2]) rfl ?_; intro w0 ok0 ρ0 hG; refine .seq_k fun N1 hN1 => ?_; refine .region (l := [_]) (.assign (e_bool false) rfl (hn := .nil (hN1 _ ?_))); refine .seq_k fun N2 hN2 => ?_; refine .seq_k fun N3 hN3 => ?_; refine .region (l := [_,_,_]) (.move (e_Luint8 a0) rfl (hn := .lenM (f := e_uint8) (l := a0) u_Luint8 rfl (hn := ?_))); refine .int _ rfl rfl rfl (hn := .nil (hN3 _ ?_)); refine .cond_split rfl (fun h4 => ?_) (fun h4 => ?_)
  ·have h := bT h4 h; refine .seq_k fun N5 hN5 => ?_; refine .region (l := [_]) (.assign (e_bool true) rfl (hn := .nil (hN5 _ ?_))); obtain rfl := so h; refine .ret .p
  ·have h := bF h4 h; refine .skip (hN2 _ ?_); refine .seq_k fun N6 hN6 => ?_; refine .region (l := [_,_,_]) (.move (e_Luint8 a0) rfl (hn := bk h fun x7 e7 h => ?_)); refine .vcall rfl rfl (c_spec_DrawValueRead _ _ e7) (.same (.nil)) (hn := ?_); refine .assign (e_string x7) rfl (hn := .nil (hN6 _ ?_)); refine .seq_k fun N8 hN8 => ?_; refine .region (l := [_,_,_,_,_,_,_,_]) (.move (e_string x7) rfl (hn := bk h fun x9 e9 h => ?_)); refine .vcallG hG rfl rfl (c_impl_ValueRead _ _ e9) (.same (.nil)) (hn := ?_); refine .move (.tup [(e_impl_Value x9.1), (e_bool x9.2)]) rfl (hn := .extract (e_impl_Value x9.1) rfl rfl (hn := ?_)); refine .extract (e_bool x9.2) rfl rfl (hn := ?_); refine .alloc_impl_Value 4 rfl (hn := ?_); refine lk h fun y10 e10 h => ?_; refine .storeW (y := (⟨(0 : Int), (0 : Int), (⟨#[]⟩ : ByteArray)⟩ : S_impl_Value)) y10 s_impl_Value rfl rfl rfl rfl rfl rfl (by rw [e10]; exact .refl) rfl (hn := ?_); refine .assign (e_bool x9.2) rfl (hn := .nil (hN8 _ ?_)); refine .seq_k fun N11 hN11 => ?_; refine .region (l := [_,_,_,_,_,_,_,_]) (.move (e_string x7) rfl (hn := bk h fun x12 e12 h => ?_)); refine .vcall rfl rfl (c_spec_ValueRead _ _ e12) (.same (.nil)) (hn := ?_); refine .move (.tup [(e_impl_Value x12.1), (e_bool x12.2)]) rfl (hn := .extract (e_impl_Value x12.1) rfl rfl (hn := ?_)); refine .extract (e_bool x12.2) rfl rfl (hn := ?_); refine .alloc_impl_Value 6 rfl (hn := ?_); refine lk h fun y13 e13 h => ?_; refine .storeW (y := (⟨(0 : Int), (0 : Int), (⟨#[]⟩ : ByteArray)⟩ : S_impl_Value)) y13 s_impl_Value rfl rfl rfl rfl rfl rfl (by rw [e13]; exact .refl) rfl (hn := ?_); refine .assign (e_bool x12.2) rfl (hn := .nil (hN11 _ ?_)); refine .seq_k fun N14 hN14 => ?_; refine .join (α := ByteArray × Bool × Bool × S_impl_Value) (fun z : ByteArray × Bool × Bool × S_impl_Value => [(3, (e_string z.1)), (4, (.ptr 4 0 0)), (5, (e_bool z.2.1)), (30, (e_bool z.2.2.1))]) (fun z : ByteArray × Bool × Bool × S_impl_Value => [(4, (vob 3 e_impl_Value z.2.2.2))]) (fun z : ByteArray × Bool × Bool × S_impl_Value => m_laws_FnValueRead_j1  z.1 z.2.1 z.2.2.1 z.2.2.2) r (fun _ => by simp [hkeys]) ?_ ?_
   ·rintro ⟨t3, t5, t30, o4⟩ h; replace h : m_laws_FnValueRead_j1  t3 t5 t30 o4 = some _ := h; refine .cond_split rfl (fun h17 => ?_) (fun h17 => ?_)
    ·have h := bT h17 h; refine .seq_k fun N18 hN18 => ?_; refine .region (l := [_]) (.assign (e_bool false) rfl (hn := .nil (hN18 _ ?_))); obtain rfl := so h; refine .ret .p
    ·have h := bF h17 h; refine .skip (hN14 _ ?_); refine .join (α := Bool) (fun z : Bool => [(2, (e_bool z))]) (fun z : Bool => []) (fun z : Bool => m_laws_FnValueRead_j2  z) r (fun _ => by simp [hkeys]) ?_ ?_
     ·rintro t2 h; replace h : m_laws_FnValueRead_j2  t2 = some _ := h; obtain rfl := so h; refine .ret .p
     ·intro N19 hN19; refine .region (l := [_,_,_,_,_,_,_,_,_,_,_,_,_,_,_,_]) (.move (e_bool t5) rfl (hn := .not rfl (hn := ?_))); refine .move (e_bool (!t5)) rfl (hn := .byCases (t := 33) _ rfl (fun h20 => ?_) (fun h20 => ?_))
      ·have h := bT h20 h; refine .gN 33 h20 (.gN 33 h20 (.gN 33 h20 (.gU 36 (.gU 36 (.gU 36 (.gU 36 (.gN 33 h20 (.pickTM (e_bool true) rfl h20 rfl (hn := .move (e_bool true) rfl (hn := bk h fun x21 e21 h => ?_)))))))))); refine .gY 43 rfl (.vcall rfl rfl (c_laws_alive  _ e21) (.nil) (hn := ?_)); refine .pickTM (e_bool x21) rfl rfl rfl (hn := .assign (e_bool x21) rfl (hn := .nil (hN19 x21 _ ⟨rfl, trivial⟩ trivial h)))
      ·have h := bF h20 h; refine .gY 33 h20 (.loadVN ((e_impl_Value o4)).cells  g_impl_Value s_impl_Value rfl rfl rfl rfl (hn := ?_)); refine bk h fun x22 e22 h => ?_; refine .gY 33 h20 (.vcall rfl rfl (c_impl_ValueOk _ _ e22) (.same (.nil)) (hn := ?_)); refine .gY 33 h20 (.move (e_bool x22) rfl (hn := .byCases (t := 36) _ rfl (fun h23 => ?_) (fun h23 => ?_)))
       ·have h := bT h23 h; refine .gY 36 h23 (.loadVN ((e_impl_Value o4)).cells  g_impl_Value s_impl_Value rfl rfl rfl rfl (hn := ?_)); refine bk h fun x24 e24 h => ?_; refine .gY 36 h23 (.vcallG hG rfl rfl (c_impl_ValueText _ _ e24) (.same (.nil)) (hn := ?_)); refine .gY 36 h23 (.move (e_string t3) rfl (hn := .gY 36 h23 (.str _ rfl rfl rfl (hn := .gY 33 h20 (.pickTM (e_bool (sEq x24 t3)) rfl h23 rfl (hn := .pickFM (e_bool (sEq x24 t3)) rfl h20 rfl (hn := .move (e_bool (sEq x24 t3)) rfl (hn := .byCases (t := 43) _ rfl (fun h25 => ?_) (fun h25 => ?_)))))))))
        ·have h := bT h25 h; refine bk h fun x26 e26 h => ?_; refine .gY 43 h25 (.vcall rfl rfl (c_laws_alive  _ e26) (.nil) (hn := ?_)); refine .pickTM (e_bool x26) rfl h25 rfl (hn := .assign (e_bool x26) rfl (hn := .nil (hN19 x26 _ ⟨rfl, trivial⟩ trivial h)))
        ·have h := bF h25 h; refine .gN 43 h25 (.pickFM (e_bool false) rfl h25 rfl (hn := .assign (e_bool false) rfl (hn := .nil (hN19 false _ ⟨rfl, trivial⟩ trivial h))))
       ·have h := bF h23 h; refine .gN 36 h23 (.gN 36 h23 (.gN 36 h23 (.gN 36 h23 (.gY 33 h20 (.pickFM (e_bool false) rfl h23 rfl (hn := .pickFM (e_bool false) rfl h20 rfl (hn := .move (e_bool false) rfl (hn := .gN 43 rfl (.pickFM (e_bool false) rfl rfl rfl (hn := .assign (e_bool false) rfl (hn := .nil (hN19 false _ ⟨rfl, trivial⟩ trivial h))))))))))))
   ·intro N15 hN15; refine .region (l := [_,_,_,_,_,_,_,_]) (.move (e_bool x9.2) rfl (hn := .move (e_bool x12.2) rfl (hn := .boolNe u_bool rfl rfl (hn := ?_)))); refine .move (e_bool (x9.2 != x12.2)) rfl (hn := .byCases (t := 26) _ rfl (fun h16 => ?_) (fun h16 => ?_))
    ·have h := bT h16 h; refine .gN 26 h16 (.gN 26 h16 (.gN 26 h16 (.pickTM (e_bool true) rfl h16 rfl (hn := .nil (hN15 (x7, x9.2, true, y10) _ ⟨rfl, rfl, rfl, rfl, trivial⟩ ⟨rfl, trivial⟩ h)))))
    ·have h := bF h16 h; refine .gY 26 h16 (.loadVN ((e_impl_Value y10)).cells  g_impl_Value s_impl_Value rfl rfl rfl rfl (hn := ?_)); refine .gY 26 h16 (.loadVN ((e_impl_Value y13)).cells  g_impl_Value s_impl_Value rfl rfl rfl rfl (hn := ?_)); refine .gY 26 h16 (.ne_impl_Value _ _ rfl rfl (hn := ?_)); refine .pickFM (e_bool (!(decide (y10 = y13)))) rfl h16 rfl (hn := .nil (hN15 (x7, x9.2, (!(decide (y10 = y13))), y10) _ ⟨rfl, rfl, rfl, rfl, trivial⟩ ⟨rfl, trivial⟩ h))
end Go.Proofs.YtdkpmckpcejceaaDoor
