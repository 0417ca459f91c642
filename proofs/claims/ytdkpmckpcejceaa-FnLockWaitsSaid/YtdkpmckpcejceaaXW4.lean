/- Mirrors of functions, and that the functions return what the mirrors say. -/
import Derived.Test.YtdkpmckpcejceaaXW3
set_option linter.unusedVariables false
set_option linter.unusedSimpArgs false
set_option linter.unnecessarySimpa false
set_option maxHeartbeats 4000000
namespace Go.Proofs.Ytdkpmckpcejceaa
open Go.Proofs Go.Lift Go.RowKit
def m_laws_sameInts_j1  : Option Bool :=
  some true
def m_laws_sameInts_l1 : Nat → (List Int) → (List Int) → Int → Option Bool
  | 0, _, _, _ => none
  | n1 + 1, t0, t1, t5 =>
    bif decide (t5 < (t0.length : Int)) then ((at? t0 t5).bind fun x15 =>
    (at? t1 t5).bind fun x16 =>
    bif (x15 != x16) then (some false)
    else ((ckI (t5 + (1 : Int))).bind fun x19 =>
    (m_laws_sameInts_l1  n1) t0 t1 x19))
    else (m_laws_sameInts_j1  )
def m_laws_sameInts (a0 : (List Int)) (a1 : (List Int)) : Option Bool :=
  bif ((a0.length : Int) != (a1.length : Int)) then (some false)
  else (m_laws_sameInts_l1  (((a0.length : Int) - (0 : Int)).toNat + 1) a0 a1 (0 : Int))
theorem c_laws_sameInts (a0 : (List Int)) (a1 : (List Int)) (r : Bool) (h : m_laws_sameInts a0 a1 = some r) : Ret Try.prog f_laws_sameInts [e_Lint a0, e_Lint a1] (e_bool r) := by
  refine Does.goG [] F_laws_sameInts rfl e_laws_sameInts n_laws_sameInts rfl (rvs := [.tmp 4]) rfl rfl ?_; intro w0 ok0 lent ρ0; refine .seq_k fun N1 hN1 => ?_; refine .region (l := [_]) (.assign (e_bool false) rfl (hn := .nil (hN1 _ ?_))); refine .seq_k fun N2 hN2 => ?_; refine .seq_k fun N3 hN3 => ?_; refine .region (l := [_,_,_,_,_]) (.move (e_Lint a0) rfl (hn := .lenM (f := e_int) (l := a0) u_Lint rfl (hn := ?_))); refine .move (e_Lint a1) rfl (hn := .lenM (f := e_int) (l := a1) u_Lint rfl (hn := ?_)); refine .int _ rfl rfl rfl (hn := .nil (hN3 _ ?_)); refine .cond_split rfl (fun h4 => ?_) (fun h4 => ?_)
  ·have h := bT h4 h; refine .seq_k fun N5 hN5 => ?_; refine .region (l := [_]) (.assign (e_bool false) rfl (hn := .nil (hN5 _ ?_))); obtain rfl := so h; refine .ret .p
  ·have h := bF h4 h; refine .skip (hN2 _ ?_); refine .join (α := Unit) (fun z : Unit => []) (fun z : Unit => []) (fun z : Unit => m_laws_sameInts_j1  ) r (fun _ => by simp [hkeys]) ?_ ?_
   ·rintro _ h; replace h : m_laws_sameInts_j1   = some _ := h; refine .seq_k fun N20 hN20 => ?_; refine .region (l := [_]) (.assign (e_bool true) rfl (hn := .nil (hN20 _ ?_))); obtain rfl := so h; refine .ret .p
   ·intro N6 hN6; refine .seq_k fun N7 hN7 => ?_; refine .region (l := [_]) (.assign (e_int (0 : Int)) rfl (hn := .nil (hN7 _ ?_))); refine .block ?_; refine .loopM (α := (List Int) × (List Int) × Int) (fun z : (List Int) × (List Int) × Int => [(0, (e_Lint z.1)), (1, (e_Lint z.2.1)), (5, (e_int z.2.2))]) (fun z : (List Int) × (List Int) × Int => []) (fun n1 (z : (List Int) × (List Int) × Int) => m_laws_sameInts_l1  n1 z.1 z.2.1 z.2.2) r _ (a0, a1, (0 : Int)) h (fun _ => rfl) (fun _ => by simp [hkeys]) ⟨rfl, rfl, rfl, trivial⟩ trivial ?_; rintro n1 ⟨t0, t1, t5⟩ h N8 hN8; replace h : m_laws_sameInts_l1  (n1 + 1) t0 t1 t5 = some _ := h; refine .seq_k fun N10 hN10 => ?_; refine .seq_k fun N11 hN11 => ?_; refine .region (l := [_,_,_,_]) (.move (e_int t5) rfl (hn := .move (e_Lint t0) rfl (hn := .lenM (f := e_int) (l := t0) u_Lint rfl (hn := ?_)))); refine .int _ rfl rfl rfl (hn := .nil (hN11 _ ?_)); refine .cond_split rfl (fun h12 => ?_) (fun h12 => ?_)
    ·have h := bT h12 h; refine .skip (hN10 _ ?_); refine .seq_k fun N13 hN13 => ?_; refine .block ?_; refine .seq_k fun N14 hN14 => ?_; refine bk h fun x15 e15 h => ?_; refine bk h fun x16 e16 h => ?_; refine .drawF (l := [_,_,_,_,_,_,_,_,_]) [] [0, 1, 5] [([0], []), ([5], []), ([17, 18], []), ([19], []), ([1], []), ([5], []), ([21, 22], []), ([23], []), ([20, 24], [])] [0, 1, 5, 25] [] mixed (by kernel_rfl) rfl (by decide) ?_; refine dq 17 rfl (fun _ g u h => LWo.move (e_Lint t0) u.1 (hn := .nil (zn g))) ?_; refine dq 18 rfl (fun _ g u h => LWo.move (e_int t5) u.1 (hn := .nil (zn g))) ?_; refine dq 19 rfl (fun _ g u h => LWo.indexM (f := e_int) e15 u_Lint s_int u.1 u.2.1 (hn := .nil (zn g))) ?_; refine dq 20 rfl (fun _ g u h => LWo.load1 (c := (e_int x15)) g_int u.1 (hn := .nil (zn g))) ?_; refine dq 21 rfl (fun _ g u h => LWo.move (e_Lint t1) u.1 (hn := .nil (zn g))) ?_; refine dq 22 rfl (fun _ g u h => LWo.move (e_int t5) u.1 (hn := .nil (zn g))) ?_; refine dq 23 rfl (fun _ g u h => LWo.indexM (f := e_int) e16 u_Lint s_int u.1 u.2.1 (hn := .nil (zn g))) ?_; refine dq 24 rfl (fun _ g u h => LWo.load1 (c := (e_int x16)) g_int u.1 (hn := .nil (zn g))) ?_; refine dq 25 rfl (fun _ g u h => LWo.int _ u.1 u.2.1 rfl (hn := .nil (zn g))) ?_; refine ⟨rfl, by kernel_rfl, hN14 _ ?_⟩; refine .cond_split rfl (fun h17 => ?_) (fun h17 => ?_)
     ·have h := bT h17 h; refine .seq_k fun N18 hN18 => ?_; refine .region (l := [_]) (.assign (e_bool false) rfl (hn := .nil (hN18 _ ?_))); obtain rfl := so h; refine .ret .p
     ·have h := bF h17 h; refine .skip (hN13 _ ?_); refine .region (l := [_,_,_]) (.move (e_int t5) rfl (hn := bk h fun x19 e19 h => ?_)); refine .int _ rfl rfl (add_ck e19) (hn := .assign (e_int x19) rfl (hn := .nil (hN8 (t0, t1, x19) _ ⟨rfl, rfl, rfl, trivial⟩ trivial h)))
    ·have h := bF h12 h; refine .exit (hN6 () _ trivial trivial h)

def m_impl_letters_j1  : Option Bool :=
  some true
def m_impl_letters_l1 : Nat → (List UInt8) → Int → Int → Option Bool
  | 0, _, _, _ => none
  | n1 + 1, t6, t7, t8 =>
    bif decide (t8 < t7) then ((at? t6 t8).bind fun x12 =>
    (m_impl_between (x12.toNat : Int) (97 : Int) (122 : Int)).bind fun x14 =>
    bif (!x14) then (some false)
    else ((ckI (t8 + (1 : Int))).bind fun x17 =>
    (m_impl_letters_l1  n1) t6 t7 x17))
    else (m_impl_letters_j1  )
def m_impl_letters (a0 : ByteArray) : Option Bool :=
  (sBytes? a0).bind fun x4 =>
  m_impl_letters_l1  (((x4.length : Int) - (0 : Int)).toNat + 1) x4 (x4.length : Int) (0 : Int)
theorem c_impl_letters (a0 : ByteArray) (r : Bool) (h : m_impl_letters a0 = some r) : Ret Try.prog f_impl_letters [e_string a0] (e_bool r) := by
  refine Does.goG [] F_impl_letters rfl e_impl_letters n_impl_letters rfl (rvs := [.tmp 2]) rfl rfl ?_; intro w0 ok0 lent ρ0; refine .seq_k fun N1 hN1 => ?_; refine .region (l := [_]) (.assign (e_bool false) rfl (hn := .nil (hN1 _ ?_))); refine .join (α := Unit) (fun z : Unit => []) (fun z : Unit => []) (fun z : Unit => m_impl_letters_j1  ) r (fun _ => by simp [hkeys]) ?_ ?_
  ·rintro _ h; replace h : m_impl_letters_j1   = some _ := h; refine .seq_k fun N18 hN18 => ?_; refine .region (l := [_]) (.assign (e_bool true) rfl (hn := .nil (hN18 _ ?_))); obtain rfl := so h; refine .ret .p
  ·intro N2 hN2; refine .seq_k fun N3 hN3 => ?_; refine .region (l := [_,_,_,_]) (.move (e_string a0) rfl (hn := bk h fun x4 e4 h => ?_)); refine .bytesM e4 u_string u_Luint8 u_uint8 rfl (hn := ?_); refine .lenM (f := e_uint8) (l := x4) u_Luint8 rfl (hn := ?_); refine .move (e_int (0 : Int)) rfl (hn := .nil (hN3 _ ?_)); refine .block ?_; refine .loopM (α := (List UInt8) × Int × Int) (fun z : (List UInt8) × Int × Int => [(6, (e_Luint8 z.1)), (7, (e_int z.2.1)), (8, (e_int z.2.2))]) (fun z : (List UInt8) × Int × Int => []) (fun n1 (z : (List UInt8) × Int × Int) => m_impl_letters_l1  n1 z.1 z.2.1 z.2.2) r _ (x4, (x4.length : Int), (0 : Int)) h (fun _ => rfl) (fun _ => by simp [hkeys]) ⟨rfl, rfl, rfl, trivial⟩ trivial ?_; rintro n1 ⟨t6, t7, t8⟩ h N5 hN5; replace h : m_impl_letters_l1  (n1 + 1) t6 t7 t8 = some _ := h; refine .seq_k fun N7 hN7 => ?_; refine .region (l := [_]) (.int _ rfl rfl rfl (hn := .nil (hN7 _ ?_))); refine .seq_k fun N8 hN8 => ?_; refine .cond_split rfl (fun h9 => ?_) (fun h9 => ?_)
   ·have h := bT h9 h; refine .skip (hN8 _ ?_); refine .seq_k fun N10 hN10 => ?_; refine .block ?_; refine .seq_k fun N11 hN11 => ?_; refine .region (l := [_,_,_]) (bk h fun x12 e12 h => ?_); refine .indexM (f := e_uint8) e12 u_Luint8 s_uint8 rfl rfl (hn := ?_); refine .load1 (c := (e_uint8 x12)) g_uint8 rfl (hn := .assign (e_uint8 x12) rfl (hn := .nil (hN11 _ ?_))); refine .seq_k fun N13 hN13 => ?_; refine .region (l := [_,_,_,_]) (.move (e_uint8 x12) rfl (hn := .convByte _ u_uint8 u_int rfl (hn := ?_))); refine bk h fun x14 e14 h => ?_; refine .vcall rfl rfl (c_impl_between _ _ _ _ e14) (.same (.same (.same (.nil)))) (hn := ?_); refine .not rfl (hn := ?_); refine .nil (hN13 _ ?_); refine .cond_split rfl (fun h15 => ?_) (fun h15 => ?_)
    ·have h := bT h15 h; refine .seq_k fun N16 hN16 => ?_; refine .region (l := [_]) (.assign (e_bool false) rfl (hn := .nil (hN16 _ ?_))); obtain rfl := so h; refine .ret .p
    ·have h := bF h15 h; refine .skip (hN10 _ ?_); refine .region (l := [_,_]) (bk h fun x17 e17 h => ?_); refine .int _ rfl rfl (add_ck e17) (hn := .move (e_int x17) rfl (hn := .nil (hN5 (t6, t7, x17) _ ⟨rfl, rfl, rfl, trivial⟩ trivial h)))
   ·have h := bF h9 h; refine .exit (hN2 () _ trivial trivial h)

def m_impl_Value_ok_j1 (t2 : Bool) : Option Bool :=
  some t2
def m_impl_Value_ok_j2 (t2 : Bool) : Option Bool :=
  some t2
def m_impl_Value_ok_j3 (t2 : Bool) : Option Bool :=
  some t2
def m_impl_Value_ok (a0 : S_impl_Value) : Option Bool :=
  bif (a0.Kind == (0 : Int)) then (some (decide (a0 = (⟨(0 : Int), (0 : Int), (⟨#[]⟩ : ByteArray)⟩ : S_impl_Value))))
  else (bif (a0.Kind == (1 : Int)) then (bif (sEq a0.S (⟨#[]⟩ : ByteArray)) then ((m_impl_between a0.N (-9999 : Int) (9999 : Int)).bind fun x11 =>
        m_impl_Value_ok_j1  x11)
      else (m_impl_Value_ok_j1  false))
    else (bif (a0.Kind == (2 : Int)) then (bif (a0.N == (0 : Int)) then (bif decide ((a0.S.size : Int) ≤ (6 : Int)) then ((m_impl_letters a0.S).bind fun x17 =>
            m_impl_Value_ok_j2  x17)
          else (m_impl_Value_ok_j2  false))
        else (m_impl_Value_ok_j2  false))
      else (bif (a0.Kind == (3 : Int)) then (bif (sEq a0.S (⟨#[]⟩ : ByteArray)) then ((m_impl_between a0.N (0 : Int) (1 : Int)).bind fun x22 =>
            m_impl_Value_ok_j3  x22)
          else (m_impl_Value_ok_j3  false))
        else (some false))))
theorem c_impl_Value_ok (a0 : S_impl_Value) (r : Bool) (h : m_impl_Value_ok a0 = some r) : Ret Try.prog f_impl_Value_ok [e_impl_Value a0] (e_bool r) := by
  refine Does.goG [] F_impl_Value_ok rfl e_impl_Value_ok n_impl_Value_ok rfl (rvs := [.tmp 2]) rfl rfl ?_; intro w0 ok0 lent ρ0; refine .seq_k fun N1 hN1 => ?_; refine .region (l := [_,_]) (.boxF (e_impl_Value a0) rfl rfl rfl (hn := .assign (e_bool false) rfl (hn := .nil (hN1 _ ?_)))); refine .seq_k fun N2 hN2 => ?_; refine .seq_k fun N3 hN3 => ?_; refine .region (l := [_,_]) (.fieldAddr _ u_impl_Value rfl s_int rfl rfl (hn := .load1 (c := (e_int a0.Kind)) g_int rfl (hn := .nil (hN3 _ ?_)))); refine .block ?_; refine .seq_k fun N4 hN4 => ?_; refine .region (l := [_,_]) (.int _ rfl rfl rfl (hn := .assign (e_bool (a0.Kind == (0 : Int))) rfl (hn := .nil (hN4 _ ?_)))); refine .cond_split rfl (fun h5 => ?_) (fun h5 => ?_)
  ·have h := bT h5 h; refine .seq_k fun N6 hN6 => ?_; refine .region (l := [_,_,_,_]) (.loadN ((e_impl_Value a0)).cells g_impl_Value s_impl_Value rfl (Nat.le_of_ble_eq_true rfl) rfl (hn := ?_)); refine .build_impl_Value (parts := []) (⟨(0 : Int), (0 : Int), (⟨#[]⟩ : ByteArray)⟩ : S_impl_Value) rfl rfl rfl .refl (hn := ?_); refine .eq_impl_Value _ _ rfl rfl (hn := ?_); refine .assign (e_bool (decide (a0 = (⟨(0 : Int), (0 : Int), (⟨#[]⟩ : ByteArray)⟩ : S_impl_Value)))) rfl (hn := .nil (hN6 _ ?_)); obtain rfl := so h; refine .ret .p
  ·have h := bF h5 h; refine .seq_k fun N7 hN7 => ?_; refine .region (l := [_,_]) (.int _ rfl rfl rfl (hn := .assign (e_bool (a0.Kind == (1 : Int))) rfl (hn := .nil (hN7 _ ?_)))); refine .cond_split rfl (fun h8 => ?_) (fun h8 => ?_)
   ·have h := bT h8 h; refine .join (α := Bool) (fun z : Bool => [(2, (e_bool z))]) (fun z : Bool => []) (fun z : Bool => m_impl_Value_ok_j1  z) r (fun _ => by simp [hkeys]) ?_ ?_
    ·rintro t2 h; replace h : m_impl_Value_ok_j1  t2 = some _ := h; obtain rfl := so h; refine .ret .p
    ·intro N9 hN9; refine .region (l := [_,_,_,_,_,_,_,_,_]) (.fieldAddr _ u_impl_Value rfl s_string rfl rfl (hn := .load1 (c := (e_string a0.S)) g_string rfl (hn := .str _ rfl rfl rfl (hn := .move (e_bool (sEq a0.S (⟨#[]⟩ : ByteArray))) rfl (hn := .byCases (t := 15) _ rfl (fun h10 => ?_) (fun h10 => ?_))))))
     ·have h := bT h10 h; refine .gY 15 h10 (.fieldAddr _ u_impl_Value rfl s_int rfl rfl (hn := .gY 15 h10 (.load1 (c := (e_int a0.N)) g_int rfl (hn := bk h fun x11 e11 h => ?_)))); refine .gY 15 h10 (.vcall rfl rfl (c_impl_between _ _ _ _ e11) (.same (.same (.same (.nil)))) (hn := ?_)); refine .pickTM (e_bool x11) rfl h10 rfl (hn := .assign (e_bool x11) rfl (hn := .nil (hN9 x11 _ ⟨rfl, trivial⟩ trivial h)))
     ·have h := bF h10 h; refine .gN 15 h10 (.gN 15 h10 (.gN 15 h10 (.pickFM (e_bool false) rfl h10 rfl (hn := .assign (e_bool false) rfl (hn := .nil (hN9 false _ ⟨rfl, trivial⟩ trivial h))))))
   ·have h := bF h8 h; refine .seq_k fun N12 hN12 => ?_; refine .region (l := [_,_]) (.int _ rfl rfl rfl (hn := .assign (e_bool (a0.Kind == (2 : Int))) rfl (hn := .nil (hN12 _ ?_)))); refine .cond_split rfl (fun h13 => ?_) (fun h13 => ?_)
    ·have h := bT h13 h; refine .join (α := Bool) (fun z : Bool => [(2, (e_bool z))]) (fun z : Bool => []) (fun z : Bool => m_impl_Value_ok_j2  z) r (fun _ => by simp [hkeys]) ?_ ?_
     ·rintro t2 h; replace h : m_impl_Value_ok_j2  t2 = some _ := h; obtain rfl := so h; refine .ret .p
     ·intro N14 hN14; refine .region (l := [_,_,_,_,_,_,_,_,_,_,_,_,_,_,_]) (.fieldAddr _ u_impl_Value rfl s_int rfl rfl (hn := .load1 (c := (e_int a0.N)) g_int rfl (hn := .int _ rfl rfl rfl (hn := .move (e_bool (a0.N == (0 : Int))) rfl (hn := .byCases (t := 25) _ rfl (fun h15 => ?_) (fun h15 => ?_))))))
      ·have h := bT h15 h; refine .gY 25 h15 (.fieldAddr _ u_impl_Value rfl s_string rfl rfl (hn := .gY 25 h15 (.load1 (c := (e_string a0.S)) g_string rfl (hn := .gY 25 h15 (.lenS u_string rfl (hn := ?_)))))); refine .gY 25 h15 (.int _ rfl rfl rfl (hn := .pickTM (e_bool (decide ((a0.S.size : Int) ≤ (6 : Int)))) rfl h15 rfl (hn := .move (e_bool (decide ((a0.S.size : Int) ≤ (6 : Int)))) rfl (hn := .byCases (t := 31) _ rfl (fun h16 => ?_) (fun h16 => ?_)))))
       ·have h := bT h16 h; refine .gY 31 h16 (.fieldAddr _ u_impl_Value rfl s_string rfl rfl (hn := .gY 31 h16 (.load1 (c := (e_string a0.S)) g_string rfl (hn := bk h fun x17 e17 h => ?_)))); refine .gY 31 h16 (.vcall rfl rfl (c_impl_letters _ _ e17) (.same (.nil)) (hn := ?_)); refine .pickTM (e_bool x17) rfl h16 rfl (hn := .assign (e_bool x17) rfl (hn := .nil (hN14 x17 _ ⟨rfl, trivial⟩ trivial h)))
       ·have h := bF h16 h; refine .gN 31 h16 (.gN 31 h16 (.gN 31 h16 (.pickFM (e_bool false) rfl h16 rfl (hn := .assign (e_bool false) rfl (hn := .nil (hN14 false _ ⟨rfl, trivial⟩ trivial h))))))
      ·have h := bF h15 h; refine .gN 25 h15 (.gN 25 h15 (.gN 25 h15 (.gN 25 h15 (.pickFM (e_bool false) rfl h15 rfl (hn := .move (e_bool false) rfl (hn := .gN 31 rfl (.gN 31 rfl (.gN 31 rfl (.pickFM (e_bool false) rfl rfl rfl (hn := .assign (e_bool false) rfl (hn := .nil (hN14 false _ ⟨rfl, trivial⟩ trivial h))))))))))))
    ·have h := bF h13 h; refine .seq_k fun N18 hN18 => ?_; refine .region (l := [_,_]) (.int _ rfl rfl rfl (hn := .assign (e_bool (a0.Kind == (3 : Int))) rfl (hn := .nil (hN18 _ ?_)))); refine .cond_split rfl (fun h19 => ?_) (fun h19 => ?_)
     ·have h := bT h19 h; refine .join (α := Bool) (fun z : Bool => [(2, (e_bool z))]) (fun z : Bool => []) (fun z : Bool => m_impl_Value_ok_j3  z) r (fun _ => by simp [hkeys]) ?_ ?_
      ·rintro t2 h; replace h : m_impl_Value_ok_j3  t2 = some _ := h; obtain rfl := so h; refine .ret .p
      ·intro N20 hN20; refine .region (l := [_,_,_,_,_,_,_,_,_]) (.fieldAddr _ u_impl_Value rfl s_string rfl rfl (hn := .load1 (c := (e_string a0.S)) g_string rfl (hn := .str _ rfl rfl rfl (hn := .move (e_bool (sEq a0.S (⟨#[]⟩ : ByteArray))) rfl (hn := .byCases (t := 41) _ rfl (fun h21 => ?_) (fun h21 => ?_))))))
       ·have h := bT h21 h; refine .gY 41 h21 (.fieldAddr _ u_impl_Value rfl s_int rfl rfl (hn := .gY 41 h21 (.load1 (c := (e_int a0.N)) g_int rfl (hn := bk h fun x22 e22 h => ?_)))); refine .gY 41 h21 (.vcall rfl rfl (c_impl_between _ _ _ _ e22) (.same (.same (.same (.nil)))) (hn := ?_)); refine .pickTM (e_bool x22) rfl h21 rfl (hn := .assign (e_bool x22) rfl (hn := .nil (hN20 x22 _ ⟨rfl, trivial⟩ trivial h)))
       ·have h := bF h21 h; refine .gN 41 h21 (.gN 41 h21 (.gN 41 h21 (.pickFM (e_bool false) rfl h21 rfl (hn := .assign (e_bool false) rfl (hn := .nil (hN20 false _ ⟨rfl, trivial⟩ trivial h))))))
     ·have h := bF h19 h; refine .skip (hN2 _ ?_); refine .seq_k fun N23 hN23 => ?_; refine .region (l := [_]) (.assign (e_bool false) rfl (hn := .nil (hN23 _ ?_))); obtain rfl := so h; refine .ret .p

def m_impl_ValueOk (a0 : S_impl_Value) : Option Bool :=
  (m_impl_Value_ok a0).bind fun x3 =>
  some x3
theorem c_impl_ValueOk (a0 : S_impl_Value) (r : Bool) (h : m_impl_ValueOk a0 = some r) : Ret Try.prog f_impl_ValueOk [e_impl_Value a0] (e_bool r) := by
  refine Does.goG [] F_impl_ValueOk rfl e_impl_ValueOk n_impl_ValueOk rfl (rvs := [.tmp 2]) rfl rfl ?_; intro w0 ok0 lent ρ0; refine .seq_k fun N1 hN1 => ?_; refine .region (l := [_,_]) (.boxF (e_impl_Value a0) rfl rfl rfl (hn := .assign (e_bool false) rfl (hn := .nil (hN1 _ ?_)))); refine .seq_k fun N2 hN2 => ?_; refine .region (l := [_,_,_]) (.loadN ((e_impl_Value a0)).cells g_impl_Value s_impl_Value rfl (Nat.le_of_ble_eq_true rfl) rfl (hn := ?_)); refine bk h fun x3 e3 h => ?_; refine .vcall rfl rfl (c_impl_Value_ok _ _ e3) (.same (.nil)) (hn := ?_); refine .assign (e_bool x3) rfl (hn := .nil (hN2 _ ?_)); obtain rfl := so h; refine .ret .p

def m_laws_alive_j1 (t0 : Bool) : Option Bool :=
  some t0
def m_laws_alive  : Option Bool :=
  (m_impl_ValueOk (⟨(1 : Int), (3 : Int), (⟨#[]⟩ : ByteArray)⟩ : S_impl_Value)).bind fun x3 =>
  bif x3 then ((m_impl_ValueOk (⟨(9 : Int), (0 : Int), (⟨#[]⟩ : ByteArray)⟩ : S_impl_Value)).bind fun x5 =>
    m_laws_alive_j1  (!x5))
  else (m_laws_alive_j1  false)
theorem c_laws_alive  (r : Bool) (h : m_laws_alive  = some r) : Ret Try.prog f_laws_alive [] (e_bool r) := by
  refine Does.goG [] F_laws_alive rfl e_laws_alive n_laws_alive rfl (rvs := [.tmp 0]) rfl rfl ?_; intro w0 ok0 lent ρ0; refine .seq_k fun N1 hN1 => ?_; refine .region (l := [_]) (.assign (e_bool false) rfl (hn := .nil (hN1 _ ?_))); refine .join (α := Bool) (fun z : Bool => [(0, (e_bool z))]) (fun z : Bool => []) (fun z : Bool => m_laws_alive_j1  z) r (fun _ => by simp [hkeys]) ?_ ?_
  ·rintro t0 h; replace h : m_laws_alive_j1  t0 = some _ := h; obtain rfl := so h; refine .ret .p
  ·intro N2 hN2; refine .region (l := [_,_,_,_,_,_,_,_]) (.build_impl_Value (parts := [_, _]) (⟨(1 : Int), (3 : Int), (⟨#[]⟩ : ByteArray)⟩ : S_impl_Value) rfl rfl rfl .refl (hn := ?_)); refine bk h fun x3 e3 h => ?_; refine .vcall rfl rfl (c_impl_ValueOk _ _ e3) (.same (.nil)) (hn := ?_); refine .move (e_bool x3) rfl (hn := .byCases (t := 3) _ rfl (fun h4 => ?_) (fun h4 => ?_))
   ·have h := bT h4 h; refine .gY 3 h4 (.build_impl_Value (parts := [_]) (⟨(9 : Int), (0 : Int), (⟨#[]⟩ : ByteArray)⟩ : S_impl_Value) rfl rfl rfl .refl (hn := ?_)); refine bk h fun x5 e5 h => ?_; refine .gY 3 h4 (.vcall rfl rfl (c_impl_ValueOk _ _ e5) (.same (.nil)) (hn := ?_)); refine .gY 3 h4 (.not rfl (hn := ?_)); refine .pickTM (e_bool (!x5)) rfl h4 rfl (hn := .assign (e_bool (!x5)) rfl (hn := .nil (hN2 (!x5) _ ⟨rfl, trivial⟩ trivial h)))
   ·have h := bF h4 h; refine .gN 3 h4 (.gN 3 h4 (.gN 3 h4 (.pickFM (e_bool false) rfl h4 rfl (hn := .assign (e_bool false) rfl (hn := .nil (hN2 false _ ⟨rfl, trivial⟩ trivial h))))))

def m_laws_hasInt_j1  : Option Bool :=
  some false
def m_laws_hasInt_l1 : Nat → (List Int) → Int → Int → Option Bool
  | 0, _, _, _ => none
  | n1 + 1, t0, t1, t5 =>
    bif decide (t5 < (t0.length : Int)) then ((at? t0 t5).bind fun x11 =>
    bif (x11 == t1) then (some true)
    else ((ckI (t5 + (1 : Int))).bind fun x14 =>
    (m_laws_hasInt_l1  n1) t0 t1 x14))
    else (m_laws_hasInt_j1  )
def m_laws_hasInt (a0 : (List Int)) (a1 : Int) : Option Bool :=
  m_laws_hasInt_l1  (((a0.length : Int) - (0 : Int)).toNat + 1) a0 a1 (0 : Int)
theorem c_laws_hasInt (a0 : (List Int)) (a1 : Int) (r : Bool) (h : m_laws_hasInt a0 a1 = some r) : Ret Try.prog f_laws_hasInt [e_Lint a0, e_int a1] (e_bool r) := by
  refine Does.goG [] F_laws_hasInt rfl e_laws_hasInt n_laws_hasInt rfl (rvs := [.tmp 4]) rfl rfl ?_; intro w0 ok0 lent ρ0; refine .seq_k fun N1 hN1 => ?_; refine .region (l := [_]) (.assign (e_bool false) rfl (hn := .nil (hN1 _ ?_))); refine .join (α := Unit) (fun z : Unit => []) (fun z : Unit => []) (fun z : Unit => m_laws_hasInt_j1  ) r (fun _ => by simp [hkeys]) ?_ ?_
  ·rintro _ h; replace h : m_laws_hasInt_j1   = some _ := h; refine .seq_k fun N15 hN15 => ?_; refine .region (l := [_]) (.assign (e_bool false) rfl (hn := .nil (hN15 _ ?_))); obtain rfl := so h; refine .ret .p
  ·intro N2 hN2; refine .seq_k fun N3 hN3 => ?_; refine .region (l := [_]) (.assign (e_int (0 : Int)) rfl (hn := .nil (hN3 _ ?_))); refine .block ?_; refine .loopM (α := (List Int) × Int × Int) (fun z : (List Int) × Int × Int => [(0, (e_Lint z.1)), (1, (e_int z.2.1)), (5, (e_int z.2.2))]) (fun z : (List Int) × Int × Int => []) (fun n1 (z : (List Int) × Int × Int) => m_laws_hasInt_l1  n1 z.1 z.2.1 z.2.2) r _ (a0, a1, (0 : Int)) h (fun _ => rfl) (fun _ => by simp [hkeys]) ⟨rfl, rfl, rfl, trivial⟩ trivial ?_; rintro n1 ⟨t0, t1, t5⟩ h N4 hN4; replace h : m_laws_hasInt_l1  (n1 + 1) t0 t1 t5 = some _ := h; refine .seq_k fun N6 hN6 => ?_; refine .seq_k fun N7 hN7 => ?_; refine .region (l := [_,_,_,_]) (.move (e_int t5) rfl (hn := .move (e_Lint t0) rfl (hn := .lenM (f := e_int) (l := t0) u_Lint rfl (hn := ?_)))); refine .int _ rfl rfl rfl (hn := .nil (hN7 _ ?_)); refine .cond_split rfl (fun h8 => ?_) (fun h8 => ?_)
   ·have h := bT h8 h; refine .skip (hN6 _ ?_); refine .seq_k fun N9 hN9 => ?_; refine .block ?_; refine .seq_k fun N10 hN10 => ?_; refine .region (l := [_,_,_,_,_,_]) (.move (e_Lint t0) rfl (hn := .move (e_int t5) rfl (hn := bk h fun x11 e11 h => ?_))); refine .indexM (f := e_int) e11 u_Lint s_int rfl rfl (hn := ?_); refine .load1 (c := (e_int x11)) g_int rfl (hn := .move (e_int t1) rfl (hn := .int _ rfl rfl rfl (hn := .nil (hN10 _ ?_)))); refine .cond_split rfl (fun h12 => ?_) (fun h12 => ?_)
    ·have h := bT h12 h; refine .seq_k fun N13 hN13 => ?_; refine .region (l := [_]) (.assign (e_bool true) rfl (hn := .nil (hN13 _ ?_))); obtain rfl := so h; refine .ret .p
    ·have h := bF h12 h; refine .skip (hN9 _ ?_); refine .region (l := [_,_,_]) (.move (e_int t5) rfl (hn := bk h fun x14 e14 h => ?_)); refine .int _ rfl rfl (add_ck e14) (hn := .assign (e_int x14) rfl (hn := .nil (hN4 (t0, t1, x14) _ ⟨rfl, rfl, rfl, trivial⟩ trivial h)))
   ·have h := bF h8 h; refine .exit (hN2 () _ trivial trivial h)

def m_laws_FnLockWaits_j4 (t2 : Bool) : Option Bool :=
  some t2
def m_laws_FnLockWaits_j3 (t4 : Int) (t5 : (List Int)) (t6 : Bool) : Option Bool :=
  bif (t6 == (decide ((t5.length : Int) > (0 : Int)))) then ((m_laws_hasInt t5 t4).bind fun x38 =>
    bif (!x38) then ((m_laws_alive ).bind fun x40 =>
      m_laws_FnLockWaits_j4  x40)
    else (m_laws_FnLockWaits_j4  false))
  else (m_laws_FnLockWaits_j4  false)
def m_laws_FnLockWaits_j2 (k1 : Int → (List Int) → Bool → Int → S_impl_Locks → Option Bool) (t4 : Int) (t5 : (List Int)) (t6 : Bool) (t7 : Int) (o3 : S_impl_Locks) : Option Bool :=
  (ckI (t7 + (1 : Int))).bind fun x35 =>
  k1 t4 t5 t6 x35 o3
def m_laws_FnLockWaits_l1 : Nat → Int → (List Int) → Bool → Int → S_impl_Locks → Option Bool
  | 0, _, _, _, _, _ => none
  | n1 + 1, t4, t5, t6, t7, o3 =>
    bif decide (t7 < (o3.Queue.length : Int)) then (bif t6 then (m_laws_FnLockWaits_j2  (m_laws_FnLockWaits_l1  n1) t4 t5 true t7 o3)
    else ((at? o3.Queue t7).bind fun x34 =>
      m_laws_FnLockWaits_j2  (m_laws_FnLockWaits_l1  n1) t4 t5 (x34.Who == t4) t7 o3))
    else (m_laws_FnLockWaits_j3  t4 t5 t6)
def m_laws_FnLockWaits_j1 (t2 : Bool) : Option Bool :=
  some t2
def m_laws_FnLockWaits (a0 : (List UInt8)) : Option Bool :=
  bif decide ((a0.length : Int) > (1048576 : Int)) then (some true)
  else ((m_spec_DrawLockWaits a0).bind fun x7 =>
  lt (x7.1) fun y8 =>
  (m_impl_LockWaits y8 x7.2).bind fun x10 =>
  (m_spec_LockWaits y8 x7.2).bind fun x13 =>
  (m_laws_sameInts x10 x13).bind fun x14 =>
  bif (!x14) then (some false)
  else ((m_impl_LocksOk y8).bind fun x19 =>
  bif (!x19) then (bif ((x10.length : Int) == (0 : Int)) then ((m_laws_alive ).bind fun x23 =>
      m_laws_FnLockWaits_j1  x23)
    else (m_laws_FnLockWaits_j1  false))
  else (m_laws_FnLockWaits_l1  (((y8.Queue.length : Int) - (0 : Int)).toNat + 1) x7.2 x10 false (0 : Int) y8)))
theorem c_laws_FnLockWaits (a0 : (List UInt8)) (r : Bool) (h : m_laws_FnLockWaits a0 = some r) : Ret Try.prog f_laws_FnLockWaits [e_Luint8 a0] (e_bool r) := by
  refine Does.goG [] F_laws_FnLockWaits rfl e_laws_FnLockWaits n_laws_FnLockWaits rfl (rvs := [.tmp 2]) rfl rfl ?_; intro w0 ok0 lent ρ0; refine .seq_k fun N1 hN1 => ?_; refine .region (l := [_]) (.assign (e_bool false) rfl (hn := .nil (hN1 _ ?_))); refine .seq_k fun N2 hN2 => ?_; refine .seq_k fun N3 hN3 => ?_; refine .region (l := [_,_,_]) (.move (e_Luint8 a0) rfl (hn := .lenM (f := e_uint8) (l := a0) u_Luint8 rfl (hn := ?_))); refine .int _ rfl rfl rfl (hn := .nil (hN3 _ ?_)); refine .cond_split rfl (fun h4 => ?_) (fun h4 => ?_)
  ·have h := bT h4 h; refine .seq_k fun N5 hN5 => ?_; refine .region (l := [_]) (.assign (e_bool true) rfl (hn := .nil (hN5 _ ?_))); obtain rfl := so h; refine .ret .p
  ·have h := bF h4 h; refine .skip (hN2 _ ?_); refine .seq_k fun N6 hN6 => ?_; refine .region (l := [_,_,_,_,_,_,_,_]) (.move (e_Luint8 a0) rfl (hn := bk h fun x7 e7 h => ?_)); refine .vcall rfl rfl (c_spec_DrawLockWaits _ _ e7) (.same (.nil)) (hn := ?_); refine .move (.tup [(e_impl_Locks x7.1), (e_int x7.2)]) rfl (hn := .extract (e_impl_Locks x7.1) rfl rfl (hn := ?_)); refine .extract (e_int x7.2) rfl rfl (hn := ?_); refine .alloc_impl_Locks 3 rfl (hn := ?_); refine lk h fun y8 e8 h => ?_; refine .storeW (y := (⟨[], []⟩ : S_impl_Locks)) y8 s_impl_Locks rfl rfl rfl rfl rfl rfl (by rw [e8]; exact .refl) rfl (hn := ?_); refine .assign (e_int x7.2) rfl (hn := .nil (hN6 _ ?_)); refine .seq_k fun N9 hN9 => ?_; refine .region (l := [_,_,_,_]) (.loadVN ((e_impl_Locks y8)).cells  g_impl_Locks s_impl_Locks rfl rfl rfl rfl (hn := ?_)); refine .move (e_int x7.2) rfl (hn := bk h fun x10 e10 h => ?_); refine .vcall rfl rfl (c_impl_LockWaits _ _ _ e10) (.same (.same (.nil))) (hn := ?_); refine .assign (e_Lint x10) rfl (hn := .nil (hN9 _ ?_)); refine .seq_k fun N11 hN11 => ?_; refine .seq_k fun N12 hN12 => ?_; refine .region (l := [_,_,_,_,_,_]) (.move (e_Lint x10) rfl (hn := .loadVN ((e_impl_Locks y8)).cells  g_impl_Locks s_impl_Locks rfl rfl rfl rfl (hn := ?_))); refine .move (e_int x7.2) rfl (hn := bk h fun x13 e13 h => ?_); refine .vcall rfl rfl (c_spec_LockWaits _ _ _ e13) (.same (.same (.nil))) (hn := ?_); refine bk h fun x14 e14 h => ?_; refine .vcall rfl rfl (c_laws_sameInts _ _ _ e14) (.same (.same (.nil))) (hn := ?_); refine .not rfl (hn := ?_); refine .nil (hN12 _ ?_); refine .cond_split rfl (fun h15 => ?_) (fun h15 => ?_)
   ·have h := bT h15 h; refine .seq_k fun N16 hN16 => ?_; refine .region (l := [_]) (.assign (e_bool false) rfl (hn := .nil (hN16 _ ?_))); obtain rfl := so h; refine .ret .p
   ·have h := bF h15 h; refine .skip (hN11 _ ?_); refine .seq_k fun N17 hN17 => ?_; refine .seq_k fun N18 hN18 => ?_; refine .region (l := [_,_,_]) (.loadVN ((e_impl_Locks y8)).cells  g_impl_Locks s_impl_Locks rfl rfl rfl rfl (hn := ?_)); refine bk h fun x19 e19 h => ?_; refine .vcall rfl rfl (c_impl_LocksOk _ _ e19) (.same (.nil)) (hn := ?_); refine .not rfl (hn := ?_); refine .nil (hN18 _ ?_); refine .cond_split rfl (fun h20 => ?_) (fun h20 => ?_)
    ·have h := bT h20 h; refine .join (α := Bool) (fun z : Bool => [(2, (e_bool z))]) (fun z : Bool => []) (fun z : Bool => m_laws_FnLockWaits_j1  z) r (fun _ => by simp [hkeys]) ?_ ?_
     ·rintro t2 h; replace h : m_laws_FnLockWaits_j1  t2 = some _ := h; obtain rfl := so h; refine .ret .p
     ·intro N21 hN21; refine .region (l := [_,_,_,_,_,_,_]) (.move (e_Lint x10) rfl (hn := .lenM (f := e_int) (l := x10) u_Lint rfl (hn := ?_))); refine .int _ rfl rfl rfl (hn := .move (e_bool ((x10.length : Int) == (0 : Int))) rfl (hn := .byCases (t := 31) _ rfl (fun h22 => ?_) (fun h22 => ?_)))
      ·have h := bT h22 h; refine bk h fun x23 e23 h => ?_; refine .gY 31 h22 (.vcall rfl rfl (c_laws_alive  _ e23) (.nil) (hn := ?_)); refine .pickTM (e_bool x23) rfl h22 rfl (hn := .assign (e_bool x23) rfl (hn := .nil (hN21 x23 _ ⟨rfl, trivial⟩ trivial h)))
      ·have h := bF h22 h; refine .gN 31 h22 (.pickFM (e_bool false) rfl h22 rfl (hn := .assign (e_bool false) rfl (hn := .nil (hN21 false _ ⟨rfl, trivial⟩ trivial h))))
    ·have h := bF h20 h; refine .skip (hN17 _ ?_); refine .seq_k fun N24 hN24 => ?_; refine .region (l := [_]) (.assign (e_bool false) rfl (hn := .nil (hN24 _ ?_))); refine .join (α := Int × (List Int) × Bool) (fun z : Int × (List Int) × Bool => [(4, (e_int z.1)), (5, (e_Lint z.2.1)), (6, (e_bool z.2.2))]) (fun z : Int × (List Int) × Bool => []) (fun z : Int × (List Int) × Bool => m_laws_FnLockWaits_j3  z.1 z.2.1 z.2.2) r (fun _ => by simp [hkeys]) ?_ ?_
     ·rintro ⟨t4, t5, t6⟩ h; replace h : m_laws_FnLockWaits_j3  t4 t5 t6 = some _ := h; refine .join (α := Bool) (fun z : Bool => [(2, (e_bool z))]) (fun z : Bool => []) (fun z : Bool => m_laws_FnLockWaits_j4  z) r (fun _ => by simp [hkeys]) ?_ ?_
      ·rintro t2 h; replace h : m_laws_FnLockWaits_j4  t2 = some _ := h; obtain rfl := so h; refine .ret .p
      ·intro N36 hN36; refine .region (l := [_,_,_,_,_,_,_,_,_,_,_,_,_,_,_]) (.move (e_bool t6) rfl (hn := .move (e_Lint t5) rfl (hn := .lenM (f := e_int) (l := t5) u_Lint rfl (hn := ?_)))); refine .int _ rfl rfl rfl (hn := .boolEq u_bool rfl rfl (hn := ?_)); refine .move (e_bool (t6 == (decide ((t5.length : Int) > (0 : Int))))) rfl (hn := .byCases (t := 57) _ rfl (fun h37 => ?_) (fun h37 => ?_))
       ·have h := bT h37 h; refine .gY 57 h37 (.move (e_Lint t5) rfl (hn := .gY 57 h37 (.move (e_int t4) rfl (hn := bk h fun x38 e38 h => ?_)))); refine .gY 57 h37 (.vcall rfl rfl (c_laws_hasInt _ _ _ e38) (.same (.same (.nil))) (hn := ?_)); refine .gY 57 h37 (.not rfl (hn := ?_)); refine .pickTM (e_bool (!x38)) rfl h37 rfl (hn := .move (e_bool (!x38)) rfl (hn := .byCases (t := 63) _ rfl (fun h39 => ?_) (fun h39 => ?_)))
        ·have h := bT h39 h; refine bk h fun x40 e40 h => ?_; refine .gY 63 h39 (.vcall rfl rfl (c_laws_alive  _ e40) (.nil) (hn := ?_)); refine .pickTM (e_bool x40) rfl h39 rfl (hn := .assign (e_bool x40) rfl (hn := .nil (hN36 x40 _ ⟨rfl, trivial⟩ trivial h)))
        ·have h := bF h39 h; refine .gN 63 h39 (.pickFM (e_bool false) rfl h39 rfl (hn := .assign (e_bool false) rfl (hn := .nil (hN36 false _ ⟨rfl, trivial⟩ trivial h))))
       ·have h := bF h37 h; refine .gN 57 h37 (.gN 57 h37 (.gN 57 h37 (.gN 57 h37 (.pickFM (e_bool false) rfl h37 rfl (hn := .move (e_bool false) rfl (hn := .gN 63 rfl (.pickFM (e_bool false) rfl rfl rfl (hn := .assign (e_bool false) rfl (hn := .nil (hN36 false _ ⟨rfl, trivial⟩ trivial h))))))))))
     ·intro N25 hN25; refine .seq_k fun N26 hN26 => ?_; refine .region (l := [_]) (.assign (e_int (0 : Int)) rfl (hn := .nil (hN26 _ ?_))); refine .block ?_; refine .loopM (α := Int × (List Int) × Bool × Int × S_impl_Locks) (fun z : Int × (List Int) × Bool × Int × S_impl_Locks => [(3, (.ptr 3 0 0)), (4, (e_int z.1)), (5, (e_Lint z.2.1)), (6, (e_bool z.2.2.1)), (7, (e_int z.2.2.2.1))]) (fun z : Int × (List Int) × Bool × Int × S_impl_Locks => [(3, (vob 2 e_impl_Locks z.2.2.2.2))]) (fun n1 (z : Int × (List Int) × Bool × Int × S_impl_Locks) => m_laws_FnLockWaits_l1  n1 z.1 z.2.1 z.2.2.1 z.2.2.2.1 z.2.2.2.2) r _ (x7.2, x10, false, (0 : Int), y8) h (fun _ => rfl) (fun _ => by simp [hkeys]) ⟨rfl, rfl, rfl, rfl, rfl, trivial⟩ ⟨rfl, trivial⟩ ?_; rintro n1 ⟨t4, t5, t6, t7, o3⟩ h N27 hN27; replace h : m_laws_FnLockWaits_l1  (n1 + 1) t4 t5 t6 t7 o3 = some _ := h; refine .seq_k fun N29 hN29 => ?_; refine .seq_k fun N30 hN30 => ?_; refine .region (l := [_,_,_,_,_]) (.move (e_int t7) rfl (hn := .fieldPtr u_impl_Locks rfl s_Limpl_Ask rfl rfl (hn := ?_))); refine .loadV1 (e_Limpl_Ask o3.Queue)  g_Limpl_Ask rfl rfl rfl (hn := ?_); refine .lenM (f := e_impl_Ask) (l := o3.Queue) u_Limpl_Ask rfl (hn := ?_); refine .int _ rfl rfl rfl (hn := .nil (hN30 _ ?_)); refine .cond_split rfl (fun h31 => ?_) (fun h31 => ?_)
      ·have h := bT h31 h; refine .skip (hN29 _ ?_); refine .join (α := Int × (List Int) × Bool × Int × S_impl_Locks) (fun z : Int × (List Int) × Bool × Int × S_impl_Locks => [(3, (.ptr 3 0 0)), (4, (e_int z.1)), (5, (e_Lint z.2.1)), (6, (e_bool z.2.2.1)), (7, (e_int z.2.2.2.1))]) (fun z : Int × (List Int) × Bool × Int × S_impl_Locks => [(3, (vob 2 e_impl_Locks z.2.2.2.2))]) (fun z : Int × (List Int) × Bool × Int × S_impl_Locks => m_laws_FnLockWaits_j2  (m_laws_FnLockWaits_l1  n1) z.1 z.2.1 z.2.2.1 z.2.2.2.1 z.2.2.2.2) r (fun _ => by simp [hkeys]) ?_ ?_
       ·rintro ⟨t4, t5, t6, t7, o3⟩ h; replace h : m_laws_FnLockWaits_j2  (m_laws_FnLockWaits_l1  n1) t4 t5 t6 t7 o3 = some _ := h; refine .region (l := [_,_,_]) (.move (e_int t7) rfl (hn := bk h fun x35 e35 h => ?_)); refine .int _ rfl rfl (add_ck e35) (hn := .assign (e_int x35) rfl (hn := .nil (hN27 (t4, t5, t6, x35, o3) _ ⟨rfl, rfl, rfl, rfl, rfl, trivial⟩ ⟨rfl, trivial⟩ h)))
       ·intro N32 hN32; refine .block ?_; refine .region (l := [_,_,_,_,_,_,_,_,_,_,_,_]) (.move (e_bool t6) rfl (hn := .move (e_bool t6) rfl (hn := .byCases (t := 42) _ rfl (fun h33 => ?_) (fun h33 => ?_))))
        ·have h := bT h33 h; refine .gN 42 h33 (.gN 42 h33 (.gN 42 h33 (.gN 42 h33 (.gN 42 h33 (.gN 42 h33 (.gN 42 h33 (.gN 42 h33 (.pickTM (e_bool true) rfl h33 rfl (hn := .assign (e_bool true) rfl (hn := .nil (hN32 (t4, t5, true, t7, o3) _ ⟨rfl, rfl, rfl, rfl, rfl, trivial⟩ ⟨rfl, trivial⟩ h)))))))))))
        ·have h := bF h33 h; refine .gY 42 h33 (.fieldPtr u_impl_Locks rfl s_Limpl_Ask rfl rfl (hn := ?_)); refine .gY 42 h33 (.loadV1 (e_Limpl_Ask o3.Queue)  g_Limpl_Ask rfl rfl rfl (hn := ?_)); refine .gY 42 h33 (.move (e_int t7) rfl (hn := bk h fun x34 e34 h => ?_)); refine .gY 42 h33 (.indexM (f := e_impl_Ask) e34 u_Limpl_Ask s_impl_Ask rfl rfl (hn := ?_)); refine .gY 42 h33 (.fieldAddr _ u_impl_Ask rfl s_int rfl rfl (hn := .gY 42 h33 (.load1 (c := (e_int x34.Who)) g_int rfl (hn := .gY 42 h33 (.move (e_int t4) rfl (hn := .gY 42 h33 (.int _ rfl rfl rfl (hn := .pickFM (e_bool (x34.Who == t4)) rfl h33 rfl (hn := .assign (e_bool (x34.Who == t4)) rfl (hn := .nil (hN32 (t4, t5, (x34.Who == t4), t7, o3) _ ⟨rfl, rfl, rfl, rfl, rfl, trivial⟩ ⟨rfl, trivial⟩ h)))))))))))
      ·have h := bF h31 h; refine .exit (hN25 (t4, t5, t6) _ ⟨rfl, rfl, rfl, trivial⟩ trivial h)
end Go.Proofs.Ytdkpmckpcejceaa
