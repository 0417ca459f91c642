/- Mirrors of functions, and that the functions return what the mirrors say. -/
import Derived.Test.YtkgmomocjkmipaaXW2
set_option linter.unusedVariables false
set_option linter.unusedSimpArgs false
set_option linter.unnecessarySimpa false
namespace Go.Proofs.Ytkgmomocjkmipaa
open Go.Proofs Go.Lift Go.RowKit
def m_impl_between_j1 (t6 : Bool) : Option Bool :=
  some t6
def m_impl_between (a0 : Int) (a1 : Int) (a2 : Int) : Option Bool :=
  bif decide (a0 ≥ a1) then (m_impl_between_j1  (decide (a0 ≤ a2)))
  else (m_impl_between_j1  false)
theorem c_impl_between (a0 : Int) (a1 : Int) (a2 : Int) (r : Bool) (h : m_impl_between a0 a1 a2 = some r) : Ret Try.prog f_impl_between [e_int a0, e_int a1, e_int a2] (e_bool r) := by
  refine Does.goG [] F_impl_between rfl e_impl_between n_impl_between rfl (rvs := [.tmp 6]) rfl rfl ?_
  intro w0 ok0 lent ρ0
  refine LWP.seq_k fun N1 hN1 => ?_
  refine LWP.region (l := [_]) ?_
  refine LWo.assign (e_bool false) rfl (hn := ?_)
  refine LWo.nil (hN1 _ ?_)
  refine LWP.join (α := Bool) (fun z : Bool => [(6, (e_bool z))]) (fun z : Bool => []) (fun z : Bool => m_impl_between_j1  z) r (fun _ => by simp [hkeys]) ?_ ?_
  ·rintro t6 h
   replace h : m_impl_between_j1  t6 = some _ := h
   obtain rfl := Option.some.inj h
   refine LWP.ret (QG.mk (.inr rfl) (.cons (.tmp (x := (e_bool t6)) rfl) (.nil)) (RetOK.one0 (.pure rfl) (by decide)) rfl rfl)
  ·intro N2 hN2
   refine LWP.region (l := [_,_,_,_,_,_,_,_,_]) ?_
   refine LWo.move (e_int a0) rfl (hn := ?_)
   refine LWo.move (e_int a1) rfl (hn := ?_)
   refine LWo.int _ rfl rfl rfl (hn := ?_)
   refine LWo.move (e_bool (decide (a0 ≥ a1))) rfl (hn := ?_)
   refine LWo.byCases (t := 10) _ rfl (fun h3 => ?_) (fun h3 => ?_)
   ·have h := bT h3 h
    refine LWo.guardY (t := 10) rfl h3 rfl rfl ?_
    refine LWo.move (e_int a0) rfl (hn := ?_)
    refine LWo.guardY (t := 10) rfl h3 rfl rfl ?_
    refine LWo.move (e_int a2) rfl (hn := ?_)
    refine LWo.guardY (t := 10) rfl h3 rfl rfl ?_
    refine LWo.int _ rfl rfl rfl (hn := ?_)
    refine LWo.pickTM (e_bool (decide (a0 ≤ a2))) rfl h3 rfl (hn := ?_)
    refine LWo.assign (e_bool (decide (a0 ≤ a2))) rfl (hn := ?_)
    refine LWo.nil (hN2 (decide (a0 ≤ a2)) _ ⟨rfl, trivial⟩ trivial h)
   ·have h := bF h3 h
    refine LWo.guardNU (t := 10) rfl h3 rfl rfl rfl rfl rfl ?_
    refine LWo.guardNU (t := 10) rfl h3 rfl rfl rfl rfl rfl ?_
    refine LWo.guardNU (t := 10) rfl h3 rfl rfl rfl rfl rfl ?_
    refine LWo.pickFM (e_bool false) rfl h3 rfl (hn := ?_)
    refine LWo.assign (e_bool false) rfl (hn := ?_)
    refine LWo.nil (hN2 false _ ⟨rfl, trivial⟩ trivial h)

def m_impl_keyOk (a0 : Int) : Option Bool :=
  (m_impl_between a0 (0 : Int) (4 : Int)).bind fun x3 =>
  some x3
theorem c_impl_keyOk (a0 : Int) (r : Bool) (h : m_impl_keyOk a0 = some r) : Ret Try.prog f_impl_keyOk [e_int a0] (e_bool r) := by
  refine Does.goG [] F_impl_keyOk rfl e_impl_keyOk n_impl_keyOk rfl (rvs := [.tmp 2]) rfl rfl ?_
  intro w0 ok0 lent ρ0
  refine LWP.seq_k fun N1 hN1 => ?_
  refine LWP.region (l := [_]) ?_
  refine LWo.assign (e_bool false) rfl (hn := ?_)
  refine LWo.nil (hN1 _ ?_)
  refine LWP.seq_k fun N2 hN2 => ?_
  refine LWP.region (l := [_,_,_]) ?_
  refine LWo.move (e_int a0) rfl (hn := ?_)
  refine bk h fun x3 e3 h => ?_
  refine LWo.vcall rfl rfl (c_impl_between _ _ _ _ e3) (.same (.same (.same (.nil)))) (hn := ?_)
  refine LWo.assign (e_bool x3) rfl (hn := ?_)
  refine LWo.nil (hN2 _ ?_)
  obtain rfl := Option.some.inj h
  refine LWP.ret (QG.mk (.inr rfl) (.cons (.tmp (x := (e_bool x3)) rfl) (.nil)) (RetOK.one0 (.pure rfl) (by decide)) rfl rfl)

def m_slices_IndexFunc_Limpl_Value_impl_Value_j1 (p1 : S_impl_Value → Option Bool)  : Option Int :=
  some (-1 : Int)
def m_slices_IndexFunc_Limpl_Value_impl_Value_l1 (p1 : S_impl_Value → Option Bool) : Nat → (List S_impl_Value) → Int → Int → Option Int
  | 0, _, _, _ => none
  | n1 + 1, t0, t7, t8 =>
    bif decide (t8 < t7) then ((at? t0 t8).bind fun x12 =>
    (p1 x12).bind fun x13 =>
    bif x13 then (some t8)
    else ((ckI (t8 + (1 : Int))).bind fun x16 =>
    (m_slices_IndexFunc_Limpl_Value_impl_Value_l1 p1 n1) t0 t7 x16))
    else (m_slices_IndexFunc_Limpl_Value_impl_Value_j1 p1 )
def m_slices_IndexFunc_Limpl_Value_impl_Value (a0 : (List S_impl_Value)) (p1 : S_impl_Value → Option Bool) : Option Int :=
  m_slices_IndexFunc_Limpl_Value_impl_Value_l1 p1 (((a0.length : Int) - (0 : Int)).toNat + 1) a0 (a0.length : Int) (0 : Int)
theorem c_slices_IndexFunc_Limpl_Value_impl_Value (a0 : (List S_impl_Value)) (p1 : S_impl_Value → Option Bool) (f1 : FuncId) (q1 : List LV) (hq1 : ∀ k, LV.at?.atL k q1 = false) (hf1 : ∀ a0 v, p1 a0 = some v → Ret Try.prog f1 (e_impl_Value a0 :: q1) (e_bool v)) (r : Int) (h : m_slices_IndexFunc_Limpl_Value_impl_Value a0 p1 = some r) : Ret Try.prog f_slices_IndexFunc_Limpl_Value_impl_Value [e_Limpl_Value a0, .clo f1 q1] (e_int r) := by
  refine Does.goG [] F_slices_IndexFunc_Limpl_Value_impl_Value rfl e_slices_IndexFunc_Limpl_Value_impl_Value n_slices_IndexFunc_Limpl_Value_impl_Value rfl (rvs := [.tmp 4]) rfl rfl ?_
  intro w0 ok0 lent ρ0
  refine LWP.seq_k fun N1 hN1 => ?_
  refine LWP.region (l := [_]) ?_
  refine LWo.assign (e_int (0 : Int)) rfl (hn := ?_)
  refine LWo.nil (hN1 _ ?_)
  refine LWP.join (α := Unit) (fun z : Unit => []) (fun z : Unit => []) (fun z : Unit => m_slices_IndexFunc_Limpl_Value_impl_Value_j1 p1 ) r (fun _ => by simp [hkeys]) ?_ ?_
  ·rintro _ h
   replace h : m_slices_IndexFunc_Limpl_Value_impl_Value_j1 p1  = some _ := h
   refine LWP.seq_k fun N17 hN17 => ?_
   refine LWP.region (l := [_]) ?_
   refine LWo.assign (e_int (-1 : Int)) rfl (hn := ?_)
   refine LWo.nil (hN17 _ ?_)
   obtain rfl := Option.some.inj h
   refine LWP.ret (QG.mk (.inr rfl) (.cons (.tmp (x := (e_int (-1 : Int))) rfl) (.nil)) (RetOK.one0 (.pure rfl) (by decide)) rfl rfl)
  ·intro N2 hN2
   refine LWP.seq_k fun N3 hN3 => ?_
   refine LWP.region (l := [_,_,_]) ?_
   refine LWo.move (e_Limpl_Value a0) rfl (hn := ?_)
   refine LWo.lenM (f := e_impl_Value) (l := a0) u_Limpl_Value rfl (hn := ?_)
   refine LWo.move (e_int (0 : Int)) rfl (hn := ?_)
   refine LWo.nil (hN3 _ ?_)
   refine LWP.block ?_
   refine LWP.loopM (α := (List S_impl_Value) × Int × Int) (fun z : (List S_impl_Value) × Int × Int => [(0, (e_Limpl_Value z.1)), (1, (.clo f1 q1)), (7, (e_int z.2.1)), (8, (e_int z.2.2))]) (fun z : (List S_impl_Value) × Int × Int => []) (fun n1 (z : (List S_impl_Value) × Int × Int) => m_slices_IndexFunc_Limpl_Value_impl_Value_l1 p1 n1 z.1 z.2.1 z.2.2) r _ (a0, (a0.length : Int), (0 : Int)) h (fun _ => rfl) (fun _ => by simp [hkeys]) ⟨rfl, rfl, rfl, rfl, trivial⟩ trivial ?_
   rintro n1 ⟨t0, t7, t8⟩ h N4 hN4
   replace h : m_slices_IndexFunc_Limpl_Value_impl_Value_l1 p1 (n1 + 1) t0 t7 t8 = some _ := h
   refine LWP.seq_k fun N6 hN6 => ?_
   refine LWP.region (l := [_]) ?_
   refine LWo.int _ rfl rfl rfl (hn := ?_)
   refine LWo.nil (hN6 _ ?_)
   refine LWP.seq_k fun N7 hN7 => ?_
   refine LWP.cond_split rfl (fun h8 => ?_) (fun h8 => ?_)
   ·have h := bT h8 h
    refine LWP.skip (hN7 _ ?_)
    refine LWP.seq_k fun N9 hN9 => ?_
    refine LWP.block ?_
    refine LWP.seq_k fun N10 hN10 => ?_
    refine LWP.region (l := [_,_]) ?_
    refine LWo.move (e_int t8) rfl (hn := ?_)
    refine LWo.assign (e_int t8) rfl (hn := ?_)
    refine LWo.nil (hN10 _ ?_)
    refine LWP.seq_k fun N11 hN11 => ?_
    refine LWP.region (l := [_,_,_,_,_,_]) ?_
    refine LWo.move (.clo f1 q1) rfl (hn := ?_)
    refine LWo.move (e_Limpl_Value t0) rfl (hn := ?_)
    refine LWo.move (e_int t8) rfl (hn := ?_)
    refine bk h fun x12 e12 h => ?_
    refine LWo.indexM (f := e_impl_Value) e12 u_Limpl_Value s_impl_Value rfl rfl (hn := ?_)
    refine LWo.loadN ((e_impl_Value x12)).cells g_impl_Value s_impl_Value rfl (Nat.le_of_ble_eq_true rfl) rfl (hn := ?_)
    refine bk h fun x13 e13 h => ?_
    refine LWo.vcall rfl rfl (hf1 _ _ e13) .refl (hn := ?_)
    refine LWo.nil (hN11 _ ?_)
    refine LWP.cond_split rfl (fun h14 => ?_) (fun h14 => ?_)
    ·have h := bT h14 h
     refine LWP.seq_k fun N15 hN15 => ?_
     refine LWP.region (l := [_,_]) ?_
     refine LWo.move (e_int t8) rfl (hn := ?_)
     refine LWo.assign (e_int t8) rfl (hn := ?_)
     refine LWo.nil (hN15 _ ?_)
     obtain rfl := Option.some.inj h
     refine LWP.ret (QG.mk (.inr rfl) (.cons (.tmp (x := (e_int t8)) rfl) (.nil)) (RetOK.one0 (.pure rfl) (by decide)) rfl rfl)
    ·have h := bF h14 h
     refine LWP.skip (hN9 _ ?_)
     refine LWP.region (l := [_,_]) ?_
     refine bk h fun x16 e16 h => ?_
     refine LWo.int _ rfl rfl (add_ck e16) (hn := ?_)
     refine LWo.move (e_int x16) rfl (hn := ?_)
     refine LWo.nil (hN4 (t0, t7, x16) _ ⟨rfl, rfl, rfl, rfl, trivial⟩ trivial h)
   ·have h := bF h8 h
    refine LWP.exit (hN2 () _ trivial trivial h)

def m_slices_ContainsFunc_Limpl_Value_impl_Value (a0 : (List S_impl_Value)) (p1 : S_impl_Value → Option Bool) : Option Bool :=
  (m_slices_IndexFunc_Limpl_Value_impl_Value a0 p1).bind fun x3 =>
  some (decide (x3 ≥ (0 : Int)))
theorem c_slices_ContainsFunc_Limpl_Value_impl_Value (a0 : (List S_impl_Value)) (p1 : S_impl_Value → Option Bool) (f1 : FuncId) (q1 : List LV) (hq1 : ∀ k, LV.at?.atL k q1 = false) (hf1 : ∀ a0 v, p1 a0 = some v → Ret Try.prog f1 (e_impl_Value a0 :: q1) (e_bool v)) (r : Bool) (h : m_slices_ContainsFunc_Limpl_Value_impl_Value a0 p1 = some r) : Ret Try.prog f_slices_ContainsFunc_Limpl_Value_impl_Value [e_Limpl_Value a0, .clo f1 q1] (e_bool r) := by
  refine Does.goG [] F_slices_ContainsFunc_Limpl_Value_impl_Value rfl e_slices_ContainsFunc_Limpl_Value_impl_Value n_slices_ContainsFunc_Limpl_Value_impl_Value rfl (rvs := [.tmp 4]) rfl rfl ?_
  intro w0 ok0 lent ρ0
  refine LWP.seq_k fun N1 hN1 => ?_
  refine LWP.region (l := [_]) ?_
  refine LWo.assign (e_bool false) rfl (hn := ?_)
  refine LWo.nil (hN1 _ ?_)
  refine LWP.seq_k fun N2 hN2 => ?_
  refine LWP.region (l := [_,_,_,_,_]) ?_
  refine LWo.move (e_Limpl_Value a0) rfl (hn := ?_)
  refine LWo.move (.clo f1 q1) rfl (hn := ?_)
  refine bk h fun x3 e3 h => ?_
  refine LWo.vcall rfl rfl (c_slices_IndexFunc_Limpl_Value_impl_Value _ _ f1 q1 hq1 hf1 _ e3) (.same (.same (.nil))) (hn := ?_)
  refine LWo.int _ rfl rfl rfl (hn := ?_)
  refine LWo.assign (e_bool (decide (x3 ≥ (0 : Int)))) rfl (hn := ?_)
  refine LWo.nil (hN2 _ ?_)
  obtain rfl := Option.some.inj h
  refine LWP.ret (QG.mk (.inr rfl) (.cons (.tmp (x := (e_bool (decide (x3 ≥ (0 : Int))))) rfl) (.nil)) (RetOK.one0 (.pure rfl) (by decide)) rfl rfl)

def m_impl_letters_j1  : Option Bool :=
  some true
def m_impl_letters_l1 : Nat → (List UInt8) → Int → Int → Option Bool
  | 0, _, _, _ => none
  | n1 + 1, t6, t7, t8 =>
    bif decide (t8 < t7) then ((at? t6 t8).bind fun x12 =>
    (m_impl_between (x12.toNat : Int) (97 : Int) (122 : Int)).bind fun x14 =>
    bif (!x14) then (some false)
    else ((ckI (t8 + (1 : Int))).bind fun x17 =>
    (m_impl_letters_l1  n1) t6 t7 x17))
    else (m_impl_letters_j1  )
def m_impl_letters (a0 : ByteArray) : Option Bool :=
  (sBytes? a0).bind fun x4 =>
  m_impl_letters_l1  (((x4.length : Int) - (0 : Int)).toNat + 1) x4 (x4.length : Int) (0 : Int)
theorem c_impl_letters (a0 : ByteArray) (r : Bool) (h : m_impl_letters a0 = some r) : Ret Try.prog f_impl_letters [e_string a0] (e_bool r) := by
  refine Does.goG [] F_impl_letters rfl e_impl_letters n_impl_letters rfl (rvs := [.tmp 2]) rfl rfl ?_
  intro w0 ok0 lent ρ0
  refine LWP.seq_k fun N1 hN1 => ?_
  refine LWP.region (l := [_]) ?_
  refine LWo.assign (e_bool false) rfl (hn := ?_)
  refine LWo.nil (hN1 _ ?_)
  refine LWP.join (α := Unit) (fun z : Unit => []) (fun z : Unit => []) (fun z : Unit => m_impl_letters_j1  ) r (fun _ => by simp [hkeys]) ?_ ?_
  ·rintro _ h
   replace h : m_impl_letters_j1   = some _ := h
   refine LWP.seq_k fun N18 hN18 => ?_
   refine LWP.region (l := [_]) ?_
   refine LWo.assign (e_bool true) rfl (hn := ?_)
   refine LWo.nil (hN18 _ ?_)
   obtain rfl := Option.some.inj h
   refine LWP.ret (QG.mk (.inr rfl) (.cons (.tmp (x := (e_bool true)) rfl) (.nil)) (RetOK.one0 (.pure rfl) (by decide)) rfl rfl)
  ·intro N2 hN2
   refine LWP.seq_k fun N3 hN3 => ?_
   refine LWP.region (l := [_,_,_,_]) ?_
   refine LWo.move (e_string a0) rfl (hn := ?_)
   refine bk h fun x4 e4 h => ?_
   refine LWo.bytesM e4 u_string u_Luint8 u_uint8 rfl (hn := ?_)
   refine LWo.lenM (f := e_uint8) (l := x4) u_Luint8 rfl (hn := ?_)
   refine LWo.move (e_int (0 : Int)) rfl (hn := ?_)
   refine LWo.nil (hN3 _ ?_)
   refine LWP.block ?_
   refine LWP.loopM (α := (List UInt8) × Int × Int) (fun z : (List UInt8) × Int × Int => [(6, (e_Luint8 z.1)), (7, (e_int z.2.1)), (8, (e_int z.2.2))]) (fun z : (List UInt8) × Int × Int => []) (fun n1 (z : (List UInt8) × Int × Int) => m_impl_letters_l1  n1 z.1 z.2.1 z.2.2) r _ (x4, (x4.length : Int), (0 : Int)) h (fun _ => rfl) (fun _ => by simp [hkeys]) ⟨rfl, rfl, rfl, trivial⟩ trivial ?_
   rintro n1 ⟨t6, t7, t8⟩ h N5 hN5
   replace h : m_impl_letters_l1  (n1 + 1) t6 t7 t8 = some _ := h
   refine LWP.seq_k fun N7 hN7 => ?_
   refine LWP.region (l := [_]) ?_
   refine LWo.int _ rfl rfl rfl (hn := ?_)
   refine LWo.nil (hN7 _ ?_)
   refine LWP.seq_k fun N8 hN8 => ?_
   refine LWP.cond_split rfl (fun h9 => ?_) (fun h9 => ?_)
   ·have h := bT h9 h
    refine LWP.skip (hN8 _ ?_)
    refine LWP.seq_k fun N10 hN10 => ?_
    refine LWP.block ?_
    refine LWP.seq_k fun N11 hN11 => ?_
    refine LWP.region (l := [_,_,_]) ?_
    refine bk h fun x12 e12 h => ?_
    refine LWo.indexM (f := e_uint8) e12 u_Luint8 s_uint8 rfl rfl (hn := ?_)
    refine LWo.load1 (c := (e_uint8 x12)) g_uint8 rfl (hn := ?_)
    refine LWo.assign (e_uint8 x12) rfl (hn := ?_)
    refine LWo.nil (hN11 _ ?_)
    refine LWP.seq_k fun N13 hN13 => ?_
    refine LWP.region (l := [_,_,_,_]) ?_
    refine LWo.move (e_uint8 x12) rfl (hn := ?_)
    refine LWo.convByte _ u_uint8 u_int rfl (hn := ?_)
    refine bk h fun x14 e14 h => ?_
    refine LWo.vcall rfl rfl (c_impl_between _ _ _ _ e14) (.same (.same (.same (.nil)))) (hn := ?_)
    refine LWo.not rfl (hn := ?_)
    refine LWo.nil (hN13 _ ?_)
    refine LWP.cond_split rfl (fun h15 => ?_) (fun h15 => ?_)
    ·have h := bT h15 h
     refine LWP.seq_k fun N16 hN16 => ?_
     refine LWP.region (l := [_]) ?_
     refine LWo.assign (e_bool false) rfl (hn := ?_)
     refine LWo.nil (hN16 _ ?_)
     obtain rfl := Option.some.inj h
     refine LWP.ret (QG.mk (.inr rfl) (.cons (.tmp (x := (e_bool false)) rfl) (.nil)) (RetOK.one0 (.pure rfl) (by decide)) rfl rfl)
    ·have h := bF h15 h
     refine LWP.skip (hN10 _ ?_)
     refine LWP.region (l := [_,_]) ?_
     refine bk h fun x17 e17 h => ?_
     refine LWo.int _ rfl rfl (add_ck e17) (hn := ?_)
     refine LWo.move (e_int x17) rfl (hn := ?_)
     refine LWo.nil (hN5 (t6, t7, x17) _ ⟨rfl, rfl, rfl, trivial⟩ trivial h)
   ·have h := bF h9 h
    refine LWP.exit (hN2 () _ trivial trivial h)

def m_impl_Value_ok_j1 (t2 : Bool) : Option Bool :=
  some t2
def m_impl_Value_ok_j2 (t2 : Bool) : Option Bool :=
  some t2
def m_impl_Value_ok_j3 (t2 : Bool) : Option Bool :=
  some t2
def m_impl_Value_ok (a0 : S_impl_Value) : Option Bool :=
  bif (a0.Kind == (0 : Int)) then (some (decide (a0 = (⟨(0 : Int), (0 : Int), (⟨#[]⟩ : ByteArray)⟩ : S_impl_Value))))
  else (bif (a0.Kind == (1 : Int)) then (bif (sEq a0.S (⟨#[]⟩ : ByteArray)) then ((m_impl_between a0.N (-9999 : Int) (9999 : Int)).bind fun x11 =>
        m_impl_Value_ok_j1  x11)
      else (m_impl_Value_ok_j1  false))
    else (bif (a0.Kind == (2 : Int)) then (bif (a0.N == (0 : Int)) then (bif decide ((a0.S.size : Int) ≤ (6 : Int)) then ((m_impl_letters a0.S).bind fun x17 =>
            m_impl_Value_ok_j2  x17)
          else (m_impl_Value_ok_j2  false))
        else (m_impl_Value_ok_j2  false))
      else (bif (a0.Kind == (3 : Int)) then (bif (sEq a0.S (⟨#[]⟩ : ByteArray)) then ((m_impl_between a0.N (0 : Int) (1 : Int)).bind fun x22 =>
            m_impl_Value_ok_j3  x22)
          else (m_impl_Value_ok_j3  false))
        else (some false))))
theorem c_impl_Value_ok (a0 : S_impl_Value) (r : Bool) (h : m_impl_Value_ok a0 = some r) : Ret Try.prog f_impl_Value_ok [e_impl_Value a0] (e_bool r) := by
  refine Does.goG [] F_impl_Value_ok rfl e_impl_Value_ok n_impl_Value_ok rfl (rvs := [.tmp 2]) rfl rfl ?_
  intro w0 ok0 lent ρ0
  refine LWP.seq_k fun N1 hN1 => ?_
  refine LWP.region (l := [_,_]) ?_
  refine LWo.boxF (e_impl_Value a0) rfl rfl rfl (hn := ?_)
  refine LWo.assign (e_bool false) rfl (hn := ?_)
  refine LWo.nil (hN1 _ ?_)
  refine LWP.seq_k fun N2 hN2 => ?_
  refine LWP.seq_k fun N3 hN3 => ?_
  refine LWP.region (l := [_,_]) ?_
  refine LWo.fieldAddr _ u_impl_Value rfl s_int rfl rfl (hn := ?_)
  refine LWo.load1 (c := (e_int a0.Kind)) g_int rfl (hn := ?_)
  refine LWo.nil (hN3 _ ?_)
  refine LWP.block ?_
  refine LWP.seq_k fun N4 hN4 => ?_
  refine LWP.region (l := [_,_]) ?_
  refine LWo.int _ rfl rfl rfl (hn := ?_)
  refine LWo.assign (e_bool (a0.Kind == (0 : Int))) rfl (hn := ?_)
  refine LWo.nil (hN4 _ ?_)
  refine LWP.cond_split rfl (fun h5 => ?_) (fun h5 => ?_)
  ·have h := bT h5 h
   refine LWP.seq_k fun N6 hN6 => ?_
   refine LWP.region (l := [_,_,_,_]) ?_
   refine LWo.loadN ((e_impl_Value a0)).cells g_impl_Value s_impl_Value rfl (Nat.le_of_ble_eq_true rfl) rfl (hn := ?_)
   refine LWo.build_impl_Value (parts := []) (⟨(0 : Int), (0 : Int), (⟨#[]⟩ : ByteArray)⟩ : S_impl_Value) rfl rfl rfl .refl (hn := ?_)
   refine LWo.eq_impl_Value _ _ rfl rfl (hn := ?_)
   refine LWo.assign (e_bool (decide (a0 = (⟨(0 : Int), (0 : Int), (⟨#[]⟩ : ByteArray)⟩ : S_impl_Value)))) rfl (hn := ?_)
   refine LWo.nil (hN6 _ ?_)
   obtain rfl := Option.some.inj h
   refine LWP.ret (QG.mk (.inr rfl) (.cons (.tmp (x := (e_bool (decide (a0 = (⟨(0 : Int), (0 : Int), (⟨#[]⟩ : ByteArray)⟩ : S_impl_Value))))) rfl) (.nil)) (RetOK.one0 (.pure rfl) (by decide)) rfl rfl)
  ·have h := bF h5 h
   refine LWP.seq_k fun N7 hN7 => ?_
   refine LWP.region (l := [_,_]) ?_
   refine LWo.int _ rfl rfl rfl (hn := ?_)
   refine LWo.assign (e_bool (a0.Kind == (1 : Int))) rfl (hn := ?_)
   refine LWo.nil (hN7 _ ?_)
   refine LWP.cond_split rfl (fun h8 => ?_) (fun h8 => ?_)
   ·have h := bT h8 h
    refine LWP.join (α := Bool) (fun z : Bool => [(2, (e_bool z))]) (fun z : Bool => []) (fun z : Bool => m_impl_Value_ok_j1  z) r (fun _ => by simp [hkeys]) ?_ ?_
    ·rintro t2 h
     replace h : m_impl_Value_ok_j1  t2 = some _ := h
     obtain rfl := Option.some.inj h
     refine LWP.ret (QG.mk (.inr rfl) (.cons (.tmp (x := (e_bool t2)) rfl) (.nil)) (RetOK.one0 (.pure rfl) (by decide)) rfl rfl)
    ·intro N9 hN9
     refine LWP.region (l := [_,_,_,_,_,_,_,_,_]) ?_
     refine LWo.fieldAddr _ u_impl_Value rfl s_string rfl rfl (hn := ?_)
     refine LWo.load1 (c := (e_string a0.S)) g_string rfl (hn := ?_)
     refine LWo.str _ rfl rfl rfl (hn := ?_)
     refine LWo.move (e_bool (sEq a0.S (⟨#[]⟩ : ByteArray))) rfl (hn := ?_)
     refine LWo.byCases (t := 15) _ rfl (fun h10 => ?_) (fun h10 => ?_)
     ·have h := bT h10 h
      refine LWo.guardY (t := 15) rfl h10 rfl rfl ?_
      refine LWo.fieldAddr _ u_impl_Value rfl s_int rfl rfl (hn := ?_)
      refine LWo.guardY (t := 15) rfl h10 rfl rfl ?_
      refine LWo.load1 (c := (e_int a0.N)) g_int rfl (hn := ?_)
      refine bk h fun x11 e11 h => ?_
      refine LWo.guardY (t := 15) rfl h10 rfl rfl ?_
      refine LWo.vcall rfl rfl (c_impl_between _ _ _ _ e11) (.same (.same (.same (.nil)))) (hn := ?_)
      refine LWo.pickTM (e_bool x11) rfl h10 rfl (hn := ?_)
      refine LWo.assign (e_bool x11) rfl (hn := ?_)
      refine LWo.nil (hN9 x11 _ ⟨rfl, trivial⟩ trivial h)
     ·have h := bF h10 h
      refine LWo.guardNU (t := 15) rfl h10 rfl rfl rfl rfl rfl ?_
      refine LWo.guardNU (t := 15) rfl h10 rfl rfl rfl rfl rfl ?_
      refine LWo.guardNU (t := 15) rfl h10 rfl rfl rfl rfl rfl ?_
      refine LWo.pickFM (e_bool false) rfl h10 rfl (hn := ?_)
      refine LWo.assign (e_bool false) rfl (hn := ?_)
      refine LWo.nil (hN9 false _ ⟨rfl, trivial⟩ trivial h)
   ·have h := bF h8 h
    refine LWP.seq_k fun N12 hN12 => ?_
    refine LWP.region (l := [_,_]) ?_
    refine LWo.int _ rfl rfl rfl (hn := ?_)
    refine LWo.assign (e_bool (a0.Kind == (2 : Int))) rfl (hn := ?_)
    refine LWo.nil (hN12 _ ?_)
    refine LWP.cond_split rfl (fun h13 => ?_) (fun h13 => ?_)
    ·have h := bT h13 h
     refine LWP.join (α := Bool) (fun z : Bool => [(2, (e_bool z))]) (fun z : Bool => []) (fun z : Bool => m_impl_Value_ok_j2  z) r (fun _ => by simp [hkeys]) ?_ ?_
     ·rintro t2 h
      replace h : m_impl_Value_ok_j2  t2 = some _ := h
      obtain rfl := Option.some.inj h
      refine LWP.ret (QG.mk (.inr rfl) (.cons (.tmp (x := (e_bool t2)) rfl) (.nil)) (RetOK.one0 (.pure rfl) (by decide)) rfl rfl)
     ·intro N14 hN14
      refine LWP.region (l := [_,_,_,_,_,_,_,_,_,_,_,_,_,_,_]) ?_
      refine LWo.fieldAddr _ u_impl_Value rfl s_int rfl rfl (hn := ?_)
      refine LWo.load1 (c := (e_int a0.N)) g_int rfl (hn := ?_)
      refine LWo.int _ rfl rfl rfl (hn := ?_)
      refine LWo.move (e_bool (a0.N == (0 : Int))) rfl (hn := ?_)
      refine LWo.byCases (t := 25) _ rfl (fun h15 => ?_) (fun h15 => ?_)
      ·have h := bT h15 h
       refine LWo.guardY (t := 25) rfl h15 rfl rfl ?_
       refine LWo.fieldAddr _ u_impl_Value rfl s_string rfl rfl (hn := ?_)
       refine LWo.guardY (t := 25) rfl h15 rfl rfl ?_
       refine LWo.load1 (c := (e_string a0.S)) g_string rfl (hn := ?_)
       refine LWo.guardY (t := 25) rfl h15 rfl rfl ?_
       refine LWo.lenS u_string rfl (hn := ?_)
       refine LWo.guardY (t := 25) rfl h15 rfl rfl ?_
       refine LWo.int _ rfl rfl rfl (hn := ?_)
       refine LWo.pickTM (e_bool (decide ((a0.S.size : Int) ≤ (6 : Int)))) rfl h15 rfl (hn := ?_)
       refine LWo.move (e_bool (decide ((a0.S.size : Int) ≤ (6 : Int)))) rfl (hn := ?_)
       refine LWo.byCases (t := 31) _ rfl (fun h16 => ?_) (fun h16 => ?_)
       ·have h := bT h16 h
        refine LWo.guardY (t := 31) rfl h16 rfl rfl ?_
        refine LWo.fieldAddr _ u_impl_Value rfl s_string rfl rfl (hn := ?_)
        refine LWo.guardY (t := 31) rfl h16 rfl rfl ?_
        refine LWo.load1 (c := (e_string a0.S)) g_string rfl (hn := ?_)
        refine bk h fun x17 e17 h => ?_
        refine LWo.guardY (t := 31) rfl h16 rfl rfl ?_
        refine LWo.vcall rfl rfl (c_impl_letters _ _ e17) (.same (.nil)) (hn := ?_)
        refine LWo.pickTM (e_bool x17) rfl h16 rfl (hn := ?_)
        refine LWo.assign (e_bool x17) rfl (hn := ?_)
        refine LWo.nil (hN14 x17 _ ⟨rfl, trivial⟩ trivial h)
       ·have h := bF h16 h
        refine LWo.guardNU (t := 31) rfl h16 rfl rfl rfl rfl rfl ?_
        refine LWo.guardNU (t := 31) rfl h16 rfl rfl rfl rfl rfl ?_
        refine LWo.guardNU (t := 31) rfl h16 rfl rfl rfl rfl rfl ?_
        refine LWo.pickFM (e_bool false) rfl h16 rfl (hn := ?_)
        refine LWo.assign (e_bool false) rfl (hn := ?_)
        refine LWo.nil (hN14 false _ ⟨rfl, trivial⟩ trivial h)
      ·have h := bF h15 h
       refine LWo.guardNU (t := 25) rfl h15 rfl rfl rfl rfl rfl ?_
       refine LWo.guardNU (t := 25) rfl h15 rfl rfl rfl rfl rfl ?_
       refine LWo.guardNU (t := 25) rfl h15 rfl rfl rfl rfl rfl ?_
       refine LWo.guardNU (t := 25) rfl h15 rfl rfl rfl rfl rfl ?_
       refine LWo.pickFM (e_bool false) rfl h15 rfl (hn := ?_)
       refine LWo.move (e_bool false) rfl (hn := ?_)
       refine LWo.guardNU (t := 31) rfl rfl rfl rfl rfl rfl rfl ?_
       refine LWo.guardNU (t := 31) rfl rfl rfl rfl rfl rfl rfl ?_
       refine LWo.guardNU (t := 31) rfl rfl rfl rfl rfl rfl rfl ?_
       refine LWo.pickFM (e_bool false) rfl rfl rfl (hn := ?_)
       refine LWo.assign (e_bool false) rfl (hn := ?_)
       refine LWo.nil (hN14 false _ ⟨rfl, trivial⟩ trivial h)
    ·have h := bF h13 h
     refine LWP.seq_k fun N18 hN18 => ?_
     refine LWP.region (l := [_,_]) ?_
     refine LWo.int _ rfl rfl rfl (hn := ?_)
     refine LWo.assign (e_bool (a0.Kind == (3 : Int))) rfl (hn := ?_)
     refine LWo.nil (hN18 _ ?_)
     refine LWP.cond_split rfl (fun h19 => ?_) (fun h19 => ?_)
     ·have h := bT h19 h
      refine LWP.join (α := Bool) (fun z : Bool => [(2, (e_bool z))]) (fun z : Bool => []) (fun z : Bool => m_impl_Value_ok_j3  z) r (fun _ => by simp [hkeys]) ?_ ?_
      ·rintro t2 h
       replace h : m_impl_Value_ok_j3  t2 = some _ := h
       obtain rfl := Option.some.inj h
       refine LWP.ret (QG.mk (.inr rfl) (.cons (.tmp (x := (e_bool t2)) rfl) (.nil)) (RetOK.one0 (.pure rfl) (by decide)) rfl rfl)
      ·intro N20 hN20
       refine LWP.region (l := [_,_,_,_,_,_,_,_,_]) ?_
       refine LWo.fieldAddr _ u_impl_Value rfl s_string rfl rfl (hn := ?_)
       refine LWo.load1 (c := (e_string a0.S)) g_string rfl (hn := ?_)
       refine LWo.str _ rfl rfl rfl (hn := ?_)
       refine LWo.move (e_bool (sEq a0.S (⟨#[]⟩ : ByteArray))) rfl (hn := ?_)
       refine LWo.byCases (t := 41) _ rfl (fun h21 => ?_) (fun h21 => ?_)
       ·have h := bT h21 h
        refine LWo.guardY (t := 41) rfl h21 rfl rfl ?_
        refine LWo.fieldAddr _ u_impl_Value rfl s_int rfl rfl (hn := ?_)
        refine LWo.guardY (t := 41) rfl h21 rfl rfl ?_
        refine LWo.load1 (c := (e_int a0.N)) g_int rfl (hn := ?_)
        refine bk h fun x22 e22 h => ?_
        refine LWo.guardY (t := 41) rfl h21 rfl rfl ?_
        refine LWo.vcall rfl rfl (c_impl_between _ _ _ _ e22) (.same (.same (.same (.nil)))) (hn := ?_)
        refine LWo.pickTM (e_bool x22) rfl h21 rfl (hn := ?_)
        refine LWo.assign (e_bool x22) rfl (hn := ?_)
        refine LWo.nil (hN20 x22 _ ⟨rfl, trivial⟩ trivial h)
       ·have h := bF h21 h
        refine LWo.guardNU (t := 41) rfl h21 rfl rfl rfl rfl rfl ?_
        refine LWo.guardNU (t := 41) rfl h21 rfl rfl rfl rfl rfl ?_
        refine LWo.guardNU (t := 41) rfl h21 rfl rfl rfl rfl rfl ?_
        refine LWo.pickFM (e_bool false) rfl h21 rfl (hn := ?_)
        refine LWo.assign (e_bool false) rfl (hn := ?_)
        refine LWo.nil (hN20 false _ ⟨rfl, trivial⟩ trivial h)
     ·have h := bF h19 h
      refine LWP.skip (hN2 _ ?_)
      refine LWP.seq_k fun N23 hN23 => ?_
      refine LWP.region (l := [_]) ?_
      refine LWo.assign (e_bool false) rfl (hn := ?_)
      refine LWo.nil (hN23 _ ?_)
      obtain rfl := Option.some.inj h
      refine LWP.ret (QG.mk (.inr rfl) (.cons (.tmp (x := (e_bool false)) rfl) (.nil)) (RetOK.one0 (.pure rfl) (by decide)) rfl rfl)

def m_impl_RowOk_1 (a0 : S_impl_Value) : Option Bool :=
  (m_impl_Value_ok a0).bind fun x3 =>
  some (!x3)
theorem c_impl_RowOk_1 (a0 : S_impl_Value) (r : Bool) (h : m_impl_RowOk_1 a0 = some r) : Ret Try.prog f_impl_RowOk_1 [e_impl_Value a0] (e_bool r) := by
  refine Does.goG [] F_impl_RowOk_1 rfl e_impl_RowOk_1 n_impl_RowOk_1 rfl (rvs := [.tmp 2]) rfl rfl ?_
  intro w0 ok0 lent ρ0
  refine LWP.seq_k fun N1 hN1 => ?_
  refine LWP.region (l := [_,_]) ?_
  refine LWo.boxF (e_impl_Value a0) rfl rfl rfl (hn := ?_)
  refine LWo.assign (e_bool false) rfl (hn := ?_)
  refine LWo.nil (hN1 _ ?_)
  refine LWP.seq_k fun N2 hN2 => ?_
  refine LWP.region (l := [_,_,_,_]) ?_
  refine LWo.loadN ((e_impl_Value a0)).cells g_impl_Value s_impl_Value rfl (Nat.le_of_ble_eq_true rfl) rfl (hn := ?_)
  refine bk h fun x3 e3 h => ?_
  refine LWo.vcall rfl rfl (c_impl_Value_ok _ _ e3) (.same (.nil)) (hn := ?_)
  refine LWo.not rfl (hn := ?_)
  refine LWo.assign (e_bool (!x3)) rfl (hn := ?_)
  refine LWo.nil (hN2 _ ?_)
  obtain rfl := Option.some.inj h
  refine LWP.ret (QG.mk (.inr rfl) (.cons (.tmp (x := (e_bool (!x3))) rfl) (.nil)) (RetOK.one0 (.pure rfl) (by decide)) rfl rfl)

def m_impl_RowOk_j1 (t2 : Bool) : Option Bool :=
  some t2
def m_impl_RowOk (a0 : (List S_impl_Value)) : Option Bool :=
  bif decide ((a0.length : Int) ≤ (4 : Int)) then ((m_slices_ContainsFunc_Limpl_Value_impl_Value a0 (fun b0_ => m_impl_RowOk_1 b0_ )).bind fun x4 =>
    m_impl_RowOk_j1  (!x4))
  else (m_impl_RowOk_j1  false)
theorem c_impl_RowOk (a0 : (List S_impl_Value)) (r : Bool) (h : m_impl_RowOk a0 = some r) : Ret Try.prog f_impl_RowOk [e_Limpl_Value a0] (e_bool r) := by
  refine Does.goG [] F_impl_RowOk rfl e_impl_RowOk n_impl_RowOk rfl (rvs := [.tmp 2]) rfl rfl ?_
  intro w0 ok0 lent ρ0
  refine LWP.seq_k fun N1 hN1 => ?_
  refine LWP.region (l := [_]) ?_
  refine LWo.assign (e_bool false) rfl (hn := ?_)
  refine LWo.nil (hN1 _ ?_)
  refine LWP.join (α := Bool) (fun z : Bool => [(2, (e_bool z))]) (fun z : Bool => []) (fun z : Bool => m_impl_RowOk_j1  z) r (fun _ => by simp [hkeys]) ?_ ?_
  ·rintro t2 h
   replace h : m_impl_RowOk_j1  t2 = some _ := h
   obtain rfl := Option.some.inj h
   refine LWP.ret (QG.mk (.inr rfl) (.cons (.tmp (x := (e_bool t2)) rfl) (.nil)) (RetOK.one0 (.pure rfl) (by decide)) rfl rfl)
  ·intro N2 hN2
   refine LWP.region (l := [_,_,_,_,_,_,_,_,_]) ?_
   refine LWo.move (e_Limpl_Value a0) rfl (hn := ?_)
   refine LWo.lenM (f := e_impl_Value) (l := a0) u_Limpl_Value rfl (hn := ?_)
   refine LWo.int _ rfl rfl rfl (hn := ?_)
   refine LWo.move (e_bool (decide ((a0.length : Int) ≤ (4 : Int)))) rfl (hn := ?_)
   refine LWo.byCases (t := 6) _ rfl (fun h3 => ?_) (fun h3 => ?_)
   ·have h := bT h3 h
    refine LWo.guardY (t := 6) rfl h3 rfl rfl ?_
    refine LWo.move (e_Limpl_Value a0) rfl (hn := ?_)
    refine bk h fun x4 e4 h => ?_
    refine LWo.guardY (t := 6) rfl h3 rfl rfl ?_
    refine LWo.vcall rfl rfl (c_slices_ContainsFunc_Limpl_Value_impl_Value _ _ f_impl_RowOk_1 [] (fun _ => rfl) (fun b0_ v hv => c_impl_RowOk_1 b0_  v hv) _ e4) (.same (.same (.nil))) (hn := ?_)
    refine LWo.guardY (t := 6) rfl h3 rfl rfl ?_
    refine LWo.not rfl (hn := ?_)
    refine LWo.pickTM (e_bool (!x4)) rfl h3 rfl (hn := ?_)
    refine LWo.assign (e_bool (!x4)) rfl (hn := ?_)
    refine LWo.nil (hN2 (!x4) _ ⟨rfl, trivial⟩ trivial h)
   ·have h := bF h3 h
    refine LWo.guardNU (t := 6) rfl h3 rfl rfl rfl rfl rfl ?_
    refine LWo.guardNU (t := 6) rfl h3 rfl rfl rfl rfl rfl ?_
    refine LWo.guardNU (t := 6) rfl h3 rfl rfl rfl rfl rfl ?_
    refine LWo.pickFM (e_bool false) rfl h3 rfl (hn := ?_)
    refine LWo.assign (e_bool false) rfl (hn := ?_)
    refine LWo.nil (hN2 false _ ⟨rfl, trivial⟩ trivial h)

def m_impl_WritesOk_j2 (t0 : (List S_impl_Write)) : Option Bool :=
  some (decide ((t0.length : Int) ≤ (5 : Int)))
def m_impl_WritesOk_j1 (k1 : (List S_impl_Write) → (List S_impl_Write) → Int → Int → Option Bool) (t0 : (List S_impl_Write)) (t5 : (List S_impl_Write)) (t6 : Int) (t7 : Int) (t46 : Bool) : Option Bool :=
  bif t46 then (some false)
  else ((ckI (t7 + (1 : Int))).bind fun x28 =>
  k1 t0 t5 t6 x28)
def m_impl_WritesOk_l1 : Nat → (List S_impl_Write) → (List S_impl_Write) → Int → Int → Option Bool
  | 0, _, _, _, _ => none
  | n1 + 1, t0, t5, t6, t7 =>
    bif decide (t7 < t6) then ((at? t5 t7).bind fun x11 =>
    lt (x11) fun y12 =>
    (m_impl_keyOk y12.Key).bind fun x14 =>
    bif (!x14) then (m_impl_WritesOk_j1  (m_impl_WritesOk_l1  n1) t0 t5 t6 t7 true)
    else ((m_impl_RowOk y12.Row).bind fun x16 =>
      bif (!x16) then (m_impl_WritesOk_j1  (m_impl_WritesOk_l1  n1) t0 t5 t6 t7 true)
      else (bif y12.Gone then (bif decide ((y12.Row.length : Int) > (0 : Int)) then (m_impl_WritesOk_j1  (m_impl_WritesOk_l1  n1) t0 t5 t6 t7 true)
          else (bif decide (t7 > (0 : Int)) then ((ckI (t7 - (1 : Int))).bind fun x21 =>
              (at? t0 x21).bind fun x22 =>
              m_impl_WritesOk_j1  (m_impl_WritesOk_l1  n1) t0 t5 t6 t7 (decide (x22.Key ≥ y12.Key)))
            else (m_impl_WritesOk_j1  (m_impl_WritesOk_l1  n1) t0 t5 t6 t7 false)))
        else (bif decide (t7 > (0 : Int)) then ((ckI (t7 - (1 : Int))).bind fun x24 =>
            (at? t0 x24).bind fun x25 =>
            m_impl_WritesOk_j1  (m_impl_WritesOk_l1  n1) t0 t5 t6 t7 (decide (x25.Key ≥ y12.Key)))
          else (m_impl_WritesOk_j1  (m_impl_WritesOk_l1  n1) t0 t5 t6 t7 false)))))
    else (m_impl_WritesOk_j2  t0)
def m_impl_WritesOk (a0 : (List S_impl_Write)) : Option Bool :=
  m_impl_WritesOk_l1  (((a0.length : Int) - (0 : Int)).toNat + 1) a0 a0 (a0.length : Int) (0 : Int)
theorem c_impl_WritesOk (a0 : (List S_impl_Write)) (r : Bool) (h : m_impl_WritesOk a0 = some r) : Ret Try.prog f_impl_WritesOk [e_Limpl_Write a0] (e_bool r) := by
  refine Does.goG [] F_impl_WritesOk rfl e_impl_WritesOk n_impl_WritesOk rfl (rvs := [.tmp 2]) rfl rfl ?_
  intro w0 ok0 lent ρ0
  refine LWP.seq_k fun N1 hN1 => ?_
  refine LWP.region (l := [_]) ?_
  refine LWo.assign (e_bool false) rfl (hn := ?_)
  refine LWo.nil (hN1 _ ?_)
  refine LWP.join (α := (List S_impl_Write)) (fun z : (List S_impl_Write) => [(0, (e_Limpl_Write z))]) (fun z : (List S_impl_Write) => []) (fun z : (List S_impl_Write) => m_impl_WritesOk_j2  z) r (fun _ => by simp [hkeys]) ?_ ?_
  ·rintro t0 h
   replace h : m_impl_WritesOk_j2  t0 = some _ := h
   refine LWP.seq_k fun N29 hN29 => ?_
   refine LWP.region (l := [_,_,_,_]) ?_
   refine LWo.move (e_Limpl_Write t0) rfl (hn := ?_)
   refine LWo.lenM (f := e_impl_Write) (l := t0) u_Limpl_Write rfl (hn := ?_)
   refine LWo.int _ rfl rfl rfl (hn := ?_)
   refine LWo.assign (e_bool (decide ((t0.length : Int) ≤ (5 : Int)))) rfl (hn := ?_)
   refine LWo.nil (hN29 _ ?_)
   obtain rfl := Option.some.inj h
   refine LWP.ret (QG.mk (.inr rfl) (.cons (.tmp (x := (e_bool (decide ((t0.length : Int) ≤ (5 : Int))))) rfl) (.nil)) (RetOK.one0 (.pure rfl) (by decide)) rfl rfl)
  ·intro N2 hN2
   refine LWP.seq_k fun N3 hN3 => ?_
   refine LWP.region (l := [_,_,_]) ?_
   refine LWo.move (e_Limpl_Write a0) rfl (hn := ?_)
   refine LWo.lenM (f := e_impl_Write) (l := a0) u_Limpl_Write rfl (hn := ?_)
   refine LWo.move (e_int (0 : Int)) rfl (hn := ?_)
   refine LWo.nil (hN3 _ ?_)
   refine LWP.block ?_
   refine LWP.loopM (α := (List S_impl_Write) × (List S_impl_Write) × Int × Int) (fun z : (List S_impl_Write) × (List S_impl_Write) × Int × Int => [(0, (e_Limpl_Write z.1)), (5, (e_Limpl_Write z.2.1)), (6, (e_int z.2.2.1)), (7, (e_int z.2.2.2))]) (fun z : (List S_impl_Write) × (List S_impl_Write) × Int × Int => []) (fun n1 (z : (List S_impl_Write) × (List S_impl_Write) × Int × Int) => m_impl_WritesOk_l1  n1 z.1 z.2.1 z.2.2.1 z.2.2.2) r _ (a0, a0, (a0.length : Int), (0 : Int)) h (fun _ => rfl) (fun _ => by simp [hkeys]) ⟨rfl, rfl, rfl, rfl, trivial⟩ trivial ?_
   rintro n1 ⟨t0, t5, t6, t7⟩ h N4 hN4
   replace h : m_impl_WritesOk_l1  (n1 + 1) t0 t5 t6 t7 = some _ := h
   refine LWP.seq_k fun N6 hN6 => ?_
   refine LWP.region (l := [_]) ?_
   refine LWo.int _ rfl rfl rfl (hn := ?_)
   refine LWo.nil (hN6 _ ?_)
   refine LWP.seq_k fun N7 hN7 => ?_
   refine LWP.cond_split rfl (fun h8 => ?_) (fun h8 => ?_)
   ·have h := bT h8 h
    refine LWP.skip (hN7 _ ?_)
    refine LWP.seq_k fun N9 hN9 => ?_
    refine LWP.block ?_
    refine LWP.seq_k fun N10 hN10 => ?_
    refine LWP.region (l := [_,_,_,_,_,_]) ?_
    refine LWo.move (e_int t7) rfl (hn := ?_)
    refine bk h fun x11 e11 h => ?_
    refine LWo.indexM (f := e_impl_Write) e11 u_Limpl_Write s_impl_Write rfl rfl (hn := ?_)
    refine LWo.loadN ((e_impl_Write x11)).cells g_impl_Write s_impl_Write rfl (Nat.le_of_ble_eq_true rfl) rfl (hn := ?_)
    refine LWo.alloc_impl_Write 4 rfl (hn := ?_)
    refine LWo.assign (e_int t7) rfl (hn := ?_)
    refine lk h fun y12 e12 h => ?_
    refine LWo.storeW (y := (⟨(0 : Int), [], false⟩ : S_impl_Write)) y12 s_impl_Write rfl rfl rfl rfl rfl rfl (by rw [e12]; exact .refl) rfl (hn := ?_)
    refine LWo.nil (hN10 _ ?_)
    refine LWP.join (α := (List S_impl_Write) × (List S_impl_Write) × Int × Int × Bool) (fun z : (List S_impl_Write) × (List S_impl_Write) × Int × Int × Bool => [(0, (e_Limpl_Write z.1)), (5, (e_Limpl_Write z.2.1)), (6, (e_int z.2.2.1)), (7, (e_int z.2.2.2.1)), (46, (e_bool z.2.2.2.2))]) (fun z : (List S_impl_Write) × (List S_impl_Write) × Int × Int × Bool => []) (fun z : (List S_impl_Write) × (List S_impl_Write) × Int × Int × Bool => m_impl_WritesOk_j1  (m_impl_WritesOk_l1  n1) z.1 z.2.1 z.2.2.1 z.2.2.2.1 z.2.2.2.2) r (fun _ => by simp [hkeys]) ?_ ?_
    ·rintro ⟨t0, t5, t6, t7, t46⟩ h
     replace h : m_impl_WritesOk_j1  (m_impl_WritesOk_l1  n1) t0 t5 t6 t7 t46 = some _ := h
     refine LWP.cond_split rfl (fun h26 => ?_) (fun h26 => ?_)
     ·have h := bT h26 h
      refine LWP.seq_k fun N27 hN27 => ?_
      refine LWP.region (l := [_]) ?_
      refine LWo.assign (e_bool false) rfl (hn := ?_)
      refine LWo.nil (hN27 _ ?_)
      obtain rfl := Option.some.inj h
      refine LWP.ret (QG.mk (.inr rfl) (.cons (.tmp (x := (e_bool false)) rfl) (.nil)) (RetOK.one0 (.pure rfl) (by decide)) rfl rfl)
     ·have h := bF h26 h
      refine LWP.skip (hN9 _ ?_)
      refine LWP.region (l := [_,_]) ?_
      refine bk h fun x28 e28 h => ?_
      refine LWo.int _ rfl rfl (add_ck e28) (hn := ?_)
      refine LWo.move (e_int x28) rfl (hn := ?_)
      refine LWo.nil (hN4 (t0, t5, t6, x28) _ ⟨rfl, rfl, rfl, rfl, trivial⟩ trivial h)
    ·intro N13 hN13
     refine bk h fun x14 e14 h => ?_
     refine bS ((!x14)) (fun h15 => ?_) (fun h15 => ?_)
     ·have h := bT h15 h
      refine LWP.drawF (l := [_,_,_,_,_,_,_,_,_,_,_,_,_,_,_,_,_,_,_,_,_,_,_,_,_,_,_,_,_,_,_,_,_,_,_]) [] [0, 3, 4, 5, 6, 7] [([4], []), ([12], [4]), ([13], []), ([14], []), ([15], []), ([4, 16], []), ([16, 17], []), ([16, 18], []), ([16, 19], []), ([16, 20], []), ([21], []), ([4, 22], []), ([22, 23], []), ([22, 24], []), ([4, 25], []), ([25, 26], []), ([25, 27], []), ([25, 28], []), ([22, 25, 29], []), ([22, 30], []), ([31], []), ([3, 32], []), ([32, 33], []), ([32, 34], []), ([0, 35], []), ([3, 35], []), ([35, 37], []), ([35, 36, 38], []), ([35, 39], []), ([35, 40], []), ([4, 35], []), ([35, 42], []), ([35, 41, 43], []), ([32, 35, 44], []), ([32, 45], [])] [0, 5, 6, 7, 46] [] mixed (by kernel_rfl) rfl (by decide) ?_
      refine dq 12 rfl (fun _ g u h => LWo.fieldPtr u_impl_Write rfl s_int u.1 rfl (hn := .nil (zn g))) ?_
      refine dq 13 rfl (fun _ g u h => LWo.loadV1 (e_int y12.Key)  g_int u.1 h.1 rfl (hn := .nil (zn g))) ?_
      refine dq 14 rfl (fun _ g u h => LWo.vcall rfl (av1 u.1) (c_impl_keyOk _ _ e14) (.same (.nil)) (hn := .nil (zn g))) ?_
      refine dq 15 rfl (fun _ g u h => LWo.not u.1 (hn := .nil (zn g))) ?_
      refine dq 16 rfl (fun _ g u h => LWo.move (e_bool (!x14)) u.1 (hn := .nil (zn g))) ?_
      refine dq 17 rfl (fun _ g u h => LWo.guardNU (t := 16) u.2.1 h15 rfl rfl rfl rfl rfl (.nil (zn g))) ?_
      refine dq 18 rfl (fun _ g u h => LWo.guardNU (t := 16) u.1 h15 rfl rfl rfl rfl rfl (.nil (zn g))) ?_
      refine dq 19 rfl (fun _ g u h => LWo.guardNU (t := 16) u.1 h15 rfl rfl rfl rfl rfl (.nil (zn g))) ?_
      refine dq 20 rfl (fun _ g u h => LWo.guardNU (t := 16) u.1 h15 rfl rfl rfl rfl rfl (.nil (zn g))) ?_
      refine dq 21 rfl (fun _ g u h => LWo.pickTM (e_bool true) u.1 h15 rfl (hn := .nil (zn g))) ?_
      refine dq 22 rfl (fun _ g u h => LWo.move (e_bool true) u.1 (hn := .nil (zn g))) ?_
      refine dq 23 rfl (fun _ g u h => LWo.guardNU (t := 22) u.2.1 rfl rfl rfl rfl rfl rfl (.nil (zn g))) ?_
      refine dq 24 rfl (fun _ g u h => LWo.guardNU (t := 22) u.1 rfl rfl rfl rfl rfl rfl (.nil (zn g))) ?_
      refine dq 25 rfl (fun _ g u h => LWo.guardNU (t := 22) u.1 rfl rfl rfl rfl rfl rfl (.nil (zn g))) ?_
      refine dq 26 rfl (fun _ g u h => LWo.guardU (t := 25) u.2.1 rfl rfl rfl rfl (.nil (zn g))) ?_
      refine dq 27 rfl (fun _ g u h => LWo.guardU (t := 25) u.1 rfl rfl rfl rfl (.nil (zn g))) ?_
      refine dq 28 rfl (fun _ g u h => LWo.guardU (t := 25) u.1 rfl rfl rfl rfl (.nil (zn g))) ?_
      refine dq 29 rfl (fun _ g u h => LWo.guardU (t := 25) u.1 rfl rfl rfl rfl (.nil (zn g))) ?_
      refine dq 30 rfl (fun _ g u h => LWo.guardNU (t := 22) u.1 rfl rfl rfl rfl rfl rfl (.nil (zn g))) ?_
      refine dq 31 rfl (fun _ g u h => LWo.pickTM (e_bool true) u.1 rfl rfl (hn := .nil (zn g))) ?_
      refine dq 32 rfl (fun _ g u h => LWo.move (e_bool true) u.1 (hn := .nil (zn g))) ?_
      refine dq 33 rfl (fun _ g u h => LWo.guardNU (t := 32) u.2.1 rfl rfl rfl rfl rfl rfl (.nil (zn g))) ?_
      refine dq 34 rfl (fun _ g u h => LWo.guardNU (t := 32) u.1 rfl rfl rfl rfl rfl rfl (.nil (zn g))) ?_
      refine dq 35 rfl (fun _ g u h => LWo.guardNU (t := 32) u.1 rfl rfl rfl rfl rfl rfl (.nil (zn g))) ?_
      refine dq 36 rfl (fun _ g u h => LWo.guardU (t := 35) u.2.1 rfl rfl rfl rfl (.nil (zn g))) ?_
      refine dq 37 rfl (fun _ g u h => LWo.guardU (t := 35) u.2.1 rfl rfl rfl rfl (.nil (zn g))) ?_
      refine dq 38 rfl (fun _ g u h => LWo.guardU (t := 35) u.1 rfl rfl rfl rfl (.nil (zn g))) ?_
      refine dq 39 rfl (fun _ g u h => LWo.guardU (t := 35) u.1 rfl rfl rfl rfl (.nil (zn g))) ?_
      refine dq 40 rfl (fun _ g u h => LWo.guardU (t := 35) u.1 rfl rfl rfl rfl (.nil (zn g))) ?_
      refine dq 41 rfl (fun _ g u h => LWo.guardU (t := 35) u.1 rfl rfl rfl rfl (.nil (zn g))) ?_
      refine dq 42 rfl (fun _ g u h => LWo.guardU (t := 35) u.2.1 rfl rfl rfl rfl (.nil (zn g))) ?_
      refine dq 43 rfl (fun _ g u h => LWo.guardU (t := 35) u.1 rfl rfl rfl rfl (.nil (zn g))) ?_
      refine dq 44 rfl (fun _ g u h => LWo.guardU (t := 35) u.1 rfl rfl rfl rfl (.nil (zn g))) ?_
      refine dq 45 rfl (fun _ g u h => LWo.guardNU (t := 32) u.1 rfl rfl rfl rfl rfl rfl (.nil (zn g))) ?_
      refine dq 46 rfl (fun _ g u h => LWo.pickTM (e_bool true) u.1 rfl rfl (hn := .nil (zn g))) ?_
      refine ⟨rfl, by kernel_rfl, hN13 (t0, t5, t6, t7, true) _ ⟨rfl, rfl, rfl, rfl, rfl, trivial⟩ trivial h⟩
     ·have h := bF h15 h
      refine bk h fun x16 e16 h => ?_
      refine bS ((!x16)) (fun h17 => ?_) (fun h17 => ?_)
      ·have h := bT h17 h
       refine LWP.drawF (l := [_,_,_,_,_,_,_,_,_,_,_,_,_,_,_,_,_,_,_,_,_,_,_,_,_,_,_,_,_,_,_,_,_,_,_]) [] [0, 3, 4, 5, 6, 7] [([4], []), ([12], [4]), ([13], []), ([14], []), ([15], []), ([4, 16], []), ([16, 17], [4]), ([16, 18], []), ([16, 19], []), ([16, 20], []), ([21], []), ([4, 22], []), ([22, 23], []), ([22, 24], []), ([4, 25], []), ([25, 26], []), ([25, 27], []), ([25, 28], []), ([22, 25, 29], []), ([22, 30], []), ([31], []), ([3, 32], []), ([32, 33], []), ([32, 34], []), ([0, 35], []), ([3, 35], []), ([35, 37], []), ([35, 36, 38], []), ([35, 39], []), ([35, 40], []), ([4, 35], []), ([35, 42], []), ([35, 41, 43], []), ([32, 35, 44], []), ([32, 45], [])] [0, 5, 6, 7, 46] [] mixed (by kernel_rfl) rfl (by decide) ?_
       refine dq 12 rfl (fun _ g u h => LWo.fieldPtr u_impl_Write rfl s_int u.1 rfl (hn := .nil (zn g))) ?_
       refine dq 13 rfl (fun _ g u h => LWo.loadV1 (e_int y12.Key)  g_int u.1 h.1 rfl (hn := .nil (zn g))) ?_
       refine dq 14 rfl (fun _ g u h => LWo.vcall rfl (av1 u.1) (c_impl_keyOk _ _ e14) (.same (.nil)) (hn := .nil (zn g))) ?_
       refine dq 15 rfl (fun _ g u h => LWo.not u.1 (hn := .nil (zn g))) ?_
       refine dq 16 rfl (fun _ g u h => LWo.move (e_bool (!x14)) u.1 (hn := .nil (zn g))) ?_
       refine dq 17 rfl (fun _ g u h => LWo.guardY (t := 16) u.2.1 h15 rfl rfl (LWo.fieldPtr u_impl_Write rfl s_Limpl_Value u.1 rfl (hn := .nil (zn g)))) ?_
       refine dq 18 rfl (fun _ g u h => LWo.guardY (t := 16) u.1 h15 rfl rfl (LWo.loadV1 (e_Limpl_Value y12.Row)  g_Limpl_Value u.2.1 h.1 rfl (hn := .nil (zn g)))) ?_
       refine dq 19 rfl (fun _ g u h => LWo.guardY (t := 16) u.1 h15 rfl rfl (LWo.vcall rfl (av1 u.2.1) (c_impl_RowOk _ _ e16) (.same (.nil)) (hn := .nil (zn g)))) ?_
       refine dq 20 rfl (fun _ g u h => LWo.guardY (t := 16) u.1 h15 rfl rfl (LWo.not u.2.1 (hn := .nil (zn g)))) ?_
       refine dq 21 rfl (fun _ g u h => LWo.pickFM (e_bool (!x16)) u.1 h15 u.2.1 (hn := .nil (zn g))) ?_
       refine dq 22 rfl (fun _ g u h => LWo.move (e_bool (!x16)) u.1 (hn := .nil (zn g))) ?_
       refine dq 23 rfl (fun _ g u h => LWo.guardNU (t := 22) u.2.1 h17 rfl rfl rfl rfl rfl (.nil (zn g))) ?_
       refine dq 24 rfl (fun _ g u h => LWo.guardNU (t := 22) u.1 h17 rfl rfl rfl rfl rfl (.nil (zn g))) ?_
       refine dq 25 rfl (fun _ g u h => LWo.guardNU (t := 22) u.1 h17 rfl rfl rfl rfl rfl (.nil (zn g))) ?_
       refine dq 26 rfl (fun _ g u h => LWo.guardU (t := 25) u.2.1 rfl rfl rfl rfl (.nil (zn g))) ?_
       refine dq 27 rfl (fun _ g u h => LWo.guardU (t := 25) u.1 rfl rfl rfl rfl (.nil (zn g))) ?_
       refine dq 28 rfl (fun _ g u h => LWo.guardU (t := 25) u.1 rfl rfl rfl rfl (.nil (zn g))) ?_
       refine dq 29 rfl (fun _ g u h => LWo.guardU (t := 25) u.1 rfl rfl rfl rfl (.nil (zn g))) ?_
       refine dq 30 rfl (fun _ g u h => LWo.guardNU (t := 22) u.1 h17 rfl rfl rfl rfl rfl (.nil (zn g))) ?_
       refine dq 31 rfl (fun _ g u h => LWo.pickTM (e_bool true) u.1 h17 rfl (hn := .nil (zn g))) ?_
       refine dq 32 rfl (fun _ g u h => LWo.move (e_bool true) u.1 (hn := .nil (zn g))) ?_
       refine dq 33 rfl (fun _ g u h => LWo.guardNU (t := 32) u.2.1 rfl rfl rfl rfl rfl rfl (.nil (zn g))) ?_
       refine dq 34 rfl (fun _ g u h => LWo.guardNU (t := 32) u.1 rfl rfl rfl rfl rfl rfl (.nil (zn g))) ?_
       refine dq 35 rfl (fun _ g u h => LWo.guardNU (t := 32) u.1 rfl rfl rfl rfl rfl rfl (.nil (zn g))) ?_
       refine dq 36 rfl (fun _ g u h => LWo.guardU (t := 35) u.2.1 rfl rfl rfl rfl (.nil (zn g))) ?_
       refine dq 37 rfl (fun _ g u h => LWo.guardU (t := 35) u.2.1 rfl rfl rfl rfl (.nil (zn g))) ?_
       refine dq 38 rfl (fun _ g u h => LWo.guardU (t := 35) u.1 rfl rfl rfl rfl (.nil (zn g))) ?_
       refine dq 39 rfl (fun _ g u h => LWo.guardU (t := 35) u.1 rfl rfl rfl rfl (.nil (zn g))) ?_
       refine dq 40 rfl (fun _ g u h => LWo.guardU (t := 35) u.1 rfl rfl rfl rfl (.nil (zn g))) ?_
       refine dq 41 rfl (fun _ g u h => LWo.guardU (t := 35) u.1 rfl rfl rfl rfl (.nil (zn g))) ?_
       refine dq 42 rfl (fun _ g u h => LWo.guardU (t := 35) u.2.1 rfl rfl rfl rfl (.nil (zn g))) ?_
       refine dq 43 rfl (fun _ g u h => LWo.guardU (t := 35) u.1 rfl rfl rfl rfl (.nil (zn g))) ?_
       refine dq 44 rfl (fun _ g u h => LWo.guardU (t := 35) u.1 rfl rfl rfl rfl (.nil (zn g))) ?_
       refine dq 45 rfl (fun _ g u h => LWo.guardNU (t := 32) u.1 rfl rfl rfl rfl rfl rfl (.nil (zn g))) ?_
       refine dq 46 rfl (fun _ g u h => LWo.pickTM (e_bool true) u.1 rfl rfl (hn := .nil (zn g))) ?_
       refine ⟨rfl, by kernel_rfl, hN13 (t0, t5, t6, t7, true) _ ⟨rfl, rfl, rfl, rfl, rfl, trivial⟩ trivial h⟩
      ·have h := bF h17 h
       refine bS (y12.Gone) (fun h18 => ?_) (fun h18 => ?_)
       ·have h := bT h18 h
        refine bS (decide ((y12.Row.length : Int) > (0 : Int))) (fun h19 => ?_) (fun h19 => ?_)
        ·have h := bT h19 h
         refine LWP.drawF (l := [_,_,_,_,_,_,_,_,_,_,_,_,_,_,_,_,_,_,_,_,_,_,_,_,_,_,_,_,_,_,_,_,_,_,_]) [] [0, 3, 4, 5, 6, 7] [([4], []), ([12], [4]), ([13], []), ([14], []), ([15], []), ([4, 16], []), ([16, 17], [4]), ([16, 18], []), ([16, 19], []), ([16, 20], []), ([21], []), ([4, 22], []), ([22, 23], [4]), ([22, 24], []), ([4, 25], []), ([25, 26], [4]), ([25, 27], []), ([25, 28], []), ([22, 25, 29], []), ([22, 30], []), ([31], []), ([3, 32], []), ([32, 33], []), ([32, 34], []), ([0, 35], []), ([3, 35], []), ([35, 37], []), ([35, 36, 38], []), ([35, 39], []), ([35, 40], []), ([4, 35], []), ([35, 42], []), ([35, 41, 43], []), ([32, 35, 44], []), ([32, 45], [])] [0, 5, 6, 7, 46] [] mixed (by kernel_rfl) rfl (by decide) ?_
         refine dq 12 rfl (fun _ g u h => LWo.fieldPtr u_impl_Write rfl s_int u.1 rfl (hn := .nil (zn g))) ?_
         refine dq 13 rfl (fun _ g u h => LWo.loadV1 (e_int y12.Key)  g_int u.1 h.1 rfl (hn := .nil (zn g))) ?_
         refine dq 14 rfl (fun _ g u h => LWo.vcall rfl (av1 u.1) (c_impl_keyOk _ _ e14) (.same (.nil)) (hn := .nil (zn g))) ?_
         refine dq 15 rfl (fun _ g u h => LWo.not u.1 (hn := .nil (zn g))) ?_
         refine dq 16 rfl (fun _ g u h => LWo.move (e_bool (!x14)) u.1 (hn := .nil (zn g))) ?_
         refine dq 17 rfl (fun _ g u h => LWo.guardY (t := 16) u.2.1 h15 rfl rfl (LWo.fieldPtr u_impl_Write rfl s_Limpl_Value u.1 rfl (hn := .nil (zn g)))) ?_
         refine dq 18 rfl (fun _ g u h => LWo.guardY (t := 16) u.1 h15 rfl rfl (LWo.loadV1 (e_Limpl_Value y12.Row)  g_Limpl_Value u.2.1 h.1 rfl (hn := .nil (zn g)))) ?_
         refine dq 19 rfl (fun _ g u h => LWo.guardY (t := 16) u.1 h15 rfl rfl (LWo.vcall rfl (av1 u.2.1) (c_impl_RowOk _ _ e16) (.same (.nil)) (hn := .nil (zn g)))) ?_
         refine dq 20 rfl (fun _ g u h => LWo.guardY (t := 16) u.1 h15 rfl rfl (LWo.not u.2.1 (hn := .nil (zn g)))) ?_
         refine dq 21 rfl (fun _ g u h => LWo.pickFM (e_bool (!x16)) u.1 h15 u.2.1 (hn := .nil (zn g))) ?_
         refine dq 22 rfl (fun _ g u h => LWo.move (e_bool (!x16)) u.1 (hn := .nil (zn g))) ?_
         refine dq 23 rfl (fun _ g u h => LWo.guardY (t := 22) u.2.1 h17 rfl rfl (LWo.fieldPtr u_impl_Write rfl s_bool u.1 rfl (hn := .nil (zn g)))) ?_
         refine dq 24 rfl (fun _ g u h => LWo.guardY (t := 22) u.1 h17 rfl rfl (LWo.loadV1 (e_bool y12.Gone)  g_bool u.2.1 h.1 rfl (hn := .nil (zn g)))) ?_
         refine dq 25 rfl (fun _ g u h => LWo.guardY (t := 22) u.1 h17 rfl rfl (LWo.move (e_bool y12.Gone) u.2.1 (hn := .nil (zn g)))) ?_
         refine dq 26 rfl (fun _ g u h => LWo.guardY (t := 25) u.2.1 h18 rfl rfl (LWo.fieldPtr u_impl_Write rfl s_Limpl_Value u.1 rfl (hn := .nil (zn g)))) ?_
         refine dq 27 rfl (fun _ g u h => LWo.guardY (t := 25) u.1 h18 rfl rfl (LWo.loadV1 (e_Limpl_Value y12.Row)  g_Limpl_Value u.2.1 h.1 rfl (hn := .nil (zn g)))) ?_
         refine dq 28 rfl (fun _ g u h => LWo.guardY (t := 25) u.1 h18 rfl rfl (LWo.lenM (f := e_impl_Value) (l := y12.Row) u_Limpl_Value u.2.1 (hn := .nil (zn g)))) ?_
         refine dq 29 rfl (fun _ g u h => LWo.guardY (t := 25) u.1 h18 rfl rfl (LWo.int _ u.2.1 rfl rfl (hn := .nil (zn g)))) ?_
         refine dq 30 rfl (fun _ g u h => LWo.guardY (t := 22) u.1 h17 rfl rfl (LWo.pickTM (e_bool (decide ((y12.Row.length : Int) > (0 : Int)))) u.2.1 h18 u.2.2.1 (hn := .nil (zn g)))) ?_
         refine dq 31 rfl (fun _ g u h => LWo.pickFM (e_bool (decide ((y12.Row.length : Int) > (0 : Int)))) u.1 h17 u.2.1 (hn := .nil (zn g))) ?_
         refine dq 32 rfl (fun _ g u h => LWo.move (e_bool (decide ((y12.Row.length : Int) > (0 : Int)))) u.1 (hn := .nil (zn g))) ?_
         refine dq 33 rfl (fun _ g u h => LWo.guardNU (t := 32) u.2.1 h19 rfl rfl rfl rfl rfl (.nil (zn g))) ?_
         refine dq 34 rfl (fun _ g u h => LWo.guardNU (t := 32) u.1 h19 rfl rfl rfl rfl rfl (.nil (zn g))) ?_
         refine dq 35 rfl (fun _ g u h => LWo.guardNU (t := 32) u.1 h19 rfl rfl rfl rfl rfl (.nil (zn g))) ?_
         refine dq 36 rfl (fun _ g u h => LWo.guardU (t := 35) u.2.1 rfl rfl rfl rfl (.nil (zn g))) ?_
         refine dq 37 rfl (fun _ g u h => LWo.guardU (t := 35) u.2.1 rfl rfl rfl rfl (.nil (zn g))) ?_
         refine dq 38 rfl (fun _ g u h => LWo.guardU (t := 35) u.1 rfl rfl rfl rfl (.nil (zn g))) ?_
         refine dq 39 rfl (fun _ g u h => LWo.guardU (t := 35) u.1 rfl rfl rfl rfl (.nil (zn g))) ?_
         refine dq 40 rfl (fun _ g u h => LWo.guardU (t := 35) u.1 rfl rfl rfl rfl (.nil (zn g))) ?_
         refine dq 41 rfl (fun _ g u h => LWo.guardU (t := 35) u.1 rfl rfl rfl rfl (.nil (zn g))) ?_
         refine dq 42 rfl (fun _ g u h => LWo.guardU (t := 35) u.2.1 rfl rfl rfl rfl (.nil (zn g))) ?_
         refine dq 43 rfl (fun _ g u h => LWo.guardU (t := 35) u.1 rfl rfl rfl rfl (.nil (zn g))) ?_
         refine dq 44 rfl (fun _ g u h => LWo.guardU (t := 35) u.1 rfl rfl rfl rfl (.nil (zn g))) ?_
         refine dq 45 rfl (fun _ g u h => LWo.guardNU (t := 32) u.1 h19 rfl rfl rfl rfl rfl (.nil (zn g))) ?_
         refine dq 46 rfl (fun _ g u h => LWo.pickTM (e_bool true) u.1 h19 rfl (hn := .nil (zn g))) ?_
         refine ⟨rfl, by kernel_rfl, hN13 (t0, t5, t6, t7, true) _ ⟨rfl, rfl, rfl, rfl, rfl, trivial⟩ trivial h⟩
        ·have h := bF h19 h
         refine bS (decide (t7 > (0 : Int))) (fun h20 => ?_) (fun h20 => ?_)
         ·have h := bT h20 h
          refine bk h fun x21 e21 h => ?_
          refine bk h fun x22 e22 h => ?_
          refine LWP.drawF (l := [_,_,_,_,_,_,_,_,_,_,_,_,_,_,_,_,_,_,_,_,_,_,_,_,_,_,_,_,_,_,_,_,_,_,_]) [] [0, 3, 4, 5, 6, 7] [([4], []), ([12], [4]), ([13], []), ([14], []), ([15], []), ([4, 16], []), ([16, 17], [4]), ([16, 18], []), ([16, 19], []), ([16, 20], []), ([21], []), ([4, 22], []), ([22, 23], [4]), ([22, 24], []), ([4, 25], []), ([25, 26], [4]), ([25, 27], []), ([25, 28], []), ([22, 25, 29], []), ([22, 30], []), ([31], []), ([3, 32], []), ([32, 33], []), ([32, 34], []), ([0, 35], []), ([3, 35], []), ([35, 37], []), ([35, 36, 38], []), ([35, 39], []), ([35, 40], []), ([4, 35], []), ([35, 42], [4]), ([35, 41, 43], []), ([32, 35, 44], []), ([32, 45], [])] [0, 5, 6, 7, 46] [] mixed (by kernel_rfl) rfl (by decide) ?_
          refine dq 12 rfl (fun _ g u h => LWo.fieldPtr u_impl_Write rfl s_int u.1 rfl (hn := .nil (zn g))) ?_
          refine dq 13 rfl (fun _ g u h => LWo.loadV1 (e_int y12.Key)  g_int u.1 h.1 rfl (hn := .nil (zn g))) ?_
          refine dq 14 rfl (fun _ g u h => LWo.vcall rfl (av1 u.1) (c_impl_keyOk _ _ e14) (.same (.nil)) (hn := .nil (zn g))) ?_
          refine dq 15 rfl (fun _ g u h => LWo.not u.1 (hn := .nil (zn g))) ?_
          refine dq 16 rfl (fun _ g u h => LWo.move (e_bool (!x14)) u.1 (hn := .nil (zn g))) ?_
          refine dq 17 rfl (fun _ g u h => LWo.guardY (t := 16) u.2.1 h15 rfl rfl (LWo.fieldPtr u_impl_Write rfl s_Limpl_Value u.1 rfl (hn := .nil (zn g)))) ?_
          refine dq 18 rfl (fun _ g u h => LWo.guardY (t := 16) u.1 h15 rfl rfl (LWo.loadV1 (e_Limpl_Value y12.Row)  g_Limpl_Value u.2.1 h.1 rfl (hn := .nil (zn g)))) ?_
          refine dq 19 rfl (fun _ g u h => LWo.guardY (t := 16) u.1 h15 rfl rfl (LWo.vcall rfl (av1 u.2.1) (c_impl_RowOk _ _ e16) (.same (.nil)) (hn := .nil (zn g)))) ?_
          refine dq 20 rfl (fun _ g u h => LWo.guardY (t := 16) u.1 h15 rfl rfl (LWo.not u.2.1 (hn := .nil (zn g)))) ?_
          refine dq 21 rfl (fun _ g u h => LWo.pickFM (e_bool (!x16)) u.1 h15 u.2.1 (hn := .nil (zn g))) ?_
          refine dq 22 rfl (fun _ g u h => LWo.move (e_bool (!x16)) u.1 (hn := .nil (zn g))) ?_
          refine dq 23 rfl (fun _ g u h => LWo.guardY (t := 22) u.2.1 h17 rfl rfl (LWo.fieldPtr u_impl_Write rfl s_bool u.1 rfl (hn := .nil (zn g)))) ?_
          refine dq 24 rfl (fun _ g u h => LWo.guardY (t := 22) u.1 h17 rfl rfl (LWo.loadV1 (e_bool y12.Gone)  g_bool u.2.1 h.1 rfl (hn := .nil (zn g)))) ?_
          refine dq 25 rfl (fun _ g u h => LWo.guardY (t := 22) u.1 h17 rfl rfl (LWo.move (e_bool y12.Gone) u.2.1 (hn := .nil (zn g)))) ?_
          refine dq 26 rfl (fun _ g u h => LWo.guardY (t := 25) u.2.1 h18 rfl rfl (LWo.fieldPtr u_impl_Write rfl s_Limpl_Value u.1 rfl (hn := .nil (zn g)))) ?_
          refine dq 27 rfl (fun _ g u h => LWo.guardY (t := 25) u.1 h18 rfl rfl (LWo.loadV1 (e_Limpl_Value y12.Row)  g_Limpl_Value u.2.1 h.1 rfl (hn := .nil (zn g)))) ?_
          refine dq 28 rfl (fun _ g u h => LWo.guardY (t := 25) u.1 h18 rfl rfl (LWo.lenM (f := e_impl_Value) (l := y12.Row) u_Limpl_Value u.2.1 (hn := .nil (zn g)))) ?_
          refine dq 29 rfl (fun _ g u h => LWo.guardY (t := 25) u.1 h18 rfl rfl (LWo.int _ u.2.1 rfl rfl (hn := .nil (zn g)))) ?_
          refine dq 30 rfl (fun _ g u h => LWo.guardY (t := 22) u.1 h17 rfl rfl (LWo.pickTM (e_bool (decide ((y12.Row.length : Int) > (0 : Int)))) u.2.1 h18 u.2.2.1 (hn := .nil (zn g)))) ?_
          refine dq 31 rfl (fun _ g u h => LWo.pickFM (e_bool (decide ((y12.Row.length : Int) > (0 : Int)))) u.1 h17 u.2.1 (hn := .nil (zn g))) ?_
          refine dq 32 rfl (fun _ g u h => LWo.move (e_bool (decide ((y12.Row.length : Int) > (0 : Int)))) u.1 (hn := .nil (zn g))) ?_
          refine dq 33 rfl (fun _ g u h => LWo.guardY (t := 32) u.2.1 h19 rfl rfl (LWo.move (e_int t7) u.1 (hn := .nil (zn g)))) ?_
          refine dq 34 rfl (fun _ g u h => LWo.guardY (t := 32) u.1 h19 rfl rfl (LWo.int _ u.2.1 rfl rfl (hn := .nil (zn g)))) ?_
          refine dq 35 rfl (fun _ g u h => LWo.guardY (t := 32) u.1 h19 rfl rfl (LWo.move (e_bool (decide (t7 > (0 : Int)))) u.2.1 (hn := .nil (zn g)))) ?_
          refine dq 36 rfl (fun _ g u h => LWo.guardY (t := 35) u.2.1 h20 rfl rfl (LWo.move (e_Limpl_Write t0) u.1 (hn := .nil (zn g)))) ?_
          refine dq 37 rfl (fun _ g u h => LWo.guardY (t := 35) u.2.1 h20 rfl rfl (LWo.move (e_int t7) u.1 (hn := .nil (zn g)))) ?_
          refine dq 38 rfl (fun _ g u h => LWo.guardY (t := 35) u.1 h20 rfl rfl (LWo.int _ u.2.1 rfl (sub_ck e21) (hn := .nil (zn g)))) ?_
          refine dq 39 rfl (fun _ g u h => LWo.guardY (t := 35) u.1 h20 rfl rfl (LWo.indexM (f := e_impl_Write) e22 u_Limpl_Write s_impl_Write u.2.1 u.2.2.1 (hn := .nil (zn g)))) ?_
          refine dq 40 rfl (fun _ g u h => LWo.guardY (t := 35) u.1 h20 rfl rfl (LWo.fieldAddr _ u_impl_Write rfl s_int u.2.1 rfl (hn := .nil (zn g)))) ?_
          refine dq 41 rfl (fun _ g u h => LWo.guardY (t := 35) u.1 h20 rfl rfl (LWo.load1 (c := (e_int x22.Key)) g_int u.2.1 (hn := .nil (zn g)))) ?_
          refine dq 42 rfl (fun _ g u h => LWo.guardY (t := 35) u.2.1 h20 rfl rfl (LWo.fieldPtr u_impl_Write rfl s_int u.1 rfl (hn := .nil (zn g)))) ?_
          refine dq 43 rfl (fun _ g u h => LWo.guardY (t := 35) u.1 h20 rfl rfl (LWo.loadV1 (e_int y12.Key)  g_int u.2.1 h.1 rfl (hn := .nil (zn g)))) ?_
          refine dq 44 rfl (fun _ g u h => LWo.guardY (t := 35) u.1 h20 rfl rfl (LWo.int _ u.2.1 u.2.2.1 rfl (hn := .nil (zn g)))) ?_
          refine dq 45 rfl (fun _ g u h => LWo.guardY (t := 32) u.1 h19 rfl rfl (LWo.pickTM (e_bool (decide (x22.Key ≥ y12.Key))) u.2.1 h20 u.2.2.1 (hn := .nil (zn g)))) ?_
          refine dq 46 rfl (fun _ g u h => LWo.pickFM (e_bool (decide (x22.Key ≥ y12.Key))) u.1 h19 u.2.1 (hn := .nil (zn g))) ?_
          refine ⟨rfl, by kernel_rfl, hN13 (t0, t5, t6, t7, decide (x22.Key ≥ y12.Key)) _ ⟨rfl, rfl, rfl, rfl, rfl, trivial⟩ trivial h⟩
         ·have h := bF h20 h
          refine LWP.drawF (l := [_,_,_,_,_,_,_,_,_,_,_,_,_,_,_,_,_,_,_,_,_,_,_,_,_,_,_,_,_,_,_,_,_,_,_]) [] [0, 3, 4, 5, 6, 7] [([4], []), ([12], [4]), ([13], []), ([14], []), ([15], []), ([4, 16], []), ([16, 17], [4]), ([16, 18], []), ([16, 19], []), ([16, 20], []), ([21], []), ([4, 22], []), ([22, 23], [4]), ([22, 24], []), ([4, 25], []), ([25, 26], [4]), ([25, 27], []), ([25, 28], []), ([22, 25, 29], []), ([22, 30], []), ([31], []), ([3, 32], []), ([32, 33], []), ([32, 34], []), ([0, 35], []), ([3, 35], []), ([35, 37], []), ([35, 36, 38], []), ([35, 39], []), ([35, 40], []), ([4, 35], []), ([35, 42], []), ([35, 41, 43], []), ([32, 35, 44], []), ([32, 45], [])] [0, 5, 6, 7, 46] [] mixed (by kernel_rfl) rfl (by decide) ?_
          refine dq 12 rfl (fun _ g u h => LWo.fieldPtr u_impl_Write rfl s_int u.1 rfl (hn := .nil (zn g))) ?_
          refine dq 13 rfl (fun _ g u h => LWo.loadV1 (e_int y12.Key)  g_int u.1 h.1 rfl (hn := .nil (zn g))) ?_
          refine dq 14 rfl (fun _ g u h => LWo.vcall rfl (av1 u.1) (c_impl_keyOk _ _ e14) (.same (.nil)) (hn := .nil (zn g))) ?_
          refine dq 15 rfl (fun _ g u h => LWo.not u.1 (hn := .nil (zn g))) ?_
          refine dq 16 rfl (fun _ g u h => LWo.move (e_bool (!x14)) u.1 (hn := .nil (zn g))) ?_
          refine dq 17 rfl (fun _ g u h => LWo.guardY (t := 16) u.2.1 h15 rfl rfl (LWo.fieldPtr u_impl_Write rfl s_Limpl_Value u.1 rfl (hn := .nil (zn g)))) ?_
          refine dq 18 rfl (fun _ g u h => LWo.guardY (t := 16) u.1 h15 rfl rfl (LWo.loadV1 (e_Limpl_Value y12.Row)  g_Limpl_Value u.2.1 h.1 rfl (hn := .nil (zn g)))) ?_
          refine dq 19 rfl (fun _ g u h => LWo.guardY (t := 16) u.1 h15 rfl rfl (LWo.vcall rfl (av1 u.2.1) (c_impl_RowOk _ _ e16) (.same (.nil)) (hn := .nil (zn g)))) ?_
          refine dq 20 rfl (fun _ g u h => LWo.guardY (t := 16) u.1 h15 rfl rfl (LWo.not u.2.1 (hn := .nil (zn g)))) ?_
          refine dq 21 rfl (fun _ g u h => LWo.pickFM (e_bool (!x16)) u.1 h15 u.2.1 (hn := .nil (zn g))) ?_
          refine dq 22 rfl (fun _ g u h => LWo.move (e_bool (!x16)) u.1 (hn := .nil (zn g))) ?_
          refine dq 23 rfl (fun _ g u h => LWo.guardY (t := 22) u.2.1 h17 rfl rfl (LWo.fieldPtr u_impl_Write rfl s_bool u.1 rfl (hn := .nil (zn g)))) ?_
          refine dq 24 rfl (fun _ g u h => LWo.guardY (t := 22) u.1 h17 rfl rfl (LWo.loadV1 (e_bool y12.Gone)  g_bool u.2.1 h.1 rfl (hn := .nil (zn g)))) ?_
          refine dq 25 rfl (fun _ g u h => LWo.guardY (t := 22) u.1 h17 rfl rfl (LWo.move (e_bool y12.Gone) u.2.1 (hn := .nil (zn g)))) ?_
          refine dq 26 rfl (fun _ g u h => LWo.guardY (t := 25) u.2.1 h18 rfl rfl (LWo.fieldPtr u_impl_Write rfl s_Limpl_Value u.1 rfl (hn := .nil (zn g)))) ?_
          refine dq 27 rfl (fun _ g u h => LWo.guardY (t := 25) u.1 h18 rfl rfl (LWo.loadV1 (e_Limpl_Value y12.Row)  g_Limpl_Value u.2.1 h.1 rfl (hn := .nil (zn g)))) ?_
          refine dq 28 rfl (fun _ g u h => LWo.guardY (t := 25) u.1 h18 rfl rfl (LWo.lenM (f := e_impl_Value) (l := y12.Row) u_Limpl_Value u.2.1 (hn := .nil (zn g)))) ?_
          refine dq 29 rfl (fun _ g u h => LWo.guardY (t := 25) u.1 h18 rfl rfl (LWo.int _ u.2.1 rfl rfl (hn := .nil (zn g)))) ?_
          refine dq 30 rfl (fun _ g u h => LWo.guardY (t := 22) u.1 h17 rfl rfl (LWo.pickTM (e_bool (decide ((y12.Row.length : Int) > (0 : Int)))) u.2.1 h18 u.2.2.1 (hn := .nil (zn g)))) ?_
          refine dq 31 rfl (fun _ g u h => LWo.pickFM (e_bool (decide ((y12.Row.length : Int) > (0 : Int)))) u.1 h17 u.2.1 (hn := .nil (zn g))) ?_
          refine dq 32 rfl (fun _ g u h => LWo.move (e_bool (decide ((y12.Row.length : Int) > (0 : Int)))) u.1 (hn := .nil (zn g))) ?_
          refine dq 33 rfl (fun _ g u h => LWo.guardY (t := 32) u.2.1 h19 rfl rfl (LWo.move (e_int t7) u.1 (hn := .nil (zn g)))) ?_
          refine dq 34 rfl (fun _ g u h => LWo.guardY (t := 32) u.1 h19 rfl rfl (LWo.int _ u.2.1 rfl rfl (hn := .nil (zn g)))) ?_
          refine dq 35 rfl (fun _ g u h => LWo.guardY (t := 32) u.1 h19 rfl rfl (LWo.move (e_bool (decide (t7 > (0 : Int)))) u.2.1 (hn := .nil (zn g)))) ?_
          refine dq 36 rfl (fun _ g u h => LWo.guardNU (t := 35) u.2.1 h20 rfl rfl rfl rfl rfl (.nil (zn g))) ?_
          refine dq 37 rfl (fun _ g u h => LWo.guardNU (t := 35) u.2.1 h20 rfl rfl rfl rfl rfl (.nil (zn g))) ?_
          refine dq 38 rfl (fun _ g u h => LWo.guardNU (t := 35) u.1 h20 rfl rfl rfl rfl rfl (.nil (zn g))) ?_
          refine dq 39 rfl (fun _ g u h => LWo.guardNU (t := 35) u.1 h20 rfl rfl rfl rfl rfl (.nil (zn g))) ?_
          refine dq 40 rfl (fun _ g u h => LWo.guardNU (t := 35) u.1 h20 rfl rfl rfl rfl rfl (.nil (zn g))) ?_
          refine dq 41 rfl (fun _ g u h => LWo.guardNU (t := 35) u.1 h20 rfl rfl rfl rfl rfl (.nil (zn g))) ?_
          refine dq 42 rfl (fun _ g u h => LWo.guardNU (t := 35) u.2.1 h20 rfl rfl rfl rfl rfl (.nil (zn g))) ?_
          refine dq 43 rfl (fun _ g u h => LWo.guardNU (t := 35) u.1 h20 rfl rfl rfl rfl rfl (.nil (zn g))) ?_
          refine dq 44 rfl (fun _ g u h => LWo.guardNU (t := 35) u.1 h20 rfl rfl rfl rfl rfl (.nil (zn g))) ?_
          refine dq 45 rfl (fun _ g u h => LWo.guardY (t := 32) u.1 h19 rfl rfl (LWo.pickFM (e_bool false) u.2.1 h20 rfl (hn := .nil (zn g)))) ?_
          refine dq 46 rfl (fun _ g u h => LWo.pickFM (e_bool false) u.1 h19 u.2.1 (hn := .nil (zn g))) ?_
          refine ⟨rfl, by kernel_rfl, hN13 (t0, t5, t6, t7, false) _ ⟨rfl, rfl, rfl, rfl, rfl, trivial⟩ trivial h⟩
       ·have h := bF h18 h
        refine bS (decide (t7 > (0 : Int))) (fun h23 => ?_) (fun h23 => ?_)
        ·have h := bT h23 h
         refine bk h fun x24 e24 h => ?_
         refine bk h fun x25 e25 h => ?_
         refine LWP.drawF (l := [_,_,_,_,_,_,_,_,_,_,_,_,_,_,_,_,_,_,_,_,_,_,_,_,_,_,_,_,_,_,_,_,_,_,_]) [] [0, 3, 4, 5, 6, 7] [([4], []), ([12], [4]), ([13], []), ([14], []), ([15], []), ([4, 16], []), ([16, 17], [4]), ([16, 18], []), ([16, 19], []), ([16, 20], []), ([21], []), ([4, 22], []), ([22, 23], [4]), ([22, 24], []), ([4, 25], []), ([25, 26], []), ([25, 27], []), ([25, 28], []), ([22, 25, 29], []), ([22, 30], []), ([31], []), ([3, 32], []), ([32, 33], []), ([32, 34], []), ([0, 35], []), ([3, 35], []), ([35, 37], []), ([35, 36, 38], []), ([35, 39], []), ([35, 40], []), ([4, 35], []), ([35, 42], [4]), ([35, 41, 43], []), ([32, 35, 44], []), ([32, 45], [])] [0, 5, 6, 7, 46] [] mixed (by kernel_rfl) rfl (by decide) ?_
         refine dq 12 rfl (fun _ g u h => LWo.fieldPtr u_impl_Write rfl s_int u.1 rfl (hn := .nil (zn g))) ?_
         refine dq 13 rfl (fun _ g u h => LWo.loadV1 (e_int y12.Key)  g_int u.1 h.1 rfl (hn := .nil (zn g))) ?_
         refine dq 14 rfl (fun _ g u h => LWo.vcall rfl (av1 u.1) (c_impl_keyOk _ _ e14) (.same (.nil)) (hn := .nil (zn g))) ?_
         refine dq 15 rfl (fun _ g u h => LWo.not u.1 (hn := .nil (zn g))) ?_
         refine dq 16 rfl (fun _ g u h => LWo.move (e_bool (!x14)) u.1 (hn := .nil (zn g))) ?_
         refine dq 17 rfl (fun _ g u h => LWo.guardY (t := 16) u.2.1 h15 rfl rfl (LWo.fieldPtr u_impl_Write rfl s_Limpl_Value u.1 rfl (hn := .nil (zn g)))) ?_
         refine dq 18 rfl (fun _ g u h => LWo.guardY (t := 16) u.1 h15 rfl rfl (LWo.loadV1 (e_Limpl_Value y12.Row)  g_Limpl_Value u.2.1 h.1 rfl (hn := .nil (zn g)))) ?_
         refine dq 19 rfl (fun _ g u h => LWo.guardY (t := 16) u.1 h15 rfl rfl (LWo.vcall rfl (av1 u.2.1) (c_impl_RowOk _ _ e16) (.same (.nil)) (hn := .nil (zn g)))) ?_
         refine dq 20 rfl (fun _ g u h => LWo.guardY (t := 16) u.1 h15 rfl rfl (LWo.not u.2.1 (hn := .nil (zn g)))) ?_
         refine dq 21 rfl (fun _ g u h => LWo.pickFM (e_bool (!x16)) u.1 h15 u.2.1 (hn := .nil (zn g))) ?_
         refine dq 22 rfl (fun _ g u h => LWo.move (e_bool (!x16)) u.1 (hn := .nil (zn g))) ?_
         refine dq 23 rfl (fun _ g u h => LWo.guardY (t := 22) u.2.1 h17 rfl rfl (LWo.fieldPtr u_impl_Write rfl s_bool u.1 rfl (hn := .nil (zn g)))) ?_
         refine dq 24 rfl (fun _ g u h => LWo.guardY (t := 22) u.1 h17 rfl rfl (LWo.loadV1 (e_bool y12.Gone)  g_bool u.2.1 h.1 rfl (hn := .nil (zn g)))) ?_
         refine dq 25 rfl (fun _ g u h => LWo.guardY (t := 22) u.1 h17 rfl rfl (LWo.move (e_bool y12.Gone) u.2.1 (hn := .nil (zn g)))) ?_
         refine dq 26 rfl (fun _ g u h => LWo.guardNU (t := 25) u.2.1 h18 rfl rfl rfl rfl rfl (.nil (zn g))) ?_
         refine dq 27 rfl (fun _ g u h => LWo.guardNU (t := 25) u.1 h18 rfl rfl rfl rfl rfl (.nil (zn g))) ?_
         refine dq 28 rfl (fun _ g u h => LWo.guardNU (t := 25) u.1 h18 rfl rfl rfl rfl rfl (.nil (zn g))) ?_
         refine dq 29 rfl (fun _ g u h => LWo.guardNU (t := 25) u.1 h18 rfl rfl rfl rfl rfl (.nil (zn g))) ?_
         refine dq 30 rfl (fun _ g u h => LWo.guardY (t := 22) u.1 h17 rfl rfl (LWo.pickFM (e_bool false) u.2.1 h18 rfl (hn := .nil (zn g)))) ?_
         refine dq 31 rfl (fun _ g u h => LWo.pickFM (e_bool false) u.1 h17 u.2.1 (hn := .nil (zn g))) ?_
         refine dq 32 rfl (fun _ g u h => LWo.move (e_bool false) u.1 (hn := .nil (zn g))) ?_
         refine dq 33 rfl (fun _ g u h => LWo.guardY (t := 32) u.2.1 rfl rfl rfl (LWo.move (e_int t7) u.1 (hn := .nil (zn g)))) ?_
         refine dq 34 rfl (fun _ g u h => LWo.guardY (t := 32) u.1 rfl rfl rfl (LWo.int _ u.2.1 rfl rfl (hn := .nil (zn g)))) ?_
         refine dq 35 rfl (fun _ g u h => LWo.guardY (t := 32) u.1 rfl rfl rfl (LWo.move (e_bool (decide (t7 > (0 : Int)))) u.2.1 (hn := .nil (zn g)))) ?_
         refine dq 36 rfl (fun _ g u h => LWo.guardY (t := 35) u.2.1 h23 rfl rfl (LWo.move (e_Limpl_Write t0) u.1 (hn := .nil (zn g)))) ?_
         refine dq 37 rfl (fun _ g u h => LWo.guardY (t := 35) u.2.1 h23 rfl rfl (LWo.move (e_int t7) u.1 (hn := .nil (zn g)))) ?_
         refine dq 38 rfl (fun _ g u h => LWo.guardY (t := 35) u.1 h23 rfl rfl (LWo.int _ u.2.1 rfl (sub_ck e24) (hn := .nil (zn g)))) ?_
         refine dq 39 rfl (fun _ g u h => LWo.guardY (t := 35) u.1 h23 rfl rfl (LWo.indexM (f := e_impl_Write) e25 u_Limpl_Write s_impl_Write u.2.1 u.2.2.1 (hn := .nil (zn g)))) ?_
         refine dq 40 rfl (fun _ g u h => LWo.guardY (t := 35) u.1 h23 rfl rfl (LWo.fieldAddr _ u_impl_Write rfl s_int u.2.1 rfl (hn := .nil (zn g)))) ?_
         refine dq 41 rfl (fun _ g u h => LWo.guardY (t := 35) u.1 h23 rfl rfl (LWo.load1 (c := (e_int x25.Key)) g_int u.2.1 (hn := .nil (zn g)))) ?_
         refine dq 42 rfl (fun _ g u h => LWo.guardY (t := 35) u.2.1 h23 rfl rfl (LWo.fieldPtr u_impl_Write rfl s_int u.1 rfl (hn := .nil (zn g)))) ?_
         refine dq 43 rfl (fun _ g u h => LWo.guardY (t := 35) u.1 h23 rfl rfl (LWo.loadV1 (e_int y12.Key)  g_int u.2.1 h.1 rfl (hn := .nil (zn g)))) ?_
         refine dq 44 rfl (fun _ g u h => LWo.guardY (t := 35) u.1 h23 rfl rfl (LWo.int _ u.2.1 u.2.2.1 rfl (hn := .nil (zn g)))) ?_
         refine dq 45 rfl (fun _ g u h => LWo.guardY (t := 32) u.1 rfl rfl rfl (LWo.pickTM (e_bool (decide (x25.Key ≥ y12.Key))) u.2.1 h23 u.2.2.1 (hn := .nil (zn g)))) ?_
         refine dq 46 rfl (fun _ g u h => LWo.pickFM (e_bool (decide (x25.Key ≥ y12.Key))) u.1 rfl u.2.1 (hn := .nil (zn g))) ?_
         refine ⟨rfl, by kernel_rfl, hN13 (t0, t5, t6, t7, decide (x25.Key ≥ y12.Key)) _ ⟨rfl, rfl, rfl, rfl, rfl, trivial⟩ trivial h⟩
        ·have h := bF h23 h
         refine LWP.drawF (l := [_,_,_,_,_,_,_,_,_,_,_,_,_,_,_,_,_,_,_,_,_,_,_,_,_,_,_,_,_,_,_,_,_,_,_]) [] [0, 3, 4, 5, 6, 7] [([4], []), ([12], [4]), ([13], []), ([14], []), ([15], []), ([4, 16], []), ([16, 17], [4]), ([16, 18], []), ([16, 19], []), ([16, 20], []), ([21], []), ([4, 22], []), ([22, 23], [4]), ([22, 24], []), ([4, 25], []), ([25, 26], []), ([25, 27], []), ([25, 28], []), ([22, 25, 29], []), ([22, 30], []), ([31], []), ([3, 32], []), ([32, 33], []), ([32, 34], []), ([0, 35], []), ([3, 35], []), ([35, 37], []), ([35, 36, 38], []), ([35, 39], []), ([35, 40], []), ([4, 35], []), ([35, 42], []), ([35, 41, 43], []), ([32, 35, 44], []), ([32, 45], [])] [0, 5, 6, 7, 46] [] mixed (by kernel_rfl) rfl (by decide) ?_
         refine dq 12 rfl (fun _ g u h => LWo.fieldPtr u_impl_Write rfl s_int u.1 rfl (hn := .nil (zn g))) ?_
         refine dq 13 rfl (fun _ g u h => LWo.loadV1 (e_int y12.Key)  g_int u.1 h.1 rfl (hn := .nil (zn g))) ?_
         refine dq 14 rfl (fun _ g u h => LWo.vcall rfl (av1 u.1) (c_impl_keyOk _ _ e14) (.same (.nil)) (hn := .nil (zn g))) ?_
         refine dq 15 rfl (fun _ g u h => LWo.not u.1 (hn := .nil (zn g))) ?_
         refine dq 16 rfl (fun _ g u h => LWo.move (e_bool (!x14)) u.1 (hn := .nil (zn g))) ?_
         refine dq 17 rfl (fun _ g u h => LWo.guardY (t := 16) u.2.1 h15 rfl rfl (LWo.fieldPtr u_impl_Write rfl s_Limpl_Value u.1 rfl (hn := .nil (zn g)))) ?_
         refine dq 18 rfl (fun _ g u h => LWo.guardY (t := 16) u.1 h15 rfl rfl (LWo.loadV1 (e_Limpl_Value y12.Row)  g_Limpl_Value u.2.1 h.1 rfl (hn := .nil (zn g)))) ?_
         refine dq 19 rfl (fun _ g u h => LWo.guardY (t := 16) u.1 h15 rfl rfl (LWo.vcall rfl (av1 u.2.1) (c_impl_RowOk _ _ e16) (.same (.nil)) (hn := .nil (zn g)))) ?_
         refine dq 20 rfl (fun _ g u h => LWo.guardY (t := 16) u.1 h15 rfl rfl (LWo.not u.2.1 (hn := .nil (zn g)))) ?_
         refine dq 21 rfl (fun _ g u h => LWo.pickFM (e_bool (!x16)) u.1 h15 u.2.1 (hn := .nil (zn g))) ?_
         refine dq 22 rfl (fun _ g u h => LWo.move (e_bool (!x16)) u.1 (hn := .nil (zn g))) ?_
         refine dq 23 rfl (fun _ g u h => LWo.guardY (t := 22) u.2.1 h17 rfl rfl (LWo.fieldPtr u_impl_Write rfl s_bool u.1 rfl (hn := .nil (zn g)))) ?_
         refine dq 24 rfl (fun _ g u h => LWo.guardY (t := 22) u.1 h17 rfl rfl (LWo.loadV1 (e_bool y12.Gone)  g_bool u.2.1 h.1 rfl (hn := .nil (zn g)))) ?_
         refine dq 25 rfl (fun _ g u h => LWo.guardY (t := 22) u.1 h17 rfl rfl (LWo.move (e_bool y12.Gone) u.2.1 (hn := .nil (zn g)))) ?_
         refine dq 26 rfl (fun _ g u h => LWo.guardNU (t := 25) u.2.1 h18 rfl rfl rfl rfl rfl (.nil (zn g))) ?_
         refine dq 27 rfl (fun _ g u h => LWo.guardNU (t := 25) u.1 h18 rfl rfl rfl rfl rfl (.nil (zn g))) ?_
         refine dq 28 rfl (fun _ g u h => LWo.guardNU (t := 25) u.1 h18 rfl rfl rfl rfl rfl (.nil (zn g))) ?_
         refine dq 29 rfl (fun _ g u h => LWo.guardNU (t := 25) u.1 h18 rfl rfl rfl rfl rfl (.nil (zn g))) ?_
         refine dq 30 rfl (fun _ g u h => LWo.guardY (t := 22) u.1 h17 rfl rfl (LWo.pickFM (e_bool false) u.2.1 h18 rfl (hn := .nil (zn g)))) ?_
         refine dq 31 rfl (fun _ g u h => LWo.pickFM (e_bool false) u.1 h17 u.2.1 (hn := .nil (zn g))) ?_
         refine dq 32 rfl (fun _ g u h => LWo.move (e_bool false) u.1 (hn := .nil (zn g))) ?_
         refine dq 33 rfl (fun _ g u h => LWo.guardY (t := 32) u.2.1 rfl rfl rfl (LWo.move (e_int t7) u.1 (hn := .nil (zn g)))) ?_
         refine dq 34 rfl (fun _ g u h => LWo.guardY (t := 32) u.1 rfl rfl rfl (LWo.int _ u.2.1 rfl rfl (hn := .nil (zn g)))) ?_
         refine dq 35 rfl (fun _ g u h => LWo.guardY (t := 32) u.1 rfl rfl rfl (LWo.move (e_bool (decide (t7 > (0 : Int)))) u.2.1 (hn := .nil (zn g)))) ?_
         refine dq 36 rfl (fun _ g u h => LWo.guardNU (t := 35) u.2.1 h23 rfl rfl rfl rfl rfl (.nil (zn g))) ?_
         refine dq 37 rfl (fun _ g u h => LWo.guardNU (t := 35) u.2.1 h23 rfl rfl rfl rfl rfl (.nil (zn g))) ?_
         refine dq 38 rfl (fun _ g u h => LWo.guardNU (t := 35) u.1 h23 rfl rfl rfl rfl rfl (.nil (zn g))) ?_
         refine dq 39 rfl (fun _ g u h => LWo.guardNU (t := 35) u.1 h23 rfl rfl rfl rfl rfl (.nil (zn g))) ?_
         refine dq 40 rfl (fun _ g u h => LWo.guardNU (t := 35) u.1 h23 rfl rfl rfl rfl rfl (.nil (zn g))) ?_
         refine dq 41 rfl (fun _ g u h => LWo.guardNU (t := 35) u.1 h23 rfl rfl rfl rfl rfl (.nil (zn g))) ?_
         refine dq 42 rfl (fun _ g u h => LWo.guardNU (t := 35) u.2.1 h23 rfl rfl rfl rfl rfl (.nil (zn g))) ?_
         refine dq 43 rfl (fun _ g u h => LWo.guardNU (t := 35) u.1 h23 rfl rfl rfl rfl rfl (.nil (zn g))) ?_
         refine dq 44 rfl (fun _ g u h => LWo.guardNU (t := 35) u.1 h23 rfl rfl rfl rfl rfl (.nil (zn g))) ?_
         refine dq 45 rfl (fun _ g u h => LWo.guardY (t := 32) u.1 rfl rfl rfl (LWo.pickFM (e_bool false) u.2.1 h23 rfl (hn := .nil (zn g)))) ?_
         refine dq 46 rfl (fun _ g u h => LWo.pickFM (e_bool false) u.1 rfl u.2.1 (hn := .nil (zn g))) ?_
         refine ⟨rfl, by kernel_rfl, hN13 (t0, t5, t6, t7, false) _ ⟨rfl, rfl, rfl, rfl, rfl, trivial⟩ trivial h⟩
   ·have h := bF h8 h
    refine LWP.exit (hN2 t0 _ ⟨rfl, trivial⟩ trivial h)

def m_impl_LogOk_j2 (t0 : (List S_impl_Entry)) : Option Bool :=
  some (decide ((t0.length : Int) ≤ (12 : Int)))
def m_impl_LogOk_j1 (k1 : (List S_impl_Entry) → (List S_impl_Entry) → Int → Int → Option Bool) (t0 : (List S_impl_Entry)) (t5 : (List S_impl_Entry)) (t6 : Int) (t7 : Int) (t36 : Bool) : Option Bool :=
  bif t36 then (some false)
  else ((ckI (t7 + (1 : Int))).bind fun x24 =>
  k1 t0 t5 t6 x24)
def m_impl_LogOk_l1 : Nat → (List S_impl_Entry) → (List S_impl_Entry) → Int → Int → Option Bool
  | 0, _, _, _, _ => none
  | n1 + 1, t0, t5, t6, t7 =>
    bif decide (t7 < t6) then ((at? t5 t7).bind fun x11 =>
    lt (x11) fun y12 =>
    (m_impl_between y12.Time (1 : Int) (40 : Int)).bind fun x14 =>
    bif (!x14) then (m_impl_LogOk_j1  (m_impl_LogOk_l1  n1) t0 t5 t6 t7 true)
    else (bif decide (t7 > (0 : Int)) then ((ckI (t7 - (1 : Int))).bind fun x17 =>
        (at? t0 x17).bind fun x18 =>
        bif decide (x18.Time ≥ y12.Time) then (m_impl_LogOk_j1  (m_impl_LogOk_l1  n1) t0 t5 t6 t7 true)
        else ((m_impl_WritesOk y12.Writes).bind fun x20 =>
          m_impl_LogOk_j1  (m_impl_LogOk_l1  n1) t0 t5 t6 t7 (!x20)))
      else ((m_impl_WritesOk y12.Writes).bind fun x21 =>
        m_impl_LogOk_j1  (m_impl_LogOk_l1  n1) t0 t5 t6 t7 (!x21))))
    else (m_impl_LogOk_j2  t0)
def m_impl_LogOk (a0 : (List S_impl_Entry)) : Option Bool :=
  m_impl_LogOk_l1  (((a0.length : Int) - (0 : Int)).toNat + 1) a0 a0 (a0.length : Int) (0 : Int)
theorem c_impl_LogOk (a0 : (List S_impl_Entry)) (r : Bool) (h : m_impl_LogOk a0 = some r) : Ret Try.prog f_impl_LogOk [e_Limpl_Entry a0] (e_bool r) := by
  refine Does.goG [] F_impl_LogOk rfl e_impl_LogOk n_impl_LogOk rfl (rvs := [.tmp 2]) rfl rfl ?_
  intro w0 ok0 lent ρ0
  refine LWP.seq_k fun N1 hN1 => ?_
  refine LWP.region (l := [_]) ?_
  refine LWo.assign (e_bool false) rfl (hn := ?_)
  refine LWo.nil (hN1 _ ?_)
  refine LWP.join (α := (List S_impl_Entry)) (fun z : (List S_impl_Entry) => [(0, (e_Limpl_Entry z))]) (fun z : (List S_impl_Entry) => []) (fun z : (List S_impl_Entry) => m_impl_LogOk_j2  z) r (fun _ => by simp [hkeys]) ?_ ?_
  ·rintro t0 h
   replace h : m_impl_LogOk_j2  t0 = some _ := h
   refine LWP.seq_k fun N25 hN25 => ?_
   refine LWP.region (l := [_,_,_,_]) ?_
   refine LWo.move (e_Limpl_Entry t0) rfl (hn := ?_)
   refine LWo.lenM (f := e_impl_Entry) (l := t0) u_Limpl_Entry rfl (hn := ?_)
   refine LWo.int _ rfl rfl rfl (hn := ?_)
   refine LWo.assign (e_bool (decide ((t0.length : Int) ≤ (12 : Int)))) rfl (hn := ?_)
   refine LWo.nil (hN25 _ ?_)
   obtain rfl := Option.some.inj h
   refine LWP.ret (QG.mk (.inr rfl) (.cons (.tmp (x := (e_bool (decide ((t0.length : Int) ≤ (12 : Int))))) rfl) (.nil)) (RetOK.one0 (.pure rfl) (by decide)) rfl rfl)
  ·intro N2 hN2
   refine LWP.seq_k fun N3 hN3 => ?_
   refine LWP.region (l := [_,_,_]) ?_
   refine LWo.move (e_Limpl_Entry a0) rfl (hn := ?_)
   refine LWo.lenM (f := e_impl_Entry) (l := a0) u_Limpl_Entry rfl (hn := ?_)
   refine LWo.move (e_int (0 : Int)) rfl (hn := ?_)
   refine LWo.nil (hN3 _ ?_)
   refine LWP.block ?_
   refine LWP.loopM (α := (List S_impl_Entry) × (List S_impl_Entry) × Int × Int) (fun z : (List S_impl_Entry) × (List S_impl_Entry) × Int × Int => [(0, (e_Limpl_Entry z.1)), (5, (e_Limpl_Entry z.2.1)), (6, (e_int z.2.2.1)), (7, (e_int z.2.2.2))]) (fun z : (List S_impl_Entry) × (List S_impl_Entry) × Int × Int => []) (fun n1 (z : (List S_impl_Entry) × (List S_impl_Entry) × Int × Int) => m_impl_LogOk_l1  n1 z.1 z.2.1 z.2.2.1 z.2.2.2) r _ (a0, a0, (a0.length : Int), (0 : Int)) h (fun _ => rfl) (fun _ => by simp [hkeys]) ⟨rfl, rfl, rfl, rfl, trivial⟩ trivial ?_
   rintro n1 ⟨t0, t5, t6, t7⟩ h N4 hN4
   replace h : m_impl_LogOk_l1  (n1 + 1) t0 t5 t6 t7 = some _ := h
   refine LWP.seq_k fun N6 hN6 => ?_
   refine LWP.region (l := [_]) ?_
   refine LWo.int _ rfl rfl rfl (hn := ?_)
   refine LWo.nil (hN6 _ ?_)
   refine LWP.seq_k fun N7 hN7 => ?_
   refine LWP.cond_split rfl (fun h8 => ?_) (fun h8 => ?_)
   ·have h := bT h8 h
    refine LWP.skip (hN7 _ ?_)
    refine LWP.seq_k fun N9 hN9 => ?_
    refine LWP.block ?_
    refine LWP.seq_k fun N10 hN10 => ?_
    refine LWP.region (l := [_,_,_,_,_,_]) ?_
    refine LWo.move (e_int t7) rfl (hn := ?_)
    refine bk h fun x11 e11 h => ?_
    refine LWo.indexM (f := e_impl_Entry) e11 u_Limpl_Entry s_impl_Entry rfl rfl (hn := ?_)
    refine LWo.loadN ((e_impl_Entry x11)).cells g_impl_Entry s_impl_Entry rfl (Nat.le_of_ble_eq_true rfl) rfl (hn := ?_)
    refine LWo.alloc_impl_Entry 4 rfl (hn := ?_)
    refine LWo.assign (e_int t7) rfl (hn := ?_)
    refine lk h fun y12 e12 h => ?_
    refine LWo.storeW (y := (⟨(0 : Int), []⟩ : S_impl_Entry)) y12 s_impl_Entry rfl rfl rfl rfl rfl rfl (by rw [e12]; exact .refl) rfl (hn := ?_)
    refine LWo.nil (hN10 _ ?_)
    refine LWP.join (α := (List S_impl_Entry) × (List S_impl_Entry) × Int × Int × Bool) (fun z : (List S_impl_Entry) × (List S_impl_Entry) × Int × Int × Bool => [(0, (e_Limpl_Entry z.1)), (5, (e_Limpl_Entry z.2.1)), (6, (e_int z.2.2.1)), (7, (e_int z.2.2.2.1)), (36, (e_bool z.2.2.2.2))]) (fun z : (List S_impl_Entry) × (List S_impl_Entry) × Int × Int × Bool => []) (fun z : (List S_impl_Entry) × (List S_impl_Entry) × Int × Int × Bool => m_impl_LogOk_j1  (m_impl_LogOk_l1  n1) z.1 z.2.1 z.2.2.1 z.2.2.2.1 z.2.2.2.2) r (fun _ => by simp [hkeys]) ?_ ?_
    ·rintro ⟨t0, t5, t6, t7, t36⟩ h
     replace h : m_impl_LogOk_j1  (m_impl_LogOk_l1  n1) t0 t5 t6 t7 t36 = some _ := h
     refine LWP.cond_split rfl (fun h22 => ?_) (fun h22 => ?_)
     ·have h := bT h22 h
      refine LWP.seq_k fun N23 hN23 => ?_
      refine LWP.region (l := [_]) ?_
      refine LWo.assign (e_bool false) rfl (hn := ?_)
      refine LWo.nil (hN23 _ ?_)
      obtain rfl := Option.some.inj h
      refine LWP.ret (QG.mk (.inr rfl) (.cons (.tmp (x := (e_bool false)) rfl) (.nil)) (RetOK.one0 (.pure rfl) (by decide)) rfl rfl)
     ·have h := bF h22 h
      refine LWP.skip (hN9 _ ?_)
      refine LWP.region (l := [_,_]) ?_
      refine bk h fun x24 e24 h => ?_
      refine LWo.int _ rfl rfl (add_ck e24) (hn := ?_)
      refine LWo.move (e_int x24) rfl (hn := ?_)
      refine LWo.nil (hN4 (t0, t5, t6, x24) _ ⟨rfl, rfl, rfl, rfl, trivial⟩ trivial h)
    ·intro N13 hN13
     refine bk h fun x14 e14 h => ?_
     refine bS ((!x14)) (fun h15 => ?_) (fun h15 => ?_)
     ·have h := bT h15 h
      refine LWP.drawF (l := [_,_,_,_,_,_,_,_,_,_,_,_,_,_,_,_,_,_,_,_,_,_,_,_,_]) [] [0, 3, 4, 5, 6, 7] [([4], []), ([12], [4]), ([13], []), ([14], []), ([15], []), ([3, 16], []), ([16, 17], []), ([16, 18], []), ([0, 19], []), ([3, 19], []), ([19, 21], []), ([19, 20, 22], []), ([19, 23], []), ([19, 24], []), ([4, 19], []), ([19, 26], []), ([19, 25, 27], []), ([16, 19, 28], []), ([16, 29], []), ([30], []), ([4, 31], []), ([31, 32], []), ([31, 33], []), ([31, 34], []), ([31, 35], [])] [0, 5, 6, 7, 36] [] mixed (by kernel_rfl) rfl (by decide) ?_
      refine dq 12 rfl (fun _ g u h => LWo.fieldPtr u_impl_Entry rfl s_int u.1 rfl (hn := .nil (zn g))) ?_
      refine dq 13 rfl (fun _ g u h => LWo.loadV1 (e_int y12.Time)  g_int u.1 h.1 rfl (hn := .nil (zn g))) ?_
      refine dq 14 rfl (fun _ g u h => LWo.vcall rfl (av3 u.1 rfl rfl) (c_impl_between _ _ _ _ e14) (.same (.same (.same (.nil)))) (hn := .nil (zn g))) ?_
      refine dq 15 rfl (fun _ g u h => LWo.not u.1 (hn := .nil (zn g))) ?_
      refine dq 16 rfl (fun _ g u h => LWo.move (e_bool (!x14)) u.1 (hn := .nil (zn g))) ?_
      refine dq 17 rfl (fun _ g u h => LWo.guardNU (t := 16) u.2.1 h15 rfl rfl rfl rfl rfl (.nil (zn g))) ?_
      refine dq 18 rfl (fun _ g u h => LWo.guardNU (t := 16) u.1 h15 rfl rfl rfl rfl rfl (.nil (zn g))) ?_
      refine dq 19 rfl (fun _ g u h => LWo.guardNU (t := 16) u.1 h15 rfl rfl rfl rfl rfl (.nil (zn g))) ?_
      refine dq 20 rfl (fun _ g u h => LWo.guardU (t := 19) u.2.1 rfl rfl rfl rfl (.nil (zn g))) ?_
      refine dq 21 rfl (fun _ g u h => LWo.guardU (t := 19) u.2.1 rfl rfl rfl rfl (.nil (zn g))) ?_
      refine dq 22 rfl (fun _ g u h => LWo.guardU (t := 19) u.1 rfl rfl rfl rfl (.nil (zn g))) ?_
      refine dq 23 rfl (fun _ g u h => LWo.guardU (t := 19) u.1 rfl rfl rfl rfl (.nil (zn g))) ?_
      refine dq 24 rfl (fun _ g u h => LWo.guardU (t := 19) u.1 rfl rfl rfl rfl (.nil (zn g))) ?_
      refine dq 25 rfl (fun _ g u h => LWo.guardU (t := 19) u.1 rfl rfl rfl rfl (.nil (zn g))) ?_
      refine dq 26 rfl (fun _ g u h => LWo.guardU (t := 19) u.2.1 rfl rfl rfl rfl (.nil (zn g))) ?_
      refine dq 27 rfl (fun _ g u h => LWo.guardU (t := 19) u.1 rfl rfl rfl rfl (.nil (zn g))) ?_
      refine dq 28 rfl (fun _ g u h => LWo.guardU (t := 19) u.1 rfl rfl rfl rfl (.nil (zn g))) ?_
      refine dq 29 rfl (fun _ g u h => LWo.guardNU (t := 16) u.1 h15 rfl rfl rfl rfl rfl (.nil (zn g))) ?_
      refine dq 30 rfl (fun _ g u h => LWo.pickTM (e_bool true) u.1 h15 rfl (hn := .nil (zn g))) ?_
      refine dq 31 rfl (fun _ g u h => LWo.move (e_bool true) u.1 (hn := .nil (zn g))) ?_
      refine dq 32 rfl (fun _ g u h => LWo.guardNU (t := 31) u.2.1 rfl rfl rfl rfl rfl rfl (.nil (zn g))) ?_
      refine dq 33 rfl (fun _ g u h => LWo.guardNU (t := 31) u.1 rfl rfl rfl rfl rfl rfl (.nil (zn g))) ?_
      refine dq 34 rfl (fun _ g u h => LWo.guardNU (t := 31) u.1 rfl rfl rfl rfl rfl rfl (.nil (zn g))) ?_
      refine dq 35 rfl (fun _ g u h => LWo.guardNU (t := 31) u.1 rfl rfl rfl rfl rfl rfl (.nil (zn g))) ?_
      refine dq 36 rfl (fun _ g u h => LWo.pickTM (e_bool true) u.1 rfl rfl (hn := .nil (zn g))) ?_
      refine ⟨rfl, by kernel_rfl, hN13 (t0, t5, t6, t7, true) _ ⟨rfl, rfl, rfl, rfl, rfl, trivial⟩ trivial h⟩
     ·have h := bF h15 h
      refine bS (decide (t7 > (0 : Int))) (fun h16 => ?_) (fun h16 => ?_)
      ·have h := bT h16 h
       refine bk h fun x17 e17 h => ?_
       refine bk h fun x18 e18 h => ?_
       refine bS (decide (x18.Time ≥ y12.Time)) (fun h19 => ?_) (fun h19 => ?_)
       ·have h := bT h19 h
        refine LWP.drawF (l := [_,_,_,_,_,_,_,_,_,_,_,_,_,_,_,_,_,_,_,_,_,_,_,_,_]) [] [0, 3, 4, 5, 6, 7] [([4], []), ([12], [4]), ([13], []), ([14], []), ([15], []), ([3, 16], []), ([16, 17], []), ([16, 18], []), ([0, 19], []), ([3, 19], []), ([19, 21], []), ([19, 20, 22], []), ([19, 23], []), ([19, 24], []), ([4, 19], []), ([19, 26], [4]), ([19, 25, 27], []), ([16, 19, 28], []), ([16, 29], []), ([30], []), ([4, 31], []), ([31, 32], []), ([31, 33], []), ([31, 34], []), ([31, 35], [])] [0, 5, 6, 7, 36] [] mixed (by kernel_rfl) rfl (by decide) ?_
        refine dq 12 rfl (fun _ g u h => LWo.fieldPtr u_impl_Entry rfl s_int u.1 rfl (hn := .nil (zn g))) ?_
        refine dq 13 rfl (fun _ g u h => LWo.loadV1 (e_int y12.Time)  g_int u.1 h.1 rfl (hn := .nil (zn g))) ?_
        refine dq 14 rfl (fun _ g u h => LWo.vcall rfl (av3 u.1 rfl rfl) (c_impl_between _ _ _ _ e14) (.same (.same (.same (.nil)))) (hn := .nil (zn g))) ?_
        refine dq 15 rfl (fun _ g u h => LWo.not u.1 (hn := .nil (zn g))) ?_
        refine dq 16 rfl (fun _ g u h => LWo.move (e_bool (!x14)) u.1 (hn := .nil (zn g))) ?_
        refine dq 17 rfl (fun _ g u h => LWo.guardY (t := 16) u.2.1 h15 rfl rfl (LWo.move (e_int t7) u.1 (hn := .nil (zn g)))) ?_
        refine dq 18 rfl (fun _ g u h => LWo.guardY (t := 16) u.1 h15 rfl rfl (LWo.int _ u.2.1 rfl rfl (hn := .nil (zn g)))) ?_
        refine dq 19 rfl (fun _ g u h => LWo.guardY (t := 16) u.1 h15 rfl rfl (LWo.move (e_bool (decide (t7 > (0 : Int)))) u.2.1 (hn := .nil (zn g)))) ?_
        refine dq 20 rfl (fun _ g u h => LWo.guardY (t := 19) u.2.1 h16 rfl rfl (LWo.move (e_Limpl_Entry t0) u.1 (hn := .nil (zn g)))) ?_
        refine dq 21 rfl (fun _ g u h => LWo.guardY (t := 19) u.2.1 h16 rfl rfl (LWo.move (e_int t7) u.1 (hn := .nil (zn g)))) ?_
        refine dq 22 rfl (fun _ g u h => LWo.guardY (t := 19) u.1 h16 rfl rfl (LWo.int _ u.2.1 rfl (sub_ck e17) (hn := .nil (zn g)))) ?_
        refine dq 23 rfl (fun _ g u h => LWo.guardY (t := 19) u.1 h16 rfl rfl (LWo.indexM (f := e_impl_Entry) e18 u_Limpl_Entry s_impl_Entry u.2.1 u.2.2.1 (hn := .nil (zn g)))) ?_
        refine dq 24 rfl (fun _ g u h => LWo.guardY (t := 19) u.1 h16 rfl rfl (LWo.fieldAddr _ u_impl_Entry rfl s_int u.2.1 rfl (hn := .nil (zn g)))) ?_
        refine dq 25 rfl (fun _ g u h => LWo.guardY (t := 19) u.1 h16 rfl rfl (LWo.load1 (c := (e_int x18.Time)) g_int u.2.1 (hn := .nil (zn g)))) ?_
        refine dq 26 rfl (fun _ g u h => LWo.guardY (t := 19) u.2.1 h16 rfl rfl (LWo.fieldPtr u_impl_Entry rfl s_int u.1 rfl (hn := .nil (zn g)))) ?_
        refine dq 27 rfl (fun _ g u h => LWo.guardY (t := 19) u.1 h16 rfl rfl (LWo.loadV1 (e_int y12.Time)  g_int u.2.1 h.1 rfl (hn := .nil (zn g)))) ?_
        refine dq 28 rfl (fun _ g u h => LWo.guardY (t := 19) u.1 h16 rfl rfl (LWo.int _ u.2.1 u.2.2.1 rfl (hn := .nil (zn g)))) ?_
        refine dq 29 rfl (fun _ g u h => LWo.guardY (t := 16) u.1 h15 rfl rfl (LWo.pickTM (e_bool (decide (x18.Time ≥ y12.Time))) u.2.1 h16 u.2.2.1 (hn := .nil (zn g)))) ?_
        refine dq 30 rfl (fun _ g u h => LWo.pickFM (e_bool (decide (x18.Time ≥ y12.Time))) u.1 h15 u.2.1 (hn := .nil (zn g))) ?_
        refine dq 31 rfl (fun _ g u h => LWo.move (e_bool (decide (x18.Time ≥ y12.Time))) u.1 (hn := .nil (zn g))) ?_
        refine dq 32 rfl (fun _ g u h => LWo.guardNU (t := 31) u.2.1 h19 rfl rfl rfl rfl rfl (.nil (zn g))) ?_
        refine dq 33 rfl (fun _ g u h => LWo.guardNU (t := 31) u.1 h19 rfl rfl rfl rfl rfl (.nil (zn g))) ?_
        refine dq 34 rfl (fun _ g u h => LWo.guardNU (t := 31) u.1 h19 rfl rfl rfl rfl rfl (.nil (zn g))) ?_
        refine dq 35 rfl (fun _ g u h => LWo.guardNU (t := 31) u.1 h19 rfl rfl rfl rfl rfl (.nil (zn g))) ?_
        refine dq 36 rfl (fun _ g u h => LWo.pickTM (e_bool true) u.1 h19 rfl (hn := .nil (zn g))) ?_
        refine ⟨rfl, by kernel_rfl, hN13 (t0, t5, t6, t7, true) _ ⟨rfl, rfl, rfl, rfl, rfl, trivial⟩ trivial h⟩
       ·have h := bF h19 h
        refine bk h fun x20 e20 h => ?_
        refine LWP.drawF (l := [_,_,_,_,_,_,_,_,_,_,_,_,_,_,_,_,_,_,_,_,_,_,_,_,_]) [] [0, 3, 4, 5, 6, 7] [([4], []), ([12], [4]), ([13], []), ([14], []), ([15], []), ([3, 16], []), ([16, 17], []), ([16, 18], []), ([0, 19], []), ([3, 19], []), ([19, 21], []), ([19, 20, 22], []), ([19, 23], []), ([19, 24], []), ([4, 19], []), ([19, 26], [4]), ([19, 25, 27], []), ([16, 19, 28], []), ([16, 29], []), ([30], []), ([4, 31], []), ([31, 32], [4]), ([31, 33], []), ([31, 34], []), ([31, 35], [])] [0, 5, 6, 7, 36] [] mixed (by kernel_rfl) rfl (by decide) ?_
        refine dq 12 rfl (fun _ g u h => LWo.fieldPtr u_impl_Entry rfl s_int u.1 rfl (hn := .nil (zn g))) ?_
        refine dq 13 rfl (fun _ g u h => LWo.loadV1 (e_int y12.Time)  g_int u.1 h.1 rfl (hn := .nil (zn g))) ?_
        refine dq 14 rfl (fun _ g u h => LWo.vcall rfl (av3 u.1 rfl rfl) (c_impl_between _ _ _ _ e14) (.same (.same (.same (.nil)))) (hn := .nil (zn g))) ?_
        refine dq 15 rfl (fun _ g u h => LWo.not u.1 (hn := .nil (zn g))) ?_
        refine dq 16 rfl (fun _ g u h => LWo.move (e_bool (!x14)) u.1 (hn := .nil (zn g))) ?_
        refine dq 17 rfl (fun _ g u h => LWo.guardY (t := 16) u.2.1 h15 rfl rfl (LWo.move (e_int t7) u.1 (hn := .nil (zn g)))) ?_
        refine dq 18 rfl (fun _ g u h => LWo.guardY (t := 16) u.1 h15 rfl rfl (LWo.int _ u.2.1 rfl rfl (hn := .nil (zn g)))) ?_
        refine dq 19 rfl (fun _ g u h => LWo.guardY (t := 16) u.1 h15 rfl rfl (LWo.move (e_bool (decide (t7 > (0 : Int)))) u.2.1 (hn := .nil (zn g)))) ?_
        refine dq 20 rfl (fun _ g u h => LWo.guardY (t := 19) u.2.1 h16 rfl rfl (LWo.move (e_Limpl_Entry t0) u.1 (hn := .nil (zn g)))) ?_
        refine dq 21 rfl (fun _ g u h => LWo.guardY (t := 19) u.2.1 h16 rfl rfl (LWo.move (e_int t7) u.1 (hn := .nil (zn g)))) ?_
        refine dq 22 rfl (fun _ g u h => LWo.guardY (t := 19) u.1 h16 rfl rfl (LWo.int _ u.2.1 rfl (sub_ck e17) (hn := .nil (zn g)))) ?_
        refine dq 23 rfl (fun _ g u h => LWo.guardY (t := 19) u.1 h16 rfl rfl (LWo.indexM (f := e_impl_Entry) e18 u_Limpl_Entry s_impl_Entry u.2.1 u.2.2.1 (hn := .nil (zn g)))) ?_
        refine dq 24 rfl (fun _ g u h => LWo.guardY (t := 19) u.1 h16 rfl rfl (LWo.fieldAddr _ u_impl_Entry rfl s_int u.2.1 rfl (hn := .nil (zn g)))) ?_
        refine dq 25 rfl (fun _ g u h => LWo.guardY (t := 19) u.1 h16 rfl rfl (LWo.load1 (c := (e_int x18.Time)) g_int u.2.1 (hn := .nil (zn g)))) ?_
        refine dq 26 rfl (fun _ g u h => LWo.guardY (t := 19) u.2.1 h16 rfl rfl (LWo.fieldPtr u_impl_Entry rfl s_int u.1 rfl (hn := .nil (zn g)))) ?_
        refine dq 27 rfl (fun _ g u h => LWo.guardY (t := 19) u.1 h16 rfl rfl (LWo.loadV1 (e_int y12.Time)  g_int u.2.1 h.1 rfl (hn := .nil (zn g)))) ?_
        refine dq 28 rfl (fun _ g u h => LWo.guardY (t := 19) u.1 h16 rfl rfl (LWo.int _ u.2.1 u.2.2.1 rfl (hn := .nil (zn g)))) ?_
        refine dq 29 rfl (fun _ g u h => LWo.guardY (t := 16) u.1 h15 rfl rfl (LWo.pickTM (e_bool (decide (x18.Time ≥ y12.Time))) u.2.1 h16 u.2.2.1 (hn := .nil (zn g)))) ?_
        refine dq 30 rfl (fun _ g u h => LWo.pickFM (e_bool (decide (x18.Time ≥ y12.Time))) u.1 h15 u.2.1 (hn := .nil (zn g))) ?_
        refine dq 31 rfl (fun _ g u h => LWo.move (e_bool (decide (x18.Time ≥ y12.Time))) u.1 (hn := .nil (zn g))) ?_
        refine dq 32 rfl (fun _ g u h => LWo.guardY (t := 31) u.2.1 h19 rfl rfl (LWo.fieldPtr u_impl_Entry rfl s_Limpl_Write u.1 rfl (hn := .nil (zn g)))) ?_
        refine dq 33 rfl (fun _ g u h => LWo.guardY (t := 31) u.1 h19 rfl rfl (LWo.loadV1 (e_Limpl_Write y12.Writes)  g_Limpl_Write u.2.1 h.1 rfl (hn := .nil (zn g)))) ?_
        refine dq 34 rfl (fun _ g u h => LWo.guardY (t := 31) u.1 h19 rfl rfl (LWo.vcall rfl (av1 u.2.1) (c_impl_WritesOk _ _ e20) (.same (.nil)) (hn := .nil (zn g)))) ?_
        refine dq 35 rfl (fun _ g u h => LWo.guardY (t := 31) u.1 h19 rfl rfl (LWo.not u.2.1 (hn := .nil (zn g)))) ?_
        refine dq 36 rfl (fun _ g u h => LWo.pickFM (e_bool (!x20)) u.1 h19 u.2.1 (hn := .nil (zn g))) ?_
        refine ⟨rfl, by kernel_rfl, hN13 (t0, t5, t6, t7, (!x20)) _ ⟨rfl, rfl, rfl, rfl, rfl, trivial⟩ trivial h⟩
      ·have h := bF h16 h
       refine bk h fun x21 e21 h => ?_
       refine LWP.drawF (l := [_,_,_,_,_,_,_,_,_,_,_,_,_,_,_,_,_,_,_,_,_,_,_,_,_]) [] [0, 3, 4, 5, 6, 7] [([4], []), ([12], [4]), ([13], []), ([14], []), ([15], []), ([3, 16], []), ([16, 17], []), ([16, 18], []), ([0, 19], []), ([3, 19], []), ([19, 21], []), ([19, 20, 22], []), ([19, 23], []), ([19, 24], []), ([4, 19], []), ([19, 26], []), ([19, 25, 27], []), ([16, 19, 28], []), ([16, 29], []), ([30], []), ([4, 31], []), ([31, 32], [4]), ([31, 33], []), ([31, 34], []), ([31, 35], [])] [0, 5, 6, 7, 36] [] mixed (by kernel_rfl) rfl (by decide) ?_
       refine dq 12 rfl (fun _ g u h => LWo.fieldPtr u_impl_Entry rfl s_int u.1 rfl (hn := .nil (zn g))) ?_
       refine dq 13 rfl (fun _ g u h => LWo.loadV1 (e_int y12.Time)  g_int u.1 h.1 rfl (hn := .nil (zn g))) ?_
       refine dq 14 rfl (fun _ g u h => LWo.vcall rfl (av3 u.1 rfl rfl) (c_impl_between _ _ _ _ e14) (.same (.same (.same (.nil)))) (hn := .nil (zn g))) ?_
       refine dq 15 rfl (fun _ g u h => LWo.not u.1 (hn := .nil (zn g))) ?_
       refine dq 16 rfl (fun _ g u h => LWo.move (e_bool (!x14)) u.1 (hn := .nil (zn g))) ?_
       refine dq 17 rfl (fun _ g u h => LWo.guardY (t := 16) u.2.1 h15 rfl rfl (LWo.move (e_int t7) u.1 (hn := .nil (zn g)))) ?_
       refine dq 18 rfl (fun _ g u h => LWo.guardY (t := 16) u.1 h15 rfl rfl (LWo.int _ u.2.1 rfl rfl (hn := .nil (zn g)))) ?_
       refine dq 19 rfl (fun _ g u h => LWo.guardY (t := 16) u.1 h15 rfl rfl (LWo.move (e_bool (decide (t7 > (0 : Int)))) u.2.1 (hn := .nil (zn g)))) ?_
       refine dq 20 rfl (fun _ g u h => LWo.guardNU (t := 19) u.2.1 h16 rfl rfl rfl rfl rfl (.nil (zn g))) ?_
       refine dq 21 rfl (fun _ g u h => LWo.guardNU (t := 19) u.2.1 h16 rfl rfl rfl rfl rfl (.nil (zn g))) ?_
       refine dq 22 rfl (fun _ g u h => LWo.guardNU (t := 19) u.1 h16 rfl rfl rfl rfl rfl (.nil (zn g))) ?_
       refine dq 23 rfl (fun _ g u h => LWo.guardNU (t := 19) u.1 h16 rfl rfl rfl rfl rfl (.nil (zn g))) ?_
       refine dq 24 rfl (fun _ g u h => LWo.guardNU (t := 19) u.1 h16 rfl rfl rfl rfl rfl (.nil (zn g))) ?_
       refine dq 25 rfl (fun _ g u h => LWo.guardNU (t := 19) u.1 h16 rfl rfl rfl rfl rfl (.nil (zn g))) ?_
       refine dq 26 rfl (fun _ g u h => LWo.guardNU (t := 19) u.2.1 h16 rfl rfl rfl rfl rfl (.nil (zn g))) ?_
       refine dq 27 rfl (fun _ g u h => LWo.guardNU (t := 19) u.1 h16 rfl rfl rfl rfl rfl (.nil (zn g))) ?_
       refine dq 28 rfl (fun _ g u h => LWo.guardNU (t := 19) u.1 h16 rfl rfl rfl rfl rfl (.nil (zn g))) ?_
       refine dq 29 rfl (fun _ g u h => LWo.guardY (t := 16) u.1 h15 rfl rfl (LWo.pickFM (e_bool false) u.2.1 h16 rfl (hn := .nil (zn g)))) ?_
       refine dq 30 rfl (fun _ g u h => LWo.pickFM (e_bool false) u.1 h15 u.2.1 (hn := .nil (zn g))) ?_
       refine dq 31 rfl (fun _ g u h => LWo.move (e_bool false) u.1 (hn := .nil (zn g))) ?_
       refine dq 32 rfl (fun _ g u h => LWo.guardY (t := 31) u.2.1 rfl rfl rfl (LWo.fieldPtr u_impl_Entry rfl s_Limpl_Write u.1 rfl (hn := .nil (zn g)))) ?_
       refine dq 33 rfl (fun _ g u h => LWo.guardY (t := 31) u.1 rfl rfl rfl (LWo.loadV1 (e_Limpl_Write y12.Writes)  g_Limpl_Write u.2.1 h.1 rfl (hn := .nil (zn g)))) ?_
       refine dq 34 rfl (fun _ g u h => LWo.guardY (t := 31) u.1 rfl rfl rfl (LWo.vcall rfl (av1 u.2.1) (c_impl_WritesOk _ _ e21) (.same (.nil)) (hn := .nil (zn g)))) ?_
       refine dq 35 rfl (fun _ g u h => LWo.guardY (t := 31) u.1 rfl rfl rfl (LWo.not u.2.1 (hn := .nil (zn g)))) ?_
       refine dq 36 rfl (fun _ g u h => LWo.pickFM (e_bool (!x21)) u.1 rfl u.2.1 (hn := .nil (zn g))) ?_
       refine ⟨rfl, by kernel_rfl, hN13 (t0, t5, t6, t7, (!x21)) _ ⟨rfl, rfl, rfl, rfl, rfl, trivial⟩ trivial h⟩
   ·have h := bF h8 h
    refine LWP.exit (hN2 t0 _ ⟨rfl, trivial⟩ trivial h)

theorem cc_slices_Clip_Limpl_Value_impl_Value (xs : List LV) : Does Try.prog f_slices_Clip_Limpl_Value_impl_Value [.own 0 0 xs.length] [(0, { kind := .fro, sz := 3, elems := xs })] (fun r h => r = .nw 3 xs false ∧ h = []) := by
  refine Does.go [0] F_slices_Clip_Limpl_Value_impl_Value rfl e_slices_Clip_Limpl_Value_impl_Value n_slices_Clip_Limpl_Value_impl_Value rfl (ts := [2]) rfl rfl rfl ?_
  intro w0 ok0 lent ρ0
  refine LWP.seq_k fun N1 hN1 => ?_
  refine LWP.region (l := [_]) ?_
  refine LWo.assign _ rfl (hn := ?_)
  refine LWo.nil (hN1 _ ?_)
  refine LWP.seq_k fun N2 hN2 => ?_
  refine LWP.region (l := [_,_,_,_,_,_,_]) ?_
  refine LWo.move _ rfl (hn := ?_)
  refine LWo.move _ rfl (hn := ?_)
  refine LWo.len u_Limpl_Value rfl (hn := ?_)
  refine LWo.move _ rfl (hn := ?_)
  refine LWo.len u_Limpl_Value rfl (hn := ?_)
  refine LWo.cutOwn (l := 0) (h := xs.length) u_Limpl_Value s_impl_Value rfl rfl rfl rfl ⟨_, rfl⟩ ⟨_, _, rfl, Nat.le_refl _, Nat.le_refl _⟩ (.inr (by simp)) (Nat.zero_le _) (Nat.le_refl _) rfl rfl (hn := ?_)
  refine LWo.assign _ rfl (hn := ?_)
  refine LWo.nil (hN2 _ ?_)
  refine LWP.ret (QRet.own1 (.inr rfl) rfl rfl rfl rfl (by simp) ⟨?_, rfl⟩)
  clear hN1 hN2
  exact congrArg (fun l => LV.nw 3 l false) (by simp)
def m_slices_Clip_Limpl_Value_impl_Value_o (o0 : List S_impl_Value) : Option (List S_impl_Value) := some o0
theorem c_slices_Clip_Limpl_Value_impl_Value_o (o0 : List S_impl_Value) (r : List S_impl_Value) (h : m_slices_Clip_Limpl_Value_impl_Value_o o0 = some r) : Does Try.prog f_slices_Clip_Limpl_Value_impl_Value [.own 0 0 o0.length] [(0, lob 3 e_impl_Value o0)] (fun x hh => x = .nw 3 (r.map e_impl_Value) false ∧ hh = []) := by
  cases h
  have := cc_slices_Clip_Limpl_Value_impl_Value (o0.map e_impl_Value)
  rw [List.length_map] at this
  exact this



theorem ccd_slices_Clip_Limpl_Value_impl_Value (xs : List LV) : Does Try.prog f_slices_Clip_Limpl_Value_impl_Value [.own 0 0 xs.length] [(0, { kind := .deep, sz := 3, elems := xs })] (fun r h => r = .nw 3 xs true ∧ h = []) := by
  refine Does.go [0] F_slices_Clip_Limpl_Value_impl_Value rfl e_slices_Clip_Limpl_Value_impl_Value n_slices_Clip_Limpl_Value_impl_Value rfl (ts := [2]) rfl rfl rfl ?_
  intro w0 ok0 lent ρ0
  refine LWP.seq_k fun N1 hN1 => ?_
  refine LWP.region (l := [_]) ?_
  refine LWo.assign _ rfl (hn := ?_)
  refine LWo.nil (hN1 _ ?_)
  refine LWP.seq_k fun N2 hN2 => ?_
  refine LWP.region (l := [_,_,_,_,_,_,_]) ?_
  refine LWo.move _ rfl (hn := ?_)
  refine LWo.move _ rfl (hn := ?_)
  refine LWo.len u_Limpl_Value rfl (hn := ?_)
  refine LWo.move _ rfl (hn := ?_)
  refine LWo.len u_Limpl_Value rfl (hn := ?_)
  refine LWo.cutOwn (l := 0) (h := xs.length) u_Limpl_Value s_impl_Value rfl rfl rfl rfl ⟨_, rfl⟩ ⟨_, _, rfl, Nat.le_refl _, Nat.le_refl _⟩ (.inr (by simp)) (Nat.zero_le _) (Nat.le_refl _) rfl rfl (hn := ?_)
  refine LWo.assign _ rfl (hn := ?_)
  refine LWo.nil (hN2 _ ?_)
  refine LWP.ret (QRet.own1D (.inr rfl) rfl rfl rfl rfl (by simp) ⟨?_, rfl⟩)
  clear hN1 hN2
  exact congrArg (fun l => LV.nw 3 l true) (by simp)
def m_slices_Clip_Limpl_Value_impl_Value_d (o0 : List S_impl_Value) : Option (List S_impl_Value) := some o0
theorem c_slices_Clip_Limpl_Value_impl_Value_d (o0 : List S_impl_Value) (r : List S_impl_Value) (h : m_slices_Clip_Limpl_Value_impl_Value_d o0 = some r) : Does Try.prog f_slices_Clip_Limpl_Value_impl_Value [.own 0 0 o0.length] [(0, dob 3 e_impl_Value o0)] (fun x hh => x = .nw 3 (r.map e_impl_Value) true ∧ hh = []) := by
  cases h
  have := ccd_slices_Clip_Limpl_Value_impl_Value (o0.map e_impl_Value)
  rw [List.length_map] at this
  exact this



def m_slices_Clip_Limpl_Value_impl_Value (a0 : (List S_impl_Value)) : Option (List S_impl_Value) :=
  (cut3? a0 (0 : Int) (a0.length : Int) (a0.length : Int)).bind fun x3 =>
  some x3
theorem c_slices_Clip_Limpl_Value_impl_Value (a0 : (List S_impl_Value)) (r : (List S_impl_Value)) (h : m_slices_Clip_Limpl_Value_impl_Value a0 = some r) : Ret Try.prog f_slices_Clip_Limpl_Value_impl_Value [e_Limpl_Value a0] (e_Limpl_Value r) := by
  refine Does.goG [] F_slices_Clip_Limpl_Value_impl_Value rfl e_slices_Clip_Limpl_Value_impl_Value n_slices_Clip_Limpl_Value_impl_Value rfl (rvs := [.tmp 2]) rfl rfl ?_
  intro w0 ok0 lent ρ0
  refine LWP.seq_k fun N1 hN1 => ?_
  refine LWP.region (l := [_]) ?_
  refine LWo.assign _ rfl (hn := ?_)
  refine LWo.weakT 2 (e_Limpl_Value ([] : (List S_impl_Value))) rfl .nil ?_
  refine LWo.nil (hN1 _ ?_)
  refine LWP.seq_k fun N2 hN2 => ?_
  refine LWP.region (l := [_,_,_,_,_,_,_]) ?_
  refine LWo.move (e_Limpl_Value a0) rfl (hn := ?_)
  refine LWo.move (e_Limpl_Value a0) rfl (hn := ?_)
  refine LWo.lenM (f := e_impl_Value) (l := a0) u_Limpl_Value rfl (hn := ?_)
  refine LWo.move (e_Limpl_Value a0) rfl (hn := ?_)
  refine LWo.lenM (f := e_impl_Value) (l := a0) u_Limpl_Value rfl (hn := ?_)
  refine bk h fun x3 e3 h => ?_
  refine LWo.cutM3 (f := e_impl_Value) e3 u_Limpl_Value s_impl_Value rfl rfl ⟨_, rfl⟩ ⟨_, rfl⟩ (hn := ?_)
  refine LWo.assign (e_Limpl_Value x3) rfl (hn := ?_)
  refine LWo.nil (hN2 _ ?_)
  obtain rfl := Option.some.inj h
  refine LWP.ret (QG.mk (.inr rfl) (.cons (.tmp (x := (e_Limpl_Value x3)) rfl) (.nil)) (RetOK.one0 (.pure rfl) (by decide)) rfl rfl)

def m_impl_clone_impl_Value (a0 : (List S_impl_Value)) : Option (List S_impl_Value) :=
  bif ((a0.length : Int) == (0 : Int)) then (some ([] : (List S_impl_Value)))
  else ((appN? a0).bind fun x7 =>
  (m_slices_Clip_Limpl_Value_impl_Value_o x7).bind fun x8 =>
  some x8)
theorem c_impl_clone_impl_Value (a0 : (List S_impl_Value)) (r : (List S_impl_Value)) (h : m_impl_clone_impl_Value a0 = some r) : Ret Try.prog f_impl_clone_impl_Value [e_Limpl_Value a0] (.nw 3 (r.map e_impl_Value) false) := by
  refine Does.goG [] F_impl_clone_impl_Value rfl e_impl_clone_impl_Value n_impl_clone_impl_Value rfl (rvs := [.tmp 2]) rfl rfl ?_
  intro w0 ok0 lent ρ0
  refine LWP.seq_k fun N1 hN1 => ?_
  refine LWP.region (l := [_]) ?_
  refine LWo.assign _ rfl (hn := ?_)
  refine LWo.ownNil 2 1002 3 rfl rfl rfl ?_
  refine LWo.known 2 (.own 1002 0 ([] : (List S_impl_Value)).length) rfl ?_
  refine LWo.nil (hN1 _ ?_)
  refine LWP.seq_k fun N2 hN2 => ?_
  refine LWP.seq_k fun N3 hN3 => ?_
  refine LWP.region (l := [_,_,_]) ?_
  refine LWo.move (e_Limpl_Value a0) rfl (hn := ?_)
  refine LWo.lenM (f := e_impl_Value) (l := a0) u_Limpl_Value rfl (hn := ?_)
  refine LWo.int _ rfl rfl rfl (hn := ?_)
  refine LWo.nil (hN3 _ ?_)
  refine LWP.cond_split rfl (fun h4 => ?_) (fun h4 => ?_)
  ·have h := bT h4 h
   refine LWP.seq_k fun N5 hN5 => ?_
   refine LWP.region (l := [_]) ?_
   refine LWo.assign _ rfl (hn := ?_)
   refine LWo.ownNil 2 1002 3 rfl rfl rfl ?_
   refine LWo.known 2 (.own 1002 0 ([] : (List S_impl_Value)).length) rfl ?_
   refine LWo.nil (hN5 _ ?_)
   obtain rfl := Option.some.inj h
   refine LWP.ret (QG.mk (.inr rfl) (.cons (.tmp (x := (.own 1002 0 (([] : (List S_impl_Value))).length)) rfl) (.nil)) (RetOK.one0 (.nwM rfl rfl) (by decide)) rfl rfl)
  ·have h := bF h4 h
   refine LWP.skip (hN2 _ ?_)
   refine LWP.seq_k fun N6 hN6 => ?_
   refine LWP.region (l := [_,_,_,_]) ?_
   refine LWo.move (e_Limpl_Value a0) rfl (hn := ?_)
   refine bk h fun x7 e7 h => ?_
   refine LWo.appendC (f := e_impl_Value) 1007 e7 u_Limpl_Value u_Limpl_Value (fun _ h => by cases h) i_impl_Value rfl rfl (.sl rfl) (fun _ => rfl) rfl rfl (hn := ?_)
   refine bk h fun x8 e8 h => ?_
   refine LWo.tcallN (e := e_impl_Value) (e' := e_impl_Value) 1008 rfl rfl (c_slices_Clip_Limpl_Value_impl_Value_o _ _ e8) (fun _ => rfl) rfl rfl rfl rfl (hn := ?_)
   refine LWo.assign (.own 1008 0 (x8).length) rfl (hn := ?_)
   refine LWo.nil (hN6 _ ?_)
   obtain rfl := Option.some.inj h
   refine LWP.ret (QG.mk (.inr rfl) (.cons (.tmp (x := (.own 1008 0 (x8).length)) rfl) (.nil)) (RetOK.one0 (.nwM rfl rfl) (by decide)) rfl rfl)

theorem cc_slices_Clip_Limpl_Version_impl_Version (xs : List LV) : Does Try.prog f_slices_Clip_Limpl_Version_impl_Version [.own 0 0 xs.length] [(0, { kind := .fro, sz := 4, elems := xs })] (fun r h => r = .nw 4 xs false ∧ h = []) := by
  refine Does.go [0] F_slices_Clip_Limpl_Version_impl_Version rfl e_slices_Clip_Limpl_Version_impl_Version n_slices_Clip_Limpl_Version_impl_Version rfl (ts := [2]) rfl rfl rfl ?_
  intro w0 ok0 lent ρ0
  refine LWP.seq_k fun N1 hN1 => ?_
  refine LWP.region (l := [_]) ?_
  refine LWo.assign _ rfl (hn := ?_)
  refine LWo.nil (hN1 _ ?_)
  refine LWP.seq_k fun N2 hN2 => ?_
  refine LWP.region (l := [_,_,_,_,_,_,_]) ?_
  refine LWo.move _ rfl (hn := ?_)
  refine LWo.move _ rfl (hn := ?_)
  refine LWo.len u_Limpl_Version rfl (hn := ?_)
  refine LWo.move _ rfl (hn := ?_)
  refine LWo.len u_Limpl_Version rfl (hn := ?_)
  refine LWo.cutOwn (l := 0) (h := xs.length) u_Limpl_Version s_impl_Version rfl rfl rfl rfl ⟨_, rfl⟩ ⟨_, _, rfl, Nat.le_refl _, Nat.le_refl _⟩ (.inr (by simp)) (Nat.zero_le _) (Nat.le_refl _) rfl rfl (hn := ?_)
  refine LWo.assign _ rfl (hn := ?_)
  refine LWo.nil (hN2 _ ?_)
  refine LWP.ret (QRet.own1 (.inr rfl) rfl rfl rfl rfl (by simp) ⟨?_, rfl⟩)
  clear hN1 hN2
  exact congrArg (fun l => LV.nw 4 l false) (by simp)
def m_slices_Clip_Limpl_Version_impl_Version_o (o0 : List S_impl_Version) : Option (List S_impl_Version) := some o0
theorem c_slices_Clip_Limpl_Version_impl_Version_o (o0 : List S_impl_Version) (r : List S_impl_Version) (h : m_slices_Clip_Limpl_Version_impl_Version_o o0 = some r) : Does Try.prog f_slices_Clip_Limpl_Version_impl_Version [.own 0 0 o0.length] [(0, lob 4 e_impl_Version o0)] (fun x hh => x = .nw 4 (r.map e_impl_Version) false ∧ hh = []) := by
  cases h
  have := cc_slices_Clip_Limpl_Version_impl_Version (o0.map e_impl_Version)
  rw [List.length_map] at this
  exact this



theorem ccd_slices_Clip_Limpl_Version_impl_Version (xs : List LV) : Does Try.prog f_slices_Clip_Limpl_Version_impl_Version [.own 0 0 xs.length] [(0, { kind := .deep, sz := 4, elems := xs })] (fun r h => r = .nw 4 xs true ∧ h = []) := by
  refine Does.go [0] F_slices_Clip_Limpl_Version_impl_Version rfl e_slices_Clip_Limpl_Version_impl_Version n_slices_Clip_Limpl_Version_impl_Version rfl (ts := [2]) rfl rfl rfl ?_
  intro w0 ok0 lent ρ0
  refine LWP.seq_k fun N1 hN1 => ?_
  refine LWP.region (l := [_]) ?_
  refine LWo.assign _ rfl (hn := ?_)
  refine LWo.nil (hN1 _ ?_)
  refine LWP.seq_k fun N2 hN2 => ?_
  refine LWP.region (l := [_,_,_,_,_,_,_]) ?_
  refine LWo.move _ rfl (hn := ?_)
  refine LWo.move _ rfl (hn := ?_)
  refine LWo.len u_Limpl_Version rfl (hn := ?_)
  refine LWo.move _ rfl (hn := ?_)
  refine LWo.len u_Limpl_Version rfl (hn := ?_)
  refine LWo.cutOwn (l := 0) (h := xs.length) u_Limpl_Version s_impl_Version rfl rfl rfl rfl ⟨_, rfl⟩ ⟨_, _, rfl, Nat.le_refl _, Nat.le_refl _⟩ (.inr (by simp)) (Nat.zero_le _) (Nat.le_refl _) rfl rfl (hn := ?_)
  refine LWo.assign _ rfl (hn := ?_)
  refine LWo.nil (hN2 _ ?_)
  refine LWP.ret (QRet.own1D (.inr rfl) rfl rfl rfl rfl (by simp) ⟨?_, rfl⟩)
  clear hN1 hN2
  exact congrArg (fun l => LV.nw 4 l true) (by simp)
def m_slices_Clip_Limpl_Version_impl_Version_d (o0 : List S_impl_Version) : Option (List S_impl_Version) := some o0
theorem c_slices_Clip_Limpl_Version_impl_Version_d (o0 : List S_impl_Version) (r : List S_impl_Version) (h : m_slices_Clip_Limpl_Version_impl_Version_d o0 = some r) : Does Try.prog f_slices_Clip_Limpl_Version_impl_Version [.own 0 0 o0.length] [(0, dob 4 e_impl_Version o0)] (fun x hh => x = .nw 4 (r.map e_impl_Version) true ∧ hh = []) := by
  cases h
  have := ccd_slices_Clip_Limpl_Version_impl_Version (o0.map e_impl_Version)
  rw [List.length_map] at this
  exact this



def m_slices_Clip_Limpl_Version_impl_Version (a0 : (List S_impl_Version)) : Option (List S_impl_Version) :=
  (cut3? a0 (0 : Int) (a0.length : Int) (a0.length : Int)).bind fun x3 =>
  some x3
theorem c_slices_Clip_Limpl_Version_impl_Version (a0 : (List S_impl_Version)) (r : (List S_impl_Version)) (h : m_slices_Clip_Limpl_Version_impl_Version a0 = some r) : Ret Try.prog f_slices_Clip_Limpl_Version_impl_Version [e_Limpl_Version a0] (e_Limpl_Version r) := by
  refine Does.goG [] F_slices_Clip_Limpl_Version_impl_Version rfl e_slices_Clip_Limpl_Version_impl_Version n_slices_Clip_Limpl_Version_impl_Version rfl (rvs := [.tmp 2]) rfl rfl ?_
  intro w0 ok0 lent ρ0
  refine LWP.seq_k fun N1 hN1 => ?_
  refine LWP.region (l := [_]) ?_
  refine LWo.assign _ rfl (hn := ?_)
  refine LWo.weakT 2 (e_Limpl_Version ([] : (List S_impl_Version))) rfl .nil ?_
  refine LWo.nil (hN1 _ ?_)
  refine LWP.seq_k fun N2 hN2 => ?_
  refine LWP.region (l := [_,_,_,_,_,_,_]) ?_
  refine LWo.move (e_Limpl_Version a0) rfl (hn := ?_)
  refine LWo.move (e_Limpl_Version a0) rfl (hn := ?_)
  refine LWo.lenM (f := e_impl_Version) (l := a0) u_Limpl_Version rfl (hn := ?_)
  refine LWo.move (e_Limpl_Version a0) rfl (hn := ?_)
  refine LWo.lenM (f := e_impl_Version) (l := a0) u_Limpl_Version rfl (hn := ?_)
  refine bk h fun x3 e3 h => ?_
  refine LWo.cutM3 (f := e_impl_Version) e3 u_Limpl_Version s_impl_Version rfl rfl ⟨_, rfl⟩ ⟨_, rfl⟩ (hn := ?_)
  refine LWo.assign (e_Limpl_Version x3) rfl (hn := ?_)
  refine LWo.nil (hN2 _ ?_)
  obtain rfl := Option.some.inj h
  refine LWP.ret (QG.mk (.inr rfl) (.cons (.tmp (x := (e_Limpl_Version x3)) rfl) (.nil)) (RetOK.one0 (.pure rfl) (by decide)) rfl rfl)

def m_impl_versionsCopy_j1 (o1003 : (List S_impl_Version)) : Option (List S_impl_Version) :=
  (m_slices_Clip_Limpl_Version_impl_Version_d o1003).bind fun x19 =>
  some x19
def m_impl_versionsCopy_l1 : Nat → (List S_impl_Version) → Int → Int → (List S_impl_Version) → Option (List S_impl_Version)
  | 0, _, _, _, _ => none
  | n1 + 1, t6, t7, t8, o1003 =>
    bif decide (t8 < t7) then ((at? t6 t8).bind fun x12 =>
    lt (x12) fun y13 =>
    (m_impl_clone_impl_Value y13.Row).bind fun x15 =>
    (app? o1003 ([{ y13 with Row := x15 }] : (List S_impl_Version))).bind fun x16 =>
    (ckI (t8 + (1 : Int))).bind fun x17 =>
    (m_impl_versionsCopy_l1  n1) t6 t7 x17 x16)
    else (m_impl_versionsCopy_j1  o1003)
def m_impl_versionsCopy (a0 : (List S_impl_Version)) : Option (List S_impl_Version) :=
  m_impl_versionsCopy_l1  (((a0.length : Int) - (0 : Int)).toNat + 1) a0 (a0.length : Int) (0 : Int) ([] : (List S_impl_Version))
theorem c_impl_versionsCopy (a0 : (List S_impl_Version)) (r : (List S_impl_Version)) (h : m_impl_versionsCopy a0 = some r) : Ret Try.prog f_impl_versionsCopy [e_Limpl_Version a0] (.nw 4 (r.map e_impl_Version) true) := by
  refine Does.goG [] F_impl_versionsCopy rfl e_impl_versionsCopy n_impl_versionsCopy rfl (rvs := [.tmp 2]) rfl rfl ?_
  intro w0 ok0 lent ρ0
  refine LWP.seq_k fun N1 hN1 => ?_
  refine LWP.region (l := [_]) ?_
  refine LWo.assign _ rfl (hn := ?_)
  refine LWo.ownNil 2 1002 4 rfl rfl rfl ?_
  refine LWo.deep0 (sz := 4) e_impl_Version 1002 rfl ?_
  refine LWo.known 2 (.own 1002 0 ([] : (List S_impl_Version)).length) rfl ?_
  refine LWo.nil (hN1 _ ?_)
  refine LWP.seq_k fun N2 hN2 => ?_
  refine LWP.region (l := [_]) ?_
  refine LWo.assign _ rfl (hn := ?_)
  refine LWo.ownNil 3 1003 4 rfl rfl rfl ?_
  refine LWo.deep0 (sz := 4) e_impl_Version 1003 rfl ?_
  refine LWo.known 3 (.own 1003 0 ([] : (List S_impl_Version)).length) rfl ?_
  refine LWo.nil (hN2 _ ?_)
  refine LWP.join (α := (List S_impl_Version)) (fun z : (List S_impl_Version) => [(3, (.own 1003 0 (z).length))]) (fun z : (List S_impl_Version) => [(1003, (dob 4 e_impl_Version z))]) (fun z : (List S_impl_Version) => m_impl_versionsCopy_j1  z) r (fun _ => by simp [hkeys]) ?_ ?_
  ·rintro o1003 h
   replace h : m_impl_versionsCopy_j1  o1003 = some _ := h
   refine LWP.seq_k fun N18 hN18 => ?_
   refine LWP.region (l := [_,_,_]) ?_
   refine LWo.move (.own 1003 0 (o1003).length) rfl (hn := ?_)
   refine bk h fun x19 e19 h => ?_
   refine LWo.tcallND (e := e_impl_Version) (e' := e_impl_Version) 1022 rfl rfl (c_slices_Clip_Limpl_Version_impl_Version_d _ _ e19) (fun _ => rfl) rfl rfl rfl rfl (hn := ?_)
   refine LWo.assign (.own 1022 0 (x19).length) rfl (hn := ?_)
   refine LWo.nil (hN18 _ ?_)
   obtain rfl := Option.some.inj h
   refine LWP.ret (QG.mk (.inr rfl) (.cons (.tmp (x := (.own 1022 0 (x19).length)) rfl) (.nil)) (RetOK.one0 (.nwD rfl rfl) (by decide)) rfl rfl)
  ·intro N3 hN3
   refine LWP.seq_k fun N4 hN4 => ?_
   refine LWP.region (l := [_,_,_]) ?_
   refine LWo.move (e_Limpl_Version a0) rfl (hn := ?_)
   refine LWo.lenM (f := e_impl_Version) (l := a0) u_Limpl_Version rfl (hn := ?_)
   refine LWo.move (e_int (0 : Int)) rfl (hn := ?_)
   refine LWo.nil (hN4 _ ?_)
   refine LWP.block ?_
   refine LWP.loopM (α := (List S_impl_Version) × Int × Int × (List S_impl_Version)) (fun z : (List S_impl_Version) × Int × Int × (List S_impl_Version) => [(3, (.own 1003 0 (z.2.2.2).length)), (6, (e_Limpl_Version z.1)), (7, (e_int z.2.1)), (8, (e_int z.2.2.1))]) (fun z : (List S_impl_Version) × Int × Int × (List S_impl_Version) => [(1003, (dob 4 e_impl_Version z.2.2.2))]) (fun n1 (z : (List S_impl_Version) × Int × Int × (List S_impl_Version)) => m_impl_versionsCopy_l1  n1 z.1 z.2.1 z.2.2.1 z.2.2.2) r _ (a0, (a0.length : Int), (0 : Int), ([] : (List S_impl_Version))) h (fun _ => rfl) (fun _ => by simp [hkeys]) ⟨rfl, rfl, rfl, rfl, trivial⟩ ⟨rfl, trivial⟩ ?_
   rintro n1 ⟨t6, t7, t8, o1003⟩ h N5 hN5
   replace h : m_impl_versionsCopy_l1  (n1 + 1) t6 t7 t8 o1003 = some _ := h
   refine LWP.seq_k fun N7 hN7 => ?_
   refine LWP.region (l := [_]) ?_
   refine LWo.int _ rfl rfl rfl (hn := ?_)
   refine LWo.nil (hN7 _ ?_)
   refine LWP.seq_k fun N8 hN8 => ?_
   refine LWP.cond_split rfl (fun h9 => ?_) (fun h9 => ?_)
   ·have h := bT h9 h
    refine LWP.skip (hN8 _ ?_)
    refine LWP.seq_k fun N10 hN10 => ?_
    refine LWP.block ?_
    refine LWP.seq_k fun N11 hN11 => ?_
    refine LWP.region (l := [_,_,_,_]) ?_
    refine bk h fun x12 e12 h => ?_
    refine LWo.indexM (f := e_impl_Version) e12 u_Limpl_Version s_impl_Version rfl rfl (hn := ?_)
    refine LWo.loadN ((e_impl_Version x12)).cells g_impl_Version s_impl_Version rfl (Nat.le_of_ble_eq_true rfl) rfl (hn := ?_)
    refine LWo.allocX_impl_Version [(3, .imm (.slice none 0 0))] 5 rfl rfl (hn := ?_)
    refine LWo.nilX 5 100253 3 3 [(3, .own 100253 0 (([] : (List S_impl_Value))).length)] rfl rfl rfl rfl rfl rfl ?_
    refine lk h fun y13 e13 h => ?_
    refine LWo.storeX (f := e_impl_Version) (y := (⟨(0 : Int), (0 : Int), (0 : Int), []⟩ : S_impl_Version)) y13 [] s_impl_Version rfl rfl rfl rfl rfl rfl (by rw [e13]; rfl) (hn := ?_)
    refine LWo.nil (hN11 _ ?_)
    refine LWP.seq_k fun N14 hN14 => ?_
    refine LWP.region (l := [_,_,_,_,_]) ?_
    refine LWo.fieldPtr u_impl_Version rfl s_Limpl_Value rfl rfl (hn := ?_)
    refine LWo.loadPtr1 (e_Limpl_Value y13.Row) g_Limpl_Value rfl rfl rfl rfl rfl (hn := ?_)
    refine bk h fun x15 e15 h => ?_
    refine LWo.ncall (e := e_impl_Value) 100253 rfl rfl (c_impl_clone_impl_Value _ _ e15) (.same (.nil)) rfl (hn := ?_)
    refine LWo.fieldPtr u_impl_Version rfl s_Limpl_Value rfl rfl (hn := ?_)
    refine LWo.storeX (f := e_impl_Version) (y := y13) y13 [(3, .own 100253 0 (x15).length)] s_Limpl_Value rfl rfl rfl rfl rfl rfl rfl (hn := ?_)
    refine LWo.nil (hN14 _ ?_)
    refine LWP.region (l := [_,_,_,_,_]) ?_
    refine LWo.move (.own 1003 0 (o1003).length) rfl (hn := ?_)
    refine LWo.loadPtrN (ovr (e_impl_Version y13).cells [(3, .own 100253 0 (x15).length)]) g_impl_Version s_impl_Version rfl rfl rfl rfl rfl (fun _ _ => rfl) (hn := ?_)
    refine LWo.junkX 5 3 [(3, .junk)] rfl rfl rfl ?_
    refine LWo.lit1D (ks := [100253]) (f := e_impl_Version) (v := (.agg (ovr (e_impl_Version y13).cells [(3, .own 100253 0 (x15).length)]))) 1018 ({ y13 with Row := x15 } : S_impl_Version) u_Limpl_Version s_impl_Version z_impl_Version rfl rfl rfl rfl rfl rfl rfl rfl (.cons (.imm _) (.cons (.imm _) (.cons (.imm _) (.cons (.own (obj := (lob 3 e_impl_Value x15)) rfl rfl (.inl ⟨rfl, immL_map (e := e_impl_Value) (fun _ => rfl) _⟩) (List.length_map _).symm) .nil)))) (by decide) rfl (hn := ?_)
    refine bk h fun x16 e16 h => ?_
    refine LWo.appendDM (f := e_impl_Version) e16 rfl rfl u_Limpl_Version u_Limpl_Version (fun _ h => by cases h) s_impl_Version i_impl_Version rfl rfl rfl rfl rfl rfl rfl rfl (hn := ?_)
    refine LWo.assign (.own 1003 0 (x16).length) rfl (hn := ?_)
    refine LWo.nil (hN10 _ ?_)
    refine LWP.region (l := [_,_]) ?_
    refine bk h fun x17 e17 h => ?_
    refine LWo.int _ rfl rfl (add_ck e17) (hn := ?_)
    refine LWo.move (e_int x17) rfl (hn := ?_)
    refine LWo.nil (hN5 (t6, t7, x17, x16) _ ⟨rfl, rfl, rfl, rfl, trivial⟩ ⟨rfl, trivial⟩ h)
   ·have h := bF h9 h
    refine LWP.exit (hN3 o1003 _ ⟨rfl, trivial⟩ ⟨rfl, trivial⟩ h)

def m_slices_insertionSortCmpFunc_impl_Version_j2 (p3 : S_impl_Version → S_impl_Version → Option Int) (k1 : Int → Int → Int → (List S_impl_Version) → Option (List S_impl_Version)) (t1 : Int) (t2 : Int) (t8 : Int) (o0 : (List S_impl_Version)) : Option (List S_impl_Version) :=
  (ckI (t8 + (1 : Int))).bind fun x36 =>
  k1 t1 t2 x36 o0
def m_slices_insertionSortCmpFunc_impl_Version_j1 (p3 : S_impl_Version → S_impl_Version → Option Int) (k1 : Int → Int → Int → (List S_impl_Version) → Option (List S_impl_Version)) (k2 : Int → Int → Int → Int → (List S_impl_Version) → Option (List S_impl_Version)) (t1 : Int) (t2 : Int) (t8 : Int) (t9 : Int) (t34 : Bool) (o0 : (List S_impl_Version)) : Option (List S_impl_Version) :=
  bif t34 then ((ckI (t9 - (1 : Int))).bind fun x23 =>
  (ckI (t9 - (1 : Int))).bind fun x24 =>
  (at? o0 x24).bind fun x25 =>
  (at? o0 x24).bind fun x26 =>
  (at? o0 t9).bind fun x27 =>
  (at? o0 t9).bind fun x28 =>
  (at? o0 t9).bind fun x29 =>
  (at? o0 t9).bind fun x30 =>
  lt (x26) fun y31 =>
  (at? (o0.set (t9).toNat y31) x23).bind fun x32 =>
  (at? (o0.set (t9).toNat y31) x23).bind fun x33 =>
  lt (x28) fun y34 =>
  (ckI (t9 - (1 : Int))).bind fun x35 =>
  k2 t1 t2 t8 x35 ((o0.set (t9).toNat y31).set (x23).toNat y34))
  else (m_slices_insertionSortCmpFunc_impl_Version_j2 p3 k1 t1 t2 t8 o0)
def m_slices_insertionSortCmpFunc_impl_Version_l2 (p3 : S_impl_Version → S_impl_Version → Option Int) (k1 : Int → Int → Int → (List S_impl_Version) → Option (List S_impl_Version)) : Nat → Int → Int → Int → Int → (List S_impl_Version) → Option (List S_impl_Version)
  | 0, _, _, _, _, _ => none
  | n2 + 1, t1, t2, t8, t9, o0 =>
    bif decide (t9 > t1) then ((at? o0 t9).bind fun x15 =>
      (at? o0 t9).bind fun x16 =>
      (ckI (t9 - (1 : Int))).bind fun x17 =>
      (at? o0 x17).bind fun x18 =>
      (at? o0 x17).bind fun x19 =>
      (p3 x16 x19).bind fun x20 =>
      m_slices_insertionSortCmpFunc_impl_Version_j1 p3 k1 (m_slices_insertionSortCmpFunc_impl_Version_l2 p3 k1 n2) t1 t2 t8 t9 (decide (x20 < (0 : Int))) o0)
    else (m_slices_insertionSortCmpFunc_impl_Version_j1 p3 k1 (m_slices_insertionSortCmpFunc_impl_Version_l2 p3 k1 n2) t1 t2 t8 t9 false o0)
def m_slices_insertionSortCmpFunc_impl_Version_l1 (p3 : S_impl_Version → S_impl_Version → Option Int) : Nat → Int → Int → Int → (List S_impl_Version) → Option (List S_impl_Version)
  | 0, _, _, _, _ => none
  | n1 + 1, t1, t2, t8, o0 =>
    bif decide (t8 < t2) then (m_slices_insertionSortCmpFunc_impl_Version_l2 p3 (m_slices_insertionSortCmpFunc_impl_Version_l1 p3 n1) (1000000000) t1 t2 t8 t8 o0)
    else (some o0)
def m_slices_insertionSortCmpFunc_impl_Version (o0 : (List S_impl_Version)) (a1 : Int) (a2 : Int) (p3 : S_impl_Version → S_impl_Version → Option Int) : Option (List S_impl_Version) :=
  (ckI (a1 + (1 : Int))).bind fun x2 =>
  m_slices_insertionSortCmpFunc_impl_Version_l1 p3 ((a2 - x2).toNat + 1) a1 a2 x2 o0
theorem c_slices_insertionSortCmpFunc_impl_Version (o0 : (List S_impl_Version)) (a1 : Int) (a2 : Int) (p3 : S_impl_Version → S_impl_Version → Option Int) (f3 : FuncId) (q3 : List LV) (hq3 : ∀ k, LV.at?.atL k q3 = false) (hf3 : ∀ a0 a1 v, p3 a0 a1 = some v → Ret Try.prog f3 (e_impl_Version a0 :: e_impl_Version a1 :: q3) (e_int v)) (r : (List S_impl_Version)) (h : m_slices_insertionSortCmpFunc_impl_Version o0 a1 a2 p3 = some r) : Does Try.prog f_slices_insertionSortCmpFunc_impl_Version [.own 0 0 o0.length, e_int a1, e_int a2, .clo f3 q3] [(0, (lob 4 e_impl_Version o0))] (fun x hh => x = .tup [] ∧ hh = [(0, (lob 4 e_impl_Version r))]) := by
  refine Does.goG [0] F_slices_insertionSortCmpFunc_impl_Version rfl e_slices_insertionSortCmpFunc_impl_Version n_slices_insertionSortCmpFunc_impl_Version rfl (rvs := []) rfl rfl ?_
  intro w0 ok0 lent ρ0
  refine LWP.seq_k fun N1 hN1 => ?_
  refine LWP.region (l := [_,_,_]) ?_
  refine LWo.move (e_int a1) rfl (hn := ?_)
  refine bk h fun x2 e2 h => ?_
  refine LWo.int _ rfl rfl (add_ck e2) (hn := ?_)
  refine LWo.assign (e_int x2) rfl (hn := ?_)
  refine LWo.nil (hN1 _ ?_)
  refine LWP.block ?_
  refine LWP.loopM (α := Int × Int × Int × (List S_impl_Version)) (fun z : Int × Int × Int × (List S_impl_Version) => [(0, (.own 0 0 (z.2.2.2).length)), (1, (e_int z.1)), (2, (e_int z.2.1)), (3, (.clo f3 q3)), (8, (e_int z.2.2.1))]) (fun z : Int × Int × Int × (List S_impl_Version) => [(0, (lob 4 e_impl_Version z.2.2.2))]) (fun n1 (z : Int × Int × Int × (List S_impl_Version)) => m_slices_insertionSortCmpFunc_impl_Version_l1 p3 n1 z.1 z.2.1 z.2.2.1 z.2.2.2) r _ (a1, a2, x2, o0) h (fun _ => rfl) (fun _ => by simp [hkeys]) ⟨rfl, rfl, rfl, rfl, rfl, trivial⟩ ⟨rfl, trivial⟩ ?_
  rintro n1 ⟨t1, t2, t8, o0⟩ h N3 hN3
  replace h : m_slices_insertionSortCmpFunc_impl_Version_l1 p3 (n1 + 1) t1 t2 t8 o0 = some _ := h
  refine LWP.seq_k fun N5 hN5 => ?_
  refine LWP.seq_k fun N6 hN6 => ?_
  refine LWP.region (l := [_,_,_]) ?_
  refine LWo.move (e_int t8) rfl (hn := ?_)
  refine LWo.move (e_int t2) rfl (hn := ?_)
  refine LWo.int _ rfl rfl rfl (hn := ?_)
  refine LWo.nil (hN6 _ ?_)
  refine LWP.cond_split rfl (fun h7 => ?_) (fun h7 => ?_)
  ·have h := bT h7 h
   refine LWP.skip (hN5 _ ?_)
   refine LWP.join (α := Int × Int × Int × (List S_impl_Version)) (fun z : Int × Int × Int × (List S_impl_Version) => [(0, (.own 0 0 (z.2.2.2).length)), (1, (e_int z.1)), (2, (e_int z.2.1)), (3, (.clo f3 q3)), (8, (e_int z.2.2.1))]) (fun z : Int × Int × Int × (List S_impl_Version) => [(0, (lob 4 e_impl_Version z.2.2.2))]) (fun z : Int × Int × Int × (List S_impl_Version) => m_slices_insertionSortCmpFunc_impl_Version_j2 p3 (m_slices_insertionSortCmpFunc_impl_Version_l1 p3 n1) z.1 z.2.1 z.2.2.1 z.2.2.2) r (fun _ => by simp [hkeys]) ?_ ?_
   ·rintro ⟨t1, t2, t8, o0⟩ h
    replace h : m_slices_insertionSortCmpFunc_impl_Version_j2 p3 (m_slices_insertionSortCmpFunc_impl_Version_l1 p3 n1) t1 t2 t8 o0 = some _ := h
    refine LWP.region (l := [_,_,_]) ?_
    refine LWo.move (e_int t8) rfl (hn := ?_)
    refine bk h fun x36 e36 h => ?_
    refine LWo.int _ rfl rfl (add_ck e36) (hn := ?_)
    refine LWo.assign (e_int x36) rfl (hn := ?_)
    refine LWo.nil (hN3 (t1, t2, x36, o0) _ ⟨rfl, rfl, rfl, rfl, rfl, trivial⟩ ⟨rfl, trivial⟩ h)
   ·intro N8 hN8
    refine LWP.block ?_
    refine LWP.seq_k fun N9 hN9 => ?_
    refine LWP.region (l := [_,_]) ?_
    refine LWo.move (e_int t8) rfl (hn := ?_)
    refine LWo.assign (e_int t8) rfl (hn := ?_)
    refine LWo.nil (hN9 _ ?_)
    refine LWP.block ?_
    refine LWP.loopM (α := Int × Int × Int × Int × (List S_impl_Version)) (fun z : Int × Int × Int × Int × (List S_impl_Version) => [(0, (.own 0 0 (z.2.2.2.2).length)), (1, (e_int z.1)), (2, (e_int z.2.1)), (3, (.clo f3 q3)), (8, (e_int z.2.2.1)), (9, (e_int z.2.2.2.1))]) (fun z : Int × Int × Int × Int × (List S_impl_Version) => [(0, (lob 4 e_impl_Version z.2.2.2.2))]) (fun n2 (z : Int × Int × Int × Int × (List S_impl_Version)) => m_slices_insertionSortCmpFunc_impl_Version_l2 p3 (m_slices_insertionSortCmpFunc_impl_Version_l1 p3 n1) n2 z.1 z.2.1 z.2.2.1 z.2.2.2.1 z.2.2.2.2) r _ (t1, t2, t8, t8, o0) h (fun _ => rfl) (fun _ => by simp [hkeys]) ⟨rfl, rfl, rfl, rfl, rfl, rfl, trivial⟩ ⟨rfl, trivial⟩ ?_
    rintro n2 ⟨t1, t2, t8, t9, o0⟩ h N10 hN10
    replace h : m_slices_insertionSortCmpFunc_impl_Version_l2 p3 (m_slices_insertionSortCmpFunc_impl_Version_l1 p3 n1) (n2 + 1) t1 t2 t8 t9 o0 = some _ := h
    refine LWP.seq_k fun N12 hN12 => ?_
    refine LWP.join (α := Int × Int × Int × Int × Bool × (List S_impl_Version)) (fun z : Int × Int × Int × Int × Bool × (List S_impl_Version) => [(0, (.own 0 0 (z.2.2.2.2.2).length)), (1, (e_int z.1)), (2, (e_int z.2.1)), (3, (.clo f3 q3)), (8, (e_int z.2.2.1)), (9, (e_int z.2.2.2.1)), (34, (e_bool z.2.2.2.2.1))]) (fun z : Int × Int × Int × Int × Bool × (List S_impl_Version) => [(0, (lob 4 e_impl_Version z.2.2.2.2.2))]) (fun z : Int × Int × Int × Int × Bool × (List S_impl_Version) => m_slices_insertionSortCmpFunc_impl_Version_j1 p3 (m_slices_insertionSortCmpFunc_impl_Version_l1 p3 n1) (m_slices_insertionSortCmpFunc_impl_Version_l2 p3 (m_slices_insertionSortCmpFunc_impl_Version_l1 p3 n1) n2) z.1 z.2.1 z.2.2.1 z.2.2.2.1 z.2.2.2.2.1 z.2.2.2.2.2) r (fun _ => by simp [hkeys]) ?_ ?_
    ·rintro ⟨t1, t2, t8, t9, t34, o0⟩ h
     replace h : m_slices_insertionSortCmpFunc_impl_Version_j1 p3 (m_slices_insertionSortCmpFunc_impl_Version_l1 p3 n1) (m_slices_insertionSortCmpFunc_impl_Version_l2 p3 (m_slices_insertionSortCmpFunc_impl_Version_l1 p3 n1) n2) t1 t2 t8 t9 t34 o0 = some _ := h
     refine LWP.cond_split rfl (fun h21 => ?_) (fun h21 => ?_)
     ·have h := bT h21 h
      refine LWP.skip (hN12 _ ?_)
      refine LWP.seq_k fun N22 hN22 => ?_
      refine LWP.block ?_
      refine bk h fun x23 e23 h => ?_
      refine bk h fun x24 e24 h => ?_
      refine bk h fun x25 e25 h => ?_
      refine bk h fun x26 e26 h => ?_
      refine bk h fun x27 e27 h => ?_
      refine bk h fun x28 e28 h => ?_
      refine bk h fun x29 e29 h => ?_
      refine bk h fun x30 e30 h => ?_
      refine lk h fun y31 e31 h => ?_
      refine bk h fun x32 e32 h => ?_
      refine bk h fun x33 e33 h => ?_
      refine lk h fun y34 e34 h => ?_
      refine LWP.drawF (l := [_,_,_,_,_,_,_,_,_,_,_,_,_,_,_,_,_,_]) [] [0, 1, 2, 3, 8, 9] [([0], []), ([9], []), ([0], []), ([9], []), ([40], []), ([0], []), ([9], []), ([43], []), ([42, 44], [0]), ([45], [0]), ([0], []), ([9], []), ([47, 48], [0]), ([49], [0]), ([37, 38], [0]), ([46, 51], [0]), ([39, 41], [0]), ([50, 52], [0])] [0, 1, 2, 3, 8, 9] [0] mixed (by kernel_rfl) rfl (by decide) ?_
      refine dq 37 rfl (fun _ g u h => LWo.move (.own 0 0 (o0).length) u.1 (hn := .nil (zn g))) ?_
      refine dq 38 rfl (fun _ g u h => LWo.move (e_int t9) u.1 (hn := .nil (zn g))) ?_
      refine dq 39 rfl (fun _ g u h => LWo.move (.own 0 0 (o0).length) u.1 (hn := .nil (zn g))) ?_
      refine dq 40 rfl (fun _ g u h => LWo.move (e_int t9) u.1 (hn := .nil (zn g))) ?_
      refine dq 41 rfl (fun _ g u h => LWo.int _ u.1 rfl (sub_ck e23) (hn := .nil (zn g))) ?_
      refine dq 42 rfl (fun _ g u h => LWo.move (.own 0 0 (o0).length) u.1 (hn := .nil (zn g))) ?_
      refine dq 43 rfl (fun _ g u h => LWo.move (e_int t9) u.1 (hn := .nil (zn g))) ?_
      refine dq 44 rfl (fun _ g u h => LWo.int _ u.1 rfl (sub_ck e24) (hn := .nil (zn g))) ?_
      refine dq 45 rfl (fun _ g u h => LWo.indexO e25 rfl u_Limpl_Version s_impl_Version u.1 u.2.1 h.1 (hn := .nil (zn g))) ?_
      refine dq 46 rfl (fun _ g u h => LWo.loadON ((e_impl_Version x26)).cells e26 g_impl_Version s_impl_Version u.1 h.1 rfl rfl (hn := .nil (zn g))) ?_
      refine dq 47 rfl (fun _ g u h => LWo.move (.own 0 0 (o0).length) u.1 (hn := .nil (zn g))) ?_
      refine dq 48 rfl (fun _ g u h => LWo.move (e_int t9) u.1 (hn := .nil (zn g))) ?_
      refine dq 49 rfl (fun _ g u h => LWo.indexO e27 rfl u_Limpl_Version s_impl_Version u.1 u.2.1 h.1 (hn := .nil (zn g))) ?_
      refine dq 50 rfl (fun _ g u h => LWo.loadON ((e_impl_Version x28)).cells e28 g_impl_Version s_impl_Version u.1 h.1 rfl rfl (hn := .nil (zn g))) ?_
      refine dq 51 rfl (fun _ g u h => LWo.indexO e29 rfl u_Limpl_Version s_impl_Version u.1 u.2.1 h.1 (hn := .nil (zn g))) ?_
      refine ⟨rfl, .upd none .junk 0 _, (fun _ h => by cases h), fun _ g u h => LWo.storeO y31 e30 s_impl_Version u.2.1 u.1 rfl rfl rfl h.1 rfl (by rw [e31]; rfl) (hn := LWo.nil ⟨rfl, .inl rfl, Ef.good_ok (e := .upd none .junk 0 _) (fun _ h => by cases h) g⟩), ?_⟩
      refine dq 52 rfl (fun _ g u h => LWo.indexO e32 List.length_set.symm u_Limpl_Version s_impl_Version u.1 u.2.1 h.1 (hn := .nil (zn g))) ?_
      refine ⟨rfl, .upd none .junk 0 _, (fun _ h => by cases h), fun _ g u h => LWo.storeO y34 e33 s_impl_Version u.2.1 u.1 rfl rfl rfl h.1 rfl (by rw [e34]; rfl) (hn := LWo.nil ⟨rfl, .inl rfl, Ef.good_ok (e := .upd none .junk 0 _) (fun _ h => by cases h) g⟩), ?_⟩
      refine ⟨rfl, by kernel_rfl, hN22 _ ?_⟩
      refine LWP.region (l := [_,_,_]) ?_
      refine LWo.move (e_int t9) rfl (hn := ?_)
      refine bk h fun x35 e35 h => ?_
      refine LWo.int _ rfl rfl (sub_ck e35) (hn := ?_)
      refine LWo.assign (e_int x35) rfl (hn := ?_)
      refine LWo.nil (hN10 (t1, t2, t8, x35, ((o0.set (t9).toNat y31).set (x23).toNat y34)) _ ⟨(congrArg (LV.own 0 0) (List.length_set.symm.trans List.length_set.symm)), rfl, rfl, rfl, rfl, rfl, trivial⟩ ⟨rfl, trivial⟩ h)
     ·have h := bF h21 h
      refine LWP.exit (hN8 (t1, t2, t8, o0) _ ⟨rfl, rfl, rfl, rfl, rfl, trivial⟩ ⟨rfl, trivial⟩ h)
    ·intro N13 hN13
     refine bS (decide (t9 > t1)) (fun h14 => ?_) (fun h14 => ?_)
     ·have h := bT h14 h
      refine bk h fun x15 e15 h => ?_
      refine bk h fun x16 e16 h => ?_
      refine bk h fun x17 e17 h => ?_
      refine bk h fun x18 e18 h => ?_
      refine bk h fun x19 e19 h => ?_
      refine bk h fun x20 e20 h => ?_
      refine LWP.drawF (l := [_,_,_,_,_,_,_,_,_,_,_,_,_,_,_,_,_]) [] [0, 1, 2, 3, 8, 9] [([9], []), ([1], []), ([18, 19], []), ([20], []), ([3, 21], []), ([0, 21], []), ([9, 21], []), ([21, 23, 24], [0]), ([21, 25], [0]), ([0, 21], []), ([9, 21], []), ([21, 28], []), ([21, 27, 29], [0]), ([21, 30], [0]), ([21, 22, 26, 31], []), ([21, 32], []), ([21, 33], [])] [0, 1, 2, 3, 8, 9, 34] [0] mixed (by kernel_rfl) rfl (by decide) ?_
      refine dq 18 rfl (fun _ g u h => LWo.move (e_int t9) u.1 (hn := .nil (zn g))) ?_
      refine dq 19 rfl (fun _ g u h => LWo.move (e_int t1) u.1 (hn := .nil (zn g))) ?_
      refine dq 20 rfl (fun _ g u h => LWo.int _ u.1 u.2.1 rfl (hn := .nil (zn g))) ?_
      refine dq 21 rfl (fun _ g u h => LWo.move (e_bool (decide (t9 > t1))) u.1 (hn := .nil (zn g))) ?_
      refine dq 22 rfl (fun _ g u h => LWo.guardY (t := 21) u.2.1 h14 rfl rfl (LWo.move (.clo f3 q3) u.1 (hn := .nil (zn g)))) ?_
      refine dq 23 rfl (fun _ g u h => LWo.guardY (t := 21) u.2.1 h14 rfl rfl (LWo.move (.own 0 0 (o0).length) u.1 (hn := .nil (zn g)))) ?_
      refine dq 24 rfl (fun _ g u h => LWo.guardY (t := 21) u.2.1 h14 rfl rfl (LWo.move (e_int t9) u.1 (hn := .nil (zn g)))) ?_
      refine dq 25 rfl (fun _ g u h => LWo.guardY (t := 21) u.1 h14 rfl rfl (LWo.indexO e15 rfl u_Limpl_Version s_impl_Version u.2.1 u.2.2.1 h.1 (hn := .nil (zn g)))) ?_
      refine dq 26 rfl (fun _ g u h => LWo.guardY (t := 21) u.1 h14 rfl rfl (LWo.loadON ((e_impl_Version x16)).cells e16 g_impl_Version s_impl_Version u.2.1 h.1 rfl rfl (hn := .nil (zn g)))) ?_
      refine dq 27 rfl (fun _ g u h => LWo.guardY (t := 21) u.2.1 h14 rfl rfl (LWo.move (.own 0 0 (o0).length) u.1 (hn := .nil (zn g)))) ?_
      refine dq 28 rfl (fun _ g u h => LWo.guardY (t := 21) u.2.1 h14 rfl rfl (LWo.move (e_int t9) u.1 (hn := .nil (zn g)))) ?_
      refine dq 29 rfl (fun _ g u h => LWo.guardY (t := 21) u.1 h14 rfl rfl (LWo.int _ u.2.1 rfl (sub_ck e17) (hn := .nil (zn g)))) ?_
      refine dq 30 rfl (fun _ g u h => LWo.guardY (t := 21) u.1 h14 rfl rfl (LWo.indexO e18 rfl u_Limpl_Version s_impl_Version u.2.1 u.2.2.1 h.1 (hn := .nil (zn g)))) ?_
      refine dq 31 rfl (fun _ g u h => LWo.guardY (t := 21) u.1 h14 rfl rfl (LWo.loadON ((e_impl_Version x19)).cells e19 g_impl_Version s_impl_Version u.2.1 h.1 rfl rfl (hn := .nil (zn g)))) ?_
      refine dq 32 rfl (fun _ g u h => LWo.guardY (t := 21) u.1 h14 rfl rfl (LWo.vcall u.2.1 (avq2 u.2.2.1 u.2.2.2.1) (hf3 _ _ _ e20) .refl (hn := .nil (zn g)))) ?_
      refine dq 33 rfl (fun _ g u h => LWo.guardY (t := 21) u.1 h14 rfl rfl (LWo.int _ u.2.1 rfl rfl (hn := .nil (zn g)))) ?_
      refine dq 34 rfl (fun _ g u h => LWo.pickTM (e_bool (decide (x20 < (0 : Int)))) u.1 h14 u.2.1 (hn := .nil (zn g))) ?_
      refine ⟨rfl, by kernel_rfl, hN13 (t1, t2, t8, t9, decide (x20 < (0 : Int)), o0) _ ⟨rfl, rfl, rfl, rfl, rfl, rfl, rfl, trivial⟩ ⟨rfl, trivial⟩ h⟩
     ·have h := bF h14 h
      refine LWP.drawF (l := [_,_,_,_,_,_,_,_,_,_,_,_,_,_,_,_,_]) [] [0, 1, 2, 3, 8, 9] [([9], []), ([1], []), ([18, 19], []), ([20], []), ([3, 21], []), ([0, 21], []), ([9, 21], []), ([21, 23, 24], []), ([21, 25], []), ([0, 21], []), ([9, 21], []), ([21, 28], []), ([21, 27, 29], []), ([21, 30], []), ([21, 22, 26, 31], []), ([21, 32], []), ([21, 33], [])] [0, 1, 2, 3, 8, 9, 34] [0] mixed (by kernel_rfl) rfl (by decide) ?_
      refine dq 18 rfl (fun _ g u h => LWo.move (e_int t9) u.1 (hn := .nil (zn g))) ?_
      refine dq 19 rfl (fun _ g u h => LWo.move (e_int t1) u.1 (hn := .nil (zn g))) ?_
      refine dq 20 rfl (fun _ g u h => LWo.int _ u.1 u.2.1 rfl (hn := .nil (zn g))) ?_
      refine dq 21 rfl (fun _ g u h => LWo.move (e_bool (decide (t9 > t1))) u.1 (hn := .nil (zn g))) ?_
      refine dq 22 rfl (fun _ g u h => LWo.guardNU (t := 21) u.2.1 h14 rfl rfl rfl rfl rfl (.nil (zn g))) ?_
      refine dq 23 rfl (fun _ g u h => LWo.guardNU (t := 21) u.2.1 h14 rfl rfl rfl rfl rfl (.nil (zn g))) ?_
      refine dq 24 rfl (fun _ g u h => LWo.guardNU (t := 21) u.2.1 h14 rfl rfl rfl rfl rfl (.nil (zn g))) ?_
      refine dq 25 rfl (fun _ g u h => LWo.guardNU (t := 21) u.1 h14 rfl rfl rfl rfl rfl (.nil (zn g))) ?_
      refine dq 26 rfl (fun _ g u h => LWo.guardNU (t := 21) u.1 h14 rfl rfl rfl rfl rfl (.nil (zn g))) ?_
      refine dq 27 rfl (fun _ g u h => LWo.guardNU (t := 21) u.2.1 h14 rfl rfl rfl rfl rfl (.nil (zn g))) ?_
      refine dq 28 rfl (fun _ g u h => LWo.guardNU (t := 21) u.2.1 h14 rfl rfl rfl rfl rfl (.nil (zn g))) ?_
      refine dq 29 rfl (fun _ g u h => LWo.guardNU (t := 21) u.1 h14 rfl rfl rfl rfl rfl (.nil (zn g))) ?_
      refine dq 30 rfl (fun _ g u h => LWo.guardNU (t := 21) u.1 h14 rfl rfl rfl rfl rfl (.nil (zn g))) ?_
      refine dq 31 rfl (fun _ g u h => LWo.guardNU (t := 21) u.1 h14 rfl rfl rfl rfl rfl (.nil (zn g))) ?_
      refine dq 32 rfl (fun _ g u h => LWo.guardNU (t := 21) u.1 h14 rfl rfl rfl rfl rfl (.nil (zn g))) ?_
      refine dq 33 rfl (fun _ g u h => LWo.guardNU (t := 21) u.1 h14 rfl rfl rfl rfl rfl (.nil (zn g))) ?_
      refine dq 34 rfl (fun _ g u h => LWo.pickFM (e_bool false) u.1 h14 rfl (hn := .nil (zn g))) ?_
      refine ⟨rfl, by kernel_rfl, hN13 (t1, t2, t8, t9, false, o0) _ ⟨rfl, rfl, rfl, rfl, rfl, rfl, rfl, trivial⟩ ⟨rfl, trivial⟩ h⟩
  ·have h := bF h7 h
   obtain rfl := Option.some.inj h
   refine LWP.exit (QG.mk (.inl rfl) (.nil) (RetOK.many1 (.nil) (by simp) (by decide) rfl rfl rfl rfl rfl) rfl rfl)
theorem k_slices_insertionSortCmpFunc_impl_Version (o0 : (List S_impl_Version)) (a1 : Int) (a2 : Int) (p3 : S_impl_Version → S_impl_Version → Option Int) (f3 : FuncId) (q3 : List LV) (hq3 : ∀ k, LV.at?.atL k q3 = false) (hf3 : ∀ a0 a1 v, p3 a0 a1 = some v → Ret Try.prog f3 (e_impl_Version a0 :: e_impl_Version a1 :: q3) (e_int v)) (r : (List S_impl_Version)) (h : m_slices_insertionSortCmpFunc_impl_Version o0 a1 a2 p3 = some r) (k : Nat) : Does Try.prog f_slices_insertionSortCmpFunc_impl_Version [.own k 0 o0.length, e_int a1, e_int a2, .clo f3 q3] [(k, (lob 4 e_impl_Version o0))] (fun x hh => x = .tup [] ∧ hh = [(k, (lob 4 e_impl_Version r))]) :=
  Does.nameO (c_slices_insertionSortCmpFunc_impl_Version o0 a1 a2 p3 f3 q3 hq3 hf3 r h) (fun k => (atC rfl (atC rfl (atC (hq3 k) (atN _))))) k
end Go.Proofs.Ytkgmomocjkmipaa
