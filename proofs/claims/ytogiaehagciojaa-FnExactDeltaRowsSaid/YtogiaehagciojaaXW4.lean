/- Mirrors of functions, and that the functions return what the mirrors say. -/
import Derived.Test.YtogiaehagciojaaXW3
set_option linter.unusedVariables false
set_option linter.unusedSimpArgs false
set_option linter.unnecessarySimpa false
namespace Go.Proofs.Ytogiaehagciojaa
open Go.Proofs Go.Lift Go.RowKit
def m_laws_markText_j1 (t3 : ByteArray) : Option ByteArray :=
  (sCat? (⟨#[109]⟩ : ByteArray) t3).bind fun x19 =>
  some x19
def m_laws_markText_l1 : Nat → Int → ByteArray → Option ByteArray
  | 0, _, _ => none
  | n1 + 1, t0, t3 =>
    bif decide (t0 > (0 : Int)) then ((remI t0 (10 : Int)).bind fun x14 =>
    (ckI ((48 : Int) + x14)).bind fun x15 =>
    (sCat? (bStr ([(Lift.byteOf x15)] : (List UInt8))) t3).bind fun x16 =>
    (quoI t0 (10 : Int)).bind fun x17 =>
    (m_laws_markText_l1  n1) x17 x16)
    else (m_laws_markText_j1  t3)
def m_laws_markText (a0 : Int) : Option ByteArray :=
  bif decide (a0 ≤ (0 : Int)) then (some (⟨#[109, 48]⟩ : ByteArray))
  else (m_laws_markText_l1  ((a0 - (0 : Int)).toNat + 1) a0 (⟨#[]⟩ : ByteArray))
theorem c_laws_markText (a0 : Int) (r : ByteArray) (h : m_laws_markText a0 = some r) : Ret Try.prog f_laws_markText [e_int a0] (e_string r) := by
  refine Does.goG [] F_laws_markText rfl e_laws_markText n_laws_markText rfl (rvs := [.tmp 2]) rfl rfl ?_
  intro w0 ok0 lent ρ0
  refine LWP.seq_k fun N1 hN1 => ?_
  refine LWP.region (l := [_]) ?_
  refine LWo.assign (e_string (⟨#[]⟩ : ByteArray)) rfl (hn := ?_)
  refine LWo.nil (hN1 _ ?_)
  refine LWP.seq_k fun N2 hN2 => ?_
  refine LWP.seq_k fun N3 hN3 => ?_
  refine LWP.region (l := [_,_]) ?_
  refine LWo.move (e_int a0) rfl (hn := ?_)
  refine LWo.int _ rfl rfl rfl (hn := ?_)
  refine LWo.nil (hN3 _ ?_)
  refine LWP.cond_split rfl (fun h4 => ?_) (fun h4 => ?_)
  ·have h := bT h4 h
   refine LWP.seq_k fun N5 hN5 => ?_
   refine LWP.region (l := [_]) ?_
   refine LWo.assign (e_string (⟨#[109, 48]⟩ : ByteArray)) rfl (hn := ?_)
   refine LWo.nil (hN5 _ ?_)
   obtain rfl := Option.some.inj h
   refine LWP.ret (QG.mk (.inr rfl) (.cons (.tmp (x := (e_string (⟨#[109, 48]⟩ : ByteArray))) rfl) (.nil)) (RetOK.one0 (.pure rfl) (by decide)) rfl rfl)
  ·have h := bF h4 h
   refine LWP.skip (hN2 _ ?_)
   refine LWP.seq_k fun N6 hN6 => ?_
   refine LWP.region (l := [_]) ?_
   refine LWo.assign (e_string (⟨#[]⟩ : ByteArray)) rfl (hn := ?_)
   refine LWo.nil (hN6 _ ?_)
   refine LWP.join (α := ByteArray) (fun z : ByteArray => [(3, (e_string z))]) (fun z : ByteArray => []) (fun z : ByteArray => m_laws_markText_j1  z) r (fun _ => by simp [hkeys]) ?_ ?_
   ·rintro t3 h
    replace h : m_laws_markText_j1  t3 = some _ := h
    refine LWP.seq_k fun N18 hN18 => ?_
    refine LWP.region (l := [_,_,_]) ?_
    refine LWo.move (e_string t3) rfl (hn := ?_)
    refine bk h fun x19 e19 h => ?_
    refine LWo.str _ rfl rfl (cat_ck e19) (hn := ?_)
    refine LWo.assign (e_string x19) rfl (hn := ?_)
    refine LWo.nil (hN18 _ ?_)
    obtain rfl := Option.some.inj h
    refine LWP.ret (QG.mk (.inr rfl) (.cons (.tmp (x := (e_string x19)) rfl) (.nil)) (RetOK.one0 (.pure rfl) (by decide)) rfl rfl)
   ·intro N7 hN7
    refine LWP.block ?_
    refine LWP.loopM (α := Int × ByteArray) (fun z : Int × ByteArray => [(0, (e_int z.1)), (3, (e_string z.2))]) (fun z : Int × ByteArray => []) (fun n1 (z : Int × ByteArray) => m_laws_markText_l1  n1 z.1 z.2) r _ (a0, (⟨#[]⟩ : ByteArray)) h (fun _ => rfl) (fun _ => by simp [hkeys]) ⟨rfl, rfl, trivial⟩ trivial ?_
    rintro n1 ⟨t0, t3⟩ h N8 hN8
    replace h : m_laws_markText_l1  (n1 + 1) t0 t3 = some _ := h
    refine LWP.seq_k fun N10 hN10 => ?_
    refine LWP.seq_k fun N11 hN11 => ?_
    refine LWP.region (l := [_,_]) ?_
    refine LWo.move (e_int t0) rfl (hn := ?_)
    refine LWo.int _ rfl rfl rfl (hn := ?_)
    refine LWo.nil (hN11 _ ?_)
    refine LWP.cond_split rfl (fun h12 => ?_) (fun h12 => ?_)
    ·have h := bT h12 h
     refine LWP.skip (hN10 _ ?_)
     refine LWP.block ?_
     refine LWP.seq_k fun N13 hN13 => ?_
     refine LWP.region (l := [_,_,_,_,_,_,_,_,_]) ?_
     refine LWo.move (e_int t0) rfl (hn := ?_)
     refine bk h fun x14 e14 h => ?_
     refine LWo.int _ rfl rfl (rem_ck e14) (hn := ?_)
     refine bk h fun x15 e15 h => ?_
     refine LWo.int _ rfl rfl (add_ck e15) (hn := ?_)
     refine LWo.convU8 u_int u_uint8 rfl (hn := ?_)
     refine LWo.lit (ops := [_]) [(e_uint8 (Lift.byteOf x15))] u_Luint8 s_uint8 z_uint8 rfl rfl rfl rfl rfl rfl (hn := ?_)
     refine LWo.strM (l := ([(Lift.byteOf x15)] : (List UInt8))) u_Luint8 u_string u_uint8 rfl (hn := ?_)
     refine LWo.move (e_string t3) rfl (hn := ?_)
     refine bk h fun x16 e16 h => ?_
     refine LWo.str _ rfl rfl (cat_ck e16) (hn := ?_)
     refine LWo.assign (e_string x16) rfl (hn := ?_)
     refine LWo.nil (hN13 _ ?_)
     refine LWP.region (l := [_,_,_]) ?_
     refine LWo.move (e_int t0) rfl (hn := ?_)
     refine bk h fun x17 e17 h => ?_
     refine LWo.int _ rfl rfl (quo_ck e17) (hn := ?_)
     refine LWo.assign (e_int x17) rfl (hn := ?_)
     refine LWo.nil (hN8 (x17, x16) _ ⟨rfl, rfl, trivial⟩ trivial h)
    ·have h := bF h12 h
     refine LWP.exit (hN7 t3 _ ⟨rfl, trivial⟩ trivial h)

def m_laws_markValueS_j1 (t1 : Int) (o0 : (List S_impl_Value)) : Option (Int × (List S_impl_Value)) :=
  some (t1, o0)
def m_laws_markValueS_l1 : Nat → Int → Int → (List S_impl_Value) → Option (Int × (List S_impl_Value))
  | 0, _, _, _ => none
  | n1 + 1, t1, t5, o0 =>
    bif decide (t5 < (o0.length : Int)) then ((at? o0 t5).bind fun x11 =>
    (at? o0 t5).bind fun x12 =>
    lt ({ x12 with Kind := t1 }) fun y13 =>
    (ckI (t1 + (1 : Int))).bind fun x15 =>
    (at? (o0.set (t5).toNat y13) t5).bind fun x17 =>
    (at? (o0.set (t5).toNat y13) t5).bind fun x18 =>
    lt ({ x18 with N := x15 }) fun y19 =>
    (ckI (x15 + (1 : Int))).bind fun x21 =>
    (m_laws_markText x21).bind fun x23 =>
    (at? ((o0.set (t5).toNat y13).set (t5).toNat y19) t5).bind fun x24 =>
    (at? ((o0.set (t5).toNat y13).set (t5).toNat y19) t5).bind fun x25 =>
    lt ({ x25 with S := x23 }) fun y26 =>
    (ckI (x21 + (1 : Int))).bind fun x27 =>
    (ckI (t5 + (1 : Int))).bind fun x28 =>
    (m_laws_markValueS_l1  n1) x27 x28 (((o0.set (t5).toNat y13).set (t5).toNat y19).set (t5).toNat y26))
    else (m_laws_markValueS_j1  t1 o0)
def m_laws_markValueS (o0 : (List S_impl_Value)) (a1 : Int) : Option (Int × (List S_impl_Value)) :=
  m_laws_markValueS_l1  (((o0.length : Int) - (0 : Int)).toNat + 1) a1 (0 : Int) o0
theorem c_laws_markValueS (o0 : (List S_impl_Value)) (a1 : Int) (r : (Int × (List S_impl_Value))) (h : m_laws_markValueS o0 a1 = some r) : Does Try.prog f_laws_markValueS [.own 0 0 o0.length, e_int a1] [(0, (lob 3 e_impl_Value o0))] (fun x hh => x = e_int r.1 ∧ hh = [(0, (lob 3 e_impl_Value r.2))]) := by
  refine Does.goG [0] F_laws_markValueS rfl e_laws_markValueS n_laws_markValueS rfl (rvs := [.tmp 4]) rfl rfl ?_
  intro w0 ok0 lent ρ0
  refine LWP.seq_k fun N1 hN1 => ?_
  refine LWP.region (l := [_]) ?_
  refine LWo.assign (e_int (0 : Int)) rfl (hn := ?_)
  refine LWo.nil (hN1 _ ?_)
  refine LWP.join (α := Int × (List S_impl_Value)) (fun z : Int × (List S_impl_Value) => [(1, (e_int z.1))]) (fun z : Int × (List S_impl_Value) => [(0, (lob 3 e_impl_Value z.2))]) (fun z : Int × (List S_impl_Value) => m_laws_markValueS_j1  z.1 z.2) r (fun _ => by simp [hkeys]) ?_ ?_
  ·rintro ⟨t1, o0⟩ h
   replace h : m_laws_markValueS_j1  t1 o0 = some _ := h
   refine LWP.seq_k fun N29 hN29 => ?_
   refine LWP.region (l := [_,_]) ?_
   refine LWo.move (e_int t1) rfl (hn := ?_)
   refine LWo.assign (e_int t1) rfl (hn := ?_)
   refine LWo.nil (hN29 _ ?_)
   obtain rfl := Option.some.inj h
   refine LWP.ret (QG.mk (.inr rfl) (.cons (.tmp (x := (e_int t1)) rfl) (.nil)) (RetOK.one1 (.pure rfl) (by decide) rfl rfl rfl rfl rfl) rfl rfl)
  ·intro N2 hN2
   refine LWP.seq_k fun N3 hN3 => ?_
   refine LWP.region (l := [_]) ?_
   refine LWo.assign (e_int (0 : Int)) rfl (hn := ?_)
   refine LWo.nil (hN3 _ ?_)
   refine LWP.block ?_
   refine LWP.loopM (α := Int × Int × (List S_impl_Value)) (fun z : Int × Int × (List S_impl_Value) => [(0, (.own 0 0 (z.2.2).length)), (1, (e_int z.1)), (5, (e_int z.2.1))]) (fun z : Int × Int × (List S_impl_Value) => [(0, (lob 3 e_impl_Value z.2.2))]) (fun n1 (z : Int × Int × (List S_impl_Value)) => m_laws_markValueS_l1  n1 z.1 z.2.1 z.2.2) r _ (a1, (0 : Int), o0) h (fun _ => rfl) (fun _ => by simp [hkeys]) ⟨rfl, rfl, rfl, trivial⟩ ⟨rfl, trivial⟩ ?_
   rintro n1 ⟨t1, t5, o0⟩ h N4 hN4
   replace h : m_laws_markValueS_l1  (n1 + 1) t1 t5 o0 = some _ := h
   refine LWP.seq_k fun N6 hN6 => ?_
   refine LWP.seq_k fun N7 hN7 => ?_
   refine LWP.region (l := [_,_,_,_]) ?_
   refine LWo.move (e_int t5) rfl (hn := ?_)
   refine LWo.move (.own 0 0 (o0).length) rfl (hn := ?_)
   refine LWo.lenO u_Limpl_Value rfl (hn := ?_)
   refine LWo.int _ rfl rfl rfl (hn := ?_)
   refine LWo.nil (hN7 _ ?_)
   refine LWP.cond_split rfl (fun h8 => ?_) (fun h8 => ?_)
   ·have h := bT h8 h
    refine LWP.skip (hN6 _ ?_)
    refine LWP.seq_k fun N9 hN9 => ?_
    refine LWP.block ?_
    refine LWP.seq_k fun N10 hN10 => ?_
    refine LWP.region (l := [_,_,_,_,_,_]) ?_
    refine LWo.move (.own 0 0 (o0).length) rfl (hn := ?_)
    refine LWo.move (e_int t5) rfl (hn := ?_)
    refine LWo.move (e_int t1) rfl (hn := ?_)
    refine bk h fun x11 e11 h => ?_
    refine LWo.indexO e11 rfl u_Limpl_Value s_impl_Value rfl rfl rfl (hn := ?_)
    refine LWo.fieldPtr u_impl_Value rfl s_int rfl rfl (hn := ?_)
    refine bk h fun x12 e12 h => ?_
    refine lk h fun y13 e13 h => ?_
    refine LWo.storeO y13 e12 s_int rfl rfl rfl rfl rfl rfl rfl (by rw [e13]; rfl) (hn := ?_)
    refine LWo.nil (hN10 _ ?_)
    refine LWP.seq_k fun N14 hN14 => ?_
    refine LWP.region (l := [_,_,_]) ?_
    refine LWo.move (e_int t1) rfl (hn := ?_)
    refine bk h fun x15 e15 h => ?_
    refine LWo.int _ rfl rfl (add_ck e15) (hn := ?_)
    refine LWo.assign (e_int x15) rfl (hn := ?_)
    refine LWo.nil (hN14 _ ?_)
    refine LWP.seq_k fun N16 hN16 => ?_
    refine LWP.region (l := [_,_,_,_,_,_]) ?_
    refine LWo.move (.own 0 0 (o0).length) rfl (hn := ?_)
    refine LWo.move (e_int t5) rfl (hn := ?_)
    refine LWo.move (e_int x15) rfl (hn := ?_)
    refine bk h fun x17 e17 h => ?_
    refine LWo.indexO e17 List.length_set.symm u_Limpl_Value s_impl_Value rfl rfl rfl (hn := ?_)
    refine LWo.fieldPtr u_impl_Value rfl s_int rfl rfl (hn := ?_)
    refine bk h fun x18 e18 h => ?_
    refine lk h fun y19 e19 h => ?_
    refine LWo.storeO y19 e18 s_int rfl rfl rfl rfl rfl rfl rfl (by rw [e19]; rfl) (hn := ?_)
    refine LWo.nil (hN16 _ ?_)
    refine LWP.seq_k fun N20 hN20 => ?_
    refine LWP.region (l := [_,_,_]) ?_
    refine LWo.move (e_int x15) rfl (hn := ?_)
    refine bk h fun x21 e21 h => ?_
    refine LWo.int _ rfl rfl (add_ck e21) (hn := ?_)
    refine LWo.assign (e_int x21) rfl (hn := ?_)
    refine LWo.nil (hN20 _ ?_)
    refine LWP.seq_k fun N22 hN22 => ?_
    refine LWP.region (l := [_,_,_,_,_,_,_]) ?_
    refine LWo.move (.own 0 0 (o0).length) rfl (hn := ?_)
    refine LWo.move (e_int t5) rfl (hn := ?_)
    refine LWo.move (e_int x21) rfl (hn := ?_)
    refine bk h fun x23 e23 h => ?_
    refine LWo.vcall rfl rfl (c_laws_markText _ _ e23) (.same (.nil)) (hn := ?_)
    refine bk h fun x24 e24 h => ?_
    refine LWo.indexO e24 (List.length_set.symm.trans List.length_set.symm) u_Limpl_Value s_impl_Value rfl rfl rfl (hn := ?_)
    refine LWo.fieldPtr u_impl_Value rfl s_string rfl rfl (hn := ?_)
    refine bk h fun x25 e25 h => ?_
    refine lk h fun y26 e26 h => ?_
    refine LWo.storeO y26 e25 s_string rfl rfl rfl rfl rfl rfl rfl (by rw [e26]; rfl) (hn := ?_)
    refine LWo.nil (hN22 _ ?_)
    refine LWP.region (l := [_,_,_]) ?_
    refine LWo.move (e_int x21) rfl (hn := ?_)
    refine bk h fun x27 e27 h => ?_
    refine LWo.int _ rfl rfl (add_ck e27) (hn := ?_)
    refine LWo.assign (e_int x27) rfl (hn := ?_)
    refine LWo.nil (hN9 _ ?_)
    refine LWP.region (l := [_,_,_]) ?_
    refine LWo.move (e_int t5) rfl (hn := ?_)
    refine bk h fun x28 e28 h => ?_
    refine LWo.int _ rfl rfl (add_ck e28) (hn := ?_)
    refine LWo.assign (e_int x28) rfl (hn := ?_)
    refine LWo.nil (hN4 (x27, x28, (((o0.set (t5).toNat y13).set (t5).toNat y19).set (t5).toNat y26)) _ ⟨(congrArg (LV.own 0 0) ((List.length_set.symm.trans List.length_set.symm).trans List.length_set.symm)), rfl, rfl, trivial⟩ ⟨rfl, trivial⟩ h)
   ·have h := bF h8 h
    refine LWP.exit (hN2 (t1, o0) _ ⟨rfl, trivial⟩ ⟨rfl, trivial⟩ h)
theorem k_laws_markValueS (o0 : (List S_impl_Value)) (a1 : Int) (r : (Int × (List S_impl_Value))) (h : m_laws_markValueS o0 a1 = some r) (k : Nat) : Does Try.prog f_laws_markValueS [.own k 0 o0.length, e_int a1] [(k, (lob 3 e_impl_Value o0))] (fun x hh => x = e_int r.1 ∧ hh = [(k, (lob 3 e_impl_Value r.2))]) :=
  Does.nameO (c_laws_markValueS o0 a1 r h) (fun _ => rfl) k

def m_laws_markValueSS_j1 (t1 : Int) (o0 : (List (List S_impl_Value))) : Option (Int × (List (List S_impl_Value))) :=
  some (t1, o0)
def m_laws_markValueSS_l1 : Nat → Int → Int → (List (List S_impl_Value)) → Option (Int × (List (List S_impl_Value)))
  | 0, _, _, _ => none
  | n1 + 1, t1, t5, o0 =>
    bif decide (t5 < (o0.length : Int)) then ((at? o0 t5).bind fun x10 =>
    (at? o0 t5).bind fun x11 =>
    (m_laws_markValueS x11 t1).bind fun x12 =>
    (lenQ x12.2.length x11.length ()).bind fun u13 =>
    lt (x12.2) fun y14 =>
    (ckI (t5 + (1 : Int))).bind fun x15 =>
    (m_laws_markValueSS_l1  n1) x12.1 x15 (o0.set (t5).toNat y14))
    else (m_laws_markValueSS_j1  t1 o0)
def m_laws_markValueSS (o0 : (List (List S_impl_Value))) (a1 : Int) : Option (Int × (List (List S_impl_Value))) :=
  m_laws_markValueSS_l1  (((o0.length : Int) - (0 : Int)).toNat + 1) a1 (0 : Int) o0
theorem c_laws_markValueSS (o0 : (List (List S_impl_Value))) (a1 : Int) (r : (Int × (List (List S_impl_Value)))) (h : m_laws_markValueSS o0 a1 = some r) : Does Try.prog f_laws_markValueSS [.own 0 0 o0.length, e_int a1] [(0, (dob 1 e_Limpl_Value o0))] (fun x hh => x = e_int r.1 ∧ hh = [(0, (dob 1 e_Limpl_Value r.2))]) := by
  refine Does.goG [0] F_laws_markValueSS rfl e_laws_markValueSS n_laws_markValueSS rfl (rvs := [.tmp 4]) rfl rfl ?_
  intro w0 ok0 lent ρ0
  refine LWP.seq_k fun N1 hN1 => ?_
  refine LWP.region (l := [_]) ?_
  refine LWo.assign (e_int (0 : Int)) rfl (hn := ?_)
  refine LWo.nil (hN1 _ ?_)
  refine LWP.join (α := Int × (List (List S_impl_Value))) (fun z : Int × (List (List S_impl_Value)) => [(1, (e_int z.1))]) (fun z : Int × (List (List S_impl_Value)) => [(0, (dob 1 e_Limpl_Value z.2))]) (fun z : Int × (List (List S_impl_Value)) => m_laws_markValueSS_j1  z.1 z.2) r (fun _ => by simp [hkeys]) ?_ ?_
  ·rintro ⟨t1, o0⟩ h
   replace h : m_laws_markValueSS_j1  t1 o0 = some _ := h
   refine LWP.seq_k fun N16 hN16 => ?_
   refine LWP.region (l := [_,_]) ?_
   refine LWo.move (e_int t1) rfl (hn := ?_)
   refine LWo.assign (e_int t1) rfl (hn := ?_)
   refine LWo.nil (hN16 _ ?_)
   obtain rfl := Option.some.inj h
   refine LWP.ret (QG.mk (.inr rfl) (.cons (.tmp (x := (e_int t1)) rfl) (.nil)) (RetOK.one1 (.pure rfl) (by decide) rfl rfl rfl rfl rfl) rfl rfl)
  ·intro N2 hN2
   refine LWP.seq_k fun N3 hN3 => ?_
   refine LWP.region (l := [_]) ?_
   refine LWo.assign (e_int (0 : Int)) rfl (hn := ?_)
   refine LWo.nil (hN3 _ ?_)
   refine LWP.block ?_
   refine LWP.loopM (α := Int × Int × (List (List S_impl_Value))) (fun z : Int × Int × (List (List S_impl_Value)) => [(0, (.own 0 0 (z.2.2).length)), (1, (e_int z.1)), (5, (e_int z.2.1))]) (fun z : Int × Int × (List (List S_impl_Value)) => [(0, (dob 1 e_Limpl_Value z.2.2))]) (fun n1 (z : Int × Int × (List (List S_impl_Value))) => m_laws_markValueSS_l1  n1 z.1 z.2.1 z.2.2) r _ (a1, (0 : Int), o0) h (fun _ => rfl) (fun _ => by simp [hkeys]) ⟨rfl, rfl, rfl, trivial⟩ ⟨rfl, trivial⟩ ?_
   rintro n1 ⟨t1, t5, o0⟩ h N4 hN4
   replace h : m_laws_markValueSS_l1  (n1 + 1) t1 t5 o0 = some _ := h
   refine LWP.seq_k fun N6 hN6 => ?_
   refine LWP.seq_k fun N7 hN7 => ?_
   refine LWP.region (l := [_,_,_,_]) ?_
   refine LWo.move (e_int t5) rfl (hn := ?_)
   refine LWo.move (.own 0 0 (o0).length) rfl (hn := ?_)
   refine LWo.lenO u_LLimpl_Value rfl (hn := ?_)
   refine LWo.int _ rfl rfl rfl (hn := ?_)
   refine LWo.nil (hN7 _ ?_)
   refine LWP.cond_split rfl (fun h8 => ?_) (fun h8 => ?_)
   ·have h := bT h8 h
    refine LWP.skip (hN6 _ ?_)
    refine LWP.seq_k fun N9 hN9 => ?_
    refine LWP.block ?_
    refine LWP.region (l := [_,_,_,_,_,_,_]) ?_
    refine LWo.move (.own 0 0 (o0).length) rfl (hn := ?_)
    refine LWo.move (e_int t5) rfl (hn := ?_)
    refine bk h fun x10 e10 h => ?_
    refine LWo.indexD e10 rfl u_LLimpl_Value s_Limpl_Value rfl rfl rfl (hn := ?_)
    refine bk h fun x11 e11 h => ?_
    refine LWo.takeF (f := e_Limpl_Value) (g := e_impl_Value) (ys := x11) 1015 (.own 1015 0 x11.length) e11 g_Limpl_Value rfl rfl rfl rfl (fun _ => rfl) rfl rfl (hn := ?_)
    refine LWo.move (e_int t1) rfl (hn := ?_)
    refine bk h fun x12 e12 h => ?_
    refine bk h fun u13 e13 h => ?_
    refine lk h fun y14 e14 h => ?_
    refine LWo.ucallM (e := e_impl_Value) rfl rfl (k_laws_markValueS _ _ _ e12 1015) rfl rfl (some 17) rfl (hn := ?_)
    refine LWo.foldF (o := 0) (k2 := 1015) (f := e_Limpl_Value) (g := e_impl_Value) (l := o0) (i := t5) (ys := x12.2) (yo := (.own 1015 0 x11.length)) 0 y14 e11 rfl rfl (lenQ_some e13).1.symm rfl (by rw [e14]; rfl) (fun _ => rfl) (fun _ => rfl) rfl ?_
    refine LWo.assign (e_int x12.1) rfl (hn := ?_)
    refine LWo.nil (hN9 _ ?_)
    refine LWP.region (l := [_,_,_]) ?_
    refine LWo.move (e_int t5) rfl (hn := ?_)
    refine bk h fun x15 e15 h => ?_
    refine LWo.int _ rfl rfl (add_ck e15) (hn := ?_)
    refine LWo.assign (e_int x15) rfl (hn := ?_)
    refine LWo.nil (hN4 (x12.1, x15, (o0.set (t5).toNat y14)) _ ⟨(congrArg (LV.own 0 0) List.length_set.symm), rfl, rfl, trivial⟩ ⟨rfl, trivial⟩ h)
   ·have h := bF h8 h
    refine LWP.exit (hN2 (t1, o0) _ ⟨rfl, trivial⟩ ⟨rfl, trivial⟩ h)
theorem k_laws_markValueSS (o0 : (List (List S_impl_Value))) (a1 : Int) (r : (Int × (List (List S_impl_Value)))) (h : m_laws_markValueSS o0 a1 = some r) (k : Nat) : Does Try.prog f_laws_markValueSS [.own k 0 o0.length, e_int a1] [(k, (dob 1 e_Limpl_Value o0))] (fun x hh => x = e_int r.1 ∧ hh = [(k, (dob 1 e_Limpl_Value r.2))]) :=
  Does.nameOD (c_laws_markValueSS o0 a1 r h) (fun _ => rfl) k

def m_laws_markDeltaS_j1 (t1 : Int) (o0 : (List S_impl_Delta)) : Option (Int × (List S_impl_Delta)) :=
  some (t1, o0)
def m_laws_markDeltaS_l1 : Nat → Int → Int → (List S_impl_Delta) → Option (Int × (List S_impl_Delta))
  | 0, _, _, _ => none
  | n1 + 1, t1, t5, o0 =>
    bif decide (t5 < (o0.length : Int)) then ((at? o0 t5).bind fun x11 =>
    (at? o0 t5).bind fun x12 =>
    (m_laws_markValueS x12.Row t1).bind fun x13 =>
    (lenQ x13.2.length x12.Row.length ()).bind fun u14 =>
    lt ({ x12 with Row := x13.2 }) fun y15 =>
    (at? (o0.set (t5).toNat y15) t5).bind fun x17 =>
    (at? (o0.set (t5).toNat y15) t5).bind fun x18 =>
    (ckI (x13.1 + (1 : Int))).bind fun x19 =>
    (ckI (t5 + (1 : Int))).bind fun x20 =>
    (m_laws_markDeltaS_l1  n1) x19 x20 ((o0.set (t5).toNat y15).set (t5).toNat ({ x18 with Many := x13.1 })))
    else (m_laws_markDeltaS_j1  t1 o0)
def m_laws_markDeltaS (o0 : (List S_impl_Delta)) (a1 : Int) : Option (Int × (List S_impl_Delta)) :=
  m_laws_markDeltaS_l1  (((o0.length : Int) - (0 : Int)).toNat + 1) a1 (0 : Int) o0
theorem c_laws_markDeltaS (o0 : (List S_impl_Delta)) (a1 : Int) (r : (Int × (List S_impl_Delta))) (h : m_laws_markDeltaS o0 a1 = some r) : Does Try.prog f_laws_markDeltaS [.own 0 0 o0.length, e_int a1] [(0, (dob 2 e_impl_Delta o0))] (fun x hh => x = e_int r.1 ∧ hh = [(0, (dob 2 e_impl_Delta r.2))]) := by
  refine Does.goG [0] F_laws_markDeltaS rfl e_laws_markDeltaS n_laws_markDeltaS rfl (rvs := [.tmp 4]) rfl rfl ?_
  intro w0 ok0 lent ρ0
  refine LWP.seq_k fun N1 hN1 => ?_
  refine LWP.region (l := [_]) ?_
  refine LWo.assign (e_int (0 : Int)) rfl (hn := ?_)
  refine LWo.nil (hN1 _ ?_)
  refine LWP.join (α := Int × (List S_impl_Delta)) (fun z : Int × (List S_impl_Delta) => [(1, (e_int z.1))]) (fun z : Int × (List S_impl_Delta) => [(0, (dob 2 e_impl_Delta z.2))]) (fun z : Int × (List S_impl_Delta) => m_laws_markDeltaS_j1  z.1 z.2) r (fun _ => by simp [hkeys]) ?_ ?_
  ·rintro ⟨t1, o0⟩ h
   replace h : m_laws_markDeltaS_j1  t1 o0 = some _ := h
   refine LWP.seq_k fun N21 hN21 => ?_
   refine LWP.region (l := [_,_]) ?_
   refine LWo.move (e_int t1) rfl (hn := ?_)
   refine LWo.assign (e_int t1) rfl (hn := ?_)
   refine LWo.nil (hN21 _ ?_)
   obtain rfl := Option.some.inj h
   refine LWP.ret (QG.mk (.inr rfl) (.cons (.tmp (x := (e_int t1)) rfl) (.nil)) (RetOK.one1 (.pure rfl) (by decide) rfl rfl rfl rfl rfl) rfl rfl)
  ·intro N2 hN2
   refine LWP.seq_k fun N3 hN3 => ?_
   refine LWP.region (l := [_]) ?_
   refine LWo.assign (e_int (0 : Int)) rfl (hn := ?_)
   refine LWo.nil (hN3 _ ?_)
   refine LWP.block ?_
   refine LWP.loopM (α := Int × Int × (List S_impl_Delta)) (fun z : Int × Int × (List S_impl_Delta) => [(0, (.own 0 0 (z.2.2).length)), (1, (e_int z.1)), (5, (e_int z.2.1))]) (fun z : Int × Int × (List S_impl_Delta) => [(0, (dob 2 e_impl_Delta z.2.2))]) (fun n1 (z : Int × Int × (List S_impl_Delta)) => m_laws_markDeltaS_l1  n1 z.1 z.2.1 z.2.2) r _ (a1, (0 : Int), o0) h (fun _ => rfl) (fun _ => by simp [hkeys]) ⟨rfl, rfl, rfl, trivial⟩ ⟨rfl, trivial⟩ ?_
   rintro n1 ⟨t1, t5, o0⟩ h N4 hN4
   replace h : m_laws_markDeltaS_l1  (n1 + 1) t1 t5 o0 = some _ := h
   refine LWP.seq_k fun N6 hN6 => ?_
   refine LWP.seq_k fun N7 hN7 => ?_
   refine LWP.region (l := [_,_,_,_]) ?_
   refine LWo.move (e_int t5) rfl (hn := ?_)
   refine LWo.move (.own 0 0 (o0).length) rfl (hn := ?_)
   refine LWo.lenO u_Limpl_Delta rfl (hn := ?_)
   refine LWo.int _ rfl rfl rfl (hn := ?_)
   refine LWo.nil (hN7 _ ?_)
   refine LWP.cond_split rfl (fun h8 => ?_) (fun h8 => ?_)
   ·have h := bT h8 h
    refine LWP.skip (hN6 _ ?_)
    refine LWP.seq_k fun N9 hN9 => ?_
    refine LWP.block ?_
    refine LWP.seq_k fun N10 hN10 => ?_
    refine LWP.region (l := [_,_,_,_,_,_,_,_]) ?_
    refine LWo.move (.own 0 0 (o0).length) rfl (hn := ?_)
    refine LWo.move (e_int t5) rfl (hn := ?_)
    refine bk h fun x11 e11 h => ?_
    refine LWo.indexD e11 rfl u_Limpl_Delta s_impl_Delta rfl rfl rfl (hn := ?_)
    refine LWo.fieldPtr u_impl_Delta rfl s_Limpl_Value rfl rfl (hn := ?_)
    refine bk h fun x12 e12 h => ?_
    refine LWo.takeF (f := e_impl_Delta) (g := e_impl_Value) (ys := x12.Row) 1016 (.agg (setRange (e_impl_Delta x12).cells 0 [.own 1016 0 x12.Row.length])) e12 g_Limpl_Value rfl rfl rfl rfl (fun _ => rfl) rfl rfl (hn := ?_)
    refine LWo.move (e_int t1) rfl (hn := ?_)
    refine bk h fun x13 e13 h => ?_
    refine bk h fun u14 e14 h => ?_
    refine lk h fun y15 e15 h => ?_
    refine LWo.ucallM (e := e_impl_Value) rfl rfl (k_laws_markValueS _ _ _ e13 1016) rfl rfl (some 18) rfl (hn := ?_)
    refine LWo.foldF (o := 0) (k2 := 1016) (f := e_impl_Delta) (g := e_impl_Value) (l := o0) (i := t5) (ys := x13.2) (yo := (.agg (setRange (e_impl_Delta x12).cells 0 [.own 1016 0 x12.Row.length]))) 0 y15 e12 rfl rfl (lenQ_some e14).1.symm rfl (by rw [e15]; rfl) (fun _ => rfl) (fun _ => rfl) rfl ?_
    refine LWo.assign (e_int x13.1) rfl (hn := ?_)
    refine LWo.nil (hN10 _ ?_)
    refine LWP.seq_k fun N16 hN16 => ?_
    refine LWP.region (l := [_,_,_,_,_,_]) ?_
    refine LWo.move (.own 0 0 (o0).length) rfl (hn := ?_)
    refine LWo.move (e_int t5) rfl (hn := ?_)
    refine LWo.move (e_int x13.1) rfl (hn := ?_)
    refine bk h fun x17 e17 h => ?_
    refine LWo.indexD e17 List.length_set.symm u_Limpl_Delta s_impl_Delta rfl rfl rfl (hn := ?_)
    refine LWo.fieldPtr u_impl_Delta rfl s_int rfl rfl (hn := ?_)
    refine bk h fun x18 e18 h => ?_
    refine LWo.storeDM (ks := []) (f := e_impl_Delta) ({ x18 with Many := x13.1 } : S_impl_Delta) e18 s_int rfl rfl rfl rfl (.cons (.imm _) .nil) (by decide) rfl rfl rfl (hn := ?_)
    refine LWo.nil (hN16 _ ?_)
    refine LWP.region (l := [_,_,_]) ?_
    refine LWo.move (e_int x13.1) rfl (hn := ?_)
    refine bk h fun x19 e19 h => ?_
    refine LWo.int _ rfl rfl (add_ck e19) (hn := ?_)
    refine LWo.assign (e_int x19) rfl (hn := ?_)
    refine LWo.nil (hN9 _ ?_)
    refine LWP.region (l := [_,_,_]) ?_
    refine LWo.move (e_int t5) rfl (hn := ?_)
    refine bk h fun x20 e20 h => ?_
    refine LWo.int _ rfl rfl (add_ck e20) (hn := ?_)
    refine LWo.assign (e_int x20) rfl (hn := ?_)
    refine LWo.nil (hN4 (x19, x20, ((o0.set (t5).toNat y15).set (t5).toNat ({ x18 with Many := x13.1 }))) _ ⟨(congrArg (LV.own 0 0) (List.length_set.symm.trans List.length_set.symm)), rfl, rfl, trivial⟩ ⟨rfl, trivial⟩ h)
   ·have h := bF h8 h
    refine LWP.exit (hN2 (t1, o0) _ ⟨rfl, trivial⟩ ⟨rfl, trivial⟩ h)
theorem k_laws_markDeltaS (o0 : (List S_impl_Delta)) (a1 : Int) (r : (Int × (List S_impl_Delta))) (h : m_laws_markDeltaS o0 a1 = some r) (k : Nat) : Does Try.prog f_laws_markDeltaS [.own k 0 o0.length, e_int a1] [(k, (dob 2 e_impl_Delta o0))] (fun x hh => x = e_int r.1 ∧ hh = [(k, (dob 2 e_impl_Delta r.2))]) :=
  Does.nameOD (c_laws_markDeltaS o0 a1 r h) (fun _ => rfl) k

def m_laws_heldValueS_j1 (t1 : Int) : Option Int :=
  some t1
def m_laws_heldValueS_l1 : Nat → (List S_impl_Value) → Int → Int → Option Int
  | 0, _, _, _ => none
  | n1 + 1, t0, t1, t5 =>
    bif decide (t5 < (t0.length : Int)) then ((at? t0 t5).bind fun x12 =>
    bif (x12.Kind != t1) then (some (-1 : Int))
    else ((ckI (t1 + (1 : Int))).bind fun x16 =>
    (at? t0 t5).bind fun x19 =>
    bif (x19.N != x16) then (some (-1 : Int))
    else ((ckI (x16 + (1 : Int))).bind fun x23 =>
    (at? t0 t5).bind fun x26 =>
    (m_laws_markText x23).bind fun x27 =>
    bif (!(sEq x26.S x27)) then (some (-1 : Int))
    else ((ckI (x23 + (1 : Int))).bind fun x30 =>
    (ckI (t5 + (1 : Int))).bind fun x31 =>
    (m_laws_heldValueS_l1  n1) t0 x30 x31))))
    else (m_laws_heldValueS_j1  t1)
def m_laws_heldValueS (a0 : (List S_impl_Value)) (a1 : Int) : Option Int :=
  m_laws_heldValueS_l1  (((a0.length : Int) - (0 : Int)).toNat + 1) a0 a1 (0 : Int)
theorem c_laws_heldValueS (a0 : (List S_impl_Value)) (a1 : Int) (r : Int) (h : m_laws_heldValueS a0 a1 = some r) : Ret Try.prog f_laws_heldValueS [e_Limpl_Value a0, e_int a1] (e_int r) := by
  refine Does.goG [] F_laws_heldValueS rfl e_laws_heldValueS n_laws_heldValueS rfl (rvs := [.tmp 4]) rfl rfl ?_
  intro w0 ok0 lent ρ0
  refine LWP.seq_k fun N1 hN1 => ?_
  refine LWP.region (l := [_]) ?_
  refine LWo.assign (e_int (0 : Int)) rfl (hn := ?_)
  refine LWo.nil (hN1 _ ?_)
  refine LWP.join (α := Int) (fun z : Int => [(1, (e_int z))]) (fun z : Int => []) (fun z : Int => m_laws_heldValueS_j1  z) r (fun _ => by simp [hkeys]) ?_ ?_
  ·rintro t1 h
   replace h : m_laws_heldValueS_j1  t1 = some _ := h
   refine LWP.seq_k fun N32 hN32 => ?_
   refine LWP.region (l := [_,_]) ?_
   refine LWo.move (e_int t1) rfl (hn := ?_)
   refine LWo.assign (e_int t1) rfl (hn := ?_)
   refine LWo.nil (hN32 _ ?_)
   obtain rfl := Option.some.inj h
   refine LWP.ret (QG.mk (.inr rfl) (.cons (.tmp (x := (e_int t1)) rfl) (.nil)) (RetOK.one0 (.pure rfl) (by decide)) rfl rfl)
  ·intro N2 hN2
   refine LWP.seq_k fun N3 hN3 => ?_
   refine LWP.region (l := [_]) ?_
   refine LWo.assign (e_int (0 : Int)) rfl (hn := ?_)
   refine LWo.nil (hN3 _ ?_)
   refine LWP.block ?_
   refine LWP.loopM (α := (List S_impl_Value) × Int × Int) (fun z : (List S_impl_Value) × Int × Int => [(0, (e_Limpl_Value z.1)), (1, (e_int z.2.1)), (5, (e_int z.2.2))]) (fun z : (List S_impl_Value) × Int × Int => []) (fun n1 (z : (List S_impl_Value) × Int × Int) => m_laws_heldValueS_l1  n1 z.1 z.2.1 z.2.2) r _ (a0, a1, (0 : Int)) h (fun _ => rfl) (fun _ => by simp [hkeys]) ⟨rfl, rfl, rfl, trivial⟩ trivial ?_
   rintro n1 ⟨t0, t1, t5⟩ h N4 hN4
   replace h : m_laws_heldValueS_l1  (n1 + 1) t0 t1 t5 = some _ := h
   refine LWP.seq_k fun N6 hN6 => ?_
   refine LWP.seq_k fun N7 hN7 => ?_
   refine LWP.region (l := [_,_,_,_]) ?_
   refine LWo.move (e_int t5) rfl (hn := ?_)
   refine LWo.move (e_Limpl_Value t0) rfl (hn := ?_)
   refine LWo.lenM (f := e_impl_Value) (l := t0) u_Limpl_Value rfl (hn := ?_)
   refine LWo.int _ rfl rfl rfl (hn := ?_)
   refine LWo.nil (hN7 _ ?_)
   refine LWP.cond_split rfl (fun h8 => ?_) (fun h8 => ?_)
   ·have h := bT h8 h
    refine LWP.skip (hN6 _ ?_)
    refine LWP.seq_k fun N9 hN9 => ?_
    refine LWP.block ?_
    refine LWP.seq_k fun N10 hN10 => ?_
    refine LWP.seq_k fun N11 hN11 => ?_
    refine LWP.region (l := [_,_,_,_,_,_,_]) ?_
    refine LWo.move (e_Limpl_Value t0) rfl (hn := ?_)
    refine LWo.move (e_int t5) rfl (hn := ?_)
    refine bk h fun x12 e12 h => ?_
    refine LWo.indexM (f := e_impl_Value) e12 u_Limpl_Value s_impl_Value rfl rfl (hn := ?_)
    refine LWo.fieldAddr _ u_impl_Value rfl s_int rfl rfl (hn := ?_)
    refine LWo.load1 (c := (e_int x12.Kind)) g_int rfl (hn := ?_)
    refine LWo.move (e_int t1) rfl (hn := ?_)
    refine LWo.int _ rfl rfl rfl (hn := ?_)
    refine LWo.nil (hN11 _ ?_)
    refine LWP.cond_split rfl (fun h13 => ?_) (fun h13 => ?_)
    ·have h := bT h13 h
     refine LWP.seq_k fun N14 hN14 => ?_
     refine LWP.region (l := [_]) ?_
     refine LWo.assign (e_int (-1 : Int)) rfl (hn := ?_)
     refine LWo.nil (hN14 _ ?_)
     obtain rfl := Option.some.inj h
     refine LWP.ret (QG.mk (.inr rfl) (.cons (.tmp (x := (e_int (-1 : Int))) rfl) (.nil)) (RetOK.one0 (.pure rfl) (by decide)) rfl rfl)
    ·have h := bF h13 h
     refine LWP.skip (hN10 _ ?_)
     refine LWP.seq_k fun N15 hN15 => ?_
     refine LWP.region (l := [_,_,_]) ?_
     refine LWo.move (e_int t1) rfl (hn := ?_)
     refine bk h fun x16 e16 h => ?_
     refine LWo.int _ rfl rfl (add_ck e16) (hn := ?_)
     refine LWo.assign (e_int x16) rfl (hn := ?_)
     refine LWo.nil (hN15 _ ?_)
     refine LWP.seq_k fun N17 hN17 => ?_
     refine LWP.seq_k fun N18 hN18 => ?_
     refine LWP.region (l := [_,_,_,_,_,_,_]) ?_
     refine LWo.move (e_Limpl_Value t0) rfl (hn := ?_)
     refine LWo.move (e_int t5) rfl (hn := ?_)
     refine bk h fun x19 e19 h => ?_
     refine LWo.indexM (f := e_impl_Value) e19 u_Limpl_Value s_impl_Value rfl rfl (hn := ?_)
     refine LWo.fieldAddr _ u_impl_Value rfl s_int rfl rfl (hn := ?_)
     refine LWo.load1 (c := (e_int x19.N)) g_int rfl (hn := ?_)
     refine LWo.move (e_int x16) rfl (hn := ?_)
     refine LWo.int _ rfl rfl rfl (hn := ?_)
     refine LWo.nil (hN18 _ ?_)
     refine LWP.cond_split rfl (fun h20 => ?_) (fun h20 => ?_)
     ·have h := bT h20 h
      refine LWP.seq_k fun N21 hN21 => ?_
      refine LWP.region (l := [_]) ?_
      refine LWo.assign (e_int (-1 : Int)) rfl (hn := ?_)
      refine LWo.nil (hN21 _ ?_)
      obtain rfl := Option.some.inj h
      refine LWP.ret (QG.mk (.inr rfl) (.cons (.tmp (x := (e_int (-1 : Int))) rfl) (.nil)) (RetOK.one0 (.pure rfl) (by decide)) rfl rfl)
     ·have h := bF h20 h
      refine LWP.skip (hN17 _ ?_)
      refine LWP.seq_k fun N22 hN22 => ?_
      refine LWP.region (l := [_,_,_]) ?_
      refine LWo.move (e_int x16) rfl (hn := ?_)
      refine bk h fun x23 e23 h => ?_
      refine LWo.int _ rfl rfl (add_ck e23) (hn := ?_)
      refine LWo.assign (e_int x23) rfl (hn := ?_)
      refine LWo.nil (hN22 _ ?_)
      refine LWP.seq_k fun N24 hN24 => ?_
      refine LWP.seq_k fun N25 hN25 => ?_
      refine bk h fun x26 e26 h => ?_
      refine bk h fun x27 e27 h => ?_
      refine LWP.drawF (l := [_,_,_,_,_,_,_,_]) [] [0, 1, 5] [([0], []), ([5], []), ([30, 31], []), ([32], []), ([33], []), ([1], []), ([35], []), ([34, 36], [])] [0, 1, 5, 37] [] mixed (by kernel_rfl) rfl (by decide) ?_
      refine dq 30 rfl (fun _ g u h => LWo.move (e_Limpl_Value t0) u.1 (hn := .nil (zn g))) ?_
      refine dq 31 rfl (fun _ g u h => LWo.move (e_int t5) u.1 (hn := .nil (zn g))) ?_
      refine dq 32 rfl (fun _ g u h => LWo.indexM (f := e_impl_Value) e26 u_Limpl_Value s_impl_Value u.1 u.2.1 (hn := .nil (zn g))) ?_
      refine dq 33 rfl (fun _ g u h => LWo.fieldAddr _ u_impl_Value rfl s_string u.1 rfl (hn := .nil (zn g))) ?_
      refine dq 34 rfl (fun _ g u h => LWo.load1 (c := (e_string x26.S)) g_string u.1 (hn := .nil (zn g))) ?_
      refine dq 35 rfl (fun _ g u h => LWo.move (e_int x23) u.1 (hn := .nil (zn g))) ?_
      refine dq 36 rfl (fun _ g u h => LWo.vcall rfl (av1 u.1) (c_laws_markText _ _ e27) (.same (.nil)) (hn := .nil (zn g))) ?_
      refine dq 37 rfl (fun _ g u h => LWo.str _ u.1 u.2.1 rfl (hn := .nil (zn g))) ?_
      refine ⟨rfl, by kernel_rfl, hN25 _ ?_⟩
      refine LWP.cond_split rfl (fun h28 => ?_) (fun h28 => ?_)
      ·have h := bT h28 h
       refine LWP.seq_k fun N29 hN29 => ?_
       refine LWP.region (l := [_]) ?_
       refine LWo.assign (e_int (-1 : Int)) rfl (hn := ?_)
       refine LWo.nil (hN29 _ ?_)
       obtain rfl := Option.some.inj h
       refine LWP.ret (QG.mk (.inr rfl) (.cons (.tmp (x := (e_int (-1 : Int))) rfl) (.nil)) (RetOK.one0 (.pure rfl) (by decide)) rfl rfl)
      ·have h := bF h28 h
       refine LWP.skip (hN24 _ ?_)
       refine LWP.region (l := [_,_,_]) ?_
       refine LWo.move (e_int x23) rfl (hn := ?_)
       refine bk h fun x30 e30 h => ?_
       refine LWo.int _ rfl rfl (add_ck e30) (hn := ?_)
       refine LWo.assign (e_int x30) rfl (hn := ?_)
       refine LWo.nil (hN9 _ ?_)
       refine LWP.region (l := [_,_,_]) ?_
       refine LWo.move (e_int t5) rfl (hn := ?_)
       refine bk h fun x31 e31 h => ?_
       refine LWo.int _ rfl rfl (add_ck e31) (hn := ?_)
       refine LWo.assign (e_int x31) rfl (hn := ?_)
       refine LWo.nil (hN4 (t0, x30, x31) _ ⟨rfl, rfl, rfl, trivial⟩ trivial h)
   ·have h := bF h8 h
    refine LWP.exit (hN2 t1 _ ⟨rfl, trivial⟩ trivial h)

def m_laws_heldValueSS_j1 (t1 : Int) : Option Int :=
  some t1
def m_laws_heldValueSS_l1 : Nat → (List (List S_impl_Value)) → Int → Int → Option Int
  | 0, _, _, _ => none
  | n1 + 1, t0, t1, t5 =>
    bif decide (t5 < (t0.length : Int)) then ((at? t0 t5).bind fun x11 =>
    (m_laws_heldValueS x11 t1).bind fun x12 =>
    bif decide (x12 < (0 : Int)) then (some (-1 : Int))
    else ((ckI (t5 + (1 : Int))).bind fun x16 =>
    (m_laws_heldValueSS_l1  n1) t0 x12 x16))
    else (m_laws_heldValueSS_j1  t1)
def m_laws_heldValueSS (a0 : (List (List S_impl_Value))) (a1 : Int) : Option Int :=
  m_laws_heldValueSS_l1  (((a0.length : Int) - (0 : Int)).toNat + 1) a0 a1 (0 : Int)
theorem c_laws_heldValueSS (a0 : (List (List S_impl_Value))) (a1 : Int) (r : Int) (h : m_laws_heldValueSS a0 a1 = some r) : Ret Try.prog f_laws_heldValueSS [e_LLimpl_Value a0, e_int a1] (e_int r) := by
  refine Does.goG [] F_laws_heldValueSS rfl e_laws_heldValueSS n_laws_heldValueSS rfl (rvs := [.tmp 4]) rfl rfl ?_
  intro w0 ok0 lent ρ0
  refine LWP.seq_k fun N1 hN1 => ?_
  refine LWP.region (l := [_]) ?_
  refine LWo.assign (e_int (0 : Int)) rfl (hn := ?_)
  refine LWo.nil (hN1 _ ?_)
  refine LWP.join (α := Int) (fun z : Int => [(1, (e_int z))]) (fun z : Int => []) (fun z : Int => m_laws_heldValueSS_j1  z) r (fun _ => by simp [hkeys]) ?_ ?_
  ·rintro t1 h
   replace h : m_laws_heldValueSS_j1  t1 = some _ := h
   refine LWP.seq_k fun N17 hN17 => ?_
   refine LWP.region (l := [_,_]) ?_
   refine LWo.move (e_int t1) rfl (hn := ?_)
   refine LWo.assign (e_int t1) rfl (hn := ?_)
   refine LWo.nil (hN17 _ ?_)
   obtain rfl := Option.some.inj h
   refine LWP.ret (QG.mk (.inr rfl) (.cons (.tmp (x := (e_int t1)) rfl) (.nil)) (RetOK.one0 (.pure rfl) (by decide)) rfl rfl)
  ·intro N2 hN2
   refine LWP.seq_k fun N3 hN3 => ?_
   refine LWP.region (l := [_]) ?_
   refine LWo.assign (e_int (0 : Int)) rfl (hn := ?_)
   refine LWo.nil (hN3 _ ?_)
   refine LWP.block ?_
   refine LWP.loopM (α := (List (List S_impl_Value)) × Int × Int) (fun z : (List (List S_impl_Value)) × Int × Int => [(0, (e_LLimpl_Value z.1)), (1, (e_int z.2.1)), (5, (e_int z.2.2))]) (fun z : (List (List S_impl_Value)) × Int × Int => []) (fun n1 (z : (List (List S_impl_Value)) × Int × Int) => m_laws_heldValueSS_l1  n1 z.1 z.2.1 z.2.2) r _ (a0, a1, (0 : Int)) h (fun _ => rfl) (fun _ => by simp [hkeys]) ⟨rfl, rfl, rfl, trivial⟩ trivial ?_
   rintro n1 ⟨t0, t1, t5⟩ h N4 hN4
   replace h : m_laws_heldValueSS_l1  (n1 + 1) t0 t1 t5 = some _ := h
   refine LWP.seq_k fun N6 hN6 => ?_
   refine LWP.seq_k fun N7 hN7 => ?_
   refine LWP.region (l := [_,_,_,_]) ?_
   refine LWo.move (e_int t5) rfl (hn := ?_)
   refine LWo.move (e_LLimpl_Value t0) rfl (hn := ?_)
   refine LWo.lenM (f := e_Limpl_Value) (l := t0) u_LLimpl_Value rfl (hn := ?_)
   refine LWo.int _ rfl rfl rfl (hn := ?_)
   refine LWo.nil (hN7 _ ?_)
   refine LWP.cond_split rfl (fun h8 => ?_) (fun h8 => ?_)
   ·have h := bT h8 h
    refine LWP.skip (hN6 _ ?_)
    refine LWP.seq_k fun N9 hN9 => ?_
    refine LWP.block ?_
    refine LWP.seq_k fun N10 hN10 => ?_
    refine LWP.region (l := [_,_,_,_,_,_,_]) ?_
    refine LWo.move (e_LLimpl_Value t0) rfl (hn := ?_)
    refine LWo.move (e_int t5) rfl (hn := ?_)
    refine bk h fun x11 e11 h => ?_
    refine LWo.indexM (f := e_Limpl_Value) e11 u_LLimpl_Value s_Limpl_Value rfl rfl (hn := ?_)
    refine LWo.load1 (c := (e_Limpl_Value x11)) g_Limpl_Value rfl (hn := ?_)
    refine LWo.move (e_int t1) rfl (hn := ?_)
    refine bk h fun x12 e12 h => ?_
    refine LWo.vcall rfl rfl (c_laws_heldValueS _ _ _ e12) (.same (.same (.nil))) (hn := ?_)
    refine LWo.assign (e_int x12) rfl (hn := ?_)
    refine LWo.nil (hN10 _ ?_)
    refine LWP.seq_k fun N13 hN13 => ?_
    refine LWP.region (l := [_,_]) ?_
    refine LWo.move (e_int x12) rfl (hn := ?_)
    refine LWo.int _ rfl rfl rfl (hn := ?_)
    refine LWo.nil (hN13 _ ?_)
    refine LWP.cond_split rfl (fun h14 => ?_) (fun h14 => ?_)
    ·have h := bT h14 h
     refine LWP.seq_k fun N15 hN15 => ?_
     refine LWP.region (l := [_]) ?_
     refine LWo.assign (e_int (-1 : Int)) rfl (hn := ?_)
     refine LWo.nil (hN15 _ ?_)
     obtain rfl := Option.some.inj h
     refine LWP.ret (QG.mk (.inr rfl) (.cons (.tmp (x := (e_int (-1 : Int))) rfl) (.nil)) (RetOK.one0 (.pure rfl) (by decide)) rfl rfl)
    ·have h := bF h14 h
     refine LWP.skip (hN9 _ ?_)
     refine LWP.region (l := [_,_,_]) ?_
     refine LWo.move (e_int t5) rfl (hn := ?_)
     refine bk h fun x16 e16 h => ?_
     refine LWo.int _ rfl rfl (add_ck e16) (hn := ?_)
     refine LWo.assign (e_int x16) rfl (hn := ?_)
     refine LWo.nil (hN4 (t0, x12, x16) _ ⟨rfl, rfl, rfl, trivial⟩ trivial h)
   ·have h := bF h8 h
    refine LWP.exit (hN2 t1 _ ⟨rfl, trivial⟩ trivial h)

def m_laws_FnExactDeltaRows_j3 (t13 : Int) (t110 : Bool) (o1042 : (List (List S_impl_Value))) : Option Bool :=
  bif t110 then (some false)
  else ((m_laws_heldValueSS o1042 (1 : Int)).bind fun x84 =>
  bif decide (x84 < (0 : Int)) then (some false)
  else (bif (x84 != t13) then (some false)
  else (some true)))
def m_laws_FnExactDeltaRows_j2 (t0 : (List (List S_laws_Value))) (t1 : (List S_laws_Delta)) (t6 : (List (List S_impl_Value))) (t7 : Bool) (t82 : Bool) (o1042 : (List (List S_impl_Value))) : Option Bool :=
  bif t82 then (some false)
  else ((m_laws_markValueSS o1042 (1 : Int)).bind fun x59 =>
  (lenQ x59.2.length o1042.length ()).bind fun u60 =>
  (m_laws_heldValueSS x59.2 (1 : Int)).bind fun x63 =>
  bif decide (x63 < (0 : Int)) then (some false)
  else (bif (x63 != x59.1) then (some false)
  else ((m_laws_toValueSS t0).bind fun x73 =>
  (m_laws_toDeltaS t1).bind fun x74 =>
  (m_impl_DeltaRows x73 x74).bind fun x75 =>
  (m_laws_eqValueSS x75.1 t6).bind fun x78 =>
  bif (!x78) then (m_laws_FnExactDeltaRows_j3  x59.1 true x59.2)
  else (m_laws_FnExactDeltaRows_j3  x59.1 (x75.2 != t7) x59.2))))
def m_laws_FnExactDeltaRows_j1 (t0 : (List (List S_laws_Value))) (t1 : (List S_laws_Delta)) (t6 : (List (List S_impl_Value))) (t7 : Bool) (t11 : Bool) (t53 : Bool) (o1036 : (List (List S_impl_Value))) (o1038 : (List S_impl_Delta)) (o1042 : (List (List S_impl_Value))) : Option Bool :=
  bif t53 then (some false)
  else ((m_laws_toValueSS t0).bind fun x33 =>
  (m_laws_eqValueSS o1036 x33).bind fun x34 =>
  bif (!x34) then (some false)
  else ((m_laws_toDeltaS t1).bind fun x39 =>
  (m_laws_eqDeltaS o1038 x39).bind fun x40 =>
  bif (!x40) then (some false)
  else ((m_laws_markValueSS o1036 (1 : Int)).bind fun x45 =>
  (lenQ x45.2.length o1036.length ()).bind fun u46 =>
  (m_laws_markDeltaS o1038 x45.1).bind fun x48 =>
  (lenQ x48.2.length o1038.length ()).bind fun u49 =>
  bif decide (x48.1 < (0 : Int)) then (m_laws_FnExactDeltaRows_j2  t0 t1 t6 t7 true o1042)
  else ((m_laws_eqValueSS o1042 t6).bind fun x53 =>
  bif (!x53) then (m_laws_FnExactDeltaRows_j2  t0 t1 t6 t7 true o1042)
  else (m_laws_FnExactDeltaRows_j2  t0 t1 t6 t7 (t11 != t7) o1042)))))
def m_laws_FnExactDeltaRows (a0 : (List (List S_laws_Value))) (a1 : (List S_laws_Delta)) : Option Bool :=
  (m_laws_szValueSS a0 (1048576 : Int)).bind fun x4 =>
  bif decide (x4 < (0 : Int)) then (some true)
  else ((m_laws_szDeltaS a1 x4).bind fun x10 =>
  bif decide (x10 < (0 : Int)) then (some true)
  else ((m_laws_toValueSS a0).bind fun x16 =>
  (m_laws_toDeltaS a1).bind fun x17 =>
  (m_spec_DeltaRows x16 x17).bind fun x18 =>
  (m_laws_toValueSS a0).bind fun x20 =>
  (m_laws_toDeltaS a1).bind fun x22 =>
  (m_impl_DeltaRows x20 x22).bind fun x24 =>
  (m_laws_eqValueSS x24.1 x18.1).bind fun x27 =>
  bif (!x27) then (m_laws_FnExactDeltaRows_j1  a0 a1 x18.1 x18.2 x24.2 true x20 x22 x24.1)
  else (m_laws_FnExactDeltaRows_j1  a0 a1 x18.1 x18.2 x24.2 (x24.2 != x18.2) x20 x22 x24.1)))
theorem c_laws_FnExactDeltaRows (a0 : (List (List S_laws_Value))) (a1 : (List S_laws_Delta)) (r : Bool) (h : m_laws_FnExactDeltaRows a0 a1 = some r) : Ret Try.prog f_laws_FnExactDeltaRows [e_LLlaws_Value a0, e_Llaws_Delta a1] (e_bool r) := by
  refine Does.goG [] F_laws_FnExactDeltaRows rfl e_laws_FnExactDeltaRows n_laws_FnExactDeltaRows rfl (rvs := [.tmp 4]) rfl rfl ?_
  intro w0 ok0 lent ρ0
  refine LWP.seq_k fun N1 hN1 => ?_
  refine LWP.region (l := [_]) ?_
  refine LWo.assign (e_bool false) rfl (hn := ?_)
  refine LWo.nil (hN1 _ ?_)
  refine LWP.seq_k fun N2 hN2 => ?_
  refine LWP.region (l := [_]) ?_
  refine LWo.assign (e_int (1048576 : Int)) rfl (hn := ?_)
  refine LWo.nil (hN2 _ ?_)
  refine LWP.seq_k fun N3 hN3 => ?_
  refine LWP.region (l := [_,_,_,_]) ?_
  refine LWo.move (e_LLlaws_Value a0) rfl (hn := ?_)
  refine LWo.move (e_int (1048576 : Int)) rfl (hn := ?_)
  refine bk h fun x4 e4 h => ?_
  refine LWo.vcall rfl rfl (c_laws_szValueSS _ _ _ e4) (.same (.same (.nil))) (hn := ?_)
  refine LWo.assign (e_int x4) rfl (hn := ?_)
  refine LWo.nil (hN3 _ ?_)
  refine LWP.seq_k fun N5 hN5 => ?_
  refine LWP.seq_k fun N6 hN6 => ?_
  refine LWP.region (l := [_,_]) ?_
  refine LWo.move (e_int x4) rfl (hn := ?_)
  refine LWo.int _ rfl rfl rfl (hn := ?_)
  refine LWo.nil (hN6 _ ?_)
  refine LWP.cond_split rfl (fun h7 => ?_) (fun h7 => ?_)
  ·have h := bT h7 h
   refine LWP.seq_k fun N8 hN8 => ?_
   refine LWP.region (l := [_]) ?_
   refine LWo.assign (e_bool true) rfl (hn := ?_)
   refine LWo.nil (hN8 _ ?_)
   obtain rfl := Option.some.inj h
   refine LWP.ret (QG.mk (.inr rfl) (.cons (.tmp (x := (e_bool true)) rfl) (.nil)) (RetOK.one0 (.pure rfl) (by decide)) rfl rfl)
  ·have h := bF h7 h
   refine LWP.skip (hN5 _ ?_)
   refine LWP.seq_k fun N9 hN9 => ?_
   refine LWP.region (l := [_,_,_,_]) ?_
   refine LWo.move (e_Llaws_Delta a1) rfl (hn := ?_)
   refine LWo.move (e_int x4) rfl (hn := ?_)
   refine bk h fun x10 e10 h => ?_
   refine LWo.vcall rfl rfl (c_laws_szDeltaS _ _ _ e10) (.same (.same (.nil))) (hn := ?_)
   refine LWo.assign (e_int x10) rfl (hn := ?_)
   refine LWo.nil (hN9 _ ?_)
   refine LWP.seq_k fun N11 hN11 => ?_
   refine LWP.seq_k fun N12 hN12 => ?_
   refine LWP.region (l := [_,_]) ?_
   refine LWo.move (e_int x10) rfl (hn := ?_)
   refine LWo.int _ rfl rfl rfl (hn := ?_)
   refine LWo.nil (hN12 _ ?_)
   refine LWP.cond_split rfl (fun h13 => ?_) (fun h13 => ?_)
   ·have h := bT h13 h
    refine LWP.seq_k fun N14 hN14 => ?_
    refine LWP.region (l := [_]) ?_
    refine LWo.assign (e_bool true) rfl (hn := ?_)
    refine LWo.nil (hN14 _ ?_)
    obtain rfl := Option.some.inj h
    refine LWP.ret (QG.mk (.inr rfl) (.cons (.tmp (x := (e_bool true)) rfl) (.nil)) (RetOK.one0 (.pure rfl) (by decide)) rfl rfl)
   ·have h := bF h13 h
    refine LWP.skip (hN11 _ ?_)
    refine LWP.seq_k fun N15 hN15 => ?_
    refine LWP.region (l := [_,_,_,_,_,_,_,_,_,_]) ?_
    refine LWo.move (e_LLlaws_Value a0) rfl (hn := ?_)
    refine bk h fun x16 e16 h => ?_
    refine LWo.vcall rfl rfl (c_laws_toValueSS _ _ e16) (.same (.nil)) (hn := ?_)
    refine LWo.move (e_Llaws_Delta a1) rfl (hn := ?_)
    refine bk h fun x17 e17 h => ?_
    refine LWo.vcall rfl rfl (c_laws_toDeltaS _ _ e17) (.same (.nil)) (hn := ?_)
    refine bk h fun x18 e18 h => ?_
    refine LWo.vcall rfl rfl (c_spec_DeltaRows _ _ _ e18) (.same (.same (.nil))) (hn := ?_)
    refine LWo.move (.tup [(e_LLimpl_Value x18.1), (e_bool x18.2)]) rfl (hn := ?_)
    refine LWo.extract (e_LLimpl_Value x18.1) rfl rfl (hn := ?_)
    refine LWo.extract (e_bool x18.2) rfl rfl (hn := ?_)
    refine LWo.assign (e_LLimpl_Value x18.1) rfl (hn := ?_)
    refine LWo.assign (e_bool x18.2) rfl (hn := ?_)
    refine LWo.nil (hN15 _ ?_)
    refine LWP.seq_k fun N19 hN19 => ?_
    refine LWP.region (l := [_,_,_]) ?_
    refine LWo.move (e_LLlaws_Value a0) rfl (hn := ?_)
    refine bk h fun x20 e20 h => ?_
    refine LWo.ncallD (e := e_Limpl_Value) 1036 rfl rfl (c_laws_toValueSS _ _ e20) (.same (.nil)) rfl (hn := ?_)
    refine LWo.assign (.own 1036 0 (x20).length) rfl (hn := ?_)
    refine LWo.nil (hN19 _ ?_)
    refine LWP.seq_k fun N21 hN21 => ?_
    refine LWP.region (l := [_,_,_]) ?_
    refine LWo.move (e_Llaws_Delta a1) rfl (hn := ?_)
    refine bk h fun x22 e22 h => ?_
    refine LWo.ncallD (e := e_impl_Delta) 1038 rfl rfl (c_laws_toDeltaS _ _ e22) (.same (.nil)) rfl (hn := ?_)
    refine LWo.assign (.own 1038 0 (x22).length) rfl (hn := ?_)
    refine LWo.nil (hN21 _ ?_)
    refine LWP.seq_k fun N23 hN23 => ?_
    refine LWP.region (l := [_,_,_,_,_,_,_,_]) ?_
    refine LWo.move (.own 1036 0 (x20).length) rfl (hn := ?_)
    refine LWo.move (.own 1038 0 (x22).length) rfl (hn := ?_)
    refine bk h fun x24 e24 h => ?_
    refine LWo.ntcallD (e := e_Limpl_Value) (l := x24.1) 1042 rfl rfl (c_impl_DeltaRows _ _ _ e24) (.viewD rfl rfl rfl (.viewD rfl rfl rfl (.nil))) ⟨_, rfl⟩ rfl (hn := ?_)
    refine LWo.move (.tup [(.own 1042 0 (x24.1).length), (e_bool x24.2)]) rfl (hn := ?_)
    refine LWo.extract (.own 1042 0 (x24.1).length) rfl rfl (hn := ?_)
    refine LWo.extract (e_bool x24.2) rfl rfl (hn := ?_)
    refine LWo.assign (.own 1042 0 (x24.1).length) rfl (hn := ?_)
    refine LWo.assign (e_bool x24.2) rfl (hn := ?_)
    refine LWo.nil (hN23 _ ?_)
    refine LWP.seq_k fun N25 hN25 => ?_
    refine LWP.join (α := (List (List S_laws_Value)) × (List S_laws_Delta) × (List (List S_impl_Value)) × Bool × Bool × Bool × (List (List S_impl_Value)) × (List S_impl_Delta) × (List (List S_impl_Value))) (fun z : (List (List S_laws_Value)) × (List S_laws_Delta) × (List (List S_impl_Value)) × Bool × Bool × Bool × (List (List S_impl_Value)) × (List S_impl_Delta) × (List (List S_impl_Value)) => [(0, (e_LLlaws_Value z.1)), (1, (e_Llaws_Delta z.2.1)), (6, (e_LLimpl_Value z.2.2.1)), (7, (e_bool z.2.2.2.1)), (8, (.own 1036 0 (z.2.2.2.2.2.2.1).length)), (9, (.own 1038 0 (z.2.2.2.2.2.2.2.1).length)), (10, (.own 1042 0 (z.2.2.2.2.2.2.2.2).length)), (11, (e_bool z.2.2.2.2.1)), (53, (e_bool z.2.2.2.2.2.1))]) (fun z : (List (List S_laws_Value)) × (List S_laws_Delta) × (List (List S_impl_Value)) × Bool × Bool × Bool × (List (List S_impl_Value)) × (List S_impl_Delta) × (List (List S_impl_Value)) => [(1036, (dob 1 e_Limpl_Value z.2.2.2.2.2.2.1)), (1038, (dob 2 e_impl_Delta z.2.2.2.2.2.2.2.1)), (1042, (dob 1 e_Limpl_Value z.2.2.2.2.2.2.2.2))]) (fun z : (List (List S_laws_Value)) × (List S_laws_Delta) × (List (List S_impl_Value)) × Bool × Bool × Bool × (List (List S_impl_Value)) × (List S_impl_Delta) × (List (List S_impl_Value)) => m_laws_FnExactDeltaRows_j1  z.1 z.2.1 z.2.2.1 z.2.2.2.1 z.2.2.2.2.1 z.2.2.2.2.2.1 z.2.2.2.2.2.2.1 z.2.2.2.2.2.2.2.1 z.2.2.2.2.2.2.2.2) r (fun _ => by simp [hkeys]) ?_ ?_
    ·rintro ⟨t0, t1, t6, t7, t11, t53, o1036, o1038, o1042⟩ h
     replace h : m_laws_FnExactDeltaRows_j1  t0 t1 t6 t7 t11 t53 o1036 o1038 o1042 = some _ := h
     refine LWP.cond_split rfl (fun h29 => ?_) (fun h29 => ?_)
     ·have h := bT h29 h
      refine LWP.seq_k fun N30 hN30 => ?_
      refine LWP.region (l := [_]) ?_
      refine LWo.assign (e_bool false) rfl (hn := ?_)
      refine LWo.nil (hN30 _ ?_)
      obtain rfl := Option.some.inj h
      refine LWP.ret (QG.mk (.inr rfl) (.cons (.tmp (x := (e_bool false)) rfl) (.nil)) (RetOK.one0 (.pure rfl) (by decide)) rfl rfl)
     ·have h := bF h29 h
      refine LWP.skip (hN25 _ ?_)
      refine LWP.seq_k fun N31 hN31 => ?_
      refine LWP.seq_k fun N32 hN32 => ?_
      refine LWP.region (l := [_,_,_,_,_]) ?_
      refine LWo.move (.own 1036 0 (o1036).length) rfl (hn := ?_)
      refine LWo.move (e_LLlaws_Value t0) rfl (hn := ?_)
      refine bk h fun x33 e33 h => ?_
      refine LWo.vcall rfl rfl (c_laws_toValueSS _ _ e33) (.same (.nil)) (hn := ?_)
      refine bk h fun x34 e34 h => ?_
      refine LWo.wcall rfl rfl (c_laws_eqValueSS _ _ _ e34) (.viewD rfl rfl rfl (.same (.nil))) rfl (hn := ?_)
      refine LWo.not rfl (hn := ?_)
      refine LWo.nil (hN32 _ ?_)
      refine LWP.cond_split rfl (fun h35 => ?_) (fun h35 => ?_)
      ·have h := bT h35 h
       refine LWP.seq_k fun N36 hN36 => ?_
       refine LWP.region (l := [_]) ?_
       refine LWo.assign (e_bool false) rfl (hn := ?_)
       refine LWo.nil (hN36 _ ?_)
       obtain rfl := Option.some.inj h
       refine LWP.ret (QG.mk (.inr rfl) (.cons (.tmp (x := (e_bool false)) rfl) (.nil)) (RetOK.one0 (.pure rfl) (by decide)) rfl rfl)
      ·have h := bF h35 h
       refine LWP.skip (hN31 _ ?_)
       refine LWP.seq_k fun N37 hN37 => ?_
       refine LWP.seq_k fun N38 hN38 => ?_
       refine LWP.region (l := [_,_,_,_,_]) ?_
       refine LWo.move (.own 1038 0 (o1038).length) rfl (hn := ?_)
       refine LWo.move (e_Llaws_Delta t1) rfl (hn := ?_)
       refine bk h fun x39 e39 h => ?_
       refine LWo.vcall rfl rfl (c_laws_toDeltaS _ _ e39) (.same (.nil)) (hn := ?_)
       refine bk h fun x40 e40 h => ?_
       refine LWo.wcall rfl rfl (c_laws_eqDeltaS _ _ _ e40) (.viewD rfl rfl rfl (.same (.nil))) rfl (hn := ?_)
       refine LWo.not rfl (hn := ?_)
       refine LWo.nil (hN38 _ ?_)
       refine LWP.cond_split rfl (fun h41 => ?_) (fun h41 => ?_)
       ·have h := bT h41 h
        refine LWP.seq_k fun N42 hN42 => ?_
        refine LWP.region (l := [_]) ?_
        refine LWo.assign (e_bool false) rfl (hn := ?_)
        refine LWo.nil (hN42 _ ?_)
        obtain rfl := Option.some.inj h
        refine LWP.ret (QG.mk (.inr rfl) (.cons (.tmp (x := (e_bool false)) rfl) (.nil)) (RetOK.one0 (.pure rfl) (by decide)) rfl rfl)
       ·have h := bF h41 h
        refine LWP.skip (hN37 _ ?_)
        refine LWP.seq_k fun N43 hN43 => ?_
        refine LWP.region (l := [_]) ?_
        refine LWo.assign (e_int (1 : Int)) rfl (hn := ?_)
        refine LWo.nil (hN43 _ ?_)
        refine LWP.seq_k fun N44 hN44 => ?_
        refine LWP.region (l := [_,_,_,_]) ?_
        refine LWo.move (.own 1036 0 (o1036).length) rfl (hn := ?_)
        refine LWo.move (e_int (1 : Int)) rfl (hn := ?_)
        refine bk h fun x45 e45 h => ?_
        refine bk h fun u46 e46 h => ?_
        refine LWo.ucallD (e := e_Limpl_Value) rfl rfl (k_laws_markValueSS _ _ _ e45 1036) rfl rfl (some 66) rfl (hn := ?_)
        refine LWo.assign (e_int x45.1) rfl (hn := ?_)
        refine LWo.nil (hN44 _ ?_)
        refine LWP.seq_k fun N47 hN47 => ?_
        refine LWP.region (l := [_,_,_,_]) ?_
        refine LWo.move (.own 1038 0 (o1038).length) rfl (hn := ?_)
        refine LWo.move (e_int x45.1) rfl (hn := ?_)
        refine bk h fun x48 e48 h => ?_
        refine bk h fun u49 e49 h => ?_
        refine LWo.ucallD (e := e_impl_Delta) rfl rfl (k_laws_markDeltaS _ _ _ e48 1038) rfl rfl (some 69) rfl (hn := ?_)
        refine LWo.assign (e_int x48.1) rfl (hn := ?_)
        refine LWo.nil (hN47 _ ?_)
        refine LWP.seq_k fun N50 hN50 => ?_
        refine LWP.join (α := (List (List S_laws_Value)) × (List S_laws_Delta) × (List (List S_impl_Value)) × Bool × Bool × (List (List S_impl_Value))) (fun z : (List (List S_laws_Value)) × (List S_laws_Delta) × (List (List S_impl_Value)) × Bool × Bool × (List (List S_impl_Value)) => [(0, (e_LLlaws_Value z.1)), (1, (e_Llaws_Delta z.2.1)), (6, (e_LLimpl_Value z.2.2.1)), (7, (e_bool z.2.2.2.1)), (10, (.own 1042 0 (z.2.2.2.2.2).length)), (82, (e_bool z.2.2.2.2.1))]) (fun z : (List (List S_laws_Value)) × (List S_laws_Delta) × (List (List S_impl_Value)) × Bool × Bool × (List (List S_impl_Value)) => [(1042, (dob 1 e_Limpl_Value z.2.2.2.2.2))]) (fun z : (List (List S_laws_Value)) × (List S_laws_Delta) × (List (List S_impl_Value)) × Bool × Bool × (List (List S_impl_Value)) => m_laws_FnExactDeltaRows_j2  z.1 z.2.1 z.2.2.1 z.2.2.2.1 z.2.2.2.2.1 z.2.2.2.2.2) r (fun _ => by simp [hkeys]) ?_ ?_
        ·rintro ⟨t0, t1, t6, t7, t82, o1042⟩ h
         replace h : m_laws_FnExactDeltaRows_j2  t0 t1 t6 t7 t82 o1042 = some _ := h
         refine LWP.cond_split rfl (fun h55 => ?_) (fun h55 => ?_)
         ·have h := bT h55 h
          refine LWP.seq_k fun N56 hN56 => ?_
          refine LWP.region (l := [_]) ?_
          refine LWo.assign (e_bool false) rfl (hn := ?_)
          refine LWo.nil (hN56 _ ?_)
          obtain rfl := Option.some.inj h
          refine LWP.ret (QG.mk (.inr rfl) (.cons (.tmp (x := (e_bool false)) rfl) (.nil)) (RetOK.one0 (.pure rfl) (by decide)) rfl rfl)
         ·have h := bF h55 h
          refine LWP.skip (hN50 _ ?_)
          refine LWP.seq_k fun N57 hN57 => ?_
          refine LWP.region (l := [_]) ?_
          refine LWo.assign (e_int (1 : Int)) rfl (hn := ?_)
          refine LWo.nil (hN57 _ ?_)
          refine LWP.seq_k fun N58 hN58 => ?_
          refine LWP.region (l := [_,_,_,_]) ?_
          refine LWo.move (.own 1042 0 (o1042).length) rfl (hn := ?_)
          refine LWo.move (e_int (1 : Int)) rfl (hn := ?_)
          refine bk h fun x59 e59 h => ?_
          refine bk h fun u60 e60 h => ?_
          refine LWo.ucallD (e := e_Limpl_Value) rfl rfl (k_laws_markValueSS _ _ _ e59 1042) rfl rfl (some 85) rfl (hn := ?_)
          refine LWo.assign (e_int x59.1) rfl (hn := ?_)
          refine LWo.nil (hN58 _ ?_)
          refine LWP.seq_k fun N61 hN61 => ?_
          refine LWP.region (l := [_]) ?_
          refine LWo.assign (e_int (1 : Int)) rfl (hn := ?_)
          refine LWo.nil (hN61 _ ?_)
          refine LWP.seq_k fun N62 hN62 => ?_
          refine LWP.region (l := [_,_,_,_]) ?_
          refine LWo.move (.own 1042 0 (o1042).length) rfl (hn := ?_)
          refine LWo.move (e_int (1 : Int)) rfl (hn := ?_)
          refine bk h fun x63 e63 h => ?_
          refine LWo.wcall rfl rfl (c_laws_heldValueSS _ _ _ e63) (.viewD rfl ((lenQ_some e60).1.symm) rfl (.same (.nil))) rfl (hn := ?_)
          refine LWo.assign (e_int x63) rfl (hn := ?_)
          refine LWo.nil (hN62 _ ?_)
          refine LWP.seq_k fun N64 hN64 => ?_
          refine LWP.seq_k fun N65 hN65 => ?_
          refine LWP.region (l := [_,_]) ?_
          refine LWo.move (e_int x63) rfl (hn := ?_)
          refine LWo.int _ rfl rfl rfl (hn := ?_)
          refine LWo.nil (hN65 _ ?_)
          refine LWP.cond_split rfl (fun h66 => ?_) (fun h66 => ?_)
          ·have h := bT h66 h
           refine LWP.seq_k fun N67 hN67 => ?_
           refine LWP.region (l := [_]) ?_
           refine LWo.assign (e_bool false) rfl (hn := ?_)
           refine LWo.nil (hN67 _ ?_)
           obtain rfl := Option.some.inj h
           refine LWP.ret (QG.mk (.inr rfl) (.cons (.tmp (x := (e_bool false)) rfl) (.nil)) (RetOK.one0 (.pure rfl) (by decide)) rfl rfl)
          ·have h := bF h66 h
           refine LWP.skip (hN64 _ ?_)
           refine LWP.seq_k fun N68 hN68 => ?_
           refine LWP.seq_k fun N69 hN69 => ?_
           refine LWP.region (l := [_,_,_]) ?_
           refine LWo.move (e_int x63) rfl (hn := ?_)
           refine LWo.move (e_int x59.1) rfl (hn := ?_)
           refine LWo.int _ rfl rfl rfl (hn := ?_)
           refine LWo.nil (hN69 _ ?_)
           refine LWP.cond_split rfl (fun h70 => ?_) (fun h70 => ?_)
           ·have h := bT h70 h
            refine LWP.seq_k fun N71 hN71 => ?_
            refine LWP.region (l := [_]) ?_
            refine LWo.assign (e_bool false) rfl (hn := ?_)
            refine LWo.nil (hN71 _ ?_)
            obtain rfl := Option.some.inj h
            refine LWP.ret (QG.mk (.inr rfl) (.cons (.tmp (x := (e_bool false)) rfl) (.nil)) (RetOK.one0 (.pure rfl) (by decide)) rfl rfl)
           ·have h := bF h70 h
            refine LWP.skip (hN68 _ ?_)
            refine LWP.seq_k fun N72 hN72 => ?_
            refine LWP.region (l := [_,_,_,_,_,_,_,_,_,_]) ?_
            refine LWo.move (e_LLlaws_Value t0) rfl (hn := ?_)
            refine bk h fun x73 e73 h => ?_
            refine LWo.vcall rfl rfl (c_laws_toValueSS _ _ e73) (.same (.nil)) (hn := ?_)
            refine LWo.move (e_Llaws_Delta t1) rfl (hn := ?_)
            refine bk h fun x74 e74 h => ?_
            refine LWo.vcall rfl rfl (c_laws_toDeltaS _ _ e74) (.same (.nil)) (hn := ?_)
            refine bk h fun x75 e75 h => ?_
            refine LWo.vcall rfl rfl (c_impl_DeltaRows _ _ _ e75) (.same (.same (.nil))) (hn := ?_)
            refine LWo.move (.tup [(e_LLimpl_Value x75.1), (e_bool x75.2)]) rfl (hn := ?_)
            refine LWo.extract (e_LLimpl_Value x75.1) rfl rfl (hn := ?_)
            refine LWo.extract (e_bool x75.2) rfl rfl (hn := ?_)
            refine LWo.assign (e_LLimpl_Value x75.1) rfl (hn := ?_)
            refine LWo.assign (e_bool x75.2) rfl (hn := ?_)
            refine LWo.nil (hN72 _ ?_)
            refine LWP.seq_k fun N76 hN76 => ?_
            refine LWP.join (α := Int × Bool × (List (List S_impl_Value))) (fun z : Int × Bool × (List (List S_impl_Value)) => [(10, (.own 1042 0 (z.2.2).length)), (13, (e_int z.1)), (110, (e_bool z.2.1))]) (fun z : Int × Bool × (List (List S_impl_Value)) => [(1042, (dob 1 e_Limpl_Value z.2.2))]) (fun z : Int × Bool × (List (List S_impl_Value)) => m_laws_FnExactDeltaRows_j3  z.1 z.2.1 z.2.2) r (fun _ => by simp [hkeys]) ?_ ?_
            ·rintro ⟨t13, t110, o1042⟩ h
             replace h : m_laws_FnExactDeltaRows_j3  t13 t110 o1042 = some _ := h
             refine LWP.cond_split rfl (fun h80 => ?_) (fun h80 => ?_)
             ·have h := bT h80 h
              refine LWP.seq_k fun N81 hN81 => ?_
              refine LWP.region (l := [_]) ?_
              refine LWo.assign (e_bool false) rfl (hn := ?_)
              refine LWo.nil (hN81 _ ?_)
              obtain rfl := Option.some.inj h
              refine LWP.ret (QG.mk (.inr rfl) (.cons (.tmp (x := (e_bool false)) rfl) (.nil)) (RetOK.one0 (.pure rfl) (by decide)) rfl rfl)
             ·have h := bF h80 h
              refine LWP.skip (hN76 _ ?_)
              refine LWP.seq_k fun N82 hN82 => ?_
              refine LWP.region (l := [_]) ?_
              refine LWo.assign (e_int (1 : Int)) rfl (hn := ?_)
              refine LWo.nil (hN82 _ ?_)
              refine LWP.seq_k fun N83 hN83 => ?_
              refine LWP.region (l := [_,_,_,_]) ?_
              refine LWo.move (.own 1042 0 (o1042).length) rfl (hn := ?_)
              refine LWo.move (e_int (1 : Int)) rfl (hn := ?_)
              refine bk h fun x84 e84 h => ?_
              refine LWo.wcall rfl rfl (c_laws_heldValueSS _ _ _ e84) (.viewD rfl rfl rfl (.same (.nil))) rfl (hn := ?_)
              refine LWo.assign (e_int x84) rfl (hn := ?_)
              refine LWo.nil (hN83 _ ?_)
              refine LWP.seq_k fun N85 hN85 => ?_
              refine LWP.seq_k fun N86 hN86 => ?_
              refine LWP.region (l := [_,_]) ?_
              refine LWo.move (e_int x84) rfl (hn := ?_)
              refine LWo.int _ rfl rfl rfl (hn := ?_)
              refine LWo.nil (hN86 _ ?_)
              refine LWP.cond_split rfl (fun h87 => ?_) (fun h87 => ?_)
              ·have h := bT h87 h
               refine LWP.seq_k fun N88 hN88 => ?_
               refine LWP.region (l := [_]) ?_
               refine LWo.assign (e_bool false) rfl (hn := ?_)
               refine LWo.nil (hN88 _ ?_)
               obtain rfl := Option.some.inj h
               refine LWP.ret (QG.mk (.inr rfl) (.cons (.tmp (x := (e_bool false)) rfl) (.nil)) (RetOK.one0 (.pure rfl) (by decide)) rfl rfl)
              ·have h := bF h87 h
               refine LWP.skip (hN85 _ ?_)
               refine LWP.seq_k fun N89 hN89 => ?_
               refine LWP.seq_k fun N90 hN90 => ?_
               refine LWP.region (l := [_,_,_]) ?_
               refine LWo.move (e_int x84) rfl (hn := ?_)
               refine LWo.move (e_int t13) rfl (hn := ?_)
               refine LWo.int _ rfl rfl rfl (hn := ?_)
               refine LWo.nil (hN90 _ ?_)
               refine LWP.cond_split rfl (fun h91 => ?_) (fun h91 => ?_)
               ·have h := bT h91 h
                refine LWP.seq_k fun N92 hN92 => ?_
                refine LWP.region (l := [_]) ?_
                refine LWo.assign (e_bool false) rfl (hn := ?_)
                refine LWo.nil (hN92 _ ?_)
                obtain rfl := Option.some.inj h
                refine LWP.ret (QG.mk (.inr rfl) (.cons (.tmp (x := (e_bool false)) rfl) (.nil)) (RetOK.one0 (.pure rfl) (by decide)) rfl rfl)
               ·have h := bF h91 h
                refine LWP.skip (hN89 _ ?_)
                refine LWP.seq_k fun N93 hN93 => ?_
                refine LWP.region (l := [_]) ?_
                refine LWo.assign (e_bool true) rfl (hn := ?_)
                refine LWo.nil (hN93 _ ?_)
                obtain rfl := Option.some.inj h
                refine LWP.ret (QG.mk (.inr rfl) (.cons (.tmp (x := (e_bool true)) rfl) (.nil)) (RetOK.one0 (.pure rfl) (by decide)) rfl rfl)
            ·intro N77 hN77
             refine LWP.region (l := [_,_,_,_,_,_,_,_,_]) ?_
             refine LWo.move (e_LLimpl_Value x75.1) rfl (hn := ?_)
             refine LWo.move (e_LLimpl_Value t6) rfl (hn := ?_)
             refine bk h fun x78 e78 h => ?_
             refine LWo.vcall rfl rfl (c_laws_eqValueSS _ _ _ e78) (.same (.same (.nil))) (hn := ?_)
             refine LWo.not rfl (hn := ?_)
             refine LWo.move (e_bool (!x78)) rfl (hn := ?_)
             refine LWo.byCases (t := 106) _ rfl (fun h79 => ?_) (fun h79 => ?_)
             ·have h := bT h79 h
              refine LWo.guardNU (t := 106) rfl h79 rfl rfl rfl rfl rfl ?_
              refine LWo.guardNU (t := 106) rfl h79 rfl rfl rfl rfl rfl ?_
              refine LWo.guardNU (t := 106) rfl h79 rfl rfl rfl rfl rfl ?_
              refine LWo.pickTM (e_bool true) rfl h79 rfl (hn := ?_)
              refine LWo.nil (hN77 (x59.1, true, x59.2) _ ⟨(congrArg (LV.own 1042 0) ((lenQ_some e60).1.symm)), rfl, rfl, trivial⟩ ⟨rfl, trivial⟩ h)
             ·have h := bF h79 h
              refine LWo.guardY (t := 106) rfl h79 rfl rfl ?_
              refine LWo.move (e_bool x75.2) rfl (hn := ?_)
              refine LWo.guardY (t := 106) rfl h79 rfl rfl ?_
              refine LWo.move (e_bool t7) rfl (hn := ?_)
              refine LWo.guardY (t := 106) rfl h79 rfl rfl ?_
              refine LWo.boolNe u_bool rfl rfl (hn := ?_)
              refine LWo.pickFM (e_bool (x75.2 != t7)) rfl h79 rfl (hn := ?_)
              refine LWo.nil (hN77 (x59.1, (x75.2 != t7), x59.2) _ ⟨(congrArg (LV.own 1042 0) ((lenQ_some e60).1.symm)), rfl, rfl, trivial⟩ ⟨rfl, trivial⟩ h)
        ·intro N51 hN51
         refine LWP.region (l := [_,_,_,_,_,_,_,_,_,_,_,_,_]) ?_
         refine LWo.move (e_int x48.1) rfl (hn := ?_)
         refine LWo.int _ rfl rfl rfl (hn := ?_)
         refine LWo.move (e_bool (decide (x48.1 < (0 : Int)))) rfl (hn := ?_)
         refine LWo.byCases (t := 72) _ rfl (fun h52 => ?_) (fun h52 => ?_)
         ·have h := bT h52 h
          refine LWo.guardNU (t := 72) rfl h52 rfl rfl rfl rfl rfl ?_
          refine LWo.guardNU (t := 72) rfl h52 rfl rfl rfl rfl rfl ?_
          refine LWo.guardNU (t := 72) rfl h52 rfl rfl rfl rfl rfl ?_
          refine LWo.guardNU (t := 72) rfl h52 rfl rfl rfl rfl rfl ?_
          refine LWo.pickTM (e_bool true) rfl h52 rfl (hn := ?_)
          refine LWo.move (e_bool true) rfl (hn := ?_)
          refine LWo.guardNU (t := 78) rfl rfl rfl rfl rfl rfl rfl ?_
          refine LWo.guardNU (t := 78) rfl rfl rfl rfl rfl rfl rfl ?_
          refine LWo.guardNU (t := 78) rfl rfl rfl rfl rfl rfl rfl ?_
          refine LWo.pickTM (e_bool true) rfl rfl rfl (hn := ?_)
          refine LWo.nil (hN51 (t0, t1, t6, t7, true, o1042) _ ⟨rfl, rfl, rfl, rfl, rfl, rfl, trivial⟩ ⟨rfl, trivial⟩ h)
         ·have h := bF h52 h
          refine LWo.guardY (t := 72) rfl h52 rfl rfl ?_
          refine LWo.move (.own 1042 0 (o1042).length) rfl (hn := ?_)
          refine LWo.guardY (t := 72) rfl h52 rfl rfl ?_
          refine LWo.move (e_LLimpl_Value t6) rfl (hn := ?_)
          refine bk h fun x53 e53 h => ?_
          refine LWo.guardY (t := 72) rfl h52 rfl rfl ?_
          refine LWo.wcall rfl rfl (c_laws_eqValueSS _ _ _ e53) (.viewD rfl rfl rfl (.same (.nil))) rfl (hn := ?_)
          refine LWo.guardY (t := 72) rfl h52 rfl rfl ?_
          refine LWo.not rfl (hn := ?_)
          refine LWo.pickFM (e_bool (!x53)) rfl h52 rfl (hn := ?_)
          refine LWo.move (e_bool (!x53)) rfl (hn := ?_)
          refine LWo.byCases (t := 78) _ rfl (fun h54 => ?_) (fun h54 => ?_)
          ·have h := bT h54 h
           refine LWo.guardNU (t := 78) rfl h54 rfl rfl rfl rfl rfl ?_
           refine LWo.guardNU (t := 78) rfl h54 rfl rfl rfl rfl rfl ?_
           refine LWo.guardNU (t := 78) rfl h54 rfl rfl rfl rfl rfl ?_
           refine LWo.pickTM (e_bool true) rfl h54 rfl (hn := ?_)
           refine LWo.nil (hN51 (t0, t1, t6, t7, true, o1042) _ ⟨rfl, rfl, rfl, rfl, rfl, rfl, trivial⟩ ⟨rfl, trivial⟩ h)
          ·have h := bF h54 h
           refine LWo.guardY (t := 78) rfl h54 rfl rfl ?_
           refine LWo.move (e_bool t11) rfl (hn := ?_)
           refine LWo.guardY (t := 78) rfl h54 rfl rfl ?_
           refine LWo.move (e_bool t7) rfl (hn := ?_)
           refine LWo.guardY (t := 78) rfl h54 rfl rfl ?_
           refine LWo.boolNe u_bool rfl rfl (hn := ?_)
           refine LWo.pickFM (e_bool (t11 != t7)) rfl h54 rfl (hn := ?_)
           refine LWo.nil (hN51 (t0, t1, t6, t7, (t11 != t7), o1042) _ ⟨rfl, rfl, rfl, rfl, rfl, rfl, trivial⟩ ⟨rfl, trivial⟩ h)
    ·intro N26 hN26
     refine LWP.region (l := [_,_,_,_,_,_,_,_,_]) ?_
     refine LWo.move (.own 1042 0 (x24.1).length) rfl (hn := ?_)
     refine LWo.move (e_LLimpl_Value x18.1) rfl (hn := ?_)
     refine bk h fun x27 e27 h => ?_
     refine LWo.wcall rfl rfl (c_laws_eqValueSS _ _ _ e27) (.viewD rfl rfl rfl (.same (.nil))) rfl (hn := ?_)
     refine LWo.not rfl (hn := ?_)
     refine LWo.move (e_bool (!x27)) rfl (hn := ?_)
     refine LWo.byCases (t := 49) _ rfl (fun h28 => ?_) (fun h28 => ?_)
     ·have h := bT h28 h
      refine LWo.guardNU (t := 49) rfl h28 rfl rfl rfl rfl rfl ?_
      refine LWo.guardNU (t := 49) rfl h28 rfl rfl rfl rfl rfl ?_
      refine LWo.guardNU (t := 49) rfl h28 rfl rfl rfl rfl rfl ?_
      refine LWo.pickTM (e_bool true) rfl h28 rfl (hn := ?_)
      refine LWo.nil (hN26 (a0, a1, x18.1, x18.2, x24.2, true, x20, x22, x24.1) _ ⟨rfl, rfl, rfl, rfl, rfl, rfl, rfl, rfl, rfl, trivial⟩ ⟨rfl, rfl, rfl, trivial⟩ h)
     ·have h := bF h28 h
      refine LWo.guardY (t := 49) rfl h28 rfl rfl ?_
      refine LWo.move (e_bool x24.2) rfl (hn := ?_)
      refine LWo.guardY (t := 49) rfl h28 rfl rfl ?_
      refine LWo.move (e_bool x18.2) rfl (hn := ?_)
      refine LWo.guardY (t := 49) rfl h28 rfl rfl ?_
      refine LWo.boolNe u_bool rfl rfl (hn := ?_)
      refine LWo.pickFM (e_bool (x24.2 != x18.2)) rfl h28 rfl (hn := ?_)
      refine LWo.nil (hN26 (a0, a1, x18.1, x18.2, x24.2, (x24.2 != x18.2), x20, x22, x24.1) _ ⟨rfl, rfl, rfl, rfl, rfl, rfl, rfl, rfl, rfl, trivial⟩ ⟨rfl, rfl, rfl, trivial⟩ h)
end Go.Proofs.Ytogiaehagciojaa
