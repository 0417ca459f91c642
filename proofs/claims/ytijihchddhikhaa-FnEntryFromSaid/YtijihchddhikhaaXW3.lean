/- Mirrors of functions, and that the functions return what the mirrors say. -/
import Derived.Test.YtijihchddhikhaaXW2
set_option linter.unusedVariables false
set_option linter.unusedSimpArgs false
set_option linter.unnecessarySimpa false
namespace Go.Proofs.Ytijihchddhikhaa
open Go.Proofs Go.Lift Go.RowKit
def m_impl_unframed_j1 (t0 : (List UInt8)) (t4 : Int) (t35 : Bool) : Option ((List UInt8) × Int) :=
  bif t35 then (some (([] : (List UInt8)), (0 : Int)))
  else ((ckI (t4 + (2 : Int))).bind fun x23 =>
  (cut? t0 (2 : Int) x23).bind fun x24 =>
  (ckI (t4 + (3 : Int))).bind fun x25 =>
  some (x24, x25))
def m_impl_unframed (a0 : (List UInt8)) : Option ((List UInt8) × Int) :=
  bif decide ((a0.length : Int) < (3 : Int)) then (some (([] : (List UInt8)), (0 : Int)))
  else ((at? a0 (0 : Int)).bind fun x7 =>
  (shlI (x7.toNat : Int) (8 : Int)).bind fun x8 =>
  (at? a0 (1 : Int)).bind fun x9 =>
  (ckI (x8 + (x9.toNat : Int))).bind fun x10 =>
  (ckI (x10 + (3 : Int))).bind fun x13 =>
  bif decide ((a0.length : Int) < x13) then (m_impl_unframed_j1  a0 x10 true)
  else ((ckI (x10 + (2 : Int))).bind fun x15 =>
    (cut? a0 (2 : Int) x15).bind fun x16 =>
    (m_impl_sumOf x16).bind fun x17 =>
    (ckI (x10 + (2 : Int))).bind fun x18 =>
    (at? a0 x18).bind fun x19 =>
    m_impl_unframed_j1  a0 x10 ((x17.toNat : Int) != (x19.toNat : Int))))
theorem c_impl_unframed (a0 : (List UInt8)) (r : ((List UInt8) × Int)) (h : m_impl_unframed a0 = some r) : Ret Try.prog f_impl_unframed [e_Luint8 a0] (.tup [e_Luint8 r.1, e_int r.2]) := by
  refine Does.goG [] F_impl_unframed rfl e_impl_unframed n_impl_unframed rfl (rvs := [.tmp 2, .tmp 3]) rfl rfl ?_
  intro w0 ok0 lent ρ0
  refine LWP.seq_k fun N1 hN1 => ?_
  refine LWP.region (l := [_,_]) ?_
  refine LWo.assign _ rfl (hn := ?_)
  refine LWo.weakT 2 (e_Luint8 ([] : (List UInt8))) rfl .nil ?_
  refine LWo.assign (e_int (0 : Int)) rfl (hn := ?_)
  refine LWo.nil (hN1 _ ?_)
  refine LWP.seq_k fun N2 hN2 => ?_
  refine LWP.seq_k fun N3 hN3 => ?_
  refine LWP.region (l := [_,_,_]) ?_
  refine LWo.move (e_Luint8 a0) rfl (hn := ?_)
  refine LWo.lenM (f := e_uint8) (l := a0) u_Luint8 rfl (hn := ?_)
  refine LWo.int _ rfl rfl rfl (hn := ?_)
  refine LWo.nil (hN3 _ ?_)
  refine LWP.cond_split rfl (fun h4 => ?_) (fun h4 => ?_)
  ·have h := bT h4 h
   refine LWP.seq_k fun N5 hN5 => ?_
   refine LWP.region (l := [_,_]) ?_
   refine LWo.assign _ rfl (hn := ?_)
   refine LWo.weakT 2 (e_Luint8 ([] : (List UInt8))) rfl .nil ?_
   refine LWo.assign (e_int (0 : Int)) rfl (hn := ?_)
   refine LWo.nil (hN5 _ ?_)
   obtain rfl := Option.some.inj h
   refine LWP.ret (QG.mk (.inr rfl) (.cons (.tmp (x := (e_Luint8 ([] : (List UInt8)))) rfl) (.cons (.tmp (x := (e_int (0 : Int))) rfl) (.nil))) (RetOK.many0 (.cons (.pure rfl) (.cons (.pure rfl) (.nil))) (by simp) (by decide)) rfl rfl)
  ·have h := bF h4 h
   refine LWP.skip (hN2 _ ?_)
   refine LWP.seq_k fun N6 hN6 => ?_
   refine bk h fun x7 e7 h => ?_
   refine bk h fun x8 e8 h => ?_
   refine bk h fun x9 e9 h => ?_
   refine bk h fun x10 e10 h => ?_
   refine LWP.drawF (l := [_,_,_,_,_,_,_,_,_,_,_]) [] [0] [([0], []), ([8], []), ([9], []), ([10], []), ([11], []), ([0], []), ([13], []), ([14], []), ([15], []), ([12, 16], []), ([17], [])] [0, 4] [] mixed (by kernel_rfl) rfl (by decide) ?_
   refine dq 8 rfl (fun _ g u h => LWo.move (e_Luint8 a0) u.1 (hn := .nil (zn g))) ?_
   refine dq 9 rfl (fun _ g u h => LWo.indexM (f := e_uint8) e7 u_Luint8 s_uint8 u.1 rfl (hn := .nil (zn g))) ?_
   refine dq 10 rfl (fun _ g u h => LWo.load1 (c := (e_uint8 x7)) g_uint8 u.1 (hn := .nil (zn g))) ?_
   refine dq 11 rfl (fun _ g u h => LWo.convByte _ u_uint8 u_int u.1 (hn := .nil (zn g))) ?_
   refine dq 12 rfl (fun _ g u h => LWo.shlM e8 u.1 rfl (hn := .nil (zn g))) ?_
   refine dq 13 rfl (fun _ g u h => LWo.move (e_Luint8 a0) u.1 (hn := .nil (zn g))) ?_
   refine dq 14 rfl (fun _ g u h => LWo.indexM (f := e_uint8) e9 u_Luint8 s_uint8 u.1 rfl (hn := .nil (zn g))) ?_
   refine dq 15 rfl (fun _ g u h => LWo.load1 (c := (e_uint8 x9)) g_uint8 u.1 (hn := .nil (zn g))) ?_
   refine dq 16 rfl (fun _ g u h => LWo.convByte _ u_uint8 u_int u.1 (hn := .nil (zn g))) ?_
   refine dq 17 rfl (fun _ g u h => LWo.int _ u.1 u.2.1 (add_ck e10) (hn := .nil (zn g))) ?_
   refine dq 4 rfl (fun _ g u h => LWo.assign (e_int x10) u.1 (hn := .nil (zn g))) ?_
   refine ⟨rfl, by kernel_rfl, hN6 _ ?_⟩
   refine LWP.seq_k fun N11 hN11 => ?_
   refine LWP.join (α := (List UInt8) × Int × Bool) (fun z : (List UInt8) × Int × Bool => [(0, (e_Luint8 z.1)), (4, (e_int z.2.1)), (35, (e_bool z.2.2))]) (fun z : (List UInt8) × Int × Bool => []) (fun z : (List UInt8) × Int × Bool => m_impl_unframed_j1  z.1 z.2.1 z.2.2) r (fun _ => by simp [hkeys]) ?_ ?_
   ·rintro ⟨t0, t4, t35⟩ h
    replace h : m_impl_unframed_j1  t0 t4 t35 = some _ := h
    refine LWP.cond_split rfl (fun h20 => ?_) (fun h20 => ?_)
    ·have h := bT h20 h
     refine LWP.seq_k fun N21 hN21 => ?_
     refine LWP.region (l := [_,_]) ?_
     refine LWo.assign _ rfl (hn := ?_)
     refine LWo.weakT 2 (e_Luint8 ([] : (List UInt8))) rfl .nil ?_
     refine LWo.assign (e_int (0 : Int)) rfl (hn := ?_)
     refine LWo.nil (hN21 _ ?_)
     obtain rfl := Option.some.inj h
     refine LWP.ret (QG.mk (.inr rfl) (.cons (.tmp (x := (e_Luint8 ([] : (List UInt8)))) rfl) (.cons (.tmp (x := (e_int (0 : Int))) rfl) (.nil))) (RetOK.many0 (.cons (.pure rfl) (.cons (.pure rfl) (.nil))) (by simp) (by decide)) rfl rfl)
    ·have h := bF h20 h
     refine LWP.skip (hN11 _ ?_)
     refine LWP.seq_k fun N22 hN22 => ?_
     refine LWP.region (l := [_,_,_,_,_,_,_,_]) ?_
     refine LWo.move (e_Luint8 t0) rfl (hn := ?_)
     refine LWo.move (e_int t4) rfl (hn := ?_)
     refine bk h fun x23 e23 h => ?_
     refine LWo.int _ rfl rfl (add_ck e23) (hn := ?_)
     refine bk h fun x24 e24 h => ?_
     refine LWo.cutM (f := e_uint8) e24 u_Luint8 s_uint8 rfl ⟨_, rfl⟩ ⟨_, rfl⟩ (hn := ?_)
     refine LWo.move (e_int t4) rfl (hn := ?_)
     refine bk h fun x25 e25 h => ?_
     refine LWo.int _ rfl rfl (add_ck e25) (hn := ?_)
     refine LWo.assign (e_Luint8 x24) rfl (hn := ?_)
     refine LWo.assign (e_int x25) rfl (hn := ?_)
     refine LWo.nil (hN22 _ ?_)
     obtain rfl := Option.some.inj h
     refine LWP.ret (QG.mk (.inr rfl) (.cons (.tmp (x := (e_Luint8 x24)) rfl) (.cons (.tmp (x := (e_int x25)) rfl) (.nil))) (RetOK.many0 (.cons (.pure rfl) (.cons (.pure rfl) (.nil))) (by simp) (by decide)) rfl rfl)
   ·intro N12 hN12
    refine bk h fun x13 e13 h => ?_
    refine bS (decide ((a0.length : Int) < x13)) (fun h14 => ?_) (fun h14 => ?_)
    ·have h := bT h14 h
     refine LWP.drawF (l := [_,_,_,_,_,_,_,_,_,_,_,_,_,_,_,_,_,_]) [] [0, 4] [([0], []), ([18], []), ([4], []), ([20], []), ([19, 21], []), ([22], []), ([0, 23], []), ([4, 23], []), ([23, 25], []), ([23, 24, 26], []), ([23, 27], []), ([0, 23], []), ([4, 23], []), ([23, 30], []), ([23, 29, 31], []), ([23, 32], []), ([23, 28, 33], []), ([23, 34], [])] [0, 4, 35] [] mixed (by kernel_rfl) rfl (by decide) ?_
     refine dq 18 rfl (fun _ g u h => LWo.move (e_Luint8 a0) u.1 (hn := .nil (zn g))) ?_
     refine dq 19 rfl (fun _ g u h => LWo.lenM (f := e_uint8) (l := a0) u_Luint8 u.1 (hn := .nil (zn g))) ?_
     refine dq 20 rfl (fun _ g u h => LWo.move (e_int x10) u.1 (hn := .nil (zn g))) ?_
     refine dq 21 rfl (fun _ g u h => LWo.int _ u.1 rfl (add_ck e13) (hn := .nil (zn g))) ?_
     refine dq 22 rfl (fun _ g u h => LWo.int _ u.1 u.2.1 rfl (hn := .nil (zn g))) ?_
     refine dq 23 rfl (fun _ g u h => LWo.move (e_bool (decide ((a0.length : Int) < x13))) u.1 (hn := .nil (zn g))) ?_
     refine dq 24 rfl (fun _ g u h => LWo.guardNU (t := 23) u.2.1 h14 rfl rfl rfl rfl rfl (.nil (zn g))) ?_
     refine dq 25 rfl (fun _ g u h => LWo.guardNU (t := 23) u.2.1 h14 rfl rfl rfl rfl rfl (.nil (zn g))) ?_
     refine dq 26 rfl (fun _ g u h => LWo.guardNU (t := 23) u.1 h14 rfl rfl rfl rfl rfl (.nil (zn g))) ?_
     refine dq 27 rfl (fun _ g u h => LWo.guardNU (t := 23) u.1 h14 rfl rfl rfl rfl rfl (.nil (zn g))) ?_
     refine dq 28 rfl (fun _ g u h => LWo.guardNU (t := 23) u.1 h14 rfl rfl rfl rfl rfl (.nil (zn g))) ?_
     refine dq 29 rfl (fun _ g u h => LWo.guardNU (t := 23) u.2.1 h14 rfl rfl rfl rfl rfl (.nil (zn g))) ?_
     refine dq 30 rfl (fun _ g u h => LWo.guardNU (t := 23) u.2.1 h14 rfl rfl rfl rfl rfl (.nil (zn g))) ?_
     refine dq 31 rfl (fun _ g u h => LWo.guardNU (t := 23) u.1 h14 rfl rfl rfl rfl rfl (.nil (zn g))) ?_
     refine dq 32 rfl (fun _ g u h => LWo.guardNU (t := 23) u.1 h14 rfl rfl rfl rfl rfl (.nil (zn g))) ?_
     refine dq 33 rfl (fun _ g u h => LWo.guardNU (t := 23) u.1 h14 rfl rfl rfl rfl rfl (.nil (zn g))) ?_
     refine dq 34 rfl (fun _ g u h => LWo.guardNU (t := 23) u.1 h14 rfl rfl rfl rfl rfl (.nil (zn g))) ?_
     refine dq 35 rfl (fun _ g u h => LWo.pickTM (e_bool true) u.1 h14 rfl (hn := .nil (zn g))) ?_
     refine ⟨rfl, by kernel_rfl, hN12 (a0, x10, true) _ ⟨rfl, rfl, rfl, trivial⟩ trivial h⟩
    ·have h := bF h14 h
     refine bk h fun x15 e15 h => ?_
     refine bk h fun x16 e16 h => ?_
     refine bk h fun x17 e17 h => ?_
     refine bk h fun x18 e18 h => ?_
     refine bk h fun x19 e19 h => ?_
     refine LWP.drawF (l := [_,_,_,_,_,_,_,_,_,_,_,_,_,_,_,_,_,_]) [] [0, 4] [([0], []), ([18], []), ([4], []), ([20], []), ([19, 21], []), ([22], []), ([0, 23], []), ([4, 23], []), ([23, 25], []), ([23, 24, 26], []), ([23, 27], []), ([0, 23], []), ([4, 23], []), ([23, 30], []), ([23, 29, 31], []), ([23, 32], []), ([23, 28, 33], []), ([23, 34], [])] [0, 4, 35] [] mixed (by kernel_rfl) rfl (by decide) ?_
     refine dq 18 rfl (fun _ g u h => LWo.move (e_Luint8 a0) u.1 (hn := .nil (zn g))) ?_
     refine dq 19 rfl (fun _ g u h => LWo.lenM (f := e_uint8) (l := a0) u_Luint8 u.1 (hn := .nil (zn g))) ?_
     refine dq 20 rfl (fun _ g u h => LWo.move (e_int x10) u.1 (hn := .nil (zn g))) ?_
     refine dq 21 rfl (fun _ g u h => LWo.int _ u.1 rfl (add_ck e13) (hn := .nil (zn g))) ?_
     refine dq 22 rfl (fun _ g u h => LWo.int _ u.1 u.2.1 rfl (hn := .nil (zn g))) ?_
     refine dq 23 rfl (fun _ g u h => LWo.move (e_bool (decide ((a0.length : Int) < x13))) u.1 (hn := .nil (zn g))) ?_
     refine dq 24 rfl (fun _ g u h => LWo.guardY (t := 23) u.2.1 h14 rfl rfl (LWo.move (e_Luint8 a0) u.1 (hn := .nil (zn g)))) ?_
     refine dq 25 rfl (fun _ g u h => LWo.guardY (t := 23) u.2.1 h14 rfl rfl (LWo.move (e_int x10) u.1 (hn := .nil (zn g)))) ?_
     refine dq 26 rfl (fun _ g u h => LWo.guardY (t := 23) u.1 h14 rfl rfl (LWo.int _ u.2.1 rfl (add_ck e15) (hn := .nil (zn g)))) ?_
     refine dq 27 rfl (fun _ g u h => LWo.guardY (t := 23) u.1 h14 rfl rfl (LWo.cutM (f := e_uint8) e16 u_Luint8 s_uint8 u.2.1 ⟨_, rfl⟩ ⟨_, u.2.2.1⟩ (hn := .nil (zn g)))) ?_
     refine dq 28 rfl (fun _ g u h => LWo.guardY (t := 23) u.1 h14 rfl rfl (LWo.vcall rfl (av1 u.2.1) (c_impl_sumOf _ _ e17) (.same (.nil)) (hn := .nil (zn g)))) ?_
     refine dq 29 rfl (fun _ g u h => LWo.guardY (t := 23) u.2.1 h14 rfl rfl (LWo.move (e_Luint8 a0) u.1 (hn := .nil (zn g)))) ?_
     refine dq 30 rfl (fun _ g u h => LWo.guardY (t := 23) u.2.1 h14 rfl rfl (LWo.move (e_int x10) u.1 (hn := .nil (zn g)))) ?_
     refine dq 31 rfl (fun _ g u h => LWo.guardY (t := 23) u.1 h14 rfl rfl (LWo.int _ u.2.1 rfl (add_ck e18) (hn := .nil (zn g)))) ?_
     refine dq 32 rfl (fun _ g u h => LWo.guardY (t := 23) u.1 h14 rfl rfl (LWo.indexM (f := e_uint8) e19 u_Luint8 s_uint8 u.2.1 u.2.2.1 (hn := .nil (zn g)))) ?_
     refine dq 33 rfl (fun _ g u h => LWo.guardY (t := 23) u.1 h14 rfl rfl (LWo.load1 (c := (e_uint8 x19)) g_uint8 u.2.1 (hn := .nil (zn g)))) ?_
     refine dq 34 rfl (fun _ g u h => LWo.guardY (t := 23) u.1 h14 rfl rfl (LWo.int _ u.2.1 u.2.2.1 rfl (hn := .nil (zn g)))) ?_
     refine dq 35 rfl (fun _ g u h => LWo.pickFM (e_bool ((x17.toNat : Int) != (x19.toNat : Int))) u.1 h14 u.2.1 (hn := .nil (zn g))) ?_
     refine ⟨rfl, by kernel_rfl, hN12 (a0, x10, ((x17.toNat : Int) != (x19.toNat : Int))) _ ⟨rfl, rfl, rfl, trivial⟩ trivial h⟩

def m_impl_between_j1 (t6 : Bool) : Option Bool :=
  some t6
def m_impl_between (a0 : Int) (a1 : Int) (a2 : Int) : Option Bool :=
  bif decide (a0 ≥ a1) then (m_impl_between_j1  (decide (a0 ≤ a2)))
  else (m_impl_between_j1  false)
theorem c_impl_between (a0 : Int) (a1 : Int) (a2 : Int) (r : Bool) (h : m_impl_between a0 a1 a2 = some r) : Ret Try.prog f_impl_between [e_int a0, e_int a1, e_int a2] (e_bool r) := by
  refine Does.goG [] F_impl_between rfl e_impl_between n_impl_between rfl (rvs := [.tmp 6]) rfl rfl ?_
  intro w0 ok0 lent ρ0
  refine LWP.seq_k fun N1 hN1 => ?_
  refine LWP.region (l := [_]) ?_
  refine LWo.assign (e_bool false) rfl (hn := ?_)
  refine LWo.nil (hN1 _ ?_)
  refine LWP.join (α := Bool) (fun z : Bool => [(6, (e_bool z))]) (fun z : Bool => []) (fun z : Bool => m_impl_between_j1  z) r (fun _ => by simp [hkeys]) ?_ ?_
  ·rintro t6 h
   replace h : m_impl_between_j1  t6 = some _ := h
   obtain rfl := Option.some.inj h
   refine LWP.ret (QG.mk (.inr rfl) (.cons (.tmp (x := (e_bool t6)) rfl) (.nil)) (RetOK.one0 (.pure rfl) (by decide)) rfl rfl)
  ·intro N2 hN2
   refine LWP.region (l := [_,_,_,_,_,_,_,_,_]) ?_
   refine LWo.move (e_int a0) rfl (hn := ?_)
   refine LWo.move (e_int a1) rfl (hn := ?_)
   refine LWo.int _ rfl rfl rfl (hn := ?_)
   refine LWo.move (e_bool (decide (a0 ≥ a1))) rfl (hn := ?_)
   refine LWo.byCases (t := 10) _ rfl (fun h3 => ?_) (fun h3 => ?_)
   ·have h := bT h3 h
    refine LWo.guardY (t := 10) rfl h3 rfl rfl ?_
    refine LWo.move (e_int a0) rfl (hn := ?_)
    refine LWo.guardY (t := 10) rfl h3 rfl rfl ?_
    refine LWo.move (e_int a2) rfl (hn := ?_)
    refine LWo.guardY (t := 10) rfl h3 rfl rfl ?_
    refine LWo.int _ rfl rfl rfl (hn := ?_)
    refine LWo.pickTM (e_bool (decide (a0 ≤ a2))) rfl h3 rfl (hn := ?_)
    refine LWo.assign (e_bool (decide (a0 ≤ a2))) rfl (hn := ?_)
    refine LWo.nil (hN2 (decide (a0 ≤ a2)) _ ⟨rfl, trivial⟩ trivial h)
   ·have h := bF h3 h
    refine LWo.guardNU (t := 10) rfl h3 rfl rfl rfl rfl rfl ?_
    refine LWo.guardNU (t := 10) rfl h3 rfl rfl rfl rfl rfl ?_
    refine LWo.guardNU (t := 10) rfl h3 rfl rfl rfl rfl rfl ?_
    refine LWo.pickFM (e_bool false) rfl h3 rfl (hn := ?_)
    refine LWo.assign (e_bool false) rfl (hn := ?_)
    refine LWo.nil (hN2 false _ ⟨rfl, trivial⟩ trivial h)

def m_impl_letters_j1  : Option Bool :=
  some true
def m_impl_letters_l1 : Nat → (List UInt8) → Int → Int → Option Bool
  | 0, _, _, _ => none
  | n1 + 1, t6, t7, t8 =>
    bif decide (t8 < t7) then ((at? t6 t8).bind fun x12 =>
    (m_impl_between (x12.toNat : Int) (97 : Int) (122 : Int)).bind fun x14 =>
    bif (!x14) then (some false)
    else ((ckI (t8 + (1 : Int))).bind fun x17 =>
    (m_impl_letters_l1  n1) t6 t7 x17))
    else (m_impl_letters_j1  )
def m_impl_letters (a0 : ByteArray) : Option Bool :=
  (sBytes? a0).bind fun x4 =>
  m_impl_letters_l1  (((x4.length : Int) - (0 : Int)).toNat + 1) x4 (x4.length : Int) (0 : Int)
theorem c_impl_letters (a0 : ByteArray) (r : Bool) (h : m_impl_letters a0 = some r) : Ret Try.prog f_impl_letters [e_string a0] (e_bool r) := by
  refine Does.goG [] F_impl_letters rfl e_impl_letters n_impl_letters rfl (rvs := [.tmp 2]) rfl rfl ?_
  intro w0 ok0 lent ρ0
  refine LWP.seq_k fun N1 hN1 => ?_
  refine LWP.region (l := [_]) ?_
  refine LWo.assign (e_bool false) rfl (hn := ?_)
  refine LWo.nil (hN1 _ ?_)
  refine LWP.join (α := Unit) (fun z : Unit => []) (fun z : Unit => []) (fun z : Unit => m_impl_letters_j1  ) r (fun _ => by simp [hkeys]) ?_ ?_
  ·rintro _ h
   replace h : m_impl_letters_j1   = some _ := h
   refine LWP.seq_k fun N18 hN18 => ?_
   refine LWP.region (l := [_]) ?_
   refine LWo.assign (e_bool true) rfl (hn := ?_)
   refine LWo.nil (hN18 _ ?_)
   obtain rfl := Option.some.inj h
   refine LWP.ret (QG.mk (.inr rfl) (.cons (.tmp (x := (e_bool true)) rfl) (.nil)) (RetOK.one0 (.pure rfl) (by decide)) rfl rfl)
  ·intro N2 hN2
   refine LWP.seq_k fun N3 hN3 => ?_
   refine LWP.region (l := [_,_,_,_]) ?_
   refine LWo.move (e_string a0) rfl (hn := ?_)
   refine bk h fun x4 e4 h => ?_
   refine LWo.bytesM e4 u_string u_Luint8 u_uint8 rfl (hn := ?_)
   refine LWo.lenM (f := e_uint8) (l := x4) u_Luint8 rfl (hn := ?_)
   refine LWo.move (e_int (0 : Int)) rfl (hn := ?_)
   refine LWo.nil (hN3 _ ?_)
   refine LWP.block ?_
   refine LWP.loopM (α := (List UInt8) × Int × Int) (fun z : (List UInt8) × Int × Int => [(6, (e_Luint8 z.1)), (7, (e_int z.2.1)), (8, (e_int z.2.2))]) (fun z : (List UInt8) × Int × Int => []) (fun n1 (z : (List UInt8) × Int × Int) => m_impl_letters_l1  n1 z.1 z.2.1 z.2.2) r _ (x4, (x4.length : Int), (0 : Int)) h (fun _ => rfl) (fun _ => by simp [hkeys]) ⟨rfl, rfl, rfl, trivial⟩ trivial ?_
   rintro n1 ⟨t6, t7, t8⟩ h N5 hN5
   replace h : m_impl_letters_l1  (n1 + 1) t6 t7 t8 = some _ := h
   refine LWP.seq_k fun N7 hN7 => ?_
   refine LWP.region (l := [_]) ?_
   refine LWo.int _ rfl rfl rfl (hn := ?_)
   refine LWo.nil (hN7 _ ?_)
   refine LWP.seq_k fun N8 hN8 => ?_
   refine LWP.cond_split rfl (fun h9 => ?_) (fun h9 => ?_)
   ·have h := bT h9 h
    refine LWP.skip (hN8 _ ?_)
    refine LWP.seq_k fun N10 hN10 => ?_
    refine LWP.block ?_
    refine LWP.seq_k fun N11 hN11 => ?_
    refine LWP.region (l := [_,_,_]) ?_
    refine bk h fun x12 e12 h => ?_
    refine LWo.indexM (f := e_uint8) e12 u_Luint8 s_uint8 rfl rfl (hn := ?_)
    refine LWo.load1 (c := (e_uint8 x12)) g_uint8 rfl (hn := ?_)
    refine LWo.assign (e_uint8 x12) rfl (hn := ?_)
    refine LWo.nil (hN11 _ ?_)
    refine LWP.seq_k fun N13 hN13 => ?_
    refine LWP.region (l := [_,_,_,_]) ?_
    refine LWo.move (e_uint8 x12) rfl (hn := ?_)
    refine LWo.convByte _ u_uint8 u_int rfl (hn := ?_)
    refine bk h fun x14 e14 h => ?_
    refine LWo.vcall rfl rfl (c_impl_between _ _ _ _ e14) (.same (.same (.same (.nil)))) (hn := ?_)
    refine LWo.not rfl (hn := ?_)
    refine LWo.nil (hN13 _ ?_)
    refine LWP.cond_split rfl (fun h15 => ?_) (fun h15 => ?_)
    ·have h := bT h15 h
     refine LWP.seq_k fun N16 hN16 => ?_
     refine LWP.region (l := [_]) ?_
     refine LWo.assign (e_bool false) rfl (hn := ?_)
     refine LWo.nil (hN16 _ ?_)
     obtain rfl := Option.some.inj h
     refine LWP.ret (QG.mk (.inr rfl) (.cons (.tmp (x := (e_bool false)) rfl) (.nil)) (RetOK.one0 (.pure rfl) (by decide)) rfl rfl)
    ·have h := bF h15 h
     refine LWP.skip (hN10 _ ?_)
     refine LWP.region (l := [_,_]) ?_
     refine bk h fun x17 e17 h => ?_
     refine LWo.int _ rfl rfl (add_ck e17) (hn := ?_)
     refine LWo.move (e_int x17) rfl (hn := ?_)
     refine LWo.nil (hN5 (t6, t7, x17) _ ⟨rfl, rfl, rfl, trivial⟩ trivial h)
   ·have h := bF h9 h
    refine LWP.exit (hN2 () _ trivial trivial h)

def m_impl_Value_ok_j1 (t2 : Bool) : Option Bool :=
  some t2
def m_impl_Value_ok_j2 (t2 : Bool) : Option Bool :=
  some t2
def m_impl_Value_ok_j3 (t2 : Bool) : Option Bool :=
  some t2
def m_impl_Value_ok (a0 : S_impl_Value) : Option Bool :=
  bif (a0.Kind == (0 : Int)) then (some (decide (a0 = (⟨(0 : Int), (0 : Int), (⟨#[]⟩ : ByteArray)⟩ : S_impl_Value))))
  else (bif (a0.Kind == (1 : Int)) then (bif (sEq a0.S (⟨#[]⟩ : ByteArray)) then ((m_impl_between a0.N (-9999 : Int) (9999 : Int)).bind fun x11 =>
        m_impl_Value_ok_j1  x11)
      else (m_impl_Value_ok_j1  false))
    else (bif (a0.Kind == (2 : Int)) then (bif (a0.N == (0 : Int)) then (bif decide ((a0.S.size : Int) ≤ (6 : Int)) then ((m_impl_letters a0.S).bind fun x17 =>
            m_impl_Value_ok_j2  x17)
          else (m_impl_Value_ok_j2  false))
        else (m_impl_Value_ok_j2  false))
      else (bif (a0.Kind == (3 : Int)) then (bif (sEq a0.S (⟨#[]⟩ : ByteArray)) then ((m_impl_between a0.N (0 : Int) (1 : Int)).bind fun x22 =>
            m_impl_Value_ok_j3  x22)
          else (m_impl_Value_ok_j3  false))
        else (some false))))
theorem c_impl_Value_ok (a0 : S_impl_Value) (r : Bool) (h : m_impl_Value_ok a0 = some r) : Ret Try.prog f_impl_Value_ok [e_impl_Value a0] (e_bool r) := by
  refine Does.goG [] F_impl_Value_ok rfl e_impl_Value_ok n_impl_Value_ok rfl (rvs := [.tmp 2]) rfl rfl ?_
  intro w0 ok0 lent ρ0
  refine LWP.seq_k fun N1 hN1 => ?_
  refine LWP.region (l := [_,_]) ?_
  refine LWo.boxF (e_impl_Value a0) rfl rfl rfl (hn := ?_)
  refine LWo.assign (e_bool false) rfl (hn := ?_)
  refine LWo.nil (hN1 _ ?_)
  refine LWP.seq_k fun N2 hN2 => ?_
  refine LWP.seq_k fun N3 hN3 => ?_
  refine LWP.region (l := [_,_]) ?_
  refine LWo.fieldAddr _ u_impl_Value rfl s_int rfl rfl (hn := ?_)
  refine LWo.load1 (c := (e_int a0.Kind)) g_int rfl (hn := ?_)
  refine LWo.nil (hN3 _ ?_)
  refine LWP.block ?_
  refine LWP.seq_k fun N4 hN4 => ?_
  refine LWP.region (l := [_,_]) ?_
  refine LWo.int _ rfl rfl rfl (hn := ?_)
  refine LWo.assign (e_bool (a0.Kind == (0 : Int))) rfl (hn := ?_)
  refine LWo.nil (hN4 _ ?_)
  refine LWP.cond_split rfl (fun h5 => ?_) (fun h5 => ?_)
  ·have h := bT h5 h
   refine LWP.seq_k fun N6 hN6 => ?_
   refine LWP.region (l := [_,_,_,_]) ?_
   refine LWo.loadN ((e_impl_Value a0)).cells g_impl_Value s_impl_Value rfl (Nat.le_of_ble_eq_true rfl) rfl (hn := ?_)
   refine LWo.build_impl_Value (parts := []) (⟨(0 : Int), (0 : Int), (⟨#[]⟩ : ByteArray)⟩ : S_impl_Value) rfl rfl rfl .refl (hn := ?_)
   refine LWo.eq_impl_Value _ _ rfl rfl (hn := ?_)
   refine LWo.assign (e_bool (decide (a0 = (⟨(0 : Int), (0 : Int), (⟨#[]⟩ : ByteArray)⟩ : S_impl_Value)))) rfl (hn := ?_)
   refine LWo.nil (hN6 _ ?_)
   obtain rfl := Option.some.inj h
   refine LWP.ret (QG.mk (.inr rfl) (.cons (.tmp (x := (e_bool (decide (a0 = (⟨(0 : Int), (0 : Int), (⟨#[]⟩ : ByteArray)⟩ : S_impl_Value))))) rfl) (.nil)) (RetOK.one0 (.pure rfl) (by decide)) rfl rfl)
  ·have h := bF h5 h
   refine LWP.seq_k fun N7 hN7 => ?_
   refine LWP.region (l := [_,_]) ?_
   refine LWo.int _ rfl rfl rfl (hn := ?_)
   refine LWo.assign (e_bool (a0.Kind == (1 : Int))) rfl (hn := ?_)
   refine LWo.nil (hN7 _ ?_)
   refine LWP.cond_split rfl (fun h8 => ?_) (fun h8 => ?_)
   ·have h := bT h8 h
    refine LWP.join (α := Bool) (fun z : Bool => [(2, (e_bool z))]) (fun z : Bool => []) (fun z : Bool => m_impl_Value_ok_j1  z) r (fun _ => by simp [hkeys]) ?_ ?_
    ·rintro t2 h
     replace h : m_impl_Value_ok_j1  t2 = some _ := h
     obtain rfl := Option.some.inj h
     refine LWP.ret (QG.mk (.inr rfl) (.cons (.tmp (x := (e_bool t2)) rfl) (.nil)) (RetOK.one0 (.pure rfl) (by decide)) rfl rfl)
    ·intro N9 hN9
     refine LWP.region (l := [_,_,_,_,_,_,_,_,_]) ?_
     refine LWo.fieldAddr _ u_impl_Value rfl s_string rfl rfl (hn := ?_)
     refine LWo.load1 (c := (e_string a0.S)) g_string rfl (hn := ?_)
     refine LWo.str _ rfl rfl rfl (hn := ?_)
     refine LWo.move (e_bool (sEq a0.S (⟨#[]⟩ : ByteArray))) rfl (hn := ?_)
     refine LWo.byCases (t := 15) _ rfl (fun h10 => ?_) (fun h10 => ?_)
     ·have h := bT h10 h
      refine LWo.guardY (t := 15) rfl h10 rfl rfl ?_
      refine LWo.fieldAddr _ u_impl_Value rfl s_int rfl rfl (hn := ?_)
      refine LWo.guardY (t := 15) rfl h10 rfl rfl ?_
      refine LWo.load1 (c := (e_int a0.N)) g_int rfl (hn := ?_)
      refine bk h fun x11 e11 h => ?_
      refine LWo.guardY (t := 15) rfl h10 rfl rfl ?_
      refine LWo.vcall rfl rfl (c_impl_between _ _ _ _ e11) (.same (.same (.same (.nil)))) (hn := ?_)
      refine LWo.pickTM (e_bool x11) rfl h10 rfl (hn := ?_)
      refine LWo.assign (e_bool x11) rfl (hn := ?_)
      refine LWo.nil (hN9 x11 _ ⟨rfl, trivial⟩ trivial h)
     ·have h := bF h10 h
      refine LWo.guardNU (t := 15) rfl h10 rfl rfl rfl rfl rfl ?_
      refine LWo.guardNU (t := 15) rfl h10 rfl rfl rfl rfl rfl ?_
      refine LWo.guardNU (t := 15) rfl h10 rfl rfl rfl rfl rfl ?_
      refine LWo.pickFM (e_bool false) rfl h10 rfl (hn := ?_)
      refine LWo.assign (e_bool false) rfl (hn := ?_)
      refine LWo.nil (hN9 false _ ⟨rfl, trivial⟩ trivial h)
   ·have h := bF h8 h
    refine LWP.seq_k fun N12 hN12 => ?_
    refine LWP.region (l := [_,_]) ?_
    refine LWo.int _ rfl rfl rfl (hn := ?_)
    refine LWo.assign (e_bool (a0.Kind == (2 : Int))) rfl (hn := ?_)
    refine LWo.nil (hN12 _ ?_)
    refine LWP.cond_split rfl (fun h13 => ?_) (fun h13 => ?_)
    ·have h := bT h13 h
     refine LWP.join (α := Bool) (fun z : Bool => [(2, (e_bool z))]) (fun z : Bool => []) (fun z : Bool => m_impl_Value_ok_j2  z) r (fun _ => by simp [hkeys]) ?_ ?_
     ·rintro t2 h
      replace h : m_impl_Value_ok_j2  t2 = some _ := h
      obtain rfl := Option.some.inj h
      refine LWP.ret (QG.mk (.inr rfl) (.cons (.tmp (x := (e_bool t2)) rfl) (.nil)) (RetOK.one0 (.pure rfl) (by decide)) rfl rfl)
     ·intro N14 hN14
      refine LWP.region (l := [_,_,_,_,_,_,_,_,_,_,_,_,_,_,_]) ?_
      refine LWo.fieldAddr _ u_impl_Value rfl s_int rfl rfl (hn := ?_)
      refine LWo.load1 (c := (e_int a0.N)) g_int rfl (hn := ?_)
      refine LWo.int _ rfl rfl rfl (hn := ?_)
      refine LWo.move (e_bool (a0.N == (0 : Int))) rfl (hn := ?_)
      refine LWo.byCases (t := 25) _ rfl (fun h15 => ?_) (fun h15 => ?_)
      ·have h := bT h15 h
       refine LWo.guardY (t := 25) rfl h15 rfl rfl ?_
       refine LWo.fieldAddr _ u_impl_Value rfl s_string rfl rfl (hn := ?_)
       refine LWo.guardY (t := 25) rfl h15 rfl rfl ?_
       refine LWo.load1 (c := (e_string a0.S)) g_string rfl (hn := ?_)
       refine LWo.guardY (t := 25) rfl h15 rfl rfl ?_
       refine LWo.lenS u_string rfl (hn := ?_)
       refine LWo.guardY (t := 25) rfl h15 rfl rfl ?_
       refine LWo.int _ rfl rfl rfl (hn := ?_)
       refine LWo.pickTM (e_bool (decide ((a0.S.size : Int) ≤ (6 : Int)))) rfl h15 rfl (hn := ?_)
       refine LWo.move (e_bool (decide ((a0.S.size : Int) ≤ (6 : Int)))) rfl (hn := ?_)
       refine LWo.byCases (t := 31) _ rfl (fun h16 => ?_) (fun h16 => ?_)
       ·have h := bT h16 h
        refine LWo.guardY (t := 31) rfl h16 rfl rfl ?_
        refine LWo.fieldAddr _ u_impl_Value rfl s_string rfl rfl (hn := ?_)
        refine LWo.guardY (t := 31) rfl h16 rfl rfl ?_
        refine LWo.load1 (c := (e_string a0.S)) g_string rfl (hn := ?_)
        refine bk h fun x17 e17 h => ?_
        refine LWo.guardY (t := 31) rfl h16 rfl rfl ?_
        refine LWo.vcall rfl rfl (c_impl_letters _ _ e17) (.same (.nil)) (hn := ?_)
        refine LWo.pickTM (e_bool x17) rfl h16 rfl (hn := ?_)
        refine LWo.assign (e_bool x17) rfl (hn := ?_)
        refine LWo.nil (hN14 x17 _ ⟨rfl, trivial⟩ trivial h)
       ·have h := bF h16 h
        refine LWo.guardNU (t := 31) rfl h16 rfl rfl rfl rfl rfl ?_
        refine LWo.guardNU (t := 31) rfl h16 rfl rfl rfl rfl rfl ?_
        refine LWo.guardNU (t := 31) rfl h16 rfl rfl rfl rfl rfl ?_
        refine LWo.pickFM (e_bool false) rfl h16 rfl (hn := ?_)
        refine LWo.assign (e_bool false) rfl (hn := ?_)
        refine LWo.nil (hN14 false _ ⟨rfl, trivial⟩ trivial h)
      ·have h := bF h15 h
       refine LWo.guardNU (t := 25) rfl h15 rfl rfl rfl rfl rfl ?_
       refine LWo.guardNU (t := 25) rfl h15 rfl rfl rfl rfl rfl ?_
       refine LWo.guardNU (t := 25) rfl h15 rfl rfl rfl rfl rfl ?_
       refine LWo.guardNU (t := 25) rfl h15 rfl rfl rfl rfl rfl ?_
       refine LWo.pickFM (e_bool false) rfl h15 rfl (hn := ?_)
       refine LWo.move (e_bool false) rfl (hn := ?_)
       refine LWo.guardNU (t := 31) rfl rfl rfl rfl rfl rfl rfl ?_
       refine LWo.guardNU (t := 31) rfl rfl rfl rfl rfl rfl rfl ?_
       refine LWo.guardNU (t := 31) rfl rfl rfl rfl rfl rfl rfl ?_
       refine LWo.pickFM (e_bool false) rfl rfl rfl (hn := ?_)
       refine LWo.assign (e_bool false) rfl (hn := ?_)
       refine LWo.nil (hN14 false _ ⟨rfl, trivial⟩ trivial h)
    ·have h := bF h13 h
     refine LWP.seq_k fun N18 hN18 => ?_
     refine LWP.region (l := [_,_]) ?_
     refine LWo.int _ rfl rfl rfl (hn := ?_)
     refine LWo.assign (e_bool (a0.Kind == (3 : Int))) rfl (hn := ?_)
     refine LWo.nil (hN18 _ ?_)
     refine LWP.cond_split rfl (fun h19 => ?_) (fun h19 => ?_)
     ·have h := bT h19 h
      refine LWP.join (α := Bool) (fun z : Bool => [(2, (e_bool z))]) (fun z : Bool => []) (fun z : Bool => m_impl_Value_ok_j3  z) r (fun _ => by simp [hkeys]) ?_ ?_
      ·rintro t2 h
       replace h : m_impl_Value_ok_j3  t2 = some _ := h
       obtain rfl := Option.some.inj h
       refine LWP.ret (QG.mk (.inr rfl) (.cons (.tmp (x := (e_bool t2)) rfl) (.nil)) (RetOK.one0 (.pure rfl) (by decide)) rfl rfl)
      ·intro N20 hN20
       refine LWP.region (l := [_,_,_,_,_,_,_,_,_]) ?_
       refine LWo.fieldAddr _ u_impl_Value rfl s_string rfl rfl (hn := ?_)
       refine LWo.load1 (c := (e_string a0.S)) g_string rfl (hn := ?_)
       refine LWo.str _ rfl rfl rfl (hn := ?_)
       refine LWo.move (e_bool (sEq a0.S (⟨#[]⟩ : ByteArray))) rfl (hn := ?_)
       refine LWo.byCases (t := 41) _ rfl (fun h21 => ?_) (fun h21 => ?_)
       ·have h := bT h21 h
        refine LWo.guardY (t := 41) rfl h21 rfl rfl ?_
        refine LWo.fieldAddr _ u_impl_Value rfl s_int rfl rfl (hn := ?_)
        refine LWo.guardY (t := 41) rfl h21 rfl rfl ?_
        refine LWo.load1 (c := (e_int a0.N)) g_int rfl (hn := ?_)
        refine bk h fun x22 e22 h => ?_
        refine LWo.guardY (t := 41) rfl h21 rfl rfl ?_
        refine LWo.vcall rfl rfl (c_impl_between _ _ _ _ e22) (.same (.same (.same (.nil)))) (hn := ?_)
        refine LWo.pickTM (e_bool x22) rfl h21 rfl (hn := ?_)
        refine LWo.assign (e_bool x22) rfl (hn := ?_)
        refine LWo.nil (hN20 x22 _ ⟨rfl, trivial⟩ trivial h)
       ·have h := bF h21 h
        refine LWo.guardNU (t := 41) rfl h21 rfl rfl rfl rfl rfl ?_
        refine LWo.guardNU (t := 41) rfl h21 rfl rfl rfl rfl rfl ?_
        refine LWo.guardNU (t := 41) rfl h21 rfl rfl rfl rfl rfl ?_
        refine LWo.pickFM (e_bool false) rfl h21 rfl (hn := ?_)
        refine LWo.assign (e_bool false) rfl (hn := ?_)
        refine LWo.nil (hN20 false _ ⟨rfl, trivial⟩ trivial h)
     ·have h := bF h19 h
      refine LWP.skip (hN2 _ ?_)
      refine LWP.seq_k fun N23 hN23 => ?_
      refine LWP.region (l := [_]) ?_
      refine LWo.assign (e_bool false) rfl (hn := ?_)
      refine LWo.nil (hN23 _ ?_)
      obtain rfl := Option.some.inj h
      refine LWP.ret (QG.mk (.inr rfl) (.cons (.tmp (x := (e_bool false)) rfl) (.nil)) (RetOK.one0 (.pure rfl) (by decide)) rfl rfl)

def m_impl_ValueFrom_j4 (t5 : Int) (o2 : S_impl_Value) (o4 : S_impl_Value) : Option (S_impl_Value × Int) :=
  (m_impl_Value_ok o4).bind fun x42 =>
  bif (!x42) then (lt ((⟨(0 : Int), (0 : Int), (⟨#[]⟩ : ByteArray)⟩ : S_impl_Value)) fun y45 =>
    some (y45, (0 : Int)))
  else (lt (o4) fun y47 =>
  some (y47, t5))
def m_impl_ValueFrom_j3 (t0 : (List UInt8)) (t5 : Int) (t65 : Bool) (o2 : S_impl_Value) (o4 : S_impl_Value) : Option (S_impl_Value × Int) :=
  bif t65 then ((at? t0 (1 : Int)).bind fun x34 =>
    lt ({ o4 with N := (x34.toNat : Int) }) fun y35 =>
    m_impl_ValueFrom_j4  (2 : Int) o2 y35)
  else (bif (o4.Kind != (0 : Int)) then (lt ((⟨(0 : Int), (0 : Int), (⟨#[]⟩ : ByteArray)⟩ : S_impl_Value)) fun y39 =>
      some (y39, (0 : Int)))
    else (m_impl_ValueFrom_j4  t5 o2 o4))
def m_impl_ValueFrom_j2 (t0 : (List UInt8)) (t5 : Int) (t36 : Bool) (o2 : S_impl_Value) (o4 : S_impl_Value) : Option (S_impl_Value × Int) :=
  bif t36 then ((at? t0 (1 : Int)).bind fun x27 =>
    (ckI ((2 : Int) + (x27.toNat : Int))).bind fun x28 =>
    (cut? t0 (2 : Int) x28).bind fun x29 =>
    lt ({ o4 with S := (bStr x29) }) fun y30 =>
    m_impl_ValueFrom_j4  x28 o2 y30)
  else (bif (o4.Kind == (3 : Int)) then (m_impl_ValueFrom_j3  t0 t5 (decide ((t0.length : Int) > (1 : Int))) o2 o4)
    else (m_impl_ValueFrom_j3  t0 t5 false o2 o4))
def m_impl_ValueFrom_j1 (t0 : (List UInt8)) (t5 : Int) (t15 : Bool) (o2 : S_impl_Value) (o4 : S_impl_Value) : Option (S_impl_Value × Int) :=
  bif t15 then ((at? t0 (1 : Int)).bind fun x14 =>
    (shlI (x14.toNat : Int) (8 : Int)).bind fun x15 =>
    (at? t0 (2 : Int)).bind fun x16 =>
    (ckI (x15 + (x16.toNat : Int))).bind fun x17 =>
    (ckI (x17 - (10000 : Int))).bind fun x18 =>
    lt ({ o4 with N := x18 }) fun y19 =>
    m_impl_ValueFrom_j4  (3 : Int) o2 y19)
  else (bif (o4.Kind == (2 : Int)) then (bif decide ((t0.length : Int) > (1 : Int)) then ((at? t0 (1 : Int)).bind fun x23 =>
        (ckI ((2 : Int) + (x23.toNat : Int))).bind fun x24 =>
        m_impl_ValueFrom_j2  t0 t5 (decide ((t0.length : Int) ≥ x24)) o2 o4)
      else (m_impl_ValueFrom_j2  t0 t5 false o2 o4))
    else (m_impl_ValueFrom_j2  t0 t5 false o2 o4))
def m_impl_ValueFrom (a0 : (List UInt8)) : Option (S_impl_Value × Int) :=
  bif ((a0.length : Int) == (0 : Int)) then (lt ((⟨(0 : Int), (0 : Int), (⟨#[]⟩ : ByteArray)⟩ : S_impl_Value)) fun y6 =>
    some (y6, (0 : Int)))
  else ((at? a0 (0 : Int)).bind fun x8 =>
  lt ((⟨(x8.toNat : Int), (0 : Int), (⟨#[]⟩ : ByteArray)⟩ : S_impl_Value)) fun y9 =>
  bif (y9.Kind == (1 : Int)) then (m_impl_ValueFrom_j1  a0 (1 : Int) (decide ((a0.length : Int) > (2 : Int))) (⟨(0 : Int), (0 : Int), (⟨#[]⟩ : ByteArray)⟩ : S_impl_Value) y9)
  else (m_impl_ValueFrom_j1  a0 (1 : Int) false (⟨(0 : Int), (0 : Int), (⟨#[]⟩ : ByteArray)⟩ : S_impl_Value) y9))
theorem c_impl_ValueFrom (a0 : (List UInt8)) (r : (S_impl_Value × Int)) (h : m_impl_ValueFrom a0 = some r) : Ret Try.prog f_impl_ValueFrom [e_Luint8 a0] (.tup [e_impl_Value r.1, e_int r.2]) := by
  refine Does.goG [] F_impl_ValueFrom rfl e_impl_ValueFrom n_impl_ValueFrom rfl (rvs := [.cell 2 t_impl_Value, .tmp 3]) rfl rfl ?_
  intro w0 ok0 lent ρ0
  refine LWP.seq_k fun N1 hN1 => ?_
  refine LWP.region (l := [_,_]) ?_
  refine LWo.alloc_impl_Value 2 rfl (hn := ?_)
  refine LWo.assign (e_int (0 : Int)) rfl (hn := ?_)
  refine LWo.nil (hN1 _ ?_)
  refine LWP.seq_k fun N2 hN2 => ?_
  refine LWP.seq_k fun N3 hN3 => ?_
  refine LWP.region (l := [_,_,_]) ?_
  refine LWo.move (e_Luint8 a0) rfl (hn := ?_)
  refine LWo.lenM (f := e_uint8) (l := a0) u_Luint8 rfl (hn := ?_)
  refine LWo.int _ rfl rfl rfl (hn := ?_)
  refine LWo.nil (hN3 _ ?_)
  refine LWP.cond_split rfl (fun h4 => ?_) (fun h4 => ?_)
  ·have h := bT h4 h
   refine LWP.seq_k fun N5 hN5 => ?_
   refine LWP.region (l := [_,_,_]) ?_
   refine LWo.build_impl_Value (parts := []) (⟨(0 : Int), (0 : Int), (⟨#[]⟩ : ByteArray)⟩ : S_impl_Value) rfl rfl rfl .refl (hn := ?_)
   refine lk h fun y6 e6 h => ?_
   refine LWo.storeW (y := (⟨(0 : Int), (0 : Int), (⟨#[]⟩ : ByteArray)⟩ : S_impl_Value)) y6 s_impl_Value rfl rfl rfl rfl rfl rfl (by rw [e6]; exact .refl) rfl (hn := ?_)
   refine LWo.assign (e_int (0 : Int)) rfl (hn := ?_)
   refine LWo.nil (hN5 _ ?_)
   obtain rfl := Option.some.inj h
   refine LWP.ret (QG.mk (.inr rfl) (.cons (.cellN (ys := (e_impl_Value y6).cells) g_impl_Value s_impl_Value rfl rfl rfl rfl rfl (fun _ _ => rfl)) (.cons (.tmp (x := (e_int (0 : Int))) rfl) (.nil))) (RetOK.many0 (.cons (.pure rfl) (.cons (.pure rfl) (.nil))) (by simp) (by decide)) rfl rfl)
  ·have h := bF h4 h
   refine LWP.skip (hN2 _ ?_)
   refine LWP.seq_k fun N7 hN7 => ?_
   refine LWP.region (l := [_,_,_,_,_,_,_,_]) ?_
   refine LWo.move (e_Luint8 a0) rfl (hn := ?_)
   refine bk h fun x8 e8 h => ?_
   refine LWo.indexM (f := e_uint8) e8 u_Luint8 s_uint8 rfl rfl (hn := ?_)
   refine LWo.load1 (c := (e_uint8 x8)) g_uint8 rfl (hn := ?_)
   refine LWo.convByte _ u_uint8 u_int rfl (hn := ?_)
   refine LWo.build_impl_Value (parts := [_]) (⟨(x8.toNat : Int), (0 : Int), (⟨#[]⟩ : ByteArray)⟩ : S_impl_Value) rfl rfl rfl .refl (hn := ?_)
   refine LWo.alloc_impl_Value 4 rfl (hn := ?_)
   refine lk h fun y9 e9 h => ?_
   refine LWo.storeW (y := (⟨(0 : Int), (0 : Int), (⟨#[]⟩ : ByteArray)⟩ : S_impl_Value)) y9 s_impl_Value rfl rfl rfl rfl rfl rfl (by rw [e9]; exact .refl) rfl (hn := ?_)
   refine LWo.assign (e_int (1 : Int)) rfl (hn := ?_)
   refine LWo.nil (hN7 _ ?_)
   refine LWP.join (α := Int × S_impl_Value × S_impl_Value) (fun z : Int × S_impl_Value × S_impl_Value => [(2, (.ptr 2 0 0)), (4, (.ptr 4 0 0)), (5, (e_int z.1))]) (fun z : Int × S_impl_Value × S_impl_Value => [(2, (vob 3 e_impl_Value z.2.1)), (4, (vob 3 e_impl_Value z.2.2))]) (fun z : Int × S_impl_Value × S_impl_Value => m_impl_ValueFrom_j4  z.1 z.2.1 z.2.2) r (fun _ => by simp [hkeys]) ?_ ?_
   ·rintro ⟨t5, o2, o4⟩ h
    replace h : m_impl_ValueFrom_j4  t5 o2 o4 = some _ := h
    refine LWP.seq_k fun N40 hN40 => ?_
    refine LWP.seq_k fun N41 hN41 => ?_
    refine LWP.region (l := [_,_,_]) ?_
    refine LWo.loadVN ((e_impl_Value o4)).cells  g_impl_Value s_impl_Value rfl rfl rfl rfl (hn := ?_)
    refine bk h fun x42 e42 h => ?_
    refine LWo.vcall rfl rfl (c_impl_Value_ok _ _ e42) (.same (.nil)) (hn := ?_)
    refine LWo.not rfl (hn := ?_)
    refine LWo.nil (hN41 _ ?_)
    refine LWP.cond_split rfl (fun h43 => ?_) (fun h43 => ?_)
    ·have h := bT h43 h
     refine LWP.seq_k fun N44 hN44 => ?_
     refine LWP.region (l := [_,_,_]) ?_
     refine LWo.build_impl_Value (parts := []) (⟨(0 : Int), (0 : Int), (⟨#[]⟩ : ByteArray)⟩ : S_impl_Value) rfl rfl rfl .refl (hn := ?_)
     refine lk h fun y45 e45 h => ?_
     refine LWo.storeW (y := o2) y45 s_impl_Value rfl rfl rfl rfl rfl rfl (by rw [e45]; exact .refl) rfl (hn := ?_)
     refine LWo.assign (e_int (0 : Int)) rfl (hn := ?_)
     refine LWo.nil (hN44 _ ?_)
     obtain rfl := Option.some.inj h
     refine LWP.ret (QG.mk (.inr rfl) (.cons (.cellN (ys := (e_impl_Value y45).cells) g_impl_Value s_impl_Value rfl rfl rfl rfl rfl (fun _ _ => rfl)) (.cons (.tmp (x := (e_int (0 : Int))) rfl) (.nil))) (RetOK.many0 (.cons (.pure rfl) (.cons (.pure rfl) (.nil))) (by simp) (by decide)) rfl rfl)
    ·have h := bF h43 h
     refine LWP.skip (hN40 _ ?_)
     refine LWP.seq_k fun N46 hN46 => ?_
     refine LWP.region (l := [_,_,_,_]) ?_
     refine LWo.loadVN ((e_impl_Value o4)).cells  g_impl_Value s_impl_Value rfl rfl rfl rfl (hn := ?_)
     refine LWo.move (e_int t5) rfl (hn := ?_)
     refine lk h fun y47 e47 h => ?_
     refine LWo.storeW (y := o2) y47 s_impl_Value rfl rfl rfl rfl rfl rfl (by rw [e47]; exact .refl) rfl (hn := ?_)
     refine LWo.assign (e_int t5) rfl (hn := ?_)
     refine LWo.nil (hN46 _ ?_)
     obtain rfl := Option.some.inj h
     refine LWP.ret (QG.mk (.inr rfl) (.cons (.cellN (ys := (e_impl_Value y47).cells) g_impl_Value s_impl_Value rfl rfl rfl rfl rfl (fun _ _ => rfl)) (.cons (.tmp (x := (e_int t5)) rfl) (.nil))) (RetOK.many0 (.cons (.pure rfl) (.cons (.pure rfl) (.nil))) (by simp) (by decide)) rfl rfl)
   ·intro N10 hN10
    refine LWP.block ?_
    refine LWP.join (α := (List UInt8) × Int × Bool × S_impl_Value × S_impl_Value) (fun z : (List UInt8) × Int × Bool × S_impl_Value × S_impl_Value => [(0, (e_Luint8 z.1)), (2, (.ptr 2 0 0)), (4, (.ptr 4 0 0)), (5, (e_int z.2.1)), (15, (e_bool z.2.2.1))]) (fun z : (List UInt8) × Int × Bool × S_impl_Value × S_impl_Value => [(2, (vob 3 e_impl_Value z.2.2.2.1)), (4, (vob 3 e_impl_Value z.2.2.2.2))]) (fun z : (List UInt8) × Int × Bool × S_impl_Value × S_impl_Value => m_impl_ValueFrom_j1  z.1 z.2.1 z.2.2.1 z.2.2.2.1 z.2.2.2.2) r (fun _ => by simp [hkeys]) ?_ ?_
    ·rintro ⟨t0, t5, t15, o2, o4⟩ h
     replace h : m_impl_ValueFrom_j1  t0 t5 t15 o2 o4 = some _ := h
     refine LWP.cond_split rfl (fun h13 => ?_) (fun h13 => ?_)
     ·have h := bT h13 h
      refine bk h fun x14 e14 h => ?_
      refine bk h fun x15 e15 h => ?_
      refine bk h fun x16 e16 h => ?_
      refine bk h fun x17 e17 h => ?_
      refine bk h fun x18 e18 h => ?_
      refine lk h fun y19 e19 h => ?_
      refine LWP.drawF (l := [_,_,_,_,_,_,_,_,_,_,_,_,_,_]) [] [0, 2, 4] [([0], []), ([24], []), ([25], []), ([26], []), ([27], []), ([0], []), ([29], []), ([30], []), ([31], []), ([28, 32], []), ([33], []), ([4], []), ([34, 35], [4]), ([], [])] [2, 4, 5] [2, 4] mixed (by kernel_rfl) rfl (by decide) ?_
      refine dq 24 rfl (fun _ g u h => LWo.move (e_Luint8 t0) u.1 (hn := .nil (zn g))) ?_
      refine dq 25 rfl (fun _ g u h => LWo.indexM (f := e_uint8) e14 u_Luint8 s_uint8 u.1 rfl (hn := .nil (zn g))) ?_
      refine dq 26 rfl (fun _ g u h => LWo.load1 (c := (e_uint8 x14)) g_uint8 u.1 (hn := .nil (zn g))) ?_
      refine dq 27 rfl (fun _ g u h => LWo.convByte _ u_uint8 u_int u.1 (hn := .nil (zn g))) ?_
      refine dq 28 rfl (fun _ g u h => LWo.shlM e15 u.1 rfl (hn := .nil (zn g))) ?_
      refine dq 29 rfl (fun _ g u h => LWo.move (e_Luint8 t0) u.1 (hn := .nil (zn g))) ?_
      refine dq 30 rfl (fun _ g u h => LWo.indexM (f := e_uint8) e16 u_Luint8 s_uint8 u.1 rfl (hn := .nil (zn g))) ?_
      refine dq 31 rfl (fun _ g u h => LWo.load1 (c := (e_uint8 x16)) g_uint8 u.1 (hn := .nil (zn g))) ?_
      refine dq 32 rfl (fun _ g u h => LWo.convByte _ u_uint8 u_int u.1 (hn := .nil (zn g))) ?_
      refine dq 33 rfl (fun _ g u h => LWo.int _ u.1 u.2.1 (add_ck e17) (hn := .nil (zn g))) ?_
      refine dq 34 rfl (fun _ g u h => LWo.int _ u.1 rfl (sub_ck e18) (hn := .nil (zn g))) ?_
      refine dq 35 rfl (fun _ g u h => LWo.fieldPtr u_impl_Value rfl s_int u.1 rfl (hn := .nil (zn g))) ?_
      refine ⟨rfl, .upd none .junk 4 _, (fun _ h => by cases h), fun _ g u h => LWo.storeW (y := o4) y19 s_int u.2.1 u.1 rfl rfl h.1 rfl (by rw [e19]; exact .refl) rfl (hn := LWo.nil ⟨rfl, .inl rfl, Ef.good_ok (e := .upd none .junk 4 _) (fun _ h => by cases h) g⟩), ?_⟩
      refine dq 5 rfl (fun _ g u h => LWo.assign (e_int (3 : Int)) rfl (hn := .nil (zn g))) ?_
      refine ⟨rfl, by kernel_rfl, hN10 ((3 : Int), o2, y19) _ ⟨rfl, rfl, rfl, trivial⟩ ⟨rfl, rfl, trivial⟩ h⟩
     ·have h := bF h13 h
      refine LWP.join (α := (List UInt8) × Int × Bool × S_impl_Value × S_impl_Value) (fun z : (List UInt8) × Int × Bool × S_impl_Value × S_impl_Value => [(0, (e_Luint8 z.1)), (2, (.ptr 2 0 0)), (4, (.ptr 4 0 0)), (5, (e_int z.2.1)), (36, (e_bool z.2.2.1))]) (fun z : (List UInt8) × Int × Bool × S_impl_Value × S_impl_Value => [(2, (vob 3 e_impl_Value z.2.2.2.1)), (4, (vob 3 e_impl_Value z.2.2.2.2))]) (fun z : (List UInt8) × Int × Bool × S_impl_Value × S_impl_Value => m_impl_ValueFrom_j2  z.1 z.2.1 z.2.2.1 z.2.2.2.1 z.2.2.2.2) r (fun _ => by simp [hkeys]) ?_ ?_
      ·rintro ⟨t0, t5, t36, o2, o4⟩ h
       replace h : m_impl_ValueFrom_j2  t0 t5 t36 o2 o4 = some _ := h
       refine LWP.cond_split rfl (fun h25 => ?_) (fun h25 => ?_)
       ·have h := bT h25 h
        refine LWP.seq_k fun N26 hN26 => ?_
        refine LWP.region (l := [_,_,_,_,_,_]) ?_
        refine LWo.move (e_Luint8 t0) rfl (hn := ?_)
        refine bk h fun x27 e27 h => ?_
        refine LWo.indexM (f := e_uint8) e27 u_Luint8 s_uint8 rfl rfl (hn := ?_)
        refine LWo.load1 (c := (e_uint8 x27)) g_uint8 rfl (hn := ?_)
        refine LWo.convByte _ u_uint8 u_int rfl (hn := ?_)
        refine bk h fun x28 e28 h => ?_
        refine LWo.int _ rfl rfl (add_ck e28) (hn := ?_)
        refine LWo.assign (e_int x28) rfl (hn := ?_)
        refine LWo.nil (hN26 _ ?_)
        refine LWP.region (l := [_,_,_,_,_,_]) ?_
        refine LWo.move (e_Luint8 t0) rfl (hn := ?_)
        refine LWo.move (e_int x28) rfl (hn := ?_)
        refine bk h fun x29 e29 h => ?_
        refine LWo.cutM (f := e_uint8) e29 u_Luint8 s_uint8 rfl ⟨_, rfl⟩ ⟨_, rfl⟩ (hn := ?_)
        refine LWo.strM (l := x29) u_Luint8 u_string u_uint8 rfl (hn := ?_)
        refine LWo.fieldPtr u_impl_Value rfl s_string rfl rfl (hn := ?_)
        refine lk h fun y30 e30 h => ?_
        refine LWo.storeW (y := o4) y30 s_string rfl rfl rfl rfl rfl rfl (by rw [e30]; exact .refl) rfl (hn := ?_)
        refine LWo.nil (hN10 (x28, o2, y30) _ ⟨rfl, rfl, rfl, trivial⟩ ⟨rfl, rfl, trivial⟩ h)
       ·have h := bF h25 h
        refine LWP.join (α := (List UInt8) × Int × Bool × S_impl_Value × S_impl_Value) (fun z : (List UInt8) × Int × Bool × S_impl_Value × S_impl_Value => [(0, (e_Luint8 z.1)), (2, (.ptr 2 0 0)), (4, (.ptr 4 0 0)), (5, (e_int z.2.1)), (65, (e_bool z.2.2.1))]) (fun z : (List UInt8) × Int × Bool × S_impl_Value × S_impl_Value => [(2, (vob 3 e_impl_Value z.2.2.2.1)), (4, (vob 3 e_impl_Value z.2.2.2.2))]) (fun z : (List UInt8) × Int × Bool × S_impl_Value × S_impl_Value => m_impl_ValueFrom_j3  z.1 z.2.1 z.2.2.1 z.2.2.2.1 z.2.2.2.2) r (fun _ => by simp [hkeys]) ?_ ?_
        ·rintro ⟨t0, t5, t65, o2, o4⟩ h
         replace h : m_impl_ValueFrom_j3  t0 t5 t65 o2 o4 = some _ := h
         refine LWP.cond_split rfl (fun h33 => ?_) (fun h33 => ?_)
         ·have h := bT h33 h
          refine LWP.region (l := [_,_,_,_,_,_,_]) ?_
          refine LWo.move (e_Luint8 t0) rfl (hn := ?_)
          refine bk h fun x34 e34 h => ?_
          refine LWo.indexM (f := e_uint8) e34 u_Luint8 s_uint8 rfl rfl (hn := ?_)
          refine LWo.load1 (c := (e_uint8 x34)) g_uint8 rfl (hn := ?_)
          refine LWo.convByte _ u_uint8 u_int rfl (hn := ?_)
          refine LWo.fieldPtr u_impl_Value rfl s_int rfl rfl (hn := ?_)
          refine lk h fun y35 e35 h => ?_
          refine LWo.storeW (y := o4) y35 s_int rfl rfl rfl rfl rfl rfl (by rw [e35]; exact .refl) rfl (hn := ?_)
          refine LWo.assign (e_int (2 : Int)) rfl (hn := ?_)
          refine LWo.nil (hN10 ((2 : Int), o2, y35) _ ⟨rfl, rfl, rfl, trivial⟩ ⟨rfl, rfl, trivial⟩ h)
         ·have h := bF h33 h
          refine LWP.seq_k fun N36 hN36 => ?_
          refine LWP.region (l := [_,_,_,_]) ?_
          refine LWo.fieldPtr u_impl_Value rfl s_int rfl rfl (hn := ?_)
          refine LWo.loadV1 (e_int o4.Kind)  g_int rfl rfl rfl (hn := ?_)
          refine LWo.int _ rfl rfl rfl (hn := ?_)
          refine LWo.assign (e_bool (o4.Kind != (0 : Int))) rfl (hn := ?_)
          refine LWo.nil (hN36 _ ?_)
          refine LWP.cond_split rfl (fun h37 => ?_) (fun h37 => ?_)
          ·have h := bT h37 h
           refine LWP.seq_k fun N38 hN38 => ?_
           refine LWP.region (l := [_,_,_]) ?_
           refine LWo.build_impl_Value (parts := []) (⟨(0 : Int), (0 : Int), (⟨#[]⟩ : ByteArray)⟩ : S_impl_Value) rfl rfl rfl .refl (hn := ?_)
           refine lk h fun y39 e39 h => ?_
           refine LWo.storeW (y := o2) y39 s_impl_Value rfl rfl rfl rfl rfl rfl (by rw [e39]; exact .refl) rfl (hn := ?_)
           refine LWo.assign (e_int (0 : Int)) rfl (hn := ?_)
           refine LWo.nil (hN38 _ ?_)
           obtain rfl := Option.some.inj h
           refine LWP.ret (QG.mk (.inr rfl) (.cons (.cellN (ys := (e_impl_Value y39).cells) g_impl_Value s_impl_Value rfl rfl rfl rfl rfl (fun _ _ => rfl)) (.cons (.tmp (x := (e_int (0 : Int))) rfl) (.nil))) (RetOK.many0 (.cons (.pure rfl) (.cons (.pure rfl) (.nil))) (by simp) (by decide)) rfl rfl)
          ·have h := bF h37 h
           refine LWP.skip (hN10 (t5, o2, o4) _ ⟨rfl, rfl, rfl, trivial⟩ ⟨rfl, rfl, trivial⟩ h)
        ·intro N31 hN31
         refine LWP.region (l := [_,_,_,_,_,_,_,_,_]) ?_
         refine LWo.fieldPtr u_impl_Value rfl s_int rfl rfl (hn := ?_)
         refine LWo.loadV1 (e_int o4.Kind)  g_int rfl rfl rfl (hn := ?_)
         refine LWo.int _ rfl rfl rfl (hn := ?_)
         refine LWo.move (e_bool (o4.Kind == (3 : Int))) rfl (hn := ?_)
         refine LWo.byCases (t := 69) _ rfl (fun h32 => ?_) (fun h32 => ?_)
         ·have h := bT h32 h
          refine LWo.guardY (t := 69) rfl h32 rfl rfl ?_
          refine LWo.move (e_Luint8 t0) rfl (hn := ?_)
          refine LWo.guardY (t := 69) rfl h32 rfl rfl ?_
          refine LWo.lenM (f := e_uint8) (l := t0) u_Luint8 rfl (hn := ?_)
          refine LWo.guardY (t := 69) rfl h32 rfl rfl ?_
          refine LWo.int _ rfl rfl rfl (hn := ?_)
          refine LWo.pickTM (e_bool (decide ((t0.length : Int) > (1 : Int)))) rfl h32 rfl (hn := ?_)
          refine LWo.assign (e_bool (decide ((t0.length : Int) > (1 : Int)))) rfl (hn := ?_)
          refine LWo.nil (hN31 (t0, t5, decide ((t0.length : Int) > (1 : Int)), o2, o4) _ ⟨rfl, rfl, rfl, rfl, rfl, trivial⟩ ⟨rfl, rfl, trivial⟩ h)
         ·have h := bF h32 h
          refine LWo.guardNU (t := 69) rfl h32 rfl rfl rfl rfl rfl ?_
          refine LWo.guardNU (t := 69) rfl h32 rfl rfl rfl rfl rfl ?_
          refine LWo.guardNU (t := 69) rfl h32 rfl rfl rfl rfl rfl ?_
          refine LWo.pickFM (e_bool false) rfl h32 rfl (hn := ?_)
          refine LWo.assign (e_bool false) rfl (hn := ?_)
          refine LWo.nil (hN31 (t0, t5, false, o2, o4) _ ⟨rfl, rfl, rfl, rfl, rfl, trivial⟩ ⟨rfl, rfl, trivial⟩ h)
      ·intro N20 hN20
       refine LWP.region (l := [_,_,_,_,_,_,_,_,_,_,_,_,_,_,_,_,_,_,_]) ?_
       refine LWo.fieldPtr u_impl_Value rfl s_int rfl rfl (hn := ?_)
       refine LWo.loadV1 (e_int o4.Kind)  g_int rfl rfl rfl (hn := ?_)
       refine LWo.int _ rfl rfl rfl (hn := ?_)
       refine LWo.move (e_bool (o4.Kind == (2 : Int))) rfl (hn := ?_)
       refine LWo.byCases (t := 40) _ rfl (fun h21 => ?_) (fun h21 => ?_)
       ·have h := bT h21 h
        refine LWo.guardY (t := 40) rfl h21 rfl rfl ?_
        refine LWo.move (e_Luint8 t0) rfl (hn := ?_)
        refine LWo.guardY (t := 40) rfl h21 rfl rfl ?_
        refine LWo.lenM (f := e_uint8) (l := t0) u_Luint8 rfl (hn := ?_)
        refine LWo.guardY (t := 40) rfl h21 rfl rfl ?_
        refine LWo.int _ rfl rfl rfl (hn := ?_)
        refine LWo.pickTM (e_bool (decide ((t0.length : Int) > (1 : Int)))) rfl h21 rfl (hn := ?_)
        refine LWo.move (e_bool (decide ((t0.length : Int) > (1 : Int)))) rfl (hn := ?_)
        refine LWo.byCases (t := 45) _ rfl (fun h22 => ?_) (fun h22 => ?_)
        ·have h := bT h22 h
         refine LWo.guardY (t := 45) rfl h22 rfl rfl ?_
         refine LWo.move (e_Luint8 t0) rfl (hn := ?_)
         refine LWo.guardY (t := 45) rfl h22 rfl rfl ?_
         refine LWo.lenM (f := e_uint8) (l := t0) u_Luint8 rfl (hn := ?_)
         refine LWo.guardY (t := 45) rfl h22 rfl rfl ?_
         refine LWo.move (e_Luint8 t0) rfl (hn := ?_)
         refine bk h fun x23 e23 h => ?_
         refine LWo.guardY (t := 45) rfl h22 rfl rfl ?_
         refine LWo.indexM (f := e_uint8) e23 u_Luint8 s_uint8 rfl rfl (hn := ?_)
         refine LWo.guardY (t := 45) rfl h22 rfl rfl ?_
         refine LWo.load1 (c := (e_uint8 x23)) g_uint8 rfl (hn := ?_)
         refine LWo.guardY (t := 45) rfl h22 rfl rfl ?_
         refine LWo.convByte _ u_uint8 u_int rfl (hn := ?_)
         refine bk h fun x24 e24 h => ?_
         refine LWo.guardY (t := 45) rfl h22 rfl rfl ?_
         refine LWo.int _ rfl rfl (add_ck e24) (hn := ?_)
         refine LWo.guardY (t := 45) rfl h22 rfl rfl ?_
         refine LWo.int _ rfl rfl rfl (hn := ?_)
         refine LWo.pickTM (e_bool (decide ((t0.length : Int) ≥ x24))) rfl h22 rfl (hn := ?_)
         refine LWo.assign (e_bool (decide ((t0.length : Int) ≥ x24))) rfl (hn := ?_)
         refine LWo.nil (hN20 (t0, t5, decide ((t0.length : Int) ≥ x24), o2, o4) _ ⟨rfl, rfl, rfl, rfl, rfl, trivial⟩ ⟨rfl, rfl, trivial⟩ h)
        ·have h := bF h22 h
         refine LWo.guardNU (t := 45) rfl h22 rfl rfl rfl rfl rfl ?_
         refine LWo.guardNU (t := 45) rfl h22 rfl rfl rfl rfl rfl ?_
         refine LWo.guardNU (t := 45) rfl h22 rfl rfl rfl rfl rfl ?_
         refine LWo.guardNU (t := 45) rfl h22 rfl rfl rfl rfl rfl ?_
         refine LWo.guardNU (t := 45) rfl h22 rfl rfl rfl rfl rfl ?_
         refine LWo.guardNU (t := 45) rfl h22 rfl rfl rfl rfl rfl ?_
         refine LWo.guardNU (t := 45) rfl h22 rfl rfl rfl rfl rfl ?_
         refine LWo.guardNU (t := 45) rfl h22 rfl rfl rfl rfl rfl ?_
         refine LWo.pickFM (e_bool false) rfl h22 rfl (hn := ?_)
         refine LWo.assign (e_bool false) rfl (hn := ?_)
         refine LWo.nil (hN20 (t0, t5, false, o2, o4) _ ⟨rfl, rfl, rfl, rfl, rfl, trivial⟩ ⟨rfl, rfl, trivial⟩ h)
       ·have h := bF h21 h
        refine LWo.guardNU (t := 40) rfl h21 rfl rfl rfl rfl rfl ?_
        refine LWo.guardNU (t := 40) rfl h21 rfl rfl rfl rfl rfl ?_
        refine LWo.guardNU (t := 40) rfl h21 rfl rfl rfl rfl rfl ?_
        refine LWo.pickFM (e_bool false) rfl h21 rfl (hn := ?_)
        refine LWo.move (e_bool false) rfl (hn := ?_)
        refine LWo.guardNU (t := 45) rfl rfl rfl rfl rfl rfl rfl ?_
        refine LWo.guardNU (t := 45) rfl rfl rfl rfl rfl rfl rfl ?_
        refine LWo.guardNU (t := 45) rfl rfl rfl rfl rfl rfl rfl ?_
        refine LWo.guardNU (t := 45) rfl rfl rfl rfl rfl rfl rfl ?_
        refine LWo.guardNU (t := 45) rfl rfl rfl rfl rfl rfl rfl ?_
        refine LWo.guardNU (t := 45) rfl rfl rfl rfl rfl rfl rfl ?_
        refine LWo.guardNU (t := 45) rfl rfl rfl rfl rfl rfl rfl ?_
        refine LWo.guardNU (t := 45) rfl rfl rfl rfl rfl rfl rfl ?_
        refine LWo.pickFM (e_bool false) rfl rfl rfl (hn := ?_)
        refine LWo.assign (e_bool false) rfl (hn := ?_)
        refine LWo.nil (hN20 (t0, t5, false, o2, o4) _ ⟨rfl, rfl, rfl, rfl, rfl, trivial⟩ ⟨rfl, rfl, trivial⟩ h)
    ·intro N11 hN11
     refine LWP.region (l := [_,_,_,_,_,_,_,_,_]) ?_
     refine LWo.fieldPtr u_impl_Value rfl s_int rfl rfl (hn := ?_)
     refine LWo.loadV1 (e_int y9.Kind)  g_int rfl rfl rfl (hn := ?_)
     refine LWo.int _ rfl rfl rfl (hn := ?_)
     refine LWo.move (e_bool (y9.Kind == (1 : Int))) rfl (hn := ?_)
     refine LWo.byCases (t := 19) _ rfl (fun h12 => ?_) (fun h12 => ?_)
     ·have h := bT h12 h
      refine LWo.guardY (t := 19) rfl h12 rfl rfl ?_
      refine LWo.move (e_Luint8 a0) rfl (hn := ?_)
      refine LWo.guardY (t := 19) rfl h12 rfl rfl ?_
      refine LWo.lenM (f := e_uint8) (l := a0) u_Luint8 rfl (hn := ?_)
      refine LWo.guardY (t := 19) rfl h12 rfl rfl ?_
      refine LWo.int _ rfl rfl rfl (hn := ?_)
      refine LWo.pickTM (e_bool (decide ((a0.length : Int) > (2 : Int)))) rfl h12 rfl (hn := ?_)
      refine LWo.assign (e_bool (decide ((a0.length : Int) > (2 : Int)))) rfl (hn := ?_)
      refine LWo.nil (hN11 (a0, (1 : Int), decide ((a0.length : Int) > (2 : Int)), (⟨(0 : Int), (0 : Int), (⟨#[]⟩ : ByteArray)⟩ : S_impl_Value), y9) _ ⟨rfl, rfl, rfl, rfl, rfl, trivial⟩ ⟨rfl, rfl, trivial⟩ h)
     ·have h := bF h12 h
      refine LWo.guardNU (t := 19) rfl h12 rfl rfl rfl rfl rfl ?_
      refine LWo.guardNU (t := 19) rfl h12 rfl rfl rfl rfl rfl ?_
      refine LWo.guardNU (t := 19) rfl h12 rfl rfl rfl rfl rfl ?_
      refine LWo.pickFM (e_bool false) rfl h12 rfl (hn := ?_)
      refine LWo.assign (e_bool false) rfl (hn := ?_)
      refine LWo.nil (hN11 (a0, (1 : Int), false, (⟨(0 : Int), (0 : Int), (⟨#[]⟩ : ByteArray)⟩ : S_impl_Value), y9) _ ⟨rfl, rfl, rfl, rfl, rfl, trivial⟩ ⟨rfl, rfl, trivial⟩ h)

theorem cc_slices_Clip_Limpl_Value_impl_Value (xs : List LV) : Does Try.prog f_slices_Clip_Limpl_Value_impl_Value [.own 0 0 xs.length] [(0, { kind := .fro, sz := 3, elems := xs })] (fun r h => r = .nw 3 xs false ∧ h = []) := by
  refine Does.go [0] F_slices_Clip_Limpl_Value_impl_Value rfl e_slices_Clip_Limpl_Value_impl_Value n_slices_Clip_Limpl_Value_impl_Value rfl (ts := [2]) rfl rfl rfl ?_
  intro w0 ok0 lent ρ0
  refine LWP.seq_k fun N1 hN1 => ?_
  refine LWP.region (l := [_]) ?_
  refine LWo.assign _ rfl (hn := ?_)
  refine LWo.nil (hN1 _ ?_)
  refine LWP.seq_k fun N2 hN2 => ?_
  refine LWP.region (l := [_,_,_,_,_,_,_]) ?_
  refine LWo.move _ rfl (hn := ?_)
  refine LWo.move _ rfl (hn := ?_)
  refine LWo.len u_Limpl_Value rfl (hn := ?_)
  refine LWo.move _ rfl (hn := ?_)
  refine LWo.len u_Limpl_Value rfl (hn := ?_)
  refine LWo.cutOwn (l := 0) (h := xs.length) u_Limpl_Value s_impl_Value rfl rfl rfl rfl ⟨_, rfl⟩ ⟨_, _, rfl, Nat.le_refl _, Nat.le_refl _⟩ (.inr (by simp)) (Nat.zero_le _) (Nat.le_refl _) rfl rfl (hn := ?_)
  refine LWo.assign _ rfl (hn := ?_)
  refine LWo.nil (hN2 _ ?_)
  refine LWP.ret (QRet.own1 (.inr rfl) rfl rfl rfl rfl (by simp) ⟨?_, rfl⟩)
  clear hN1 hN2
  exact congrArg (fun l => LV.nw 3 l false) (by simp)
def m_slices_Clip_Limpl_Value_impl_Value_o (o0 : List S_impl_Value) : Option (List S_impl_Value) := some o0
theorem c_slices_Clip_Limpl_Value_impl_Value_o (o0 : List S_impl_Value) (r : List S_impl_Value) (h : m_slices_Clip_Limpl_Value_impl_Value_o o0 = some r) : Does Try.prog f_slices_Clip_Limpl_Value_impl_Value [.own 0 0 o0.length] [(0, lob 3 e_impl_Value o0)] (fun x hh => x = .nw 3 (r.map e_impl_Value) false ∧ hh = []) := by
  cases h
  have := cc_slices_Clip_Limpl_Value_impl_Value (o0.map e_impl_Value)
  rw [List.length_map] at this
  exact this



def m_slices_Clip_Limpl_Value_impl_Value (a0 : (List S_impl_Value)) : Option (List S_impl_Value) :=
  (cut3? a0 (0 : Int) (a0.length : Int) (a0.length : Int)).bind fun x3 =>
  some x3
theorem c_slices_Clip_Limpl_Value_impl_Value (a0 : (List S_impl_Value)) (r : (List S_impl_Value)) (h : m_slices_Clip_Limpl_Value_impl_Value a0 = some r) : Ret Try.prog f_slices_Clip_Limpl_Value_impl_Value [e_Limpl_Value a0] (e_Limpl_Value r) := by
  refine Does.goG [] F_slices_Clip_Limpl_Value_impl_Value rfl e_slices_Clip_Limpl_Value_impl_Value n_slices_Clip_Limpl_Value_impl_Value rfl (rvs := [.tmp 2]) rfl rfl ?_
  intro w0 ok0 lent ρ0
  refine LWP.seq_k fun N1 hN1 => ?_
  refine LWP.region (l := [_]) ?_
  refine LWo.assign _ rfl (hn := ?_)
  refine LWo.weakT 2 (e_Limpl_Value ([] : (List S_impl_Value))) rfl .nil ?_
  refine LWo.nil (hN1 _ ?_)
  refine LWP.seq_k fun N2 hN2 => ?_
  refine LWP.region (l := [_,_,_,_,_,_,_]) ?_
  refine LWo.move (e_Limpl_Value a0) rfl (hn := ?_)
  refine LWo.move (e_Limpl_Value a0) rfl (hn := ?_)
  refine LWo.lenM (f := e_impl_Value) (l := a0) u_Limpl_Value rfl (hn := ?_)
  refine LWo.move (e_Limpl_Value a0) rfl (hn := ?_)
  refine LWo.lenM (f := e_impl_Value) (l := a0) u_Limpl_Value rfl (hn := ?_)
  refine bk h fun x3 e3 h => ?_
  refine LWo.cutM3 (f := e_impl_Value) e3 u_Limpl_Value s_impl_Value rfl rfl ⟨_, rfl⟩ ⟨_, rfl⟩ (hn := ?_)
  refine LWo.assign (e_Limpl_Value x3) rfl (hn := ?_)
  refine LWo.nil (hN2 _ ?_)
  obtain rfl := Option.some.inj h
  refine LWP.ret (QG.mk (.inr rfl) (.cons (.tmp (x := (e_Limpl_Value x3)) rfl) (.nil)) (RetOK.one0 (.pure rfl) (by decide)) rfl rfl)

def m_impl_clone_impl_Value (a0 : (List S_impl_Value)) : Option (List S_impl_Value) :=
  bif ((a0.length : Int) == (0 : Int)) then (some ([] : (List S_impl_Value)))
  else ((appN? a0).bind fun x7 =>
  (m_slices_Clip_Limpl_Value_impl_Value_o x7).bind fun x8 =>
  some x8)
theorem c_impl_clone_impl_Value (a0 : (List S_impl_Value)) (r : (List S_impl_Value)) (h : m_impl_clone_impl_Value a0 = some r) : Ret Try.prog f_impl_clone_impl_Value [e_Limpl_Value a0] (.nw 3 (r.map e_impl_Value) false) := by
  refine Does.goG [] F_impl_clone_impl_Value rfl e_impl_clone_impl_Value n_impl_clone_impl_Value rfl (rvs := [.tmp 2]) rfl rfl ?_
  intro w0 ok0 lent ρ0
  refine LWP.seq_k fun N1 hN1 => ?_
  refine LWP.region (l := [_]) ?_
  refine LWo.assign _ rfl (hn := ?_)
  refine LWo.ownNil 2 1002 3 rfl rfl rfl ?_
  refine LWo.known 2 (.own 1002 0 ([] : (List S_impl_Value)).length) rfl ?_
  refine LWo.nil (hN1 _ ?_)
  refine LWP.seq_k fun N2 hN2 => ?_
  refine LWP.seq_k fun N3 hN3 => ?_
  refine LWP.region (l := [_,_,_]) ?_
  refine LWo.move (e_Limpl_Value a0) rfl (hn := ?_)
  refine LWo.lenM (f := e_impl_Value) (l := a0) u_Limpl_Value rfl (hn := ?_)
  refine LWo.int _ rfl rfl rfl (hn := ?_)
  refine LWo.nil (hN3 _ ?_)
  refine LWP.cond_split rfl (fun h4 => ?_) (fun h4 => ?_)
  ·have h := bT h4 h
   refine LWP.seq_k fun N5 hN5 => ?_
   refine LWP.region (l := [_]) ?_
   refine LWo.assign _ rfl (hn := ?_)
   refine LWo.ownNil 2 1002 3 rfl rfl rfl ?_
   refine LWo.known 2 (.own 1002 0 ([] : (List S_impl_Value)).length) rfl ?_
   refine LWo.nil (hN5 _ ?_)
   obtain rfl := Option.some.inj h
   refine LWP.ret (QG.mk (.inr rfl) (.cons (.tmp (x := (.own 1002 0 (([] : (List S_impl_Value))).length)) rfl) (.nil)) (RetOK.one0 (.nwM rfl rfl) (by decide)) rfl rfl)
  ·have h := bF h4 h
   refine LWP.skip (hN2 _ ?_)
   refine LWP.seq_k fun N6 hN6 => ?_
   refine LWP.region (l := [_,_,_,_]) ?_
   refine LWo.move (e_Limpl_Value a0) rfl (hn := ?_)
   refine bk h fun x7 e7 h => ?_
   refine LWo.appendC (f := e_impl_Value) 1007 e7 u_Limpl_Value u_Limpl_Value (fun _ h => by cases h) i_impl_Value rfl rfl (.sl rfl) (fun _ => rfl) rfl rfl (hn := ?_)
   refine bk h fun x8 e8 h => ?_
   refine LWo.tcallN (e := e_impl_Value) (e' := e_impl_Value) 1008 rfl rfl (c_slices_Clip_Limpl_Value_impl_Value_o _ _ e8) (fun _ => rfl) rfl rfl rfl rfl (hn := ?_)
   refine LWo.assign (.own 1008 0 (x8).length) rfl (hn := ?_)
   refine LWo.nil (hN6 _ ?_)
   obtain rfl := Option.some.inj h
   refine LWP.ret (QG.mk (.inr rfl) (.cons (.tmp (x := (.own 1008 0 (x8).length)) rfl) (.nil)) (RetOK.one0 (.nwM rfl rfl) (by decide)) rfl rfl)

def m_impl_RowFrom_j2 (t4 : Int) (o1005 : (List S_impl_Value)) : Option ((List S_impl_Value) × Int) :=
  (m_impl_clone_impl_Value o1005).bind fun x31 =>
  some (x31, t4)
def m_impl_RowFrom_l1 : Nat → (List UInt8) → Int → Int → Int → (List S_impl_Value) → Option ((List S_impl_Value) × Int)
  | 0, _, _, _, _, _ => none
  | n1 + 1, t0, t4, t20, t21, o1005 =>
    bif decide (t21 < t20) then ((cut? t0 t4 (t0.length : Int)).bind fun x20 =>
    (m_impl_ValueFrom x20).bind fun x21 =>
    lt (x21.1) fun y22 =>
    bif (x21.2 == (0 : Int)) then (some (([] : (List S_impl_Value)), (0 : Int)))
    else ((app? o1005 ([y22] : (List S_impl_Value))).bind fun x27 =>
    (ckI (t4 + x21.2)).bind fun x28 =>
    (ckI (t21 + (1 : Int))).bind fun x29 =>
    (m_impl_RowFrom_l1  n1) t0 x28 t20 x29 x27))
    else (m_impl_RowFrom_j2  t4 o1005)
def m_impl_RowFrom_j1 (t0 : (List UInt8)) (t16 : Bool) : Option ((List S_impl_Value) × Int) :=
  bif t16 then (some (([] : (List S_impl_Value)), (0 : Int)))
  else ((at? t0 (0 : Int)).bind fun x12 =>
  m_impl_RowFrom_l1  (((x12.toNat : Int) - (0 : Int)).toNat + 1) t0 (1 : Int) (x12.toNat : Int) (0 : Int) ([] : (List S_impl_Value)))
def m_impl_RowFrom (a0 : (List UInt8)) : Option ((List S_impl_Value) × Int) :=
  bif ((a0.length : Int) == (0 : Int)) then (m_impl_RowFrom_j1  a0 true)
  else ((at? a0 (0 : Int)).bind fun x5 =>
    m_impl_RowFrom_j1  a0 (decide ((x5.toNat : Int) > ((4 : UInt8).toNat : Int))))
theorem c_impl_RowFrom (a0 : (List UInt8)) (r : ((List S_impl_Value) × Int)) (h : m_impl_RowFrom a0 = some r) : Ret Try.prog f_impl_RowFrom [e_Luint8 a0] (.tup [e_Limpl_Value r.1, e_int r.2]) := by
  refine Does.goG [] F_impl_RowFrom rfl e_impl_RowFrom n_impl_RowFrom rfl (rvs := [.tmp 2, .tmp 3]) rfl rfl ?_
  intro w0 ok0 lent ρ0
  refine LWP.seq_k fun N1 hN1 => ?_
  refine LWP.region (l := [_,_]) ?_
  refine LWo.assign _ rfl (hn := ?_)
  refine LWo.weakT 2 (e_Limpl_Value ([] : (List S_impl_Value))) rfl .nil ?_
  refine LWo.assign (e_int (0 : Int)) rfl (hn := ?_)
  refine LWo.nil (hN1 _ ?_)
  refine LWP.seq_k fun N2 hN2 => ?_
  refine LWP.join (α := (List UInt8) × Bool) (fun z : (List UInt8) × Bool => [(0, (e_Luint8 z.1)), (16, (e_bool z.2))]) (fun z : (List UInt8) × Bool => []) (fun z : (List UInt8) × Bool => m_impl_RowFrom_j1  z.1 z.2) r (fun _ => by simp [hkeys]) ?_ ?_
  ·rintro ⟨t0, t16⟩ h
   replace h : m_impl_RowFrom_j1  t0 t16 = some _ := h
   refine LWP.cond_split rfl (fun h6 => ?_) (fun h6 => ?_)
   ·have h := bT h6 h
    refine LWP.seq_k fun N7 hN7 => ?_
    refine LWP.region (l := [_,_]) ?_
    refine LWo.assign _ rfl (hn := ?_)
    refine LWo.weakT 2 (e_Limpl_Value ([] : (List S_impl_Value))) rfl .nil ?_
    refine LWo.assign (e_int (0 : Int)) rfl (hn := ?_)
    refine LWo.nil (hN7 _ ?_)
    obtain rfl := Option.some.inj h
    refine LWP.ret (QG.mk (.inr rfl) (.cons (.tmp (x := (e_Limpl_Value ([] : (List S_impl_Value)))) rfl) (.cons (.tmp (x := (e_int (0 : Int))) rfl) (.nil))) (RetOK.many0 (.cons (.pure rfl) (.cons (.pure rfl) (.nil))) (by simp) (by decide)) rfl rfl)
   ·have h := bF h6 h
    refine LWP.skip (hN2 _ ?_)
    refine LWP.seq_k fun N8 hN8 => ?_
    refine LWP.region (l := [_]) ?_
    refine LWo.assign (e_int (1 : Int)) rfl (hn := ?_)
    refine LWo.nil (hN8 _ ?_)
    refine LWP.seq_k fun N9 hN9 => ?_
    refine LWP.region (l := [_]) ?_
    refine LWo.assign _ rfl (hn := ?_)
    refine LWo.ownNil 5 1005 3 rfl rfl rfl ?_
    refine LWo.known 5 (.own 1005 0 ([] : (List S_impl_Value)).length) rfl ?_
    refine LWo.nil (hN9 _ ?_)
    refine LWP.join (α := Int × (List S_impl_Value)) (fun z : Int × (List S_impl_Value) => [(4, (e_int z.1)), (5, (.own 1005 0 (z.2).length))]) (fun z : Int × (List S_impl_Value) => [(1005, (lob 3 e_impl_Value z.2))]) (fun z : Int × (List S_impl_Value) => m_impl_RowFrom_j2  z.1 z.2) r (fun _ => by simp [hkeys]) ?_ ?_
    ·rintro ⟨t4, o1005⟩ h
     replace h : m_impl_RowFrom_j2  t4 o1005 = some _ := h
     refine LWP.seq_k fun N30 hN30 => ?_
     refine LWP.region (l := [_,_,_,_,_]) ?_
     refine LWo.move (.own 1005 0 (o1005).length) rfl (hn := ?_)
     refine bk h fun x31 e31 h => ?_
     refine LWo.frzL (f := e_impl_Value) (l := o1005) [5, 40] 1005 rfl rfl ⟨rfl, rfl, trivial⟩ ?_
     refine LWo.vcall rfl rfl (c_impl_clone_impl_Value _ _ e31) (.same (.nil)) (hn := ?_)
     refine LWo.move (e_int t4) rfl (hn := ?_)
     refine LWo.assign (e_Limpl_Value x31) rfl (hn := ?_)
     refine LWo.assign (e_int t4) rfl (hn := ?_)
     refine LWo.nil (hN30 _ ?_)
     obtain rfl := Option.some.inj h
     refine LWP.ret (QG.mk (.inr rfl) (.cons (.tmp (x := (e_Limpl_Value x31)) rfl) (.cons (.tmp (x := (e_int t4)) rfl) (.nil))) (RetOK.many0 (.cons (.pure rfl) (.cons (.pure rfl) (.nil))) (by simp) (by decide)) rfl rfl)
    ·intro N10 hN10
     refine LWP.seq_k fun N11 hN11 => ?_
     refine LWP.region (l := [_,_,_,_,_]) ?_
     refine LWo.move (e_Luint8 t0) rfl (hn := ?_)
     refine bk h fun x12 e12 h => ?_
     refine LWo.indexM (f := e_uint8) e12 u_Luint8 s_uint8 rfl rfl (hn := ?_)
     refine LWo.load1 (c := (e_uint8 x12)) g_uint8 rfl (hn := ?_)
     refine LWo.convByte _ u_uint8 u_int rfl (hn := ?_)
     refine LWo.move (e_int (0 : Int)) rfl (hn := ?_)
     refine LWo.nil (hN11 _ ?_)
     refine LWP.block ?_
     refine LWP.loopM (α := (List UInt8) × Int × Int × Int × (List S_impl_Value)) (fun z : (List UInt8) × Int × Int × Int × (List S_impl_Value) => [(0, (e_Luint8 z.1)), (4, (e_int z.2.1)), (5, (.own 1005 0 (z.2.2.2.2).length)), (20, (e_int z.2.2.1)), (21, (e_int z.2.2.2.1))]) (fun z : (List UInt8) × Int × Int × Int × (List S_impl_Value) => [(1005, (lob 3 e_impl_Value z.2.2.2.2))]) (fun n1 (z : (List UInt8) × Int × Int × Int × (List S_impl_Value)) => m_impl_RowFrom_l1  n1 z.1 z.2.1 z.2.2.1 z.2.2.2.1 z.2.2.2.2) r _ (t0, (1 : Int), (x12.toNat : Int), (0 : Int), ([] : (List S_impl_Value))) h (fun _ => rfl) (fun _ => by simp [hkeys]) ⟨rfl, rfl, rfl, rfl, rfl, trivial⟩ ⟨rfl, trivial⟩ ?_
     rintro n1 ⟨t0, t4, t20, t21, o1005⟩ h N13 hN13
     replace h : m_impl_RowFrom_l1  (n1 + 1) t0 t4 t20 t21 o1005 = some _ := h
     refine LWP.seq_k fun N15 hN15 => ?_
     refine LWP.region (l := [_]) ?_
     refine LWo.int _ rfl rfl rfl (hn := ?_)
     refine LWo.nil (hN15 _ ?_)
     refine LWP.seq_k fun N16 hN16 => ?_
     refine LWP.cond_split rfl (fun h17 => ?_) (fun h17 => ?_)
     ·have h := bT h17 h
      refine LWP.skip (hN16 _ ?_)
      refine LWP.seq_k fun N18 hN18 => ?_
      refine LWP.block ?_
      refine LWP.seq_k fun N19 hN19 => ?_
      refine LWP.region (l := [_,_,_,_,_,_,_,_,_,_]) ?_
      refine LWo.move (e_Luint8 t0) rfl (hn := ?_)
      refine LWo.move (e_int t4) rfl (hn := ?_)
      refine bk h fun x20 e20 h => ?_
      refine LWo.cutM (f := e_uint8) e20 u_Luint8 s_uint8 rfl ⟨_, rfl⟩ rfl (hn := ?_)
      refine bk h fun x21 e21 h => ?_
      refine LWo.vcall rfl rfl (c_impl_ValueFrom _ _ e21) (.same (.nil)) (hn := ?_)
      refine LWo.move (.tup [(e_impl_Value x21.1), (e_int x21.2)]) rfl (hn := ?_)
      refine LWo.extract (e_impl_Value x21.1) rfl rfl (hn := ?_)
      refine LWo.extract (e_int x21.2) rfl rfl (hn := ?_)
      refine LWo.alloc_impl_Value 6 rfl (hn := ?_)
      refine lk h fun y22 e22 h => ?_
      refine LWo.storeW (y := (⟨(0 : Int), (0 : Int), (⟨#[]⟩ : ByteArray)⟩ : S_impl_Value)) y22 s_impl_Value rfl rfl rfl rfl rfl rfl (by rw [e22]; exact .refl) rfl (hn := ?_)
      refine LWo.assign (e_int x21.2) rfl (hn := ?_)
      refine LWo.nil (hN19 _ ?_)
      refine LWP.seq_k fun N23 hN23 => ?_
      refine LWP.seq_k fun N24 hN24 => ?_
      refine LWP.region (l := [_,_]) ?_
      refine LWo.move (e_int x21.2) rfl (hn := ?_)
      refine LWo.int _ rfl rfl rfl (hn := ?_)
      refine LWo.nil (hN24 _ ?_)
      refine LWP.cond_split rfl (fun h25 => ?_) (fun h25 => ?_)
      ·have h := bT h25 h
       refine LWP.seq_k fun N26 hN26 => ?_
       refine LWP.region (l := [_,_]) ?_
       refine LWo.assign _ rfl (hn := ?_)
       refine LWo.weakT 2 (e_Limpl_Value ([] : (List S_impl_Value))) rfl .nil ?_
       refine LWo.assign (e_int (0 : Int)) rfl (hn := ?_)
       refine LWo.nil (hN26 _ ?_)
       obtain rfl := Option.some.inj h
       refine LWP.ret (QG.mk (.inr rfl) (.cons (.tmp (x := (e_Limpl_Value ([] : (List S_impl_Value)))) rfl) (.cons (.tmp (x := (e_int (0 : Int))) rfl) (.nil))) (RetOK.many0 (.cons (.pure rfl) (.cons (.pure rfl) (.nil))) (by simp) (by decide)) rfl rfl)
      ·have h := bF h25 h
       refine LWP.skip (hN23 _ ?_)
       refine LWP.region (l := [_,_,_,_,_,_,_,_,_]) ?_
       refine LWo.move (.own 1005 0 (o1005).length) rfl (hn := ?_)
       refine LWo.loadVN ((e_impl_Value y22)).cells  g_impl_Value s_impl_Value rfl rfl rfl rfl (hn := ?_)
       refine LWo.lit (ops := [_]) [(e_impl_Value y22)] u_Limpl_Value s_impl_Value z_impl_Value rfl rfl rfl rfl rfl rfl (hn := ?_)
       refine bk h fun x27 e27 h => ?_
       refine LWo.appendM (f := e_impl_Value) e27 rfl u_Limpl_Value u_Limpl_Value (fun _ h => by cases h) s_impl_Value i_impl_Value rfl rfl rfl (.sl rfl) rfl rfl (hn := ?_)
       refine LWo.move (e_int t4) rfl (hn := ?_)
       refine LWo.move (e_int x21.2) rfl (hn := ?_)
       refine bk h fun x28 e28 h => ?_
       refine LWo.int _ rfl rfl (add_ck e28) (hn := ?_)
       refine LWo.assign (.own 1005 0 (x27).length) rfl (hn := ?_)
       refine LWo.assign (e_int x28) rfl (hn := ?_)
       refine LWo.nil (hN18 _ ?_)
       refine LWP.region (l := [_,_]) ?_
       refine bk h fun x29 e29 h => ?_
       refine LWo.int _ rfl rfl (add_ck e29) (hn := ?_)
       refine LWo.move (e_int x29) rfl (hn := ?_)
       refine LWo.nil (hN13 (t0, x28, t20, x29, x27) _ ⟨rfl, rfl, rfl, rfl, rfl, trivial⟩ ⟨rfl, trivial⟩ h)
     ·have h := bF h17 h
      refine LWP.exit (hN10 (t4, o1005) _ ⟨rfl, rfl, trivial⟩ ⟨rfl, trivial⟩ h)
  ·intro N3 hN3
   refine LWP.region (l := [_,_,_,_,_,_,_,_,_]) ?_
   refine LWo.move (e_Luint8 a0) rfl (hn := ?_)
   refine LWo.lenM (f := e_uint8) (l := a0) u_Luint8 rfl (hn := ?_)
   refine LWo.int _ rfl rfl rfl (hn := ?_)
   refine LWo.move (e_bool ((a0.length : Int) == (0 : Int))) rfl (hn := ?_)
   refine LWo.byCases (t := 11) _ rfl (fun h4 => ?_) (fun h4 => ?_)
   ·have h := bT h4 h
    refine LWo.guardNU (t := 11) rfl h4 rfl rfl rfl rfl rfl ?_
    refine LWo.guardNU (t := 11) rfl h4 rfl rfl rfl rfl rfl ?_
    refine LWo.guardNU (t := 11) rfl h4 rfl rfl rfl rfl rfl ?_
    refine LWo.guardNU (t := 11) rfl h4 rfl rfl rfl rfl rfl ?_
    refine LWo.pickTM (e_bool true) rfl h4 rfl (hn := ?_)
    refine LWo.nil (hN3 (a0, true) _ ⟨rfl, rfl, trivial⟩ trivial h)
   ·have h := bF h4 h
    refine LWo.guardY (t := 11) rfl h4 rfl rfl ?_
    refine LWo.move (e_Luint8 a0) rfl (hn := ?_)
    refine bk h fun x5 e5 h => ?_
    refine LWo.guardY (t := 11) rfl h4 rfl rfl ?_
    refine LWo.indexM (f := e_uint8) e5 u_Luint8 s_uint8 rfl rfl (hn := ?_)
    refine LWo.guardY (t := 11) rfl h4 rfl rfl ?_
    refine LWo.load1 (c := (e_uint8 x5)) g_uint8 rfl (hn := ?_)
    refine LWo.guardY (t := 11) rfl h4 rfl rfl ?_
    refine LWo.int _ rfl rfl rfl (hn := ?_)
    refine LWo.pickFM (e_bool (decide ((x5.toNat : Int) > ((4 : UInt8).toNat : Int)))) rfl h4 rfl (hn := ?_)
    refine LWo.nil (hN3 (a0, decide ((x5.toNat : Int) > ((4 : UInt8).toNat : Int))) _ ⟨rfl, rfl, trivial⟩ trivial h)

def m_impl_keyOk (a0 : Int) : Option Bool :=
  (m_impl_between a0 (0 : Int) (4 : Int)).bind fun x3 =>
  some x3
theorem c_impl_keyOk (a0 : Int) (r : Bool) (h : m_impl_keyOk a0 = some r) : Ret Try.prog f_impl_keyOk [e_int a0] (e_bool r) := by
  refine Does.goG [] F_impl_keyOk rfl e_impl_keyOk n_impl_keyOk rfl (rvs := [.tmp 2]) rfl rfl ?_
  intro w0 ok0 lent ρ0
  refine LWP.seq_k fun N1 hN1 => ?_
  refine LWP.region (l := [_]) ?_
  refine LWo.assign (e_bool false) rfl (hn := ?_)
  refine LWo.nil (hN1 _ ?_)
  refine LWP.seq_k fun N2 hN2 => ?_
  refine LWP.region (l := [_,_,_]) ?_
  refine LWo.move (e_int a0) rfl (hn := ?_)
  refine bk h fun x3 e3 h => ?_
  refine LWo.vcall rfl rfl (c_impl_between _ _ _ _ e3) (.same (.same (.same (.nil)))) (hn := ?_)
  refine LWo.assign (e_bool x3) rfl (hn := ?_)
  refine LWo.nil (hN2 _ ?_)
  obtain rfl := Option.some.inj h
  refine LWP.ret (QG.mk (.inr rfl) (.cons (.tmp (x := (e_bool x3)) rfl) (.nil)) (RetOK.one0 (.pure rfl) (by decide)) rfl rfl)

def m_slices_IndexFunc_Limpl_Value_impl_Value_j1 (p1 : S_impl_Value → Option Bool)  : Option Int :=
  some (-1 : Int)
def m_slices_IndexFunc_Limpl_Value_impl_Value_l1 (p1 : S_impl_Value → Option Bool) : Nat → (List S_impl_Value) → Int → Int → Option Int
  | 0, _, _, _ => none
  | n1 + 1, t0, t7, t8 =>
    bif decide (t8 < t7) then ((at? t0 t8).bind fun x12 =>
    (p1 x12).bind fun x13 =>
    bif x13 then (some t8)
    else ((ckI (t8 + (1 : Int))).bind fun x16 =>
    (m_slices_IndexFunc_Limpl_Value_impl_Value_l1 p1 n1) t0 t7 x16))
    else (m_slices_IndexFunc_Limpl_Value_impl_Value_j1 p1 )
def m_slices_IndexFunc_Limpl_Value_impl_Value (a0 : (List S_impl_Value)) (p1 : S_impl_Value → Option Bool) : Option Int :=
  m_slices_IndexFunc_Limpl_Value_impl_Value_l1 p1 (((a0.length : Int) - (0 : Int)).toNat + 1) a0 (a0.length : Int) (0 : Int)
theorem c_slices_IndexFunc_Limpl_Value_impl_Value (a0 : (List S_impl_Value)) (p1 : S_impl_Value → Option Bool) (f1 : FuncId) (q1 : List LV) (hq1 : ∀ k, LV.at?.atL k q1 = false) (hf1 : ∀ a0 v, p1 a0 = some v → Ret Try.prog f1 (e_impl_Value a0 :: q1) (e_bool v)) (r : Int) (h : m_slices_IndexFunc_Limpl_Value_impl_Value a0 p1 = some r) : Ret Try.prog f_slices_IndexFunc_Limpl_Value_impl_Value [e_Limpl_Value a0, .clo f1 q1] (e_int r) := by
  refine Does.goG [] F_slices_IndexFunc_Limpl_Value_impl_Value rfl e_slices_IndexFunc_Limpl_Value_impl_Value n_slices_IndexFunc_Limpl_Value_impl_Value rfl (rvs := [.tmp 4]) rfl rfl ?_
  intro w0 ok0 lent ρ0
  refine LWP.seq_k fun N1 hN1 => ?_
  refine LWP.region (l := [_]) ?_
  refine LWo.assign (e_int (0 : Int)) rfl (hn := ?_)
  refine LWo.nil (hN1 _ ?_)
  refine LWP.join (α := Unit) (fun z : Unit => []) (fun z : Unit => []) (fun z : Unit => m_slices_IndexFunc_Limpl_Value_impl_Value_j1 p1 ) r (fun _ => by simp [hkeys]) ?_ ?_
  ·rintro _ h
   replace h : m_slices_IndexFunc_Limpl_Value_impl_Value_j1 p1  = some _ := h
   refine LWP.seq_k fun N17 hN17 => ?_
   refine LWP.region (l := [_]) ?_
   refine LWo.assign (e_int (-1 : Int)) rfl (hn := ?_)
   refine LWo.nil (hN17 _ ?_)
   obtain rfl := Option.some.inj h
   refine LWP.ret (QG.mk (.inr rfl) (.cons (.tmp (x := (e_int (-1 : Int))) rfl) (.nil)) (RetOK.one0 (.pure rfl) (by decide)) rfl rfl)
  ·intro N2 hN2
   refine LWP.seq_k fun N3 hN3 => ?_
   refine LWP.region (l := [_,_,_]) ?_
   refine LWo.move (e_Limpl_Value a0) rfl (hn := ?_)
   refine LWo.lenM (f := e_impl_Value) (l := a0) u_Limpl_Value rfl (hn := ?_)
   refine LWo.move (e_int (0 : Int)) rfl (hn := ?_)
   refine LWo.nil (hN3 _ ?_)
   refine LWP.block ?_
   refine LWP.loopM (α := (List S_impl_Value) × Int × Int) (fun z : (List S_impl_Value) × Int × Int => [(0, (e_Limpl_Value z.1)), (1, (.clo f1 q1)), (7, (e_int z.2.1)), (8, (e_int z.2.2))]) (fun z : (List S_impl_Value) × Int × Int => []) (fun n1 (z : (List S_impl_Value) × Int × Int) => m_slices_IndexFunc_Limpl_Value_impl_Value_l1 p1 n1 z.1 z.2.1 z.2.2) r _ (a0, (a0.length : Int), (0 : Int)) h (fun _ => rfl) (fun _ => by simp [hkeys]) ⟨rfl, rfl, rfl, rfl, trivial⟩ trivial ?_
   rintro n1 ⟨t0, t7, t8⟩ h N4 hN4
   replace h : m_slices_IndexFunc_Limpl_Value_impl_Value_l1 p1 (n1 + 1) t0 t7 t8 = some _ := h
   refine LWP.seq_k fun N6 hN6 => ?_
   refine LWP.region (l := [_]) ?_
   refine LWo.int _ rfl rfl rfl (hn := ?_)
   refine LWo.nil (hN6 _ ?_)
   refine LWP.seq_k fun N7 hN7 => ?_
   refine LWP.cond_split rfl (fun h8 => ?_) (fun h8 => ?_)
   ·have h := bT h8 h
    refine LWP.skip (hN7 _ ?_)
    refine LWP.seq_k fun N9 hN9 => ?_
    refine LWP.block ?_
    refine LWP.seq_k fun N10 hN10 => ?_
    refine LWP.region (l := [_,_]) ?_
    refine LWo.move (e_int t8) rfl (hn := ?_)
    refine LWo.assign (e_int t8) rfl (hn := ?_)
    refine LWo.nil (hN10 _ ?_)
    refine LWP.seq_k fun N11 hN11 => ?_
    refine LWP.region (l := [_,_,_,_,_,_]) ?_
    refine LWo.move (.clo f1 q1) rfl (hn := ?_)
    refine LWo.move (e_Limpl_Value t0) rfl (hn := ?_)
    refine LWo.move (e_int t8) rfl (hn := ?_)
    refine bk h fun x12 e12 h => ?_
    refine LWo.indexM (f := e_impl_Value) e12 u_Limpl_Value s_impl_Value rfl rfl (hn := ?_)
    refine LWo.loadN ((e_impl_Value x12)).cells g_impl_Value s_impl_Value rfl (Nat.le_of_ble_eq_true rfl) rfl (hn := ?_)
    refine bk h fun x13 e13 h => ?_
    refine LWo.vcall rfl rfl (hf1 _ _ e13) .refl (hn := ?_)
    refine LWo.nil (hN11 _ ?_)
    refine LWP.cond_split rfl (fun h14 => ?_) (fun h14 => ?_)
    ·have h := bT h14 h
     refine LWP.seq_k fun N15 hN15 => ?_
     refine LWP.region (l := [_,_]) ?_
     refine LWo.move (e_int t8) rfl (hn := ?_)
     refine LWo.assign (e_int t8) rfl (hn := ?_)
     refine LWo.nil (hN15 _ ?_)
     obtain rfl := Option.some.inj h
     refine LWP.ret (QG.mk (.inr rfl) (.cons (.tmp (x := (e_int t8)) rfl) (.nil)) (RetOK.one0 (.pure rfl) (by decide)) rfl rfl)
    ·have h := bF h14 h
     refine LWP.skip (hN9 _ ?_)
     refine LWP.region (l := [_,_]) ?_
     refine bk h fun x16 e16 h => ?_
     refine LWo.int _ rfl rfl (add_ck e16) (hn := ?_)
     refine LWo.move (e_int x16) rfl (hn := ?_)
     refine LWo.nil (hN4 (t0, t7, x16) _ ⟨rfl, rfl, rfl, rfl, trivial⟩ trivial h)
   ·have h := bF h8 h
    refine LWP.exit (hN2 () _ trivial trivial h)

def m_slices_ContainsFunc_Limpl_Value_impl_Value (a0 : (List S_impl_Value)) (p1 : S_impl_Value → Option Bool) : Option Bool :=
  (m_slices_IndexFunc_Limpl_Value_impl_Value a0 p1).bind fun x3 =>
  some (decide (x3 ≥ (0 : Int)))
theorem c_slices_ContainsFunc_Limpl_Value_impl_Value (a0 : (List S_impl_Value)) (p1 : S_impl_Value → Option Bool) (f1 : FuncId) (q1 : List LV) (hq1 : ∀ k, LV.at?.atL k q1 = false) (hf1 : ∀ a0 v, p1 a0 = some v → Ret Try.prog f1 (e_impl_Value a0 :: q1) (e_bool v)) (r : Bool) (h : m_slices_ContainsFunc_Limpl_Value_impl_Value a0 p1 = some r) : Ret Try.prog f_slices_ContainsFunc_Limpl_Value_impl_Value [e_Limpl_Value a0, .clo f1 q1] (e_bool r) := by
  refine Does.goG [] F_slices_ContainsFunc_Limpl_Value_impl_Value rfl e_slices_ContainsFunc_Limpl_Value_impl_Value n_slices_ContainsFunc_Limpl_Value_impl_Value rfl (rvs := [.tmp 4]) rfl rfl ?_
  intro w0 ok0 lent ρ0
  refine LWP.seq_k fun N1 hN1 => ?_
  refine LWP.region (l := [_]) ?_
  refine LWo.assign (e_bool false) rfl (hn := ?_)
  refine LWo.nil (hN1 _ ?_)
  refine LWP.seq_k fun N2 hN2 => ?_
  refine LWP.region (l := [_,_,_,_,_]) ?_
  refine LWo.move (e_Limpl_Value a0) rfl (hn := ?_)
  refine LWo.move (.clo f1 q1) rfl (hn := ?_)
  refine bk h fun x3 e3 h => ?_
  refine LWo.vcall rfl rfl (c_slices_IndexFunc_Limpl_Value_impl_Value _ _ f1 q1 hq1 hf1 _ e3) (.same (.same (.nil))) (hn := ?_)
  refine LWo.int _ rfl rfl rfl (hn := ?_)
  refine LWo.assign (e_bool (decide (x3 ≥ (0 : Int)))) rfl (hn := ?_)
  refine LWo.nil (hN2 _ ?_)
  obtain rfl := Option.some.inj h
  refine LWP.ret (QG.mk (.inr rfl) (.cons (.tmp (x := (e_bool (decide (x3 ≥ (0 : Int))))) rfl) (.nil)) (RetOK.one0 (.pure rfl) (by decide)) rfl rfl)

def m_impl_RowOk_1 (a0 : S_impl_Value) : Option Bool :=
  (m_impl_Value_ok a0).bind fun x3 =>
  some (!x3)
theorem c_impl_RowOk_1 (a0 : S_impl_Value) (r : Bool) (h : m_impl_RowOk_1 a0 = some r) : Ret Try.prog f_impl_RowOk_1 [e_impl_Value a0] (e_bool r) := by
  refine Does.goG [] F_impl_RowOk_1 rfl e_impl_RowOk_1 n_impl_RowOk_1 rfl (rvs := [.tmp 2]) rfl rfl ?_
  intro w0 ok0 lent ρ0
  refine LWP.seq_k fun N1 hN1 => ?_
  refine LWP.region (l := [_,_]) ?_
  refine LWo.boxF (e_impl_Value a0) rfl rfl rfl (hn := ?_)
  refine LWo.assign (e_bool false) rfl (hn := ?_)
  refine LWo.nil (hN1 _ ?_)
  refine LWP.seq_k fun N2 hN2 => ?_
  refine LWP.region (l := [_,_,_,_]) ?_
  refine LWo.loadN ((e_impl_Value a0)).cells g_impl_Value s_impl_Value rfl (Nat.le_of_ble_eq_true rfl) rfl (hn := ?_)
  refine bk h fun x3 e3 h => ?_
  refine LWo.vcall rfl rfl (c_impl_Value_ok _ _ e3) (.same (.nil)) (hn := ?_)
  refine LWo.not rfl (hn := ?_)
  refine LWo.assign (e_bool (!x3)) rfl (hn := ?_)
  refine LWo.nil (hN2 _ ?_)
  obtain rfl := Option.some.inj h
  refine LWP.ret (QG.mk (.inr rfl) (.cons (.tmp (x := (e_bool (!x3))) rfl) (.nil)) (RetOK.one0 (.pure rfl) (by decide)) rfl rfl)

def m_impl_RowOk_j1 (t2 : Bool) : Option Bool :=
  some t2
def m_impl_RowOk (a0 : (List S_impl_Value)) : Option Bool :=
  bif decide ((a0.length : Int) ≤ (4 : Int)) then ((m_slices_ContainsFunc_Limpl_Value_impl_Value a0 (fun b0_ => m_impl_RowOk_1 b0_ )).bind fun x4 =>
    m_impl_RowOk_j1  (!x4))
  else (m_impl_RowOk_j1  false)
theorem c_impl_RowOk (a0 : (List S_impl_Value)) (r : Bool) (h : m_impl_RowOk a0 = some r) : Ret Try.prog f_impl_RowOk [e_Limpl_Value a0] (e_bool r) := by
  refine Does.goG [] F_impl_RowOk rfl e_impl_RowOk n_impl_RowOk rfl (rvs := [.tmp 2]) rfl rfl ?_
  intro w0 ok0 lent ρ0
  refine LWP.seq_k fun N1 hN1 => ?_
  refine LWP.region (l := [_]) ?_
  refine LWo.assign (e_bool false) rfl (hn := ?_)
  refine LWo.nil (hN1 _ ?_)
  refine LWP.join (α := Bool) (fun z : Bool => [(2, (e_bool z))]) (fun z : Bool => []) (fun z : Bool => m_impl_RowOk_j1  z) r (fun _ => by simp [hkeys]) ?_ ?_
  ·rintro t2 h
   replace h : m_impl_RowOk_j1  t2 = some _ := h
   obtain rfl := Option.some.inj h
   refine LWP.ret (QG.mk (.inr rfl) (.cons (.tmp (x := (e_bool t2)) rfl) (.nil)) (RetOK.one0 (.pure rfl) (by decide)) rfl rfl)
  ·intro N2 hN2
   refine LWP.region (l := [_,_,_,_,_,_,_,_,_]) ?_
   refine LWo.move (e_Limpl_Value a0) rfl (hn := ?_)
   refine LWo.lenM (f := e_impl_Value) (l := a0) u_Limpl_Value rfl (hn := ?_)
   refine LWo.int _ rfl rfl rfl (hn := ?_)
   refine LWo.move (e_bool (decide ((a0.length : Int) ≤ (4 : Int)))) rfl (hn := ?_)
   refine LWo.byCases (t := 6) _ rfl (fun h3 => ?_) (fun h3 => ?_)
   ·have h := bT h3 h
    refine LWo.guardY (t := 6) rfl h3 rfl rfl ?_
    refine LWo.move (e_Limpl_Value a0) rfl (hn := ?_)
    refine bk h fun x4 e4 h => ?_
    refine LWo.guardY (t := 6) rfl h3 rfl rfl ?_
    refine LWo.vcall rfl rfl (c_slices_ContainsFunc_Limpl_Value_impl_Value _ _ f_impl_RowOk_1 [] (fun _ => rfl) (fun b0_ v hv => c_impl_RowOk_1 b0_  v hv) _ e4) (.same (.same (.nil))) (hn := ?_)
    refine LWo.guardY (t := 6) rfl h3 rfl rfl ?_
    refine LWo.not rfl (hn := ?_)
    refine LWo.pickTM (e_bool (!x4)) rfl h3 rfl (hn := ?_)
    refine LWo.assign (e_bool (!x4)) rfl (hn := ?_)
    refine LWo.nil (hN2 (!x4) _ ⟨rfl, trivial⟩ trivial h)
   ·have h := bF h3 h
    refine LWo.guardNU (t := 6) rfl h3 rfl rfl rfl rfl rfl ?_
    refine LWo.guardNU (t := 6) rfl h3 rfl rfl rfl rfl rfl ?_
    refine LWo.guardNU (t := 6) rfl h3 rfl rfl rfl rfl rfl ?_
    refine LWo.pickFM (e_bool false) rfl h3 rfl (hn := ?_)
    refine LWo.assign (e_bool false) rfl (hn := ?_)
    refine LWo.nil (hN2 false _ ⟨rfl, trivial⟩ trivial h)

def m_impl_WritesOk_j2 (t0 : (List S_impl_Write)) : Option Bool :=
  some (decide ((t0.length : Int) ≤ (5 : Int)))
def m_impl_WritesOk_j1 (k1 : (List S_impl_Write) → (List S_impl_Write) → Int → Int → Option Bool) (t0 : (List S_impl_Write)) (t5 : (List S_impl_Write)) (t6 : Int) (t7 : Int) (t46 : Bool) : Option Bool :=
  bif t46 then (some false)
  else ((ckI (t7 + (1 : Int))).bind fun x28 =>
  k1 t0 t5 t6 x28)
def m_impl_WritesOk_l1 : Nat → (List S_impl_Write) → (List S_impl_Write) → Int → Int → Option Bool
  | 0, _, _, _, _ => none
  | n1 + 1, t0, t5, t6, t7 =>
    bif decide (t7 < t6) then ((at? t5 t7).bind fun x11 =>
    lt (x11) fun y12 =>
    (m_impl_keyOk y12.Key).bind fun x14 =>
    bif (!x14) then (m_impl_WritesOk_j1  (m_impl_WritesOk_l1  n1) t0 t5 t6 t7 true)
    else ((m_impl_RowOk y12.Row).bind fun x16 =>
      bif (!x16) then (m_impl_WritesOk_j1  (m_impl_WritesOk_l1  n1) t0 t5 t6 t7 true)
      else (bif y12.Gone then (bif decide ((y12.Row.length : Int) > (0 : Int)) then (m_impl_WritesOk_j1  (m_impl_WritesOk_l1  n1) t0 t5 t6 t7 true)
          else (bif decide (t7 > (0 : Int)) then ((ckI (t7 - (1 : Int))).bind fun x21 =>
              (at? t0 x21).bind fun x22 =>
              m_impl_WritesOk_j1  (m_impl_WritesOk_l1  n1) t0 t5 t6 t7 (decide (x22.Key ≥ y12.Key)))
            else (m_impl_WritesOk_j1  (m_impl_WritesOk_l1  n1) t0 t5 t6 t7 false)))
        else (bif decide (t7 > (0 : Int)) then ((ckI (t7 - (1 : Int))).bind fun x24 =>
            (at? t0 x24).bind fun x25 =>
            m_impl_WritesOk_j1  (m_impl_WritesOk_l1  n1) t0 t5 t6 t7 (decide (x25.Key ≥ y12.Key)))
          else (m_impl_WritesOk_j1  (m_impl_WritesOk_l1  n1) t0 t5 t6 t7 false)))))
    else (m_impl_WritesOk_j2  t0)
def m_impl_WritesOk (a0 : (List S_impl_Write)) : Option Bool :=
  m_impl_WritesOk_l1  (((a0.length : Int) - (0 : Int)).toNat + 1) a0 a0 (a0.length : Int) (0 : Int)
theorem c_impl_WritesOk (a0 : (List S_impl_Write)) (r : Bool) (h : m_impl_WritesOk a0 = some r) : Ret Try.prog f_impl_WritesOk [e_Limpl_Write a0] (e_bool r) := by
  refine Does.goG [] F_impl_WritesOk rfl e_impl_WritesOk n_impl_WritesOk rfl (rvs := [.tmp 2]) rfl rfl ?_
  intro w0 ok0 lent ρ0
  refine LWP.seq_k fun N1 hN1 => ?_
  refine LWP.region (l := [_]) ?_
  refine LWo.assign (e_bool false) rfl (hn := ?_)
  refine LWo.nil (hN1 _ ?_)
  refine LWP.join (α := (List S_impl_Write)) (fun z : (List S_impl_Write) => [(0, (e_Limpl_Write z))]) (fun z : (List S_impl_Write) => []) (fun z : (List S_impl_Write) => m_impl_WritesOk_j2  z) r (fun _ => by simp [hkeys]) ?_ ?_
  ·rintro t0 h
   replace h : m_impl_WritesOk_j2  t0 = some _ := h
   refine LWP.seq_k fun N29 hN29 => ?_
   refine LWP.region (l := [_,_,_,_]) ?_
   refine LWo.move (e_Limpl_Write t0) rfl (hn := ?_)
   refine LWo.lenM (f := e_impl_Write) (l := t0) u_Limpl_Write rfl (hn := ?_)
   refine LWo.int _ rfl rfl rfl (hn := ?_)
   refine LWo.assign (e_bool (decide ((t0.length : Int) ≤ (5 : Int)))) rfl (hn := ?_)
   refine LWo.nil (hN29 _ ?_)
   obtain rfl := Option.some.inj h
   refine LWP.ret (QG.mk (.inr rfl) (.cons (.tmp (x := (e_bool (decide ((t0.length : Int) ≤ (5 : Int))))) rfl) (.nil)) (RetOK.one0 (.pure rfl) (by decide)) rfl rfl)
  ·intro N2 hN2
   refine LWP.seq_k fun N3 hN3 => ?_
   refine LWP.region (l := [_,_,_]) ?_
   refine LWo.move (e_Limpl_Write a0) rfl (hn := ?_)
   refine LWo.lenM (f := e_impl_Write) (l := a0) u_Limpl_Write rfl (hn := ?_)
   refine LWo.move (e_int (0 : Int)) rfl (hn := ?_)
   refine LWo.nil (hN3 _ ?_)
   refine LWP.block ?_
   refine LWP.loopM (α := (List S_impl_Write) × (List S_impl_Write) × Int × Int) (fun z : (List S_impl_Write) × (List S_impl_Write) × Int × Int => [(0, (e_Limpl_Write z.1)), (5, (e_Limpl_Write z.2.1)), (6, (e_int z.2.2.1)), (7, (e_int z.2.2.2))]) (fun z : (List S_impl_Write) × (List S_impl_Write) × Int × Int => []) (fun n1 (z : (List S_impl_Write) × (List S_impl_Write) × Int × Int) => m_impl_WritesOk_l1  n1 z.1 z.2.1 z.2.2.1 z.2.2.2) r _ (a0, a0, (a0.length : Int), (0 : Int)) h (fun _ => rfl) (fun _ => by simp [hkeys]) ⟨rfl, rfl, rfl, rfl, trivial⟩ trivial ?_
   rintro n1 ⟨t0, t5, t6, t7⟩ h N4 hN4
   replace h : m_impl_WritesOk_l1  (n1 + 1) t0 t5 t6 t7 = some _ := h
   refine LWP.seq_k fun N6 hN6 => ?_
   refine LWP.region (l := [_]) ?_
   refine LWo.int _ rfl rfl rfl (hn := ?_)
   refine LWo.nil (hN6 _ ?_)
   refine LWP.seq_k fun N7 hN7 => ?_
   refine LWP.cond_split rfl (fun h8 => ?_) (fun h8 => ?_)
   ·have h := bT h8 h
    refine LWP.skip (hN7 _ ?_)
    refine LWP.seq_k fun N9 hN9 => ?_
    refine LWP.block ?_
    refine LWP.seq_k fun N10 hN10 => ?_
    refine LWP.region (l := [_,_,_,_,_,_]) ?_
    refine LWo.move (e_int t7) rfl (hn := ?_)
    refine bk h fun x11 e11 h => ?_
    refine LWo.indexM (f := e_impl_Write) e11 u_Limpl_Write s_impl_Write rfl rfl (hn := ?_)
    refine LWo.loadN ((e_impl_Write x11)).cells g_impl_Write s_impl_Write rfl (Nat.le_of_ble_eq_true rfl) rfl (hn := ?_)
    refine LWo.alloc_impl_Write 4 rfl (hn := ?_)
    refine LWo.assign (e_int t7) rfl (hn := ?_)
    refine lk h fun y12 e12 h => ?_
    refine LWo.storeW (y := (⟨(0 : Int), [], false⟩ : S_impl_Write)) y12 s_impl_Write rfl rfl rfl rfl rfl rfl (by rw [e12]; exact .refl) rfl (hn := ?_)
    refine LWo.nil (hN10 _ ?_)
    refine LWP.join (α := (List S_impl_Write) × (List S_impl_Write) × Int × Int × Bool) (fun z : (List S_impl_Write) × (List S_impl_Write) × Int × Int × Bool => [(0, (e_Limpl_Write z.1)), (5, (e_Limpl_Write z.2.1)), (6, (e_int z.2.2.1)), (7, (e_int z.2.2.2.1)), (46, (e_bool z.2.2.2.2))]) (fun z : (List S_impl_Write) × (List S_impl_Write) × Int × Int × Bool => []) (fun z : (List S_impl_Write) × (List S_impl_Write) × Int × Int × Bool => m_impl_WritesOk_j1  (m_impl_WritesOk_l1  n1) z.1 z.2.1 z.2.2.1 z.2.2.2.1 z.2.2.2.2) r (fun _ => by simp [hkeys]) ?_ ?_
    ·rintro ⟨t0, t5, t6, t7, t46⟩ h
     replace h : m_impl_WritesOk_j1  (m_impl_WritesOk_l1  n1) t0 t5 t6 t7 t46 = some _ := h
     refine LWP.cond_split rfl (fun h26 => ?_) (fun h26 => ?_)
     ·have h := bT h26 h
      refine LWP.seq_k fun N27 hN27 => ?_
      refine LWP.region (l := [_]) ?_
      refine LWo.assign (e_bool false) rfl (hn := ?_)
      refine LWo.nil (hN27 _ ?_)
      obtain rfl := Option.some.inj h
      refine LWP.ret (QG.mk (.inr rfl) (.cons (.tmp (x := (e_bool false)) rfl) (.nil)) (RetOK.one0 (.pure rfl) (by decide)) rfl rfl)
     ·have h := bF h26 h
      refine LWP.skip (hN9 _ ?_)
      refine LWP.region (l := [_,_]) ?_
      refine bk h fun x28 e28 h => ?_
      refine LWo.int _ rfl rfl (add_ck e28) (hn := ?_)
      refine LWo.move (e_int x28) rfl (hn := ?_)
      refine LWo.nil (hN4 (t0, t5, t6, x28) _ ⟨rfl, rfl, rfl, rfl, trivial⟩ trivial h)
    ·intro N13 hN13
     refine bk h fun x14 e14 h => ?_
     refine bS ((!x14)) (fun h15 => ?_) (fun h15 => ?_)
     ·have h := bT h15 h
      refine LWP.drawF (l := [_,_,_,_,_,_,_,_,_,_,_,_,_,_,_,_,_,_,_,_,_,_,_,_,_,_,_,_,_,_,_,_,_,_,_]) [] [0, 3, 4, 5, 6, 7] [([4], []), ([12], [4]), ([13], []), ([14], []), ([15], []), ([4, 16], []), ([16, 17], []), ([16, 18], []), ([16, 19], []), ([16, 20], []), ([21], []), ([4, 22], []), ([22, 23], []), ([22, 24], []), ([4, 25], []), ([25, 26], []), ([25, 27], []), ([25, 28], []), ([22, 25, 29], []), ([22, 30], []), ([31], []), ([3, 32], []), ([32, 33], []), ([32, 34], []), ([0, 35], []), ([3, 35], []), ([35, 37], []), ([35, 36, 38], []), ([35, 39], []), ([35, 40], []), ([4, 35], []), ([35, 42], []), ([35, 41, 43], []), ([32, 35, 44], []), ([32, 45], [])] [0, 5, 6, 7, 46] [] mixed (by kernel_rfl) rfl (by decide) ?_
      refine dq 12 rfl (fun _ g u h => LWo.fieldPtr u_impl_Write rfl s_int u.1 rfl (hn := .nil (zn g))) ?_
      refine dq 13 rfl (fun _ g u h => LWo.loadV1 (e_int y12.Key)  g_int u.1 h.1 rfl (hn := .nil (zn g))) ?_
      refine dq 14 rfl (fun _ g u h => LWo.vcall rfl (av1 u.1) (c_impl_keyOk _ _ e14) (.same (.nil)) (hn := .nil (zn g))) ?_
      refine dq 15 rfl (fun _ g u h => LWo.not u.1 (hn := .nil (zn g))) ?_
      refine dq 16 rfl (fun _ g u h => LWo.move (e_bool (!x14)) u.1 (hn := .nil (zn g))) ?_
      refine dq 17 rfl (fun _ g u h => LWo.guardNU (t := 16) u.2.1 h15 rfl rfl rfl rfl rfl (.nil (zn g))) ?_
      refine dq 18 rfl (fun _ g u h => LWo.guardNU (t := 16) u.1 h15 rfl rfl rfl rfl rfl (.nil (zn g))) ?_
      refine dq 19 rfl (fun _ g u h => LWo.guardNU (t := 16) u.1 h15 rfl rfl rfl rfl rfl (.nil (zn g))) ?_
      refine dq 20 rfl (fun _ g u h => LWo.guardNU (t := 16) u.1 h15 rfl rfl rfl rfl rfl (.nil (zn g))) ?_
      refine dq 21 rfl (fun _ g u h => LWo.pickTM (e_bool true) u.1 h15 rfl (hn := .nil (zn g))) ?_
      refine dq 22 rfl (fun _ g u h => LWo.move (e_bool true) u.1 (hn := .nil (zn g))) ?_
      refine dq 23 rfl (fun _ g u h => LWo.guardNU (t := 22) u.2.1 rfl rfl rfl rfl rfl rfl (.nil (zn g))) ?_
      refine dq 24 rfl (fun _ g u h => LWo.guardNU (t := 22) u.1 rfl rfl rfl rfl rfl rfl (.nil (zn g))) ?_
      refine dq 25 rfl (fun _ g u h => LWo.guardNU (t := 22) u.1 rfl rfl rfl rfl rfl rfl (.nil (zn g))) ?_
      refine dq 26 rfl (fun _ g u h => LWo.guardU (t := 25) u.2.1 rfl rfl rfl rfl (.nil (zn g))) ?_
      refine dq 27 rfl (fun _ g u h => LWo.guardU (t := 25) u.1 rfl rfl rfl rfl (.nil (zn g))) ?_
      refine dq 28 rfl (fun _ g u h => LWo.guardU (t := 25) u.1 rfl rfl rfl rfl (.nil (zn g))) ?_
      refine dq 29 rfl (fun _ g u h => LWo.guardU (t := 25) u.1 rfl rfl rfl rfl (.nil (zn g))) ?_
      refine dq 30 rfl (fun _ g u h => LWo.guardNU (t := 22) u.1 rfl rfl rfl rfl rfl rfl (.nil (zn g))) ?_
      refine dq 31 rfl (fun _ g u h => LWo.pickTM (e_bool true) u.1 rfl rfl (hn := .nil (zn g))) ?_
      refine dq 32 rfl (fun _ g u h => LWo.move (e_bool true) u.1 (hn := .nil (zn g))) ?_
      refine dq 33 rfl (fun _ g u h => LWo.guardNU (t := 32) u.2.1 rfl rfl rfl rfl rfl rfl (.nil (zn g))) ?_
      refine dq 34 rfl (fun _ g u h => LWo.guardNU (t := 32) u.1 rfl rfl rfl rfl rfl rfl (.nil (zn g))) ?_
      refine dq 35 rfl (fun _ g u h => LWo.guardNU (t := 32) u.1 rfl rfl rfl rfl rfl rfl (.nil (zn g))) ?_
      refine dq 36 rfl (fun _ g u h => LWo.guardU (t := 35) u.2.1 rfl rfl rfl rfl (.nil (zn g))) ?_
      refine dq 37 rfl (fun _ g u h => LWo.guardU (t := 35) u.2.1 rfl rfl rfl rfl (.nil (zn g))) ?_
      refine dq 38 rfl (fun _ g u h => LWo.guardU (t := 35) u.1 rfl rfl rfl rfl (.nil (zn g))) ?_
      refine dq 39 rfl (fun _ g u h => LWo.guardU (t := 35) u.1 rfl rfl rfl rfl (.nil (zn g))) ?_
      refine dq 40 rfl (fun _ g u h => LWo.guardU (t := 35) u.1 rfl rfl rfl rfl (.nil (zn g))) ?_
      refine dq 41 rfl (fun _ g u h => LWo.guardU (t := 35) u.1 rfl rfl rfl rfl (.nil (zn g))) ?_
      refine dq 42 rfl (fun _ g u h => LWo.guardU (t := 35) u.2.1 rfl rfl rfl rfl (.nil (zn g))) ?_
      refine dq 43 rfl (fun _ g u h => LWo.guardU (t := 35) u.1 rfl rfl rfl rfl (.nil (zn g))) ?_
      refine dq 44 rfl (fun _ g u h => LWo.guardU (t := 35) u.1 rfl rfl rfl rfl (.nil (zn g))) ?_
      refine dq 45 rfl (fun _ g u h => LWo.guardNU (t := 32) u.1 rfl rfl rfl rfl rfl rfl (.nil (zn g))) ?_
      refine dq 46 rfl (fun _ g u h => LWo.pickTM (e_bool true) u.1 rfl rfl (hn := .nil (zn g))) ?_
      refine ⟨rfl, by kernel_rfl, hN13 (t0, t5, t6, t7, true) _ ⟨rfl, rfl, rfl, rfl, rfl, trivial⟩ trivial h⟩
     ·have h := bF h15 h
      refine bk h fun x16 e16 h => ?_
      refine bS ((!x16)) (fun h17 => ?_) (fun h17 => ?_)
      ·have h := bT h17 h
       refine LWP.drawF (l := [_,_,_,_,_,_,_,_,_,_,_,_,_,_,_,_,_,_,_,_,_,_,_,_,_,_,_,_,_,_,_,_,_,_,_]) [] [0, 3, 4, 5, 6, 7] [([4], []), ([12], [4]), ([13], []), ([14], []), ([15], []), ([4, 16], []), ([16, 17], [4]), ([16, 18], []), ([16, 19], []), ([16, 20], []), ([21], []), ([4, 22], []), ([22, 23], []), ([22, 24], []), ([4, 25], []), ([25, 26], []), ([25, 27], []), ([25, 28], []), ([22, 25, 29], []), ([22, 30], []), ([31], []), ([3, 32], []), ([32, 33], []), ([32, 34], []), ([0, 35], []), ([3, 35], []), ([35, 37], []), ([35, 36, 38], []), ([35, 39], []), ([35, 40], []), ([4, 35], []), ([35, 42], []), ([35, 41, 43], []), ([32, 35, 44], []), ([32, 45], [])] [0, 5, 6, 7, 46] [] mixed (by kernel_rfl) rfl (by decide) ?_
       refine dq 12 rfl (fun _ g u h => LWo.fieldPtr u_impl_Write rfl s_int u.1 rfl (hn := .nil (zn g))) ?_
       refine dq 13 rfl (fun _ g u h => LWo.loadV1 (e_int y12.Key)  g_int u.1 h.1 rfl (hn := .nil (zn g))) ?_
       refine dq 14 rfl (fun _ g u h => LWo.vcall rfl (av1 u.1) (c_impl_keyOk _ _ e14) (.same (.nil)) (hn := .nil (zn g))) ?_
       refine dq 15 rfl (fun _ g u h => LWo.not u.1 (hn := .nil (zn g))) ?_
       refine dq 16 rfl (fun _ g u h => LWo.move (e_bool (!x14)) u.1 (hn := .nil (zn g))) ?_
       refine dq 17 rfl (fun _ g u h => LWo.guardY (t := 16) u.2.1 h15 rfl rfl (LWo.fieldPtr u_impl_Write rfl s_Limpl_Value u.1 rfl (hn := .nil (zn g)))) ?_
       refine dq 18 rfl (fun _ g u h => LWo.guardY (t := 16) u.1 h15 rfl rfl (LWo.loadV1 (e_Limpl_Value y12.Row)  g_Limpl_Value u.2.1 h.1 rfl (hn := .nil (zn g)))) ?_
       refine dq 19 rfl (fun _ g u h => LWo.guardY (t := 16) u.1 h15 rfl rfl (LWo.vcall rfl (av1 u.2.1) (c_impl_RowOk _ _ e16) (.same (.nil)) (hn := .nil (zn g)))) ?_
       refine dq 20 rfl (fun _ g u h => LWo.guardY (t := 16) u.1 h15 rfl rfl (LWo.not u.2.1 (hn := .nil (zn g)))) ?_
       refine dq 21 rfl (fun _ g u h => LWo.pickFM (e_bool (!x16)) u.1 h15 u.2.1 (hn := .nil (zn g))) ?_
       refine dq 22 rfl (fun _ g u h => LWo.move (e_bool (!x16)) u.1 (hn := .nil (zn g))) ?_
       refine dq 23 rfl (fun _ g u h => LWo.guardNU (t := 22) u.2.1 h17 rfl rfl rfl rfl rfl (.nil (zn g))) ?_
       refine dq 24 rfl (fun _ g u h => LWo.guardNU (t := 22) u.1 h17 rfl rfl rfl rfl rfl (.nil (zn g))) ?_
       refine dq 25 rfl (fun _ g u h => LWo.guardNU (t := 22) u.1 h17 rfl rfl rfl rfl rfl (.nil (zn g))) ?_
       refine dq 26 rfl (fun _ g u h => LWo.guardU (t := 25) u.2.1 rfl rfl rfl rfl (.nil (zn g))) ?_
       refine dq 27 rfl (fun _ g u h => LWo.guardU (t := 25) u.1 rfl rfl rfl rfl (.nil (zn g))) ?_
       refine dq 28 rfl (fun _ g u h => LWo.guardU (t := 25) u.1 rfl rfl rfl rfl (.nil (zn g))) ?_
       refine dq 29 rfl (fun _ g u h => LWo.guardU (t := 25) u.1 rfl rfl rfl rfl (.nil (zn g))) ?_
       refine dq 30 rfl (fun _ g u h => LWo.guardNU (t := 22) u.1 h17 rfl rfl rfl rfl rfl (.nil (zn g))) ?_
       refine dq 31 rfl (fun _ g u h => LWo.pickTM (e_bool true) u.1 h17 rfl (hn := .nil (zn g))) ?_
       refine dq 32 rfl (fun _ g u h => LWo.move (e_bool true) u.1 (hn := .nil (zn g))) ?_
       refine dq 33 rfl (fun _ g u h => LWo.guardNU (t := 32) u.2.1 rfl rfl rfl rfl rfl rfl (.nil (zn g))) ?_
       refine dq 34 rfl (fun _ g u h => LWo.guardNU (t := 32) u.1 rfl rfl rfl rfl rfl rfl (.nil (zn g))) ?_
       refine dq 35 rfl (fun _ g u h => LWo.guardNU (t := 32) u.1 rfl rfl rfl rfl rfl rfl (.nil (zn g))) ?_
       refine dq 36 rfl (fun _ g u h => LWo.guardU (t := 35) u.2.1 rfl rfl rfl rfl (.nil (zn g))) ?_
       refine dq 37 rfl (fun _ g u h => LWo.guardU (t := 35) u.2.1 rfl rfl rfl rfl (.nil (zn g))) ?_
       refine dq 38 rfl (fun _ g u h => LWo.guardU (t := 35) u.1 rfl rfl rfl rfl (.nil (zn g))) ?_
       refine dq 39 rfl (fun _ g u h => LWo.guardU (t := 35) u.1 rfl rfl rfl rfl (.nil (zn g))) ?_
       refine dq 40 rfl (fun _ g u h => LWo.guardU (t := 35) u.1 rfl rfl rfl rfl (.nil (zn g))) ?_
       refine dq 41 rfl (fun _ g u h => LWo.guardU (t := 35) u.1 rfl rfl rfl rfl (.nil (zn g))) ?_
       refine dq 42 rfl (fun _ g u h => LWo.guardU (t := 35) u.2.1 rfl rfl rfl rfl (.nil (zn g))) ?_
       refine dq 43 rfl (fun _ g u h => LWo.guardU (t := 35) u.1 rfl rfl rfl rfl (.nil (zn g))) ?_
       refine dq 44 rfl (fun _ g u h => LWo.guardU (t := 35) u.1 rfl rfl rfl rfl (.nil (zn g))) ?_
       refine dq 45 rfl (fun _ g u h => LWo.guardNU (t := 32) u.1 rfl rfl rfl rfl rfl rfl (.nil (zn g))) ?_
       refine dq 46 rfl (fun _ g u h => LWo.pickTM (e_bool true) u.1 rfl rfl (hn := .nil (zn g))) ?_
       refine ⟨rfl, by kernel_rfl, hN13 (t0, t5, t6, t7, true) _ ⟨rfl, rfl, rfl, rfl, rfl, trivial⟩ trivial h⟩
      ·have h := bF h17 h
       refine bS (y12.Gone) (fun h18 => ?_) (fun h18 => ?_)
       ·have h := bT h18 h
        refine bS (decide ((y12.Row.length : Int) > (0 : Int))) (fun h19 => ?_) (fun h19 => ?_)
        ·have h := bT h19 h
         refine LWP.drawF (l := [_,_,_,_,_,_,_,_,_,_,_,_,_,_,_,_,_,_,_,_,_,_,_,_,_,_,_,_,_,_,_,_,_,_,_]) [] [0, 3, 4, 5, 6, 7] [([4], []), ([12], [4]), ([13], []), ([14], []), ([15], []), ([4, 16], []), ([16, 17], [4]), ([16, 18], []), ([16, 19], []), ([16, 20], []), ([21], []), ([4, 22], []), ([22, 23], [4]), ([22, 24], []), ([4, 25], []), ([25, 26], [4]), ([25, 27], []), ([25, 28], []), ([22, 25, 29], []), ([22, 30], []), ([31], []), ([3, 32], []), ([32, 33], []), ([32, 34], []), ([0, 35], []), ([3, 35], []), ([35, 37], []), ([35, 36, 38], []), ([35, 39], []), ([35, 40], []), ([4, 35], []), ([35, 42], []), ([35, 41, 43], []), ([32, 35, 44], []), ([32, 45], [])] [0, 5, 6, 7, 46] [] mixed (by kernel_rfl) rfl (by decide) ?_
         refine dq 12 rfl (fun _ g u h => LWo.fieldPtr u_impl_Write rfl s_int u.1 rfl (hn := .nil (zn g))) ?_
         refine dq 13 rfl (fun _ g u h => LWo.loadV1 (e_int y12.Key)  g_int u.1 h.1 rfl (hn := .nil (zn g))) ?_
         refine dq 14 rfl (fun _ g u h => LWo.vcall rfl (av1 u.1) (c_impl_keyOk _ _ e14) (.same (.nil)) (hn := .nil (zn g))) ?_
         refine dq 15 rfl (fun _ g u h => LWo.not u.1 (hn := .nil (zn g))) ?_
         refine dq 16 rfl (fun _ g u h => LWo.move (e_bool (!x14)) u.1 (hn := .nil (zn g))) ?_
         refine dq 17 rfl (fun _ g u h => LWo.guardY (t := 16) u.2.1 h15 rfl rfl (LWo.fieldPtr u_impl_Write rfl s_Limpl_Value u.1 rfl (hn := .nil (zn g)))) ?_
         refine dq 18 rfl (fun _ g u h => LWo.guardY (t := 16) u.1 h15 rfl rfl (LWo.loadV1 (e_Limpl_Value y12.Row)  g_Limpl_Value u.2.1 h.1 rfl (hn := .nil (zn g)))) ?_
         refine dq 19 rfl (fun _ g u h => LWo.guardY (t := 16) u.1 h15 rfl rfl (LWo.vcall rfl (av1 u.2.1) (c_impl_RowOk _ _ e16) (.same (.nil)) (hn := .nil (zn g)))) ?_
         refine dq 20 rfl (fun _ g u h => LWo.guardY (t := 16) u.1 h15 rfl rfl (LWo.not u.2.1 (hn := .nil (zn g)))) ?_
         refine dq 21 rfl (fun _ g u h => LWo.pickFM (e_bool (!x16)) u.1 h15 u.2.1 (hn := .nil (zn g))) ?_
         refine dq 22 rfl (fun _ g u h => LWo.move (e_bool (!x16)) u.1 (hn := .nil (zn g))) ?_
         refine dq 23 rfl (fun _ g u h => LWo.guardY (t := 22) u.2.1 h17 rfl rfl (LWo.fieldPtr u_impl_Write rfl s_bool u.1 rfl (hn := .nil (zn g)))) ?_
         refine dq 24 rfl (fun _ g u h => LWo.guardY (t := 22) u.1 h17 rfl rfl (LWo.loadV1 (e_bool y12.Gone)  g_bool u.2.1 h.1 rfl (hn := .nil (zn g)))) ?_
         refine dq 25 rfl (fun _ g u h => LWo.guardY (t := 22) u.1 h17 rfl rfl (LWo.move (e_bool y12.Gone) u.2.1 (hn := .nil (zn g)))) ?_
         refine dq 26 rfl (fun _ g u h => LWo.guardY (t := 25) u.2.1 h18 rfl rfl (LWo.fieldPtr u_impl_Write rfl s_Limpl_Value u.1 rfl (hn := .nil (zn g)))) ?_
         refine dq 27 rfl (fun _ g u h => LWo.guardY (t := 25) u.1 h18 rfl rfl (LWo.loadV1 (e_Limpl_Value y12.Row)  g_Limpl_Value u.2.1 h.1 rfl (hn := .nil (zn g)))) ?_
         refine dq 28 rfl (fun _ g u h => LWo.guardY (t := 25) u.1 h18 rfl rfl (LWo.lenM (f := e_impl_Value) (l := y12.Row) u_Limpl_Value u.2.1 (hn := .nil (zn g)))) ?_
         refine dq 29 rfl (fun _ g u h => LWo.guardY (t := 25) u.1 h18 rfl rfl (LWo.int _ u.2.1 rfl rfl (hn := .nil (zn g)))) ?_
         refine dq 30 rfl (fun _ g u h => LWo.guardY (t := 22) u.1 h17 rfl rfl (LWo.pickTM (e_bool (decide ((y12.Row.length : Int) > (0 : Int)))) u.2.1 h18 u.2.2.1 (hn := .nil (zn g)))) ?_
         refine dq 31 rfl (fun _ g u h => LWo.pickFM (e_bool (decide ((y12.Row.length : Int) > (0 : Int)))) u.1 h17 u.2.1 (hn := .nil (zn g))) ?_
         refine dq 32 rfl (fun _ g u h => LWo.move (e_bool (decide ((y12.Row.length : Int) > (0 : Int)))) u.1 (hn := .nil (zn g))) ?_
         refine dq 33 rfl (fun _ g u h => LWo.guardNU (t := 32) u.2.1 h19 rfl rfl rfl rfl rfl (.nil (zn g))) ?_
         refine dq 34 rfl (fun _ g u h => LWo.guardNU (t := 32) u.1 h19 rfl rfl rfl rfl rfl (.nil (zn g))) ?_
         refine dq 35 rfl (fun _ g u h => LWo.guardNU (t := 32) u.1 h19 rfl rfl rfl rfl rfl (.nil (zn g))) ?_
         refine dq 36 rfl (fun _ g u h => LWo.guardU (t := 35) u.2.1 rfl rfl rfl rfl (.nil (zn g))) ?_
         refine dq 37 rfl (fun _ g u h => LWo.guardU (t := 35) u.2.1 rfl rfl rfl rfl (.nil (zn g))) ?_
         refine dq 38 rfl (fun _ g u h => LWo.guardU (t := 35) u.1 rfl rfl rfl rfl (.nil (zn g))) ?_
         refine dq 39 rfl (fun _ g u h => LWo.guardU (t := 35) u.1 rfl rfl rfl rfl (.nil (zn g))) ?_
         refine dq 40 rfl (fun _ g u h => LWo.guardU (t := 35) u.1 rfl rfl rfl rfl (.nil (zn g))) ?_
         refine dq 41 rfl (fun _ g u h => LWo.guardU (t := 35) u.1 rfl rfl rfl rfl (.nil (zn g))) ?_
         refine dq 42 rfl (fun _ g u h => LWo.guardU (t := 35) u.2.1 rfl rfl rfl rfl (.nil (zn g))) ?_
         refine dq 43 rfl (fun _ g u h => LWo.guardU (t := 35) u.1 rfl rfl rfl rfl (.nil (zn g))) ?_
         refine dq 44 rfl (fun _ g u h => LWo.guardU (t := 35) u.1 rfl rfl rfl rfl (.nil (zn g))) ?_
         refine dq 45 rfl (fun _ g u h => LWo.guardNU (t := 32) u.1 h19 rfl rfl rfl rfl rfl (.nil (zn g))) ?_
         refine dq 46 rfl (fun _ g u h => LWo.pickTM (e_bool true) u.1 h19 rfl (hn := .nil (zn g))) ?_
         refine ⟨rfl, by kernel_rfl, hN13 (t0, t5, t6, t7, true) _ ⟨rfl, rfl, rfl, rfl, rfl, trivial⟩ trivial h⟩
        ·have h := bF h19 h
         refine bS (decide (t7 > (0 : Int))) (fun h20 => ?_) (fun h20 => ?_)
         ·have h := bT h20 h
          refine bk h fun x21 e21 h => ?_
          refine bk h fun x22 e22 h => ?_
          refine LWP.drawF (l := [_,_,_,_,_,_,_,_,_,_,_,_,_,_,_,_,_,_,_,_,_,_,_,_,_,_,_,_,_,_,_,_,_,_,_]) [] [0, 3, 4, 5, 6, 7] [([4], []), ([12], [4]), ([13], []), ([14], []), ([15], []), ([4, 16], []), ([16, 17], [4]), ([16, 18], []), ([16, 19], []), ([16, 20], []), ([21], []), ([4, 22], []), ([22, 23], [4]), ([22, 24], []), ([4, 25], []), ([25, 26], [4]), ([25, 27], []), ([25, 28], []), ([22, 25, 29], []), ([22, 30], []), ([31], []), ([3, 32], []), ([32, 33], []), ([32, 34], []), ([0, 35], []), ([3, 35], []), ([35, 37], []), ([35, 36, 38], []), ([35, 39], []), ([35, 40], []), ([4, 35], []), ([35, 42], [4]), ([35, 41, 43], []), ([32, 35, 44], []), ([32, 45], [])] [0, 5, 6, 7, 46] [] mixed (by kernel_rfl) rfl (by decide) ?_
          refine dq 12 rfl (fun _ g u h => LWo.fieldPtr u_impl_Write rfl s_int u.1 rfl (hn := .nil (zn g))) ?_
          refine dq 13 rfl (fun _ g u h => LWo.loadV1 (e_int y12.Key)  g_int u.1 h.1 rfl (hn := .nil (zn g))) ?_
          refine dq 14 rfl (fun _ g u h => LWo.vcall rfl (av1 u.1) (c_impl_keyOk _ _ e14) (.same (.nil)) (hn := .nil (zn g))) ?_
          refine dq 15 rfl (fun _ g u h => LWo.not u.1 (hn := .nil (zn g))) ?_
          refine dq 16 rfl (fun _ g u h => LWo.move (e_bool (!x14)) u.1 (hn := .nil (zn g))) ?_
          refine dq 17 rfl (fun _ g u h => LWo.guardY (t := 16) u.2.1 h15 rfl rfl (LWo.fieldPtr u_impl_Write rfl s_Limpl_Value u.1 rfl (hn := .nil (zn g)))) ?_
          refine dq 18 rfl (fun _ g u h => LWo.guardY (t := 16) u.1 h15 rfl rfl (LWo.loadV1 (e_Limpl_Value y12.Row)  g_Limpl_Value u.2.1 h.1 rfl (hn := .nil (zn g)))) ?_
          refine dq 19 rfl (fun _ g u h => LWo.guardY (t := 16) u.1 h15 rfl rfl (LWo.vcall rfl (av1 u.2.1) (c_impl_RowOk _ _ e16) (.same (.nil)) (hn := .nil (zn g)))) ?_
          refine dq 20 rfl (fun _ g u h => LWo.guardY (t := 16) u.1 h15 rfl rfl (LWo.not u.2.1 (hn := .nil (zn g)))) ?_
          refine dq 21 rfl (fun _ g u h => LWo.pickFM (e_bool (!x16)) u.1 h15 u.2.1 (hn := .nil (zn g))) ?_
          refine dq 22 rfl (fun _ g u h => LWo.move (e_bool (!x16)) u.1 (hn := .nil (zn g))) ?_
          refine dq 23 rfl (fun _ g u h => LWo.guardY (t := 22) u.2.1 h17 rfl rfl (LWo.fieldPtr u_impl_Write rfl s_bool u.1 rfl (hn := .nil (zn g)))) ?_
          refine dq 24 rfl (fun _ g u h => LWo.guardY (t := 22) u.1 h17 rfl rfl (LWo.loadV1 (e_bool y12.Gone)  g_bool u.2.1 h.1 rfl (hn := .nil (zn g)))) ?_
          refine dq 25 rfl (fun _ g u h => LWo.guardY (t := 22) u.1 h17 rfl rfl (LWo.move (e_bool y12.Gone) u.2.1 (hn := .nil (zn g)))) ?_
          refine dq 26 rfl (fun _ g u h => LWo.guardY (t := 25) u.2.1 h18 rfl rfl (LWo.fieldPtr u_impl_Write rfl s_Limpl_Value u.1 rfl (hn := .nil (zn g)))) ?_
          refine dq 27 rfl (fun _ g u h => LWo.guardY (t := 25) u.1 h18 rfl rfl (LWo.loadV1 (e_Limpl_Value y12.Row)  g_Limpl_Value u.2.1 h.1 rfl (hn := .nil (zn g)))) ?_
          refine dq 28 rfl (fun _ g u h => LWo.guardY (t := 25) u.1 h18 rfl rfl (LWo.lenM (f := e_impl_Value) (l := y12.Row) u_Limpl_Value u.2.1 (hn := .nil (zn g)))) ?_
          refine dq 29 rfl (fun _ g u h => LWo.guardY (t := 25) u.1 h18 rfl rfl (LWo.int _ u.2.1 rfl rfl (hn := .nil (zn g)))) ?_
          refine dq 30 rfl (fun _ g u h => LWo.guardY (t := 22) u.1 h17 rfl rfl (LWo.pickTM (e_bool (decide ((y12.Row.length : Int) > (0 : Int)))) u.2.1 h18 u.2.2.1 (hn := .nil (zn g)))) ?_
          refine dq 31 rfl (fun _ g u h => LWo.pickFM (e_bool (decide ((y12.Row.length : Int) > (0 : Int)))) u.1 h17 u.2.1 (hn := .nil (zn g))) ?_
          refine dq 32 rfl (fun _ g u h => LWo.move (e_bool (decide ((y12.Row.length : Int) > (0 : Int)))) u.1 (hn := .nil (zn g))) ?_
          refine dq 33 rfl (fun _ g u h => LWo.guardY (t := 32) u.2.1 h19 rfl rfl (LWo.move (e_int t7) u.1 (hn := .nil (zn g)))) ?_
          refine dq 34 rfl (fun _ g u h => LWo.guardY (t := 32) u.1 h19 rfl rfl (LWo.int _ u.2.1 rfl rfl (hn := .nil (zn g)))) ?_
          refine dq 35 rfl (fun _ g u h => LWo.guardY (t := 32) u.1 h19 rfl rfl (LWo.move (e_bool (decide (t7 > (0 : Int)))) u.2.1 (hn := .nil (zn g)))) ?_
          refine dq 36 rfl (fun _ g u h => LWo.guardY (t := 35) u.2.1 h20 rfl rfl (LWo.move (e_Limpl_Write t0) u.1 (hn := .nil (zn g)))) ?_
          refine dq 37 rfl (fun _ g u h => LWo.guardY (t := 35) u.2.1 h20 rfl rfl (LWo.move (e_int t7) u.1 (hn := .nil (zn g)))) ?_
          refine dq 38 rfl (fun _ g u h => LWo.guardY (t := 35) u.1 h20 rfl rfl (LWo.int _ u.2.1 rfl (sub_ck e21) (hn := .nil (zn g)))) ?_
          refine dq 39 rfl (fun _ g u h => LWo.guardY (t := 35) u.1 h20 rfl rfl (LWo.indexM (f := e_impl_Write) e22 u_Limpl_Write s_impl_Write u.2.1 u.2.2.1 (hn := .nil (zn g)))) ?_
          refine dq 40 rfl (fun _ g u h => LWo.guardY (t := 35) u.1 h20 rfl rfl (LWo.fieldAddr _ u_impl_Write rfl s_int u.2.1 rfl (hn := .nil (zn g)))) ?_
          refine dq 41 rfl (fun _ g u h => LWo.guardY (t := 35) u.1 h20 rfl rfl (LWo.load1 (c := (e_int x22.Key)) g_int u.2.1 (hn := .nil (zn g)))) ?_
          refine dq 42 rfl (fun _ g u h => LWo.guardY (t := 35) u.2.1 h20 rfl rfl (LWo.fieldPtr u_impl_Write rfl s_int u.1 rfl (hn := .nil (zn g)))) ?_
          refine dq 43 rfl (fun _ g u h => LWo.guardY (t := 35) u.1 h20 rfl rfl (LWo.loadV1 (e_int y12.Key)  g_int u.2.1 h.1 rfl (hn := .nil (zn g)))) ?_
          refine dq 44 rfl (fun _ g u h => LWo.guardY (t := 35) u.1 h20 rfl rfl (LWo.int _ u.2.1 u.2.2.1 rfl (hn := .nil (zn g)))) ?_
          refine dq 45 rfl (fun _ g u h => LWo.guardY (t := 32) u.1 h19 rfl rfl (LWo.pickTM (e_bool (decide (x22.Key ≥ y12.Key))) u.2.1 h20 u.2.2.1 (hn := .nil (zn g)))) ?_
          refine dq 46 rfl (fun _ g u h => LWo.pickFM (e_bool (decide (x22.Key ≥ y12.Key))) u.1 h19 u.2.1 (hn := .nil (zn g))) ?_
          refine ⟨rfl, by kernel_rfl, hN13 (t0, t5, t6, t7, decide (x22.Key ≥ y12.Key)) _ ⟨rfl, rfl, rfl, rfl, rfl, trivial⟩ trivial h⟩
         ·have h := bF h20 h
          refine LWP.drawF (l := [_,_,_,_,_,_,_,_,_,_,_,_,_,_,_,_,_,_,_,_,_,_,_,_,_,_,_,_,_,_,_,_,_,_,_]) [] [0, 3, 4, 5, 6, 7] [([4], []), ([12], [4]), ([13], []), ([14], []), ([15], []), ([4, 16], []), ([16, 17], [4]), ([16, 18], []), ([16, 19], []), ([16, 20], []), ([21], []), ([4, 22], []), ([22, 23], [4]), ([22, 24], []), ([4, 25], []), ([25, 26], [4]), ([25, 27], []), ([25, 28], []), ([22, 25, 29], []), ([22, 30], []), ([31], []), ([3, 32], []), ([32, 33], []), ([32, 34], []), ([0, 35], []), ([3, 35], []), ([35, 37], []), ([35, 36, 38], []), ([35, 39], []), ([35, 40], []), ([4, 35], []), ([35, 42], []), ([35, 41, 43], []), ([32, 35, 44], []), ([32, 45], [])] [0, 5, 6, 7, 46] [] mixed (by kernel_rfl) rfl (by decide) ?_
          refine dq 12 rfl (fun _ g u h => LWo.fieldPtr u_impl_Write rfl s_int u.1 rfl (hn := .nil (zn g))) ?_
          refine dq 13 rfl (fun _ g u h => LWo.loadV1 (e_int y12.Key)  g_int u.1 h.1 rfl (hn := .nil (zn g))) ?_
          refine dq 14 rfl (fun _ g u h => LWo.vcall rfl (av1 u.1) (c_impl_keyOk _ _ e14) (.same (.nil)) (hn := .nil (zn g))) ?_
          refine dq 15 rfl (fun _ g u h => LWo.not u.1 (hn := .nil (zn g))) ?_
          refine dq 16 rfl (fun _ g u h => LWo.move (e_bool (!x14)) u.1 (hn := .nil (zn g))) ?_
          refine dq 17 rfl (fun _ g u h => LWo.guardY (t := 16) u.2.1 h15 rfl rfl (LWo.fieldPtr u_impl_Write rfl s_Limpl_Value u.1 rfl (hn := .nil (zn g)))) ?_
          refine dq 18 rfl (fun _ g u h => LWo.guardY (t := 16) u.1 h15 rfl rfl (LWo.loadV1 (e_Limpl_Value y12.Row)  g_Limpl_Value u.2.1 h.1 rfl (hn := .nil (zn g)))) ?_
          refine dq 19 rfl (fun _ g u h => LWo.guardY (t := 16) u.1 h15 rfl rfl (LWo.vcall rfl (av1 u.2.1) (c_impl_RowOk _ _ e16) (.same (.nil)) (hn := .nil (zn g)))) ?_
          refine dq 20 rfl (fun _ g u h => LWo.guardY (t := 16) u.1 h15 rfl rfl (LWo.not u.2.1 (hn := .nil (zn g)))) ?_
          refine dq 21 rfl (fun _ g u h => LWo.pickFM (e_bool (!x16)) u.1 h15 u.2.1 (hn := .nil (zn g))) ?_
          refine dq 22 rfl (fun _ g u h => LWo.move (e_bool (!x16)) u.1 (hn := .nil (zn g))) ?_
          refine dq 23 rfl (fun _ g u h => LWo.guardY (t := 22) u.2.1 h17 rfl rfl (LWo.fieldPtr u_impl_Write rfl s_bool u.1 rfl (hn := .nil (zn g)))) ?_
          refine dq 24 rfl (fun _ g u h => LWo.guardY (t := 22) u.1 h17 rfl rfl (LWo.loadV1 (e_bool y12.Gone)  g_bool u.2.1 h.1 rfl (hn := .nil (zn g)))) ?_
          refine dq 25 rfl (fun _ g u h => LWo.guardY (t := 22) u.1 h17 rfl rfl (LWo.move (e_bool y12.Gone) u.2.1 (hn := .nil (zn g)))) ?_
          refine dq 26 rfl (fun _ g u h => LWo.guardY (t := 25) u.2.1 h18 rfl rfl (LWo.fieldPtr u_impl_Write rfl s_Limpl_Value u.1 rfl (hn := .nil (zn g)))) ?_
          refine dq 27 rfl (fun _ g u h => LWo.guardY (t := 25) u.1 h18 rfl rfl (LWo.loadV1 (e_Limpl_Value y12.Row)  g_Limpl_Value u.2.1 h.1 rfl (hn := .nil (zn g)))) ?_
          refine dq 28 rfl (fun _ g u h => LWo.guardY (t := 25) u.1 h18 rfl rfl (LWo.lenM (f := e_impl_Value) (l := y12.Row) u_Limpl_Value u.2.1 (hn := .nil (zn g)))) ?_
          refine dq 29 rfl (fun _ g u h => LWo.guardY (t := 25) u.1 h18 rfl rfl (LWo.int _ u.2.1 rfl rfl (hn := .nil (zn g)))) ?_
          refine dq 30 rfl (fun _ g u h => LWo.guardY (t := 22) u.1 h17 rfl rfl (LWo.pickTM (e_bool (decide ((y12.Row.length : Int) > (0 : Int)))) u.2.1 h18 u.2.2.1 (hn := .nil (zn g)))) ?_
          refine dq 31 rfl (fun _ g u h => LWo.pickFM (e_bool (decide ((y12.Row.length : Int) > (0 : Int)))) u.1 h17 u.2.1 (hn := .nil (zn g))) ?_
          refine dq 32 rfl (fun _ g u h => LWo.move (e_bool (decide ((y12.Row.length : Int) > (0 : Int)))) u.1 (hn := .nil (zn g))) ?_
          refine dq 33 rfl (fun _ g u h => LWo.guardY (t := 32) u.2.1 h19 rfl rfl (LWo.move (e_int t7) u.1 (hn := .nil (zn g)))) ?_
          refine dq 34 rfl (fun _ g u h => LWo.guardY (t := 32) u.1 h19 rfl rfl (LWo.int _ u.2.1 rfl rfl (hn := .nil (zn g)))) ?_
          refine dq 35 rfl (fun _ g u h => LWo.guardY (t := 32) u.1 h19 rfl rfl (LWo.move (e_bool (decide (t7 > (0 : Int)))) u.2.1 (hn := .nil (zn g)))) ?_
          refine dq 36 rfl (fun _ g u h => LWo.guardNU (t := 35) u.2.1 h20 rfl rfl rfl rfl rfl (.nil (zn g))) ?_
          refine dq 37 rfl (fun _ g u h => LWo.guardNU (t := 35) u.2.1 h20 rfl rfl rfl rfl rfl (.nil (zn g))) ?_
          refine dq 38 rfl (fun _ g u h => LWo.guardNU (t := 35) u.1 h20 rfl rfl rfl rfl rfl (.nil (zn g))) ?_
          refine dq 39 rfl (fun _ g u h => LWo.guardNU (t := 35) u.1 h20 rfl rfl rfl rfl rfl (.nil (zn g))) ?_
          refine dq 40 rfl (fun _ g u h => LWo.guardNU (t := 35) u.1 h20 rfl rfl rfl rfl rfl (.nil (zn g))) ?_
          refine dq 41 rfl (fun _ g u h => LWo.guardNU (t := 35) u.1 h20 rfl rfl rfl rfl rfl (.nil (zn g))) ?_
          refine dq 42 rfl (fun _ g u h => LWo.guardNU (t := 35) u.2.1 h20 rfl rfl rfl rfl rfl (.nil (zn g))) ?_
          refine dq 43 rfl (fun _ g u h => LWo.guardNU (t := 35) u.1 h20 rfl rfl rfl rfl rfl (.nil (zn g))) ?_
          refine dq 44 rfl (fun _ g u h => LWo.guardNU (t := 35) u.1 h20 rfl rfl rfl rfl rfl (.nil (zn g))) ?_
          refine dq 45 rfl (fun _ g u h => LWo.guardY (t := 32) u.1 h19 rfl rfl (LWo.pickFM (e_bool false) u.2.1 h20 rfl (hn := .nil (zn g)))) ?_
          refine dq 46 rfl (fun _ g u h => LWo.pickFM (e_bool false) u.1 h19 u.2.1 (hn := .nil (zn g))) ?_
          refine ⟨rfl, by kernel_rfl, hN13 (t0, t5, t6, t7, false) _ ⟨rfl, rfl, rfl, rfl, rfl, trivial⟩ trivial h⟩
       ·have h := bF h18 h
        refine bS (decide (t7 > (0 : Int))) (fun h23 => ?_) (fun h23 => ?_)
        ·have h := bT h23 h
         refine bk h fun x24 e24 h => ?_
         refine bk h fun x25 e25 h => ?_
         refine LWP.drawF (l := [_,_,_,_,_,_,_,_,_,_,_,_,_,_,_,_,_,_,_,_,_,_,_,_,_,_,_,_,_,_,_,_,_,_,_]) [] [0, 3, 4, 5, 6, 7] [([4], []), ([12], [4]), ([13], []), ([14], []), ([15], []), ([4, 16], []), ([16, 17], [4]), ([16, 18], []), ([16, 19], []), ([16, 20], []), ([21], []), ([4, 22], []), ([22, 23], [4]), ([22, 24], []), ([4, 25], []), ([25, 26], []), ([25, 27], []), ([25, 28], []), ([22, 25, 29], []), ([22, 30], []), ([31], []), ([3, 32], []), ([32, 33], []), ([32, 34], []), ([0, 35], []), ([3, 35], []), ([35, 37], []), ([35, 36, 38], []), ([35, 39], []), ([35, 40], []), ([4, 35], []), ([35, 42], [4]), ([35, 41, 43], []), ([32, 35, 44], []), ([32, 45], [])] [0, 5, 6, 7, 46] [] mixed (by kernel_rfl) rfl (by decide) ?_
         refine dq 12 rfl (fun _ g u h => LWo.fieldPtr u_impl_Write rfl s_int u.1 rfl (hn := .nil (zn g))) ?_
         refine dq 13 rfl (fun _ g u h => LWo.loadV1 (e_int y12.Key)  g_int u.1 h.1 rfl (hn := .nil (zn g))) ?_
         refine dq 14 rfl (fun _ g u h => LWo.vcall rfl (av1 u.1) (c_impl_keyOk _ _ e14) (.same (.nil)) (hn := .nil (zn g))) ?_
         refine dq 15 rfl (fun _ g u h => LWo.not u.1 (hn := .nil (zn g))) ?_
         refine dq 16 rfl (fun _ g u h => LWo.move (e_bool (!x14)) u.1 (hn := .nil (zn g))) ?_
         refine dq 17 rfl (fun _ g u h => LWo.guardY (t := 16) u.2.1 h15 rfl rfl (LWo.fieldPtr u_impl_Write rfl s_Limpl_Value u.1 rfl (hn := .nil (zn g)))) ?_
         refine dq 18 rfl (fun _ g u h => LWo.guardY (t := 16) u.1 h15 rfl rfl (LWo.loadV1 (e_Limpl_Value y12.Row)  g_Limpl_Value u.2.1 h.1 rfl (hn := .nil (zn g)))) ?_
         refine dq 19 rfl (fun _ g u h => LWo.guardY (t := 16) u.1 h15 rfl rfl (LWo.vcall rfl (av1 u.2.1) (c_impl_RowOk _ _ e16) (.same (.nil)) (hn := .nil (zn g)))) ?_
         refine dq 20 rfl (fun _ g u h => LWo.guardY (t := 16) u.1 h15 rfl rfl (LWo.not u.2.1 (hn := .nil (zn g)))) ?_
         refine dq 21 rfl (fun _ g u h => LWo.pickFM (e_bool (!x16)) u.1 h15 u.2.1 (hn := .nil (zn g))) ?_
         refine dq 22 rfl (fun _ g u h => LWo.move (e_bool (!x16)) u.1 (hn := .nil (zn g))) ?_
         refine dq 23 rfl (fun _ g u h => LWo.guardY (t := 22) u.2.1 h17 rfl rfl (LWo.fieldPtr u_impl_Write rfl s_bool u.1 rfl (hn := .nil (zn g)))) ?_
         refine dq 24 rfl (fun _ g u h => LWo.guardY (t := 22) u.1 h17 rfl rfl (LWo.loadV1 (e_bool y12.Gone)  g_bool u.2.1 h.1 rfl (hn := .nil (zn g)))) ?_
         refine dq 25 rfl (fun _ g u h => LWo.guardY (t := 22) u.1 h17 rfl rfl (LWo.move (e_bool y12.Gone) u.2.1 (hn := .nil (zn g)))) ?_
         refine dq 26 rfl (fun _ g u h => LWo.guardNU (t := 25) u.2.1 h18 rfl rfl rfl rfl rfl (.nil (zn g))) ?_
         refine dq 27 rfl (fun _ g u h => LWo.guardNU (t := 25) u.1 h18 rfl rfl rfl rfl rfl (.nil (zn g))) ?_
         refine dq 28 rfl (fun _ g u h => LWo.guardNU (t := 25) u.1 h18 rfl rfl rfl rfl rfl (.nil (zn g))) ?_
         refine dq 29 rfl (fun _ g u h => LWo.guardNU (t := 25) u.1 h18 rfl rfl rfl rfl rfl (.nil (zn g))) ?_
         refine dq 30 rfl (fun _ g u h => LWo.guardY (t := 22) u.1 h17 rfl rfl (LWo.pickFM (e_bool false) u.2.1 h18 rfl (hn := .nil (zn g)))) ?_
         refine dq 31 rfl (fun _ g u h => LWo.pickFM (e_bool false) u.1 h17 u.2.1 (hn := .nil (zn g))) ?_
         refine dq 32 rfl (fun _ g u h => LWo.move (e_bool false) u.1 (hn := .nil (zn g))) ?_
         refine dq 33 rfl (fun _ g u h => LWo.guardY (t := 32) u.2.1 rfl rfl rfl (LWo.move (e_int t7) u.1 (hn := .nil (zn g)))) ?_
         refine dq 34 rfl (fun _ g u h => LWo.guardY (t := 32) u.1 rfl rfl rfl (LWo.int _ u.2.1 rfl rfl (hn := .nil (zn g)))) ?_
         refine dq 35 rfl (fun _ g u h => LWo.guardY (t := 32) u.1 rfl rfl rfl (LWo.move (e_bool (decide (t7 > (0 : Int)))) u.2.1 (hn := .nil (zn g)))) ?_
         refine dq 36 rfl (fun _ g u h => LWo.guardY (t := 35) u.2.1 h23 rfl rfl (LWo.move (e_Limpl_Write t0) u.1 (hn := .nil (zn g)))) ?_
         refine dq 37 rfl (fun _ g u h => LWo.guardY (t := 35) u.2.1 h23 rfl rfl (LWo.move (e_int t7) u.1 (hn := .nil (zn g)))) ?_
         refine dq 38 rfl (fun _ g u h => LWo.guardY (t := 35) u.1 h23 rfl rfl (LWo.int _ u.2.1 rfl (sub_ck e24) (hn := .nil (zn g)))) ?_
         refine dq 39 rfl (fun _ g u h => LWo.guardY (t := 35) u.1 h23 rfl rfl (LWo.indexM (f := e_impl_Write) e25 u_Limpl_Write s_impl_Write u.2.1 u.2.2.1 (hn := .nil (zn g)))) ?_
         refine dq 40 rfl (fun _ g u h => LWo.guardY (t := 35) u.1 h23 rfl rfl (LWo.fieldAddr _ u_impl_Write rfl s_int u.2.1 rfl (hn := .nil (zn g)))) ?_
         refine dq 41 rfl (fun _ g u h => LWo.guardY (t := 35) u.1 h23 rfl rfl (LWo.load1 (c := (e_int x25.Key)) g_int u.2.1 (hn := .nil (zn g)))) ?_
         refine dq 42 rfl (fun _ g u h => LWo.guardY (t := 35) u.2.1 h23 rfl rfl (LWo.fieldPtr u_impl_Write rfl s_int u.1 rfl (hn := .nil (zn g)))) ?_
         refine dq 43 rfl (fun _ g u h => LWo.guardY (t := 35) u.1 h23 rfl rfl (LWo.loadV1 (e_int y12.Key)  g_int u.2.1 h.1 rfl (hn := .nil (zn g)))) ?_
         refine dq 44 rfl (fun _ g u h => LWo.guardY (t := 35) u.1 h23 rfl rfl (LWo.int _ u.2.1 u.2.2.1 rfl (hn := .nil (zn g)))) ?_
         refine dq 45 rfl (fun _ g u h => LWo.guardY (t := 32) u.1 rfl rfl rfl (LWo.pickTM (e_bool (decide (x25.Key ≥ y12.Key))) u.2.1 h23 u.2.2.1 (hn := .nil (zn g)))) ?_
         refine dq 46 rfl (fun _ g u h => LWo.pickFM (e_bool (decide (x25.Key ≥ y12.Key))) u.1 rfl u.2.1 (hn := .nil (zn g))) ?_
         refine ⟨rfl, by kernel_rfl, hN13 (t0, t5, t6, t7, decide (x25.Key ≥ y12.Key)) _ ⟨rfl, rfl, rfl, rfl, rfl, trivial⟩ trivial h⟩
        ·have h := bF h23 h
         refine LWP.drawF (l := [_,_,_,_,_,_,_,_,_,_,_,_,_,_,_,_,_,_,_,_,_,_,_,_,_,_,_,_,_,_,_,_,_,_,_]) [] [0, 3, 4, 5, 6, 7] [([4], []), ([12], [4]), ([13], []), ([14], []), ([15], []), ([4, 16], []), ([16, 17], [4]), ([16, 18], []), ([16, 19], []), ([16, 20], []), ([21], []), ([4, 22], []), ([22, 23], [4]), ([22, 24], []), ([4, 25], []), ([25, 26], []), ([25, 27], []), ([25, 28], []), ([22, 25, 29], []), ([22, 30], []), ([31], []), ([3, 32], []), ([32, 33], []), ([32, 34], []), ([0, 35], []), ([3, 35], []), ([35, 37], []), ([35, 36, 38], []), ([35, 39], []), ([35, 40], []), ([4, 35], []), ([35, 42], []), ([35, 41, 43], []), ([32, 35, 44], []), ([32, 45], [])] [0, 5, 6, 7, 46] [] mixed (by kernel_rfl) rfl (by decide) ?_
         refine dq 12 rfl (fun _ g u h => LWo.fieldPtr u_impl_Write rfl s_int u.1 rfl (hn := .nil (zn g))) ?_
         refine dq 13 rfl (fun _ g u h => LWo.loadV1 (e_int y12.Key)  g_int u.1 h.1 rfl (hn := .nil (zn g))) ?_
         refine dq 14 rfl (fun _ g u h => LWo.vcall rfl (av1 u.1) (c_impl_keyOk _ _ e14) (.same (.nil)) (hn := .nil (zn g))) ?_
         refine dq 15 rfl (fun _ g u h => LWo.not u.1 (hn := .nil (zn g))) ?_
         refine dq 16 rfl (fun _ g u h => LWo.move (e_bool (!x14)) u.1 (hn := .nil (zn g))) ?_
         refine dq 17 rfl (fun _ g u h => LWo.guardY (t := 16) u.2.1 h15 rfl rfl (LWo.fieldPtr u_impl_Write rfl s_Limpl_Value u.1 rfl (hn := .nil (zn g)))) ?_
         refine dq 18 rfl (fun _ g u h => LWo.guardY (t := 16) u.1 h15 rfl rfl (LWo.loadV1 (e_Limpl_Value y12.Row)  g_Limpl_Value u.2.1 h.1 rfl (hn := .nil (zn g)))) ?_
         refine dq 19 rfl (fun _ g u h => LWo.guardY (t := 16) u.1 h15 rfl rfl (LWo.vcall rfl (av1 u.2.1) (c_impl_RowOk _ _ e16) (.same (.nil)) (hn := .nil (zn g)))) ?_
         refine dq 20 rfl (fun _ g u h => LWo.guardY (t := 16) u.1 h15 rfl rfl (LWo.not u.2.1 (hn := .nil (zn g)))) ?_
         refine dq 21 rfl (fun _ g u h => LWo.pickFM (e_bool (!x16)) u.1 h15 u.2.1 (hn := .nil (zn g))) ?_
         refine dq 22 rfl (fun _ g u h => LWo.move (e_bool (!x16)) u.1 (hn := .nil (zn g))) ?_
         refine dq 23 rfl (fun _ g u h => LWo.guardY (t := 22) u.2.1 h17 rfl rfl (LWo.fieldPtr u_impl_Write rfl s_bool u.1 rfl (hn := .nil (zn g)))) ?_
         refine dq 24 rfl (fun _ g u h => LWo.guardY (t := 22) u.1 h17 rfl rfl (LWo.loadV1 (e_bool y12.Gone)  g_bool u.2.1 h.1 rfl (hn := .nil (zn g)))) ?_
         refine dq 25 rfl (fun _ g u h => LWo.guardY (t := 22) u.1 h17 rfl rfl (LWo.move (e_bool y12.Gone) u.2.1 (hn := .nil (zn g)))) ?_
         refine dq 26 rfl (fun _ g u h => LWo.guardNU (t := 25) u.2.1 h18 rfl rfl rfl rfl rfl (.nil (zn g))) ?_
         refine dq 27 rfl (fun _ g u h => LWo.guardNU (t := 25) u.1 h18 rfl rfl rfl rfl rfl (.nil (zn g))) ?_
         refine dq 28 rfl (fun _ g u h => LWo.guardNU (t := 25) u.1 h18 rfl rfl rfl rfl rfl (.nil (zn g))) ?_
         refine dq 29 rfl (fun _ g u h => LWo.guardNU (t := 25) u.1 h18 rfl rfl rfl rfl rfl (.nil (zn g))) ?_
         refine dq 30 rfl (fun _ g u h => LWo.guardY (t := 22) u.1 h17 rfl rfl (LWo.pickFM (e_bool false) u.2.1 h18 rfl (hn := .nil (zn g)))) ?_
         refine dq 31 rfl (fun _ g u h => LWo.pickFM (e_bool false) u.1 h17 u.2.1 (hn := .nil (zn g))) ?_
         refine dq 32 rfl (fun _ g u h => LWo.move (e_bool false) u.1 (hn := .nil (zn g))) ?_
         refine dq 33 rfl (fun _ g u h => LWo.guardY (t := 32) u.2.1 rfl rfl rfl (LWo.move (e_int t7) u.1 (hn := .nil (zn g)))) ?_
         refine dq 34 rfl (fun _ g u h => LWo.guardY (t := 32) u.1 rfl rfl rfl (LWo.int _ u.2.1 rfl rfl (hn := .nil (zn g)))) ?_
         refine dq 35 rfl (fun _ g u h => LWo.guardY (t := 32) u.1 rfl rfl rfl (LWo.move (e_bool (decide (t7 > (0 : Int)))) u.2.1 (hn := .nil (zn g)))) ?_
         refine dq 36 rfl (fun _ g u h => LWo.guardNU (t := 35) u.2.1 h23 rfl rfl rfl rfl rfl (.nil (zn g))) ?_
         refine dq 37 rfl (fun _ g u h => LWo.guardNU (t := 35) u.2.1 h23 rfl rfl rfl rfl rfl (.nil (zn g))) ?_
         refine dq 38 rfl (fun _ g u h => LWo.guardNU (t := 35) u.1 h23 rfl rfl rfl rfl rfl (.nil (zn g))) ?_
         refine dq 39 rfl (fun _ g u h => LWo.guardNU (t := 35) u.1 h23 rfl rfl rfl rfl rfl (.nil (zn g))) ?_
         refine dq 40 rfl (fun _ g u h => LWo.guardNU (t := 35) u.1 h23 rfl rfl rfl rfl rfl (.nil (zn g))) ?_
         refine dq 41 rfl (fun _ g u h => LWo.guardNU (t := 35) u.1 h23 rfl rfl rfl rfl rfl (.nil (zn g))) ?_
         refine dq 42 rfl (fun _ g u h => LWo.guardNU (t := 35) u.2.1 h23 rfl rfl rfl rfl rfl (.nil (zn g))) ?_
         refine dq 43 rfl (fun _ g u h => LWo.guardNU (t := 35) u.1 h23 rfl rfl rfl rfl rfl (.nil (zn g))) ?_
         refine dq 44 rfl (fun _ g u h => LWo.guardNU (t := 35) u.1 h23 rfl rfl rfl rfl rfl (.nil (zn g))) ?_
         refine dq 45 rfl (fun _ g u h => LWo.guardY (t := 32) u.1 rfl rfl rfl (LWo.pickFM (e_bool false) u.2.1 h23 rfl (hn := .nil (zn g)))) ?_
         refine dq 46 rfl (fun _ g u h => LWo.pickFM (e_bool false) u.1 rfl u.2.1 (hn := .nil (zn g))) ?_
         refine ⟨rfl, by kernel_rfl, hN13 (t0, t5, t6, t7, false) _ ⟨rfl, rfl, rfl, rfl, rfl, trivial⟩ trivial h⟩
   ·have h := bF h8 h
    refine LWP.exit (hN2 t0 _ ⟨rfl, trivial⟩ trivial h)
end Go.Proofs.Ytijihchddhikhaa
