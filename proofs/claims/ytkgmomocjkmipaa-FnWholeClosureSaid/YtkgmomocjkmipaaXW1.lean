/- Mirrors of functions, and that the functions return what the mirrors say. -/
import Derived.Test.YtkgmomocjkmipaaXTy
import Derived.Test.YtkgmomocjkmipaaLe
set_option linter.unusedVariables false
set_option linter.unusedSimpArgs false
set_option linter.unnecessarySimpa false
namespace Go.Proofs.Ytkgmomocjkmipaa
open Go.Proofs Go.Lift Go.RowKit
def m_spec_l20Open_j1 (t0 : (List UInt8)) : Option S_spec_l20Rd :=
  some (⟨t0, (0 : Int)⟩ : S_spec_l20Rd)
def m_spec_l20Open (a0 : (List UInt8)) : Option S_spec_l20Rd :=
  bif decide ((a0.length : Int) > (2000 : Int)) then ((cut? a0 (0 : Int) (2000 : Int)).bind fun x5 =>
    m_spec_l20Open_j1  x5)
  else (m_spec_l20Open_j1  a0)
theorem c_spec_l20Open (a0 : (List UInt8)) (r : S_spec_l20Rd) (h : m_spec_l20Open a0 = some r) : Ret Try.prog f_spec_l20Open [e_Luint8 a0] (.nb (e_spec_l20Rd r).cells) := by
  refine Does.goG [] F_spec_l20Open rfl e_spec_l20Open n_spec_l20Open rfl (rvs := [.tmp 2]) rfl rfl ?_
  intro w0 ok0 lent ρ0
  refine LWP.seq_k fun N1 hN1 => ?_
  refine LWP.region (l := [_]) ?_
  refine LWo.assign _ rfl (hn := ?_)
  refine LWo.nil (hN1 _ ?_)
  refine LWP.join (α := (List UInt8)) (fun z : (List UInt8) => [(0, (e_Luint8 z))]) (fun z : (List UInt8) => []) (fun z : (List UInt8) => m_spec_l20Open_j1  z) r (fun _ => by simp [hkeys]) ?_ ?_
  ·rintro t0 h
   replace h : m_spec_l20Open_j1  t0 = some _ := h
   refine LWP.seq_k fun N6 hN6 => ?_
   refine LWP.region (l := [_,_,_,_]) ?_
   refine LWo.move (e_Luint8 t0) rfl (hn := ?_)
   refine LWo.build_spec_l20Rd (parts := [_]) (⟨t0, (0 : Int)⟩ : S_spec_l20Rd) rfl rfl rfl .refl (hn := ?_)
   refine LWo.boxM (f := e_spec_l20Rd) (y := (⟨t0, (0 : Int)⟩ : S_spec_l20Rd)) 10 rfl rfl rfl rfl rfl rfl (hn := ?_)
   refine LWo.assign (.ptr 10 0 0) rfl (hn := ?_)
   refine LWo.nil (hN6 _ ?_)
   obtain rfl := Option.some.inj h
   refine LWP.ret (QG.mk (.inr rfl) (.cons (.tmp (x := (.ptr 10 0 0)) rfl) (.nil)) (RetOK.one0 (.box rfl rfl rfl rfl rfl) (by decide)) rfl rfl)
  ·intro N2 hN2
   refine LWP.seq_k fun N3 hN3 => ?_
   refine LWP.region (l := [_,_,_]) ?_
   refine LWo.move (e_Luint8 a0) rfl (hn := ?_)
   refine LWo.lenM (f := e_uint8) (l := a0) u_Luint8 rfl (hn := ?_)
   refine LWo.int _ rfl rfl rfl (hn := ?_)
   refine LWo.nil (hN3 _ ?_)
   refine LWP.cond_split rfl (fun h4 => ?_) (fun h4 => ?_)
   ·have h := bT h4 h
    refine LWP.region (l := [_,_,_]) ?_
    refine LWo.move (e_Luint8 a0) rfl (hn := ?_)
    refine bk h fun x5 e5 h => ?_
    refine LWo.cutM (f := e_uint8) e5 u_Luint8 s_uint8 rfl rfl ⟨_, rfl⟩ (hn := ?_)
    refine LWo.assign (e_Luint8 x5) rfl (hn := ?_)
    refine LWo.nil (hN2 x5 _ ⟨rfl, trivial⟩ trivial h)
   ·have h := bF h4 h
    refine LWP.skip (hN2 a0 _ ⟨rfl, trivial⟩ trivial h)

def m_Pspec_l20Rd_pick_j1 (t1 : Int) (t24 : Bool) (o0 : S_spec_l20Rd) : Option (Int × S_spec_l20Rd) :=
  bif t24 then (some ((0 : Int), o0))
  else ((ckI (o0.p - (1 : Int))).bind fun x11 =>
  bif decide (x11 < (o0.b.length : Int)) then ((at? o0.b x11).bind fun x16 =>
  (remI (x16.toNat : Int) t1).bind fun x17 =>
  some (x17, o0))
  else ((remI x11 (o0.b.length : Int)).bind fun x19 =>
  (at? o0.b x19).bind fun x20 =>
  (ckI ((x20.toNat : Int) * (131 : Int))).bind fun x21 =>
  (ckI (x11 * (7 : Int))).bind fun x22 =>
  (ckI (x22 + (3 : Int))).bind fun x23 =>
  (remI x23 (o0.b.length : Int)).bind fun x24 =>
  (at? o0.b x24).bind fun x25 =>
  (ckI ((x25.toNat : Int) * (1117 : Int))).bind fun x26 =>
  (ckI (x21 + x26)).bind fun x27 =>
  (ckI (x11 * (29 : Int))).bind fun x28 =>
  (ckI (x27 + x28)).bind fun x29 =>
  (quoI x11 (o0.b.length : Int)).bind fun x30 =>
  (ckI (x30 * (53 : Int))).bind fun x31 =>
  (ckI (x29 + x31)).bind fun x32 =>
  (quoI x32 (64 : Int)).bind fun x34 =>
  (xorI x32 x34).bind fun x35 =>
  (remI x35 t1).bind fun x37 =>
  some (x37, o0)))
def m_Pspec_l20Rd_pick (o0 : S_spec_l20Rd) (a1 : Int) : Option (Int × S_spec_l20Rd) :=
  (ckI (o0.p + (1 : Int))).bind fun x3 =>
  lt ({ o0 with p := x3 }) fun y4 =>
  bif decide (a1 < (1 : Int)) then (m_Pspec_l20Rd_pick_j1  a1 true y4)
  else (m_Pspec_l20Rd_pick_j1  a1 ((y4.b.length : Int) == (0 : Int)) y4)
theorem c_Pspec_l20Rd_pick (o0 : S_spec_l20Rd) (a1 : Int) (r : (Int × S_spec_l20Rd)) (h : m_Pspec_l20Rd_pick o0 a1 = some r) : Does Try.prog f_Pspec_l20Rd_pick [.ptr 0 0 0, e_int a1] [(0, (vob 2 e_spec_l20Rd o0))] (fun x hh => x = e_int r.1 ∧ hh = [(0, (vob 2 e_spec_l20Rd r.2))]) := by
  refine Does.goG [0] F_Pspec_l20Rd_pick rfl e_Pspec_l20Rd_pick n_Pspec_l20Rd_pick rfl (rvs := [.tmp 4]) rfl rfl ?_
  intro w0 ok0 lent ρ0
  refine LWP.seq_k fun N1 hN1 => ?_
  refine LWP.region (l := [_]) ?_
  refine LWo.assign (e_int (0 : Int)) rfl (hn := ?_)
  refine LWo.nil (hN1 _ ?_)
  refine LWP.seq_k fun N2 hN2 => ?_
  refine LWP.region (l := [_,_,_,_,_,_,_,_,_]) ?_
  refine LWo.move (.ptr 0 0 0) rfl (hn := ?_)
  refine LWo.move (.ptr 0 0 0) rfl (hn := ?_)
  refine LWo.nilCheckPtr rfl (hn := ?_)
  refine LWo.fieldPtr u_spec_l20Rd rfl s_int rfl rfl (hn := ?_)
  refine LWo.loadV1 (e_int o0.p)  g_int rfl rfl rfl (hn := ?_)
  refine bk h fun x3 e3 h => ?_
  refine LWo.int _ rfl rfl (add_ck e3) (hn := ?_)
  refine LWo.nilCheckPtr rfl (hn := ?_)
  refine LWo.fieldPtr u_spec_l20Rd rfl s_int rfl rfl (hn := ?_)
  refine lk h fun y4 e4 h => ?_
  refine LWo.storeW (y := o0) y4 s_int rfl rfl rfl rfl rfl rfl (by rw [e4]; exact .refl) rfl (hn := ?_)
  refine LWo.nil (hN2 _ ?_)
  refine LWP.seq_k fun N5 hN5 => ?_
  refine LWP.join (α := Int × Bool × S_spec_l20Rd) (fun z : Int × Bool × S_spec_l20Rd => [(0, (.ptr 0 0 0)), (1, (e_int z.1)), (24, (e_bool z.2.1))]) (fun z : Int × Bool × S_spec_l20Rd => [(0, (vob 2 e_spec_l20Rd z.2.2))]) (fun z : Int × Bool × S_spec_l20Rd => m_Pspec_l20Rd_pick_j1  z.1 z.2.1 z.2.2) r (fun _ => by simp [hkeys]) ?_ ?_
  ·rintro ⟨t1, t24, o0⟩ h
   replace h : m_Pspec_l20Rd_pick_j1  t1 t24 o0 = some _ := h
   refine LWP.cond_split rfl (fun h8 => ?_) (fun h8 => ?_)
   ·have h := bT h8 h
    refine LWP.seq_k fun N9 hN9 => ?_
    refine LWP.region (l := [_]) ?_
    refine LWo.assign (e_int (0 : Int)) rfl (hn := ?_)
    refine LWo.nil (hN9 _ ?_)
    obtain rfl := Option.some.inj h
    refine LWP.ret (QG.mk (.inr rfl) (.cons (.tmp (x := (e_int (0 : Int))) rfl) (.nil)) (RetOK.one1 (.pure rfl) (by decide) rfl rfl rfl rfl rfl) rfl rfl)
   ·have h := bF h8 h
    refine LWP.skip (hN5 _ ?_)
    refine LWP.seq_k fun N10 hN10 => ?_
    refine LWP.region (l := [_,_,_,_,_,_]) ?_
    refine LWo.move (.ptr 0 0 0) rfl (hn := ?_)
    refine LWo.nilCheckPtr rfl (hn := ?_)
    refine LWo.fieldPtr u_spec_l20Rd rfl s_int rfl rfl (hn := ?_)
    refine LWo.loadV1 (e_int o0.p)  g_int rfl rfl rfl (hn := ?_)
    refine bk h fun x11 e11 h => ?_
    refine LWo.int _ rfl rfl (sub_ck e11) (hn := ?_)
    refine LWo.assign (e_int x11) rfl (hn := ?_)
    refine LWo.nil (hN10 _ ?_)
    refine LWP.seq_k fun N12 hN12 => ?_
    refine LWP.seq_k fun N13 hN13 => ?_
    refine LWP.region (l := [_,_,_,_,_,_,_]) ?_
    refine LWo.move (e_int x11) rfl (hn := ?_)
    refine LWo.move (.ptr 0 0 0) rfl (hn := ?_)
    refine LWo.nilCheckPtr rfl (hn := ?_)
    refine LWo.fieldPtr u_spec_l20Rd rfl s_Luint8 rfl rfl (hn := ?_)
    refine LWo.loadV1 (e_Luint8 o0.b)  g_Luint8 rfl rfl rfl (hn := ?_)
    refine LWo.lenM (f := e_uint8) (l := o0.b) u_Luint8 rfl (hn := ?_)
    refine LWo.int _ rfl rfl rfl (hn := ?_)
    refine LWo.nil (hN13 _ ?_)
    refine LWP.cond_split rfl (fun h14 => ?_) (fun h14 => ?_)
    ·have h := bT h14 h
     refine LWP.seq_k fun N15 hN15 => ?_
     refine LWP.region (l := [_,_,_,_,_,_,_,_,_,_,_]) ?_
     refine LWo.move (.ptr 0 0 0) rfl (hn := ?_)
     refine LWo.nilCheckPtr rfl (hn := ?_)
     refine LWo.fieldPtr u_spec_l20Rd rfl s_Luint8 rfl rfl (hn := ?_)
     refine LWo.loadV1 (e_Luint8 o0.b)  g_Luint8 rfl rfl rfl (hn := ?_)
     refine LWo.move (e_int x11) rfl (hn := ?_)
     refine bk h fun x16 e16 h => ?_
     refine LWo.indexM (f := e_uint8) e16 u_Luint8 s_uint8 rfl rfl (hn := ?_)
     refine LWo.load1 (c := (e_uint8 x16)) g_uint8 rfl (hn := ?_)
     refine LWo.convByte _ u_uint8 u_int rfl (hn := ?_)
     refine LWo.move (e_int t1) rfl (hn := ?_)
     refine bk h fun x17 e17 h => ?_
     refine LWo.int _ rfl rfl (rem_ck e17) (hn := ?_)
     refine LWo.assign (e_int x17) rfl (hn := ?_)
     refine LWo.nil (hN15 _ ?_)
     obtain rfl := Option.some.inj h
     refine LWP.ret (QG.mk (.inr rfl) (.cons (.tmp (x := (e_int x17)) rfl) (.nil)) (RetOK.one1 (.pure rfl) (by decide) rfl rfl rfl rfl rfl) rfl rfl)
    ·have h := bF h14 h
     refine LWP.skip (hN12 _ ?_)
     refine LWP.seq_k fun N18 hN18 => ?_
     refine bk h fun x19 e19 h => ?_
     refine bk h fun x20 e20 h => ?_
     refine bk h fun x21 e21 h => ?_
     refine bk h fun x22 e22 h => ?_
     refine bk h fun x23 e23 h => ?_
     refine bk h fun x24 e24 h => ?_
     refine bk h fun x25 e25 h => ?_
     refine bk h fun x26 e26 h => ?_
     refine bk h fun x27 e27 h => ?_
     refine bk h fun x28 e28 h => ?_
     refine bk h fun x29 e29 h => ?_
     refine bk h fun x30 e30 h => ?_
     refine bk h fun x31 e31 h => ?_
     refine bk h fun x32 e32 h => ?_
     refine LWP.drawF (l := [_,_,_,_,_,_,_,_,_,_,_,_,_,_,_,_,_,_,_,_,_,_,_,_,_,_,_,_,_,_,_,_,_,_,_,_,_,_,_,_,_,_,_,_,_,_]) [] [0, 1, 5] [([0], []), ([47], []), ([48], []), ([49], [0]), ([5], []), ([0], []), ([52], []), ([53], []), ([54], [0]), ([55], []), ([51, 56], []), ([50, 57], []), ([58], []), ([59], []), ([60], []), ([0], []), ([62], []), ([63], []), ([64], [0]), ([5], []), ([66], []), ([67], []), ([0], []), ([69], []), ([70], []), ([71], [0]), ([72], []), ([68, 73], []), ([65, 74], []), ([75], []), ([76], []), ([77], []), ([61, 78], []), ([5], []), ([80], []), ([79, 81], []), ([5], []), ([0], []), ([84], []), ([85], []), ([86], [0]), ([87], []), ([83, 88], []), ([89], []), ([82, 90], []), ([91], [])] [1, 6] [0] mixed (by kernel_rfl) rfl (by decide) ?_
     refine dq 47 rfl (fun _ g u h => LWo.move (.ptr 0 0 0) u.1 (hn := .nil (zn g))) ?_
     refine dq 48 rfl (fun _ g u h => LWo.nilCheckPtr u.1 (hn := .nil (zn g))) ?_
     refine dq 49 rfl (fun _ g u h => LWo.fieldPtr u_spec_l20Rd rfl s_Luint8 u.1 rfl (hn := .nil (zn g))) ?_
     refine dq 50 rfl (fun _ g u h => LWo.loadV1 (e_Luint8 o0.b)  g_Luint8 u.1 h.1 rfl (hn := .nil (zn g))) ?_
     refine dq 51 rfl (fun _ g u h => LWo.move (e_int x11) u.1 (hn := .nil (zn g))) ?_
     refine dq 52 rfl (fun _ g u h => LWo.move (.ptr 0 0 0) u.1 (hn := .nil (zn g))) ?_
     refine dq 53 rfl (fun _ g u h => LWo.nilCheckPtr u.1 (hn := .nil (zn g))) ?_
     refine dq 54 rfl (fun _ g u h => LWo.fieldPtr u_spec_l20Rd rfl s_Luint8 u.1 rfl (hn := .nil (zn g))) ?_
     refine dq 55 rfl (fun _ g u h => LWo.loadV1 (e_Luint8 o0.b)  g_Luint8 u.1 h.1 rfl (hn := .nil (zn g))) ?_
     refine dq 56 rfl (fun _ g u h => LWo.lenM (f := e_uint8) (l := o0.b) u_Luint8 u.1 (hn := .nil (zn g))) ?_
     refine dq 57 rfl (fun _ g u h => LWo.int _ u.1 u.2.1 (rem_ck e19) (hn := .nil (zn g))) ?_
     refine dq 58 rfl (fun _ g u h => LWo.indexM (f := e_uint8) e20 u_Luint8 s_uint8 u.1 u.2.1 (hn := .nil (zn g))) ?_
     refine dq 59 rfl (fun _ g u h => LWo.load1 (c := (e_uint8 x20)) g_uint8 u.1 (hn := .nil (zn g))) ?_
     refine dq 60 rfl (fun _ g u h => LWo.convByte _ u_uint8 u_int u.1 (hn := .nil (zn g))) ?_
     refine dq 61 rfl (fun _ g u h => LWo.int _ u.1 rfl (mul_ck e21) (hn := .nil (zn g))) ?_
     refine dq 62 rfl (fun _ g u h => LWo.move (.ptr 0 0 0) u.1 (hn := .nil (zn g))) ?_
     refine dq 63 rfl (fun _ g u h => LWo.nilCheckPtr u.1 (hn := .nil (zn g))) ?_
     refine dq 64 rfl (fun _ g u h => LWo.fieldPtr u_spec_l20Rd rfl s_Luint8 u.1 rfl (hn := .nil (zn g))) ?_
     refine dq 65 rfl (fun _ g u h => LWo.loadV1 (e_Luint8 o0.b)  g_Luint8 u.1 h.1 rfl (hn := .nil (zn g))) ?_
     refine dq 66 rfl (fun _ g u h => LWo.move (e_int x11) u.1 (hn := .nil (zn g))) ?_
     refine dq 67 rfl (fun _ g u h => LWo.int _ u.1 rfl (mul_ck e22) (hn := .nil (zn g))) ?_
     refine dq 68 rfl (fun _ g u h => LWo.int _ u.1 rfl (add_ck e23) (hn := .nil (zn g))) ?_
     refine dq 69 rfl (fun _ g u h => LWo.move (.ptr 0 0 0) u.1 (hn := .nil (zn g))) ?_
     refine dq 70 rfl (fun _ g u h => LWo.nilCheckPtr u.1 (hn := .nil (zn g))) ?_
     refine dq 71 rfl (fun _ g u h => LWo.fieldPtr u_spec_l20Rd rfl s_Luint8 u.1 rfl (hn := .nil (zn g))) ?_
     refine dq 72 rfl (fun _ g u h => LWo.loadV1 (e_Luint8 o0.b)  g_Luint8 u.1 h.1 rfl (hn := .nil (zn g))) ?_
     refine dq 73 rfl (fun _ g u h => LWo.lenM (f := e_uint8) (l := o0.b) u_Luint8 u.1 (hn := .nil (zn g))) ?_
     refine dq 74 rfl (fun _ g u h => LWo.int _ u.1 u.2.1 (rem_ck e24) (hn := .nil (zn g))) ?_
     refine dq 75 rfl (fun _ g u h => LWo.indexM (f := e_uint8) e25 u_Luint8 s_uint8 u.1 u.2.1 (hn := .nil (zn g))) ?_
     refine dq 76 rfl (fun _ g u h => LWo.load1 (c := (e_uint8 x25)) g_uint8 u.1 (hn := .nil (zn g))) ?_
     refine dq 77 rfl (fun _ g u h => LWo.convByte _ u_uint8 u_int u.1 (hn := .nil (zn g))) ?_
     refine dq 78 rfl (fun _ g u h => LWo.int _ u.1 rfl (mul_ck e26) (hn := .nil (zn g))) ?_
     refine dq 79 rfl (fun _ g u h => LWo.int _ u.1 u.2.1 (add_ck e27) (hn := .nil (zn g))) ?_
     refine dq 80 rfl (fun _ g u h => LWo.move (e_int x11) u.1 (hn := .nil (zn g))) ?_
     refine dq 81 rfl (fun _ g u h => LWo.int _ u.1 rfl (mul_ck e28) (hn := .nil (zn g))) ?_
     refine dq 82 rfl (fun _ g u h => LWo.int _ u.1 u.2.1 (add_ck e29) (hn := .nil (zn g))) ?_
     refine dq 83 rfl (fun _ g u h => LWo.move (e_int x11) u.1 (hn := .nil (zn g))) ?_
     refine dq 84 rfl (fun _ g u h => LWo.move (.ptr 0 0 0) u.1 (hn := .nil (zn g))) ?_
     refine dq 85 rfl (fun _ g u h => LWo.nilCheckPtr u.1 (hn := .nil (zn g))) ?_
     refine dq 86 rfl (fun _ g u h => LWo.fieldPtr u_spec_l20Rd rfl s_Luint8 u.1 rfl (hn := .nil (zn g))) ?_
     refine dq 87 rfl (fun _ g u h => LWo.loadV1 (e_Luint8 o0.b)  g_Luint8 u.1 h.1 rfl (hn := .nil (zn g))) ?_
     refine dq 88 rfl (fun _ g u h => LWo.lenM (f := e_uint8) (l := o0.b) u_Luint8 u.1 (hn := .nil (zn g))) ?_
     refine dq 89 rfl (fun _ g u h => LWo.int _ u.1 u.2.1 (quo_ck e30) (hn := .nil (zn g))) ?_
     refine dq 90 rfl (fun _ g u h => LWo.int _ u.1 rfl (mul_ck e31) (hn := .nil (zn g))) ?_
     refine dq 91 rfl (fun _ g u h => LWo.int _ u.1 u.2.1 (add_ck e32) (hn := .nil (zn g))) ?_
     refine dq 6 rfl (fun _ g u h => LWo.assign (e_int x32) u.1 (hn := .nil (zn g))) ?_
     refine ⟨rfl, by kernel_rfl, hN18 _ ?_⟩
     refine LWP.seq_k fun N33 hN33 => ?_
     refine LWP.region (l := [_,_,_,_,_]) ?_
     refine LWo.move (e_int x32) rfl (hn := ?_)
     refine LWo.move (e_int x32) rfl (hn := ?_)
     refine bk h fun x34 e34 h => ?_
     refine LWo.int _ rfl rfl (quo_ck e34) (hn := ?_)
     refine bk h fun x35 e35 h => ?_
     refine LWo.xorM e35 rfl rfl (hn := ?_)
     refine LWo.assign (e_int x35) rfl (hn := ?_)
     refine LWo.nil (hN33 _ ?_)
     refine LWP.seq_k fun N36 hN36 => ?_
     refine LWP.region (l := [_,_,_,_]) ?_
     refine LWo.move (e_int x35) rfl (hn := ?_)
     refine LWo.move (e_int t1) rfl (hn := ?_)
     refine bk h fun x37 e37 h => ?_
     refine LWo.int _ rfl rfl (rem_ck e37) (hn := ?_)
     refine LWo.assign (e_int x37) rfl (hn := ?_)
     refine LWo.nil (hN36 _ ?_)
     obtain rfl := Option.some.inj h
     refine LWP.ret (QG.mk (.inr rfl) (.cons (.tmp (x := (e_int x37)) rfl) (.nil)) (RetOK.one1 (.pure rfl) (by decide) rfl rfl rfl rfl rfl) rfl rfl)
  ·intro N6 hN6
   refine LWP.region (l := [_,_,_,_,_,_,_,_,_,_]) ?_
   refine LWo.move (e_int a1) rfl (hn := ?_)
   refine LWo.int _ rfl rfl rfl (hn := ?_)
   refine LWo.move (e_bool (decide (a1 < (1 : Int)))) rfl (hn := ?_)
   refine LWo.byCases (t := 17) _ rfl (fun h7 => ?_) (fun h7 => ?_)
   ·have h := bT h7 h
    refine LWo.guardNU (t := 17) rfl h7 rfl rfl rfl rfl rfl ?_
    refine LWo.guardNU (t := 17) rfl h7 rfl rfl rfl rfl rfl ?_
    refine LWo.guardNU (t := 17) rfl h7 rfl rfl rfl rfl rfl ?_
    refine LWo.guardNU (t := 17) rfl h7 rfl rfl rfl rfl rfl ?_
    refine LWo.guardNU (t := 17) rfl h7 rfl rfl rfl rfl rfl ?_
    refine LWo.guardNU (t := 17) rfl h7 rfl rfl rfl rfl rfl ?_
    refine LWo.pickTM (e_bool true) rfl h7 rfl (hn := ?_)
    refine LWo.nil (hN6 (a1, true, y4) _ ⟨rfl, rfl, rfl, trivial⟩ ⟨rfl, trivial⟩ h)
   ·have h := bF h7 h
    refine LWo.guardY (t := 17) rfl h7 rfl rfl ?_
    refine LWo.move (.ptr 0 0 0) rfl (hn := ?_)
    refine LWo.guardY (t := 17) rfl h7 rfl rfl ?_
    refine LWo.nilCheckPtr rfl (hn := ?_)
    refine LWo.guardY (t := 17) rfl h7 rfl rfl ?_
    refine LWo.fieldPtr u_spec_l20Rd rfl s_Luint8 rfl rfl (hn := ?_)
    refine LWo.guardY (t := 17) rfl h7 rfl rfl ?_
    refine LWo.loadV1 (e_Luint8 y4.b)  g_Luint8 rfl rfl rfl (hn := ?_)
    refine LWo.guardY (t := 17) rfl h7 rfl rfl ?_
    refine LWo.lenM (f := e_uint8) (l := y4.b) u_Luint8 rfl (hn := ?_)
    refine LWo.guardY (t := 17) rfl h7 rfl rfl ?_
    refine LWo.int _ rfl rfl rfl (hn := ?_)
    refine LWo.pickFM (e_bool ((y4.b.length : Int) == (0 : Int))) rfl h7 rfl (hn := ?_)
    refine LWo.nil (hN6 (a1, ((y4.b.length : Int) == (0 : Int)), y4) _ ⟨rfl, rfl, rfl, trivial⟩ ⟨rfl, trivial⟩ h)
theorem k_Pspec_l20Rd_pick (o0 : S_spec_l20Rd) (a1 : Int) (r : (Int × S_spec_l20Rd)) (h : m_Pspec_l20Rd_pick o0 a1 = some r) (k : Nat) : Does Try.prog f_Pspec_l20Rd_pick [.ptr k 0 0, e_int a1] [(k, (vob 2 e_spec_l20Rd o0))] (fun x hh => x = e_int r.1 ∧ hh = [(k, (vob 2 e_spec_l20Rd r.2))]) :=
  Does.nameV (c_Pspec_l20Rd_pick o0 a1 r h) rfl rfl rfl rfl rfl rfl k

def m_spec_l26Has_j1  : Option Bool :=
  some false
def m_spec_l26Has_l1 : Nat → (List S_impl_Pair) → S_impl_Pair → Int → Option Bool
  | 0, _, _, _ => none
  | n1 + 1, t0, t3, t5 =>
    bif decide (t5 < (t0.length : Int)) then ((at? t0 t5).bind fun x11 =>
    bif (decide (x11 = t3)) then (some true)
    else ((ckI (t5 + (1 : Int))).bind fun x14 =>
    (m_spec_l26Has_l1  n1) t0 t3 x14))
    else (m_spec_l26Has_j1  )
def m_spec_l26Has (a0 : (List S_impl_Pair)) (a1 : S_impl_Pair) : Option Bool :=
  m_spec_l26Has_l1  (((a0.length : Int) - (0 : Int)).toNat + 1) a0 a1 (0 : Int)
theorem c_spec_l26Has (a0 : (List S_impl_Pair)) (a1 : S_impl_Pair) (r : Bool) (h : m_spec_l26Has a0 a1 = some r) : Ret Try.prog f_spec_l26Has [e_Limpl_Pair a0, e_impl_Pair a1] (e_bool r) := by
  refine Does.goG [] F_spec_l26Has rfl e_spec_l26Has n_spec_l26Has rfl (rvs := [.tmp 4]) rfl rfl ?_
  intro w0 ok0 lent ρ0
  refine LWP.seq_k fun N1 hN1 => ?_
  refine LWP.region (l := [_,_]) ?_
  refine LWo.boxF (e_impl_Pair a1) rfl rfl rfl (hn := ?_)
  refine LWo.assign (e_bool false) rfl (hn := ?_)
  refine LWo.nil (hN1 _ ?_)
  refine LWP.join (α := Unit) (fun z : Unit => []) (fun z : Unit => []) (fun z : Unit => m_spec_l26Has_j1  ) r (fun _ => by simp [hkeys]) ?_ ?_
  ·rintro _ h
   replace h : m_spec_l26Has_j1   = some _ := h
   refine LWP.seq_k fun N15 hN15 => ?_
   refine LWP.region (l := [_]) ?_
   refine LWo.assign (e_bool false) rfl (hn := ?_)
   refine LWo.nil (hN15 _ ?_)
   obtain rfl := Option.some.inj h
   refine LWP.ret (QG.mk (.inr rfl) (.cons (.tmp (x := (e_bool false)) rfl) (.nil)) (RetOK.one0 (.pure rfl) (by decide)) rfl rfl)
  ·intro N2 hN2
   refine LWP.seq_k fun N3 hN3 => ?_
   refine LWP.region (l := [_]) ?_
   refine LWo.assign (e_int (0 : Int)) rfl (hn := ?_)
   refine LWo.nil (hN3 _ ?_)
   refine LWP.block ?_
   refine LWP.loopM (α := (List S_impl_Pair) × S_impl_Pair × Int) (fun z : (List S_impl_Pair) × S_impl_Pair × Int => [(0, (e_Limpl_Pair z.1)), (3, (.fp (e_impl_Pair z.2.1).cells)), (5, (e_int z.2.2))]) (fun z : (List S_impl_Pair) × S_impl_Pair × Int => []) (fun n1 (z : (List S_impl_Pair) × S_impl_Pair × Int) => m_spec_l26Has_l1  n1 z.1 z.2.1 z.2.2) r _ (a0, a1, (0 : Int)) h (fun _ => rfl) (fun _ => by simp [hkeys]) ⟨rfl, rfl, rfl, trivial⟩ trivial ?_
   rintro n1 ⟨t0, t3, t5⟩ h N4 hN4
   replace h : m_spec_l26Has_l1  (n1 + 1) t0 t3 t5 = some _ := h
   refine LWP.seq_k fun N6 hN6 => ?_
   refine LWP.seq_k fun N7 hN7 => ?_
   refine LWP.region (l := [_,_,_,_]) ?_
   refine LWo.move (e_int t5) rfl (hn := ?_)
   refine LWo.move (e_Limpl_Pair t0) rfl (hn := ?_)
   refine LWo.lenM (f := e_impl_Pair) (l := t0) u_Limpl_Pair rfl (hn := ?_)
   refine LWo.int _ rfl rfl rfl (hn := ?_)
   refine LWo.nil (hN7 _ ?_)
   refine LWP.cond_split rfl (fun h8 => ?_) (fun h8 => ?_)
   ·have h := bT h8 h
    refine LWP.skip (hN6 _ ?_)
    refine LWP.seq_k fun N9 hN9 => ?_
    refine LWP.block ?_
    refine LWP.seq_k fun N10 hN10 => ?_
    refine bk h fun x11 e11 h => ?_
    refine LWP.drawF (l := [_,_,_,_,_,_]) [] [0, 3, 5] [([0], []), ([5], []), ([12, 13], []), ([14], []), ([3], []), ([15, 16], [])] [0, 3, 5, 17] [] mixed (by kernel_rfl) rfl (by decide) ?_
    refine dq 12 rfl (fun _ g u h => LWo.move (e_Limpl_Pair t0) u.1 (hn := .nil (zn g))) ?_
    refine dq 13 rfl (fun _ g u h => LWo.move (e_int t5) u.1 (hn := .nil (zn g))) ?_
    refine dq 14 rfl (fun _ g u h => LWo.indexM (f := e_impl_Pair) e11 u_Limpl_Pair s_impl_Pair u.1 u.2.1 (hn := .nil (zn g))) ?_
    refine dq 15 rfl (fun _ g u h => LWo.loadN ((e_impl_Pair x11)).cells g_impl_Pair s_impl_Pair u.1 (Nat.le_of_ble_eq_true rfl) rfl (hn := .nil (zn g))) ?_
    refine dq 16 rfl (fun _ g u h => LWo.loadN ((e_impl_Pair t3)).cells g_impl_Pair s_impl_Pair u.1 (Nat.le_of_ble_eq_true rfl) rfl (hn := .nil (zn g))) ?_
    refine dq 17 rfl (fun _ g u h => LWo.eq_impl_Pair _ _ u.1 u.2.1 (hn := .nil (zn g))) ?_
    refine ⟨rfl, by kernel_rfl, hN10 _ ?_⟩
    refine LWP.cond_split rfl (fun h12 => ?_) (fun h12 => ?_)
    ·have h := bT h12 h
     refine LWP.seq_k fun N13 hN13 => ?_
     refine LWP.region (l := [_]) ?_
     refine LWo.assign (e_bool true) rfl (hn := ?_)
     refine LWo.nil (hN13 _ ?_)
     obtain rfl := Option.some.inj h
     refine LWP.ret (QG.mk (.inr rfl) (.cons (.tmp (x := (e_bool true)) rfl) (.nil)) (RetOK.one0 (.pure rfl) (by decide)) rfl rfl)
    ·have h := bF h12 h
     refine LWP.skip (hN9 _ ?_)
     refine LWP.region (l := [_,_,_]) ?_
     refine LWo.move (e_int t5) rfl (hn := ?_)
     refine bk h fun x14 e14 h => ?_
     refine LWo.int _ rfl rfl (add_ck e14) (hn := ?_)
     refine LWo.assign (e_int x14) rfl (hn := ?_)
     refine LWo.nil (hN4 (t0, t3, x14) _ ⟨rfl, rfl, rfl, trivial⟩ trivial h)
   ·have h := bF h8 h
    refine LWP.exit (hN2 () _ trivial trivial h)

def m_spec_l26With_j4 (o1009 : (List S_impl_Pair)) : Option (List S_impl_Pair) :=
  some o1009
def m_spec_l26With_j3 (k1 : (List S_impl_Pair) → (List S_impl_Pair) → Int → (List S_impl_Pair) → Option (List S_impl_Pair)) (t0 : (List S_impl_Pair)) (t1 : (List S_impl_Pair)) (t6 : Int) (o1009 : (List S_impl_Pair)) : Option (List S_impl_Pair) :=
  (ckI (t6 + (1 : Int))).bind fun x27 =>
  k1 t0 t1 x27 o1009
def m_spec_l26With_j2 (k1 : (List S_impl_Pair) → (List S_impl_Pair) → Int → (List S_impl_Pair) → Option (List S_impl_Pair)) (k2 : (List S_impl_Pair) → (List S_impl_Pair) → Int → Int → (List S_impl_Pair) → Option (List S_impl_Pair)) (t0 : (List S_impl_Pair)) (t1 : (List S_impl_Pair)) (t6 : Int) (t7 : Int) (o1009 : (List S_impl_Pair)) : Option (List S_impl_Pair) :=
  (ckI (t7 + (1 : Int))).bind fun x26 =>
  k2 t0 t1 t6 x26 o1009
def m_spec_l26With_j1 (k1 : (List S_impl_Pair) → (List S_impl_Pair) → Int → (List S_impl_Pair) → Option (List S_impl_Pair)) (k2 : (List S_impl_Pair) → (List S_impl_Pair) → Int → Int → (List S_impl_Pair) → Option (List S_impl_Pair)) (t0 : (List S_impl_Pair)) (t1 : (List S_impl_Pair)) (t6 : Int) (t7 : Int) (t28 : Bool) (o8 : S_impl_Pair) (o1009 : (List S_impl_Pair)) : Option (List S_impl_Pair) :=
  bif t28 then ((app? o1009 ([o8] : (List S_impl_Pair))).bind fun x25 =>
    m_spec_l26With_j2  k1 k2 t0 t1 t6 t7 x25)
  else (m_spec_l26With_j2  k1 k2 t0 t1 t6 t7 o1009)
def m_spec_l26With_l2 (k1 : (List S_impl_Pair) → (List S_impl_Pair) → Int → (List S_impl_Pair) → Option (List S_impl_Pair)) : Nat → (List S_impl_Pair) → (List S_impl_Pair) → Int → Int → (List S_impl_Pair) → Option (List S_impl_Pair)
  | 0, _, _, _, _, _ => none
  | n2 + 1, t0, t1, t6, t7, o1009 =>
    bif decide (t7 < (7 : Int)) then (lt ((⟨t6, t7⟩ : S_impl_Pair)) fun y19 =>
    (m_spec_l26Has t0 y19).bind fun x21 =>
    bif x21 then (m_spec_l26With_j1  k1 (m_spec_l26With_l2  k1 n2) t0 t1 t6 t7 true y19 o1009)
    else ((m_spec_l26Has t1 y19).bind fun x23 =>
      m_spec_l26With_j1  k1 (m_spec_l26With_l2  k1 n2) t0 t1 t6 t7 x23 y19 o1009))
    else (m_spec_l26With_j3  k1 t0 t1 t6 o1009)
def m_spec_l26With_l1 : Nat → (List S_impl_Pair) → (List S_impl_Pair) → Int → (List S_impl_Pair) → Option (List S_impl_Pair)
  | 0, _, _, _, _ => none
  | n1 + 1, t0, t1, t6, o1009 =>
    bif decide (t6 < (7 : Int)) then (m_spec_l26With_l2  (m_spec_l26With_l1  n1) (((7 : Int) - (0 : Int)).toNat + 1) t0 t1 t6 (0 : Int) o1009)
    else (m_spec_l26With_j4  o1009)
def m_spec_l26With (a0 : (List S_impl_Pair)) (a1 : (List S_impl_Pair)) : Option (List S_impl_Pair) :=
  m_spec_l26With_l1  (((7 : Int) - (0 : Int)).toNat + 1) a0 a1 (0 : Int) ([] : (List S_impl_Pair))
theorem c_spec_l26With (a0 : (List S_impl_Pair)) (a1 : (List S_impl_Pair)) (r : (List S_impl_Pair)) (h : m_spec_l26With a0 a1 = some r) : Ret Try.prog f_spec_l26With [e_Limpl_Pair a0, e_Limpl_Pair a1] (.nw 2 (r.map e_impl_Pair) false) := by
  refine Does.goG [] F_spec_l26With rfl e_spec_l26With n_spec_l26With rfl (rvs := [.tmp 4]) rfl rfl ?_
  intro w0 ok0 lent ρ0
  refine LWP.seq_k fun N1 hN1 => ?_
  refine LWP.region (l := [_]) ?_
  refine LWo.assign _ rfl (hn := ?_)
  refine LWo.ownNil 4 1004 2 rfl rfl rfl ?_
  refine LWo.known 4 (.own 1004 0 ([] : (List S_impl_Pair)).length) rfl ?_
  refine LWo.nil (hN1 _ ?_)
  refine LWP.seq_k fun N2 hN2 => ?_
  refine LWP.region (l := [_,_]) ?_
  refine LWo.lit0 1009 u_Limpl_Pair s_impl_Pair z_impl_Pair (hn := ?_)
  refine LWo.known 9 (.own 1009 0 ([] : (List S_impl_Pair)).length) rfl ?_
  refine LWo.assign (.own 1009 0 (([] : (List S_impl_Pair))).length) rfl (hn := ?_)
  refine LWo.nil (hN2 _ ?_)
  refine LWP.join (α := (List S_impl_Pair)) (fun z : (List S_impl_Pair) => [(5, (.own 1009 0 (z).length))]) (fun z : (List S_impl_Pair) => [(1009, (lob 2 e_impl_Pair z))]) (fun z : (List S_impl_Pair) => m_spec_l26With_j4  z) r (fun _ => by simp [hkeys]) ?_ ?_
  ·rintro o1009 h
   replace h : m_spec_l26With_j4  o1009 = some _ := h
   refine LWP.seq_k fun N28 hN28 => ?_
   refine LWP.region (l := [_,_]) ?_
   refine LWo.move (.own 1009 0 (o1009).length) rfl (hn := ?_)
   refine LWo.assign (.own 1009 0 (o1009).length) rfl (hn := ?_)
   refine LWo.nil (hN28 _ ?_)
   obtain rfl := Option.some.inj h
   refine LWP.ret (QG.mk (.inr rfl) (.cons (.tmp (x := (.own 1009 0 (o1009).length)) rfl) (.nil)) (RetOK.one0 (.nwM rfl rfl) (by decide)) rfl rfl)
  ·intro N3 hN3
   refine LWP.seq_k fun N4 hN4 => ?_
   refine LWP.region (l := [_]) ?_
   refine LWo.assign (e_int (0 : Int)) rfl (hn := ?_)
   refine LWo.nil (hN4 _ ?_)
   refine LWP.block ?_
   refine LWP.loopM (α := (List S_impl_Pair) × (List S_impl_Pair) × Int × (List S_impl_Pair)) (fun z : (List S_impl_Pair) × (List S_impl_Pair) × Int × (List S_impl_Pair) => [(0, (e_Limpl_Pair z.1)), (1, (e_Limpl_Pair z.2.1)), (5, (.own 1009 0 (z.2.2.2).length)), (6, (e_int z.2.2.1))]) (fun z : (List S_impl_Pair) × (List S_impl_Pair) × Int × (List S_impl_Pair) => [(1009, (lob 2 e_impl_Pair z.2.2.2))]) (fun n1 (z : (List S_impl_Pair) × (List S_impl_Pair) × Int × (List S_impl_Pair)) => m_spec_l26With_l1  n1 z.1 z.2.1 z.2.2.1 z.2.2.2) r _ (a0, a1, (0 : Int), ([] : (List S_impl_Pair))) h (fun _ => rfl) (fun _ => by simp [hkeys]) ⟨rfl, rfl, rfl, rfl, trivial⟩ ⟨rfl, trivial⟩ ?_
   rintro n1 ⟨t0, t1, t6, o1009⟩ h N5 hN5
   replace h : m_spec_l26With_l1  (n1 + 1) t0 t1 t6 o1009 = some _ := h
   refine LWP.seq_k fun N7 hN7 => ?_
   refine LWP.seq_k fun N8 hN8 => ?_
   refine LWP.region (l := [_,_]) ?_
   refine LWo.move (e_int t6) rfl (hn := ?_)
   refine LWo.int _ rfl rfl rfl (hn := ?_)
   refine LWo.nil (hN8 _ ?_)
   refine LWP.cond_split rfl (fun h9 => ?_) (fun h9 => ?_)
   ·have h := bT h9 h
    refine LWP.skip (hN7 _ ?_)
    refine LWP.join (α := (List S_impl_Pair) × (List S_impl_Pair) × Int × (List S_impl_Pair)) (fun z : (List S_impl_Pair) × (List S_impl_Pair) × Int × (List S_impl_Pair) => [(0, (e_Limpl_Pair z.1)), (1, (e_Limpl_Pair z.2.1)), (5, (.own 1009 0 (z.2.2.2).length)), (6, (e_int z.2.2.1))]) (fun z : (List S_impl_Pair) × (List S_impl_Pair) × Int × (List S_impl_Pair) => [(1009, (lob 2 e_impl_Pair z.2.2.2))]) (fun z : (List S_impl_Pair) × (List S_impl_Pair) × Int × (List S_impl_Pair) => m_spec_l26With_j3  (m_spec_l26With_l1  n1) z.1 z.2.1 z.2.2.1 z.2.2.2) r (fun _ => by simp [hkeys]) ?_ ?_
    ·rintro ⟨t0, t1, t6, o1009⟩ h
     replace h : m_spec_l26With_j3  (m_spec_l26With_l1  n1) t0 t1 t6 o1009 = some _ := h
     refine LWP.region (l := [_,_,_]) ?_
     refine LWo.move (e_int t6) rfl (hn := ?_)
     refine bk h fun x27 e27 h => ?_
     refine LWo.int _ rfl rfl (add_ck e27) (hn := ?_)
     refine LWo.assign (e_int x27) rfl (hn := ?_)
     refine LWo.nil (hN5 (t0, t1, x27, o1009) _ ⟨rfl, rfl, rfl, rfl, trivial⟩ ⟨rfl, trivial⟩ h)
    ·intro N10 hN10
     refine LWP.block ?_
     refine LWP.seq_k fun N11 hN11 => ?_
     refine LWP.region (l := [_]) ?_
     refine LWo.assign (e_int (0 : Int)) rfl (hn := ?_)
     refine LWo.nil (hN11 _ ?_)
     refine LWP.block ?_
     refine LWP.loopM (α := (List S_impl_Pair) × (List S_impl_Pair) × Int × Int × (List S_impl_Pair)) (fun z : (List S_impl_Pair) × (List S_impl_Pair) × Int × Int × (List S_impl_Pair) => [(0, (e_Limpl_Pair z.1)), (1, (e_Limpl_Pair z.2.1)), (5, (.own 1009 0 (z.2.2.2.2).length)), (6, (e_int z.2.2.1)), (7, (e_int z.2.2.2.1))]) (fun z : (List S_impl_Pair) × (List S_impl_Pair) × Int × Int × (List S_impl_Pair) => [(1009, (lob 2 e_impl_Pair z.2.2.2.2))]) (fun n2 (z : (List S_impl_Pair) × (List S_impl_Pair) × Int × Int × (List S_impl_Pair)) => m_spec_l26With_l2  (m_spec_l26With_l1  n1) n2 z.1 z.2.1 z.2.2.1 z.2.2.2.1 z.2.2.2.2) r _ (t0, t1, t6, (0 : Int), o1009) h (fun _ => rfl) (fun _ => by simp [hkeys]) ⟨rfl, rfl, rfl, rfl, rfl, trivial⟩ ⟨rfl, trivial⟩ ?_
     rintro n2 ⟨t0, t1, t6, t7, o1009⟩ h N12 hN12
     replace h : m_spec_l26With_l2  (m_spec_l26With_l1  n1) (n2 + 1) t0 t1 t6 t7 o1009 = some _ := h
     refine LWP.seq_k fun N14 hN14 => ?_
     refine LWP.seq_k fun N15 hN15 => ?_
     refine LWP.region (l := [_,_]) ?_
     refine LWo.move (e_int t7) rfl (hn := ?_)
     refine LWo.int _ rfl rfl rfl (hn := ?_)
     refine LWo.nil (hN15 _ ?_)
     refine LWP.cond_split rfl (fun h16 => ?_) (fun h16 => ?_)
     ·have h := bT h16 h
      refine LWP.skip (hN14 _ ?_)
      refine LWP.join (α := (List S_impl_Pair) × (List S_impl_Pair) × Int × Int × (List S_impl_Pair)) (fun z : (List S_impl_Pair) × (List S_impl_Pair) × Int × Int × (List S_impl_Pair) => [(0, (e_Limpl_Pair z.1)), (1, (e_Limpl_Pair z.2.1)), (5, (.own 1009 0 (z.2.2.2.2).length)), (6, (e_int z.2.2.1)), (7, (e_int z.2.2.2.1))]) (fun z : (List S_impl_Pair) × (List S_impl_Pair) × Int × Int × (List S_impl_Pair) => [(1009, (lob 2 e_impl_Pair z.2.2.2.2))]) (fun z : (List S_impl_Pair) × (List S_impl_Pair) × Int × Int × (List S_impl_Pair) => m_spec_l26With_j2  (m_spec_l26With_l1  n1) (m_spec_l26With_l2  (m_spec_l26With_l1  n1) n2) z.1 z.2.1 z.2.2.1 z.2.2.2.1 z.2.2.2.2) r (fun _ => by simp [hkeys]) ?_ ?_
      ·rintro ⟨t0, t1, t6, t7, o1009⟩ h
       replace h : m_spec_l26With_j2  (m_spec_l26With_l1  n1) (m_spec_l26With_l2  (m_spec_l26With_l1  n1) n2) t0 t1 t6 t7 o1009 = some _ := h
       refine LWP.region (l := [_,_,_]) ?_
       refine LWo.move (e_int t7) rfl (hn := ?_)
       refine bk h fun x26 e26 h => ?_
       refine LWo.int _ rfl rfl (add_ck e26) (hn := ?_)
       refine LWo.assign (e_int x26) rfl (hn := ?_)
       refine LWo.nil (hN12 (t0, t1, t6, x26, o1009) _ ⟨rfl, rfl, rfl, rfl, rfl, trivial⟩ ⟨rfl, trivial⟩ h)
      ·intro N17 hN17
       refine LWP.block ?_
       refine LWP.seq_k fun N18 hN18 => ?_
       refine LWP.region (l := [_,_,_,_,_]) ?_
       refine LWo.move (e_int t6) rfl (hn := ?_)
       refine LWo.move (e_int t7) rfl (hn := ?_)
       refine LWo.build_impl_Pair (parts := [_, _]) (⟨t6, t7⟩ : S_impl_Pair) rfl rfl rfl .refl (hn := ?_)
       refine LWo.alloc_impl_Pair 8 rfl (hn := ?_)
       refine lk h fun y19 e19 h => ?_
       refine LWo.storeW (y := (⟨(0 : Int), (0 : Int)⟩ : S_impl_Pair)) y19 s_impl_Pair rfl rfl rfl rfl rfl rfl (by rw [e19]; exact .refl) rfl (hn := ?_)
       refine LWo.nil (hN18 _ ?_)
       refine LWP.join (α := (List S_impl_Pair) × (List S_impl_Pair) × Int × Int × Bool × S_impl_Pair × (List S_impl_Pair)) (fun z : (List S_impl_Pair) × (List S_impl_Pair) × Int × Int × Bool × S_impl_Pair × (List S_impl_Pair) => [(0, (e_Limpl_Pair z.1)), (1, (e_Limpl_Pair z.2.1)), (5, (.own 1009 0 (z.2.2.2.2.2.2).length)), (6, (e_int z.2.2.1)), (7, (e_int z.2.2.2.1)), (8, (.ptr 8 0 0)), (28, (e_bool z.2.2.2.2.1))]) (fun z : (List S_impl_Pair) × (List S_impl_Pair) × Int × Int × Bool × S_impl_Pair × (List S_impl_Pair) => [(8, (vob 2 e_impl_Pair z.2.2.2.2.2.1)), (1009, (lob 2 e_impl_Pair z.2.2.2.2.2.2))]) (fun z : (List S_impl_Pair) × (List S_impl_Pair) × Int × Int × Bool × S_impl_Pair × (List S_impl_Pair) => m_spec_l26With_j1  (m_spec_l26With_l1  n1) (m_spec_l26With_l2  (m_spec_l26With_l1  n1) n2) z.1 z.2.1 z.2.2.1 z.2.2.2.1 z.2.2.2.2.1 z.2.2.2.2.2.1 z.2.2.2.2.2.2) r (fun _ => by simp [hkeys]) ?_ ?_
       ·rintro ⟨t0, t1, t6, t7, t28, o8, o1009⟩ h
        replace h : m_spec_l26With_j1  (m_spec_l26With_l1  n1) (m_spec_l26With_l2  (m_spec_l26With_l1  n1) n2) t0 t1 t6 t7 t28 o8 o1009 = some _ := h
        refine LWP.cond_split rfl (fun h24 => ?_) (fun h24 => ?_)
        ·have h := bT h24 h
         refine LWP.region (l := [_,_,_,_,_]) ?_
         refine LWo.move (.own 1009 0 (o1009).length) rfl (hn := ?_)
         refine LWo.loadVN ((e_impl_Pair o8)).cells  g_impl_Pair s_impl_Pair rfl rfl rfl rfl (hn := ?_)
         refine LWo.lit (ops := [_]) [(e_impl_Pair o8)] u_Limpl_Pair s_impl_Pair z_impl_Pair rfl rfl rfl rfl rfl rfl (hn := ?_)
         refine bk h fun x25 e25 h => ?_
         refine LWo.appendM (f := e_impl_Pair) e25 rfl u_Limpl_Pair u_Limpl_Pair (fun _ h => by cases h) s_impl_Pair i_impl_Pair rfl rfl rfl (.sl rfl) rfl rfl (hn := ?_)
         refine LWo.assign (.own 1009 0 (x25).length) rfl (hn := ?_)
         refine LWo.nil (hN17 (t0, t1, t6, t7, x25) _ ⟨rfl, rfl, rfl, rfl, rfl, trivial⟩ ⟨rfl, trivial⟩ h)
        ·have h := bF h24 h
         refine LWP.skip (hN17 (t0, t1, t6, t7, o1009) _ ⟨rfl, rfl, rfl, rfl, rfl, trivial⟩ ⟨rfl, trivial⟩ h)
       ·intro N20 hN20
        refine LWP.region (l := [_,_,_,_,_,_,_,_]) ?_
        refine LWo.move (e_Limpl_Pair t0) rfl (hn := ?_)
        refine LWo.loadVN ((e_impl_Pair y19)).cells  g_impl_Pair s_impl_Pair rfl rfl rfl rfl (hn := ?_)
        refine bk h fun x21 e21 h => ?_
        refine LWo.vcall rfl rfl (c_spec_l26Has _ _ _ e21) (.same (.same (.nil))) (hn := ?_)
        refine LWo.move (e_bool x21) rfl (hn := ?_)
        refine LWo.byCases (t := 24) _ rfl (fun h22 => ?_) (fun h22 => ?_)
        ·have h := bT h22 h
         refine LWo.guardNU (t := 24) rfl h22 rfl rfl rfl rfl rfl ?_
         refine LWo.guardNU (t := 24) rfl h22 rfl rfl rfl rfl rfl ?_
         refine LWo.guardNU (t := 24) rfl h22 rfl rfl rfl rfl rfl ?_
         refine LWo.pickTM (e_bool true) rfl h22 rfl (hn := ?_)
         refine LWo.nil (hN20 (t0, t1, t6, t7, true, y19, o1009) _ ⟨rfl, rfl, rfl, rfl, rfl, rfl, rfl, trivial⟩ ⟨rfl, rfl, trivial⟩ h)
        ·have h := bF h22 h
         refine LWo.guardY (t := 24) rfl h22 rfl rfl ?_
         refine LWo.move (e_Limpl_Pair t1) rfl (hn := ?_)
         refine LWo.guardY (t := 24) rfl h22 rfl rfl ?_
         refine LWo.loadVN ((e_impl_Pair y19)).cells  g_impl_Pair s_impl_Pair rfl rfl rfl rfl (hn := ?_)
         refine bk h fun x23 e23 h => ?_
         refine LWo.guardY (t := 24) rfl h22 rfl rfl ?_
         refine LWo.vcall rfl rfl (c_spec_l26Has _ _ _ e23) (.same (.same (.nil))) (hn := ?_)
         refine LWo.pickFM (e_bool x23) rfl h22 rfl (hn := ?_)
         refine LWo.nil (hN20 (t0, t1, t6, t7, x23, y19, o1009) _ ⟨rfl, rfl, rfl, rfl, rfl, rfl, rfl, trivial⟩ ⟨rfl, rfl, trivial⟩ h)
     ·have h := bF h16 h
      refine LWP.exit (hN10 (t0, t1, t6, o1009) _ ⟨rfl, rfl, rfl, rfl, trivial⟩ ⟨rfl, trivial⟩ h)
   ·have h := bF h9 h
    refine LWP.exit (hN3 o1009 _ ⟨rfl, trivial⟩ ⟨rfl, trivial⟩ h)

def m_Pspec_l20Rd_odd_j1 (t4 : Bool) (o0 : S_spec_l20Rd) : Option (Bool × S_spec_l20Rd) :=
  some (t4, o0)
def m_Pspec_l20Rd_odd (o0 : S_spec_l20Rd) (a1 : Int) : Option (Bool × S_spec_l20Rd) :=
  bif decide (a1 > (0 : Int)) then ((m_Pspec_l20Rd_pick o0 a1).bind fun x4 =>
    (ckI (a1 - (1 : Int))).bind fun x5 =>
    m_Pspec_l20Rd_odd_j1  (x4.1 == x5) x4.2)
  else (m_Pspec_l20Rd_odd_j1  false o0)
theorem c_Pspec_l20Rd_odd (o0 : S_spec_l20Rd) (a1 : Int) (r : (Bool × S_spec_l20Rd)) (h : m_Pspec_l20Rd_odd o0 a1 = some r) : Does Try.prog f_Pspec_l20Rd_odd [.ptr 0 0 0, e_int a1] [(0, (vob 2 e_spec_l20Rd o0))] (fun x hh => x = e_bool r.1 ∧ hh = [(0, (vob 2 e_spec_l20Rd r.2))]) := by
  refine Does.goG [0] F_Pspec_l20Rd_odd rfl e_Pspec_l20Rd_odd n_Pspec_l20Rd_odd rfl (rvs := [.tmp 4]) rfl rfl ?_
  intro w0 ok0 lent ρ0
  refine LWP.seq_k fun N1 hN1 => ?_
  refine LWP.region (l := [_]) ?_
  refine LWo.assign (e_bool false) rfl (hn := ?_)
  refine LWo.nil (hN1 _ ?_)
  refine LWP.join (α := Bool × S_spec_l20Rd) (fun z : Bool × S_spec_l20Rd => [(4, (e_bool z.1))]) (fun z : Bool × S_spec_l20Rd => [(0, (vob 2 e_spec_l20Rd z.2))]) (fun z : Bool × S_spec_l20Rd => m_Pspec_l20Rd_odd_j1  z.1 z.2) r (fun _ => by simp [hkeys]) ?_ ?_
  ·rintro ⟨t4, o0⟩ h
   replace h : m_Pspec_l20Rd_odd_j1  t4 o0 = some _ := h
   obtain rfl := Option.some.inj h
   refine LWP.ret (QG.mk (.inr rfl) (.cons (.tmp (x := (e_bool t4)) rfl) (.nil)) (RetOK.one1 (.pure rfl) (by decide) rfl rfl rfl rfl rfl) rfl rfl)
  ·intro N2 hN2
   refine LWP.region (l := [_,_,_,_,_,_,_,_,_,_,_]) ?_
   refine LWo.move (e_int a1) rfl (hn := ?_)
   refine LWo.int _ rfl rfl rfl (hn := ?_)
   refine LWo.move (e_bool (decide (a1 > (0 : Int)))) rfl (hn := ?_)
   refine LWo.byCases (t := 7) _ rfl (fun h3 => ?_) (fun h3 => ?_)
   ·have h := bT h3 h
    refine LWo.guardY (t := 7) rfl h3 rfl rfl ?_
    refine LWo.move (.ptr 0 0 0) rfl (hn := ?_)
    refine LWo.guardY (t := 7) rfl h3 rfl rfl ?_
    refine LWo.move (e_int a1) rfl (hn := ?_)
    refine bk h fun x4 e4 h => ?_
    refine LWo.guardY (t := 7) rfl h3 rfl rfl ?_
    refine LWo.lcall rfl rfl (k_Pspec_l20Rd_pick _ _ _ e4 0) rfl rfl rfl (hn := ?_)
    refine LWo.guardY (t := 7) rfl h3 rfl rfl ?_
    refine LWo.move (e_int a1) rfl (hn := ?_)
    refine bk h fun x5 e5 h => ?_
    refine LWo.guardY (t := 7) rfl h3 rfl rfl ?_
    refine LWo.int _ rfl rfl (sub_ck e5) (hn := ?_)
    refine LWo.guardY (t := 7) rfl h3 rfl rfl ?_
    refine LWo.int _ rfl rfl rfl (hn := ?_)
    refine LWo.pickTM (e_bool (x4.1 == x5)) rfl h3 rfl (hn := ?_)
    refine LWo.assign (e_bool (x4.1 == x5)) rfl (hn := ?_)
    refine LWo.nil (hN2 ((x4.1 == x5), x4.2) _ ⟨rfl, trivial⟩ ⟨rfl, trivial⟩ h)
   ·have h := bF h3 h
    refine LWo.guardNU (t := 7) rfl h3 rfl rfl rfl rfl rfl ?_
    refine LWo.guardNU (t := 7) rfl h3 rfl rfl rfl rfl rfl ?_
    refine LWo.guardNU (t := 7) rfl h3 rfl rfl rfl rfl rfl ?_
    refine LWo.guardNU (t := 7) rfl h3 rfl rfl rfl rfl rfl ?_
    refine LWo.guardNU (t := 7) rfl h3 rfl rfl rfl rfl rfl ?_
    refine LWo.guardNU (t := 7) rfl h3 rfl rfl rfl rfl rfl ?_
    refine LWo.pickFM (e_bool false) rfl h3 rfl (hn := ?_)
    refine LWo.assign (e_bool false) rfl (hn := ?_)
    refine LWo.nil (hN2 (false, o0) _ ⟨rfl, trivial⟩ ⟨rfl, trivial⟩ h)
theorem k_Pspec_l20Rd_odd (o0 : S_spec_l20Rd) (a1 : Int) (r : (Bool × S_spec_l20Rd)) (h : m_Pspec_l20Rd_odd o0 a1 = some r) (k : Nat) : Does Try.prog f_Pspec_l20Rd_odd [.ptr k 0 0, e_int a1] [(k, (vob 2 e_spec_l20Rd o0))] (fun x hh => x = e_bool r.1 ∧ hh = [(k, (vob 2 e_spec_l20Rd r.2))]) :=
  Does.nameV (c_Pspec_l20Rd_odd o0 a1 r h) rfl rfl rfl rfl rfl rfl k

def m_spec_l20Pairs_j2 (o0 : S_spec_l20Rd) (o1025 : (List S_impl_Pair)) : Option ((List S_impl_Pair) × S_spec_l20Rd) :=
  some (o1025, o0)
def m_spec_l20Pairs_j1 (t1 : Int) (o0 : S_spec_l20Rd) (o1008 : (List S_impl_Pair)) : Option ((List S_impl_Pair) × S_spec_l20Rd) :=
  (m_spec_l26With o1008 ([] : (List S_impl_Pair))).bind fun x17 =>
  (m_Pspec_l20Rd_odd o0 t1).bind fun x20 =>
  bif x20.1 then ((m_Pspec_l20Rd_pick x20.2 (9 : Int)).bind fun x22 =>
    (ckI (x22.1 - (1 : Int))).bind fun x23 =>
    (m_Pspec_l20Rd_pick x22.2 (9 : Int)).bind fun x24 =>
    (ckI (x24.1 - (1 : Int))).bind fun x25 =>
    (app? x17 ([(⟨x23, x25⟩ : S_impl_Pair)] : (List S_impl_Pair))).bind fun x26 =>
    m_spec_l20Pairs_j2  x24.2 x26)
  else (m_spec_l20Pairs_j2  x20.2 x17)
def m_spec_l20Pairs_l1 : Nat → Int → Int → S_spec_l20Rd → (List S_impl_Pair) → Option ((List S_impl_Pair) × S_spec_l20Rd)
  | 0, _, _, _, _ => none
  | n1 + 1, t1, t6, o0, o1008 =>
    bif decide (t6 > (0 : Int)) then ((m_Pspec_l20Rd_pick o0 (7 : Int)).bind fun x12 =>
    (m_Pspec_l20Rd_pick x12.2 (7 : Int)).bind fun x13 =>
    (app? o1008 ([(⟨x12.1, x13.1⟩ : S_impl_Pair)] : (List S_impl_Pair))).bind fun x14 =>
    (ckI (t6 - (1 : Int))).bind fun x15 =>
    (m_spec_l20Pairs_l1  n1) t1 x15 x13.2 x14)
    else (m_spec_l20Pairs_j1  t1 o0 o1008)
def m_spec_l20Pairs (o0 : S_spec_l20Rd) (a1 : Int) : Option ((List S_impl_Pair) × S_spec_l20Rd) :=
  (m_Pspec_l20Rd_pick o0 (9 : Int)).bind fun x5 =>
  m_spec_l20Pairs_l1  ((x5.1 - (0 : Int)).toNat + 1) a1 x5.1 x5.2 ([] : (List S_impl_Pair))
theorem c_spec_l20Pairs (o0 : S_spec_l20Rd) (a1 : Int) (r : ((List S_impl_Pair) × S_spec_l20Rd)) (h : m_spec_l20Pairs o0 a1 = some r) : Does Try.prog f_spec_l20Pairs [.ptr 0 0 0, e_int a1] [(0, (vob 2 e_spec_l20Rd o0))] (fun x hh => x = .nw 2 (r.1.map e_impl_Pair) false ∧ hh = [(0, (vob 2 e_spec_l20Rd r.2))]) := by
  refine Does.goG [0] F_spec_l20Pairs rfl e_spec_l20Pairs n_spec_l20Pairs rfl (rvs := [.tmp 4]) rfl rfl ?_
  intro w0 ok0 lent ρ0
  refine LWP.seq_k fun N1 hN1 => ?_
  refine LWP.region (l := [_]) ?_
  refine LWo.assign _ rfl (hn := ?_)
  refine LWo.ownNil 4 1004 2 rfl rfl rfl ?_
  refine LWo.known 4 (.own 1004 0 ([] : (List S_impl_Pair)).length) rfl ?_
  refine LWo.nil (hN1 _ ?_)
  refine LWP.seq_k fun N2 hN2 => ?_
  refine LWP.region (l := [_,_]) ?_
  refine LWo.lit0 1008 u_Limpl_Pair s_impl_Pair z_impl_Pair (hn := ?_)
  refine LWo.known 8 (.own 1008 0 ([] : (List S_impl_Pair)).length) rfl ?_
  refine LWo.assign (.own 1008 0 (([] : (List S_impl_Pair))).length) rfl (hn := ?_)
  refine LWo.nil (hN2 _ ?_)
  refine LWP.join (α := Int × S_spec_l20Rd × (List S_impl_Pair)) (fun z : Int × S_spec_l20Rd × (List S_impl_Pair) => [(0, (.ptr 0 0 0)), (1, (e_int z.1)), (5, (.own 1008 0 (z.2.2).length))]) (fun z : Int × S_spec_l20Rd × (List S_impl_Pair) => [(0, (vob 2 e_spec_l20Rd z.2.1)), (1008, (lob 2 e_impl_Pair z.2.2))]) (fun z : Int × S_spec_l20Rd × (List S_impl_Pair) => m_spec_l20Pairs_j1  z.1 z.2.1 z.2.2) r (fun _ => by simp [hkeys]) ?_ ?_
  ·rintro ⟨t1, o0, o1008⟩ h
   replace h : m_spec_l20Pairs_j1  t1 o0 o1008 = some _ := h
   refine LWP.seq_k fun N16 hN16 => ?_
   refine LWP.region (l := [_,_,_,_]) ?_
   refine LWo.move (.own 1008 0 (o1008).length) rfl (hn := ?_)
   refine LWo.lit0 1024 u_Limpl_Pair s_impl_Pair z_impl_Pair (hn := ?_)
   refine LWo.known 24 (.own 1024 0 ([] : (List S_impl_Pair)).length) rfl ?_
   refine LWo.frzL (f := e_impl_Pair) (l := ([] : (List S_impl_Pair))) [24] 1024 rfl rfl ⟨rfl, trivial⟩ ?_
   refine bk h fun x17 e17 h => ?_
   refine LWo.frzL (f := e_impl_Pair) (l := o1008) [5, 23] 1008 rfl rfl ⟨rfl, rfl, trivial⟩ ?_
   refine LWo.ncall (e := e_impl_Pair) 1025 rfl rfl (c_spec_l26With _ _ _ e17) (.same (.same (.nil))) rfl (hn := ?_)
   refine LWo.assign (.own 1025 0 (x17).length) rfl (hn := ?_)
   refine LWo.nil (hN16 _ ?_)
   refine LWP.join (α := S_spec_l20Rd × (List S_impl_Pair)) (fun z : S_spec_l20Rd × (List S_impl_Pair) => [(7, (.own 1025 0 (z.2).length))]) (fun z : S_spec_l20Rd × (List S_impl_Pair) => [(0, (vob 2 e_spec_l20Rd z.1)), (1025, (lob 2 e_impl_Pair z.2))]) (fun z : S_spec_l20Rd × (List S_impl_Pair) => m_spec_l20Pairs_j2  z.1 z.2) r (fun _ => by simp [hkeys]) ?_ ?_
   ·rintro ⟨o0, o1025⟩ h
    replace h : m_spec_l20Pairs_j2  o0 o1025 = some _ := h
    refine LWP.seq_k fun N27 hN27 => ?_
    refine LWP.region (l := [_,_]) ?_
    refine LWo.move (.own 1025 0 (o1025).length) rfl (hn := ?_)
    refine LWo.assign (.own 1025 0 (o1025).length) rfl (hn := ?_)
    refine LWo.nil (hN27 _ ?_)
    obtain rfl := Option.some.inj h
    refine LWP.ret (QG.mk (.inr rfl) (.cons (.tmp (x := (.own 1025 0 (o1025).length)) rfl) (.nil)) (RetOK.one1 (.nwM rfl rfl) (by decide) rfl rfl rfl rfl rfl) rfl rfl)
   ·intro N18 hN18
    refine LWP.seq_k fun N19 hN19 => ?_
    refine LWP.region (l := [_,_,_]) ?_
    refine LWo.move (.ptr 0 0 0) rfl (hn := ?_)
    refine LWo.move (e_int t1) rfl (hn := ?_)
    refine bk h fun x20 e20 h => ?_
    refine LWo.lcall rfl rfl (k_Pspec_l20Rd_odd _ _ _ e20 0) rfl rfl rfl (hn := ?_)
    refine LWo.nil (hN19 _ ?_)
    refine LWP.cond_split rfl (fun h21 => ?_) (fun h21 => ?_)
    ·have h := bT h21 h
     refine LWP.region (l := [_,_,_,_,_,_,_,_,_,_,_]) ?_
     refine LWo.move (.own 1025 0 (x17).length) rfl (hn := ?_)
     refine LWo.move (.ptr 0 0 0) rfl (hn := ?_)
     refine bk h fun x22 e22 h => ?_
     refine LWo.lcall rfl rfl (k_Pspec_l20Rd_pick _ _ _ e22 0) rfl rfl rfl (hn := ?_)
     refine bk h fun x23 e23 h => ?_
     refine LWo.int _ rfl rfl (sub_ck e23) (hn := ?_)
     refine LWo.move (.ptr 0 0 0) rfl (hn := ?_)
     refine bk h fun x24 e24 h => ?_
     refine LWo.lcall rfl rfl (k_Pspec_l20Rd_pick _ _ _ e24 0) rfl rfl rfl (hn := ?_)
     refine bk h fun x25 e25 h => ?_
     refine LWo.int _ rfl rfl (sub_ck e25) (hn := ?_)
     refine LWo.build_impl_Pair (parts := [_, _]) (⟨x23, x25⟩ : S_impl_Pair) rfl rfl rfl .refl (hn := ?_)
     refine LWo.lit (ops := [_]) [(e_impl_Pair (⟨x23, x25⟩ : S_impl_Pair))] u_Limpl_Pair s_impl_Pair z_impl_Pair rfl rfl rfl rfl rfl rfl (hn := ?_)
     refine bk h fun x26 e26 h => ?_
     refine LWo.appendM (f := e_impl_Pair) e26 rfl u_Limpl_Pair u_Limpl_Pair (fun _ h => by cases h) s_impl_Pair i_impl_Pair rfl rfl rfl (.sl rfl) rfl rfl (hn := ?_)
     refine LWo.assign (.own 1025 0 (x26).length) rfl (hn := ?_)
     refine LWo.nil (hN18 (x24.2, x26) _ ⟨rfl, trivial⟩ ⟨rfl, rfl, trivial⟩ h)
    ·have h := bF h21 h
     refine LWP.skip (hN18 (x20.2, x17) _ ⟨rfl, trivial⟩ ⟨rfl, rfl, trivial⟩ h)
  ·intro N3 hN3
   refine LWP.seq_k fun N4 hN4 => ?_
   refine LWP.region (l := [_,_,_]) ?_
   refine LWo.move (.ptr 0 0 0) rfl (hn := ?_)
   refine bk h fun x5 e5 h => ?_
   refine LWo.lcall rfl rfl (k_Pspec_l20Rd_pick _ _ _ e5 0) rfl rfl rfl (hn := ?_)
   refine LWo.assign (e_int x5.1) rfl (hn := ?_)
   refine LWo.nil (hN4 _ ?_)
   refine LWP.block ?_
   refine LWP.loopM (α := Int × Int × S_spec_l20Rd × (List S_impl_Pair)) (fun z : Int × Int × S_spec_l20Rd × (List S_impl_Pair) => [(0, (.ptr 0 0 0)), (1, (e_int z.1)), (5, (.own 1008 0 (z.2.2.2).length)), (6, (e_int z.2.1))]) (fun z : Int × Int × S_spec_l20Rd × (List S_impl_Pair) => [(0, (vob 2 e_spec_l20Rd z.2.2.1)), (1008, (lob 2 e_impl_Pair z.2.2.2))]) (fun n1 (z : Int × Int × S_spec_l20Rd × (List S_impl_Pair)) => m_spec_l20Pairs_l1  n1 z.1 z.2.1 z.2.2.1 z.2.2.2) r _ (a1, x5.1, x5.2, ([] : (List S_impl_Pair))) h (fun _ => rfl) (fun _ => by simp [hkeys]) ⟨rfl, rfl, rfl, rfl, trivial⟩ ⟨rfl, rfl, trivial⟩ ?_
   rintro n1 ⟨t1, t6, o0, o1008⟩ h N6 hN6
   replace h : m_spec_l20Pairs_l1  (n1 + 1) t1 t6 o0 o1008 = some _ := h
   refine LWP.seq_k fun N8 hN8 => ?_
   refine LWP.seq_k fun N9 hN9 => ?_
   refine LWP.region (l := [_,_]) ?_
   refine LWo.move (e_int t6) rfl (hn := ?_)
   refine LWo.int _ rfl rfl rfl (hn := ?_)
   refine LWo.nil (hN9 _ ?_)
   refine LWP.cond_split rfl (fun h10 => ?_) (fun h10 => ?_)
   ·have h := bT h10 h
    refine LWP.skip (hN8 _ ?_)
    refine LWP.seq_k fun N11 hN11 => ?_
    refine LWP.block ?_
    refine LWP.region (l := [_,_,_,_,_,_,_,_,_]) ?_
    refine LWo.move (.own 1008 0 (o1008).length) rfl (hn := ?_)
    refine LWo.move (.ptr 0 0 0) rfl (hn := ?_)
    refine bk h fun x12 e12 h => ?_
    refine LWo.lcall rfl rfl (k_Pspec_l20Rd_pick _ _ _ e12 0) rfl rfl rfl (hn := ?_)
    refine LWo.move (.ptr 0 0 0) rfl (hn := ?_)
    refine bk h fun x13 e13 h => ?_
    refine LWo.lcall rfl rfl (k_Pspec_l20Rd_pick _ _ _ e13 0) rfl rfl rfl (hn := ?_)
    refine LWo.build_impl_Pair (parts := [_, _]) (⟨x12.1, x13.1⟩ : S_impl_Pair) rfl rfl rfl .refl (hn := ?_)
    refine LWo.lit (ops := [_]) [(e_impl_Pair (⟨x12.1, x13.1⟩ : S_impl_Pair))] u_Limpl_Pair s_impl_Pair z_impl_Pair rfl rfl rfl rfl rfl rfl (hn := ?_)
    refine bk h fun x14 e14 h => ?_
    refine LWo.appendM (f := e_impl_Pair) e14 rfl u_Limpl_Pair u_Limpl_Pair (fun _ h => by cases h) s_impl_Pair i_impl_Pair rfl rfl rfl (.sl rfl) rfl rfl (hn := ?_)
    refine LWo.assign (.own 1008 0 (x14).length) rfl (hn := ?_)
    refine LWo.nil (hN11 _ ?_)
    refine LWP.region (l := [_,_,_]) ?_
    refine LWo.move (e_int t6) rfl (hn := ?_)
    refine bk h fun x15 e15 h => ?_
    refine LWo.int _ rfl rfl (sub_ck e15) (hn := ?_)
    refine LWo.assign (e_int x15) rfl (hn := ?_)
    refine LWo.nil (hN6 (t1, x15, x13.2, x14) _ ⟨rfl, rfl, rfl, rfl, trivial⟩ ⟨rfl, rfl, trivial⟩ h)
   ·have h := bF h10 h
    refine LWP.exit (hN3 (t1, o0, o1008) _ ⟨rfl, rfl, rfl, trivial⟩ ⟨rfl, rfl, trivial⟩ h)
theorem k_spec_l20Pairs (o0 : S_spec_l20Rd) (a1 : Int) (r : ((List S_impl_Pair) × S_spec_l20Rd)) (h : m_spec_l20Pairs o0 a1 = some r) (k : Nat) : Does Try.prog f_spec_l20Pairs [.ptr k 0 0, e_int a1] [(k, (vob 2 e_spec_l20Rd o0))] (fun x hh => x = .nw 2 (r.1.map e_impl_Pair) false ∧ hh = [(k, (vob 2 e_spec_l20Rd r.2))]) :=
  Does.nameV (c_spec_l20Pairs o0 a1 r h) rfl rfl rfl rfl rfl rfl k

def m_spec_DrawTwoPairs (a0 : (List UInt8)) : Option ((List S_impl_Pair) × (List S_impl_Pair)) :=
  (m_spec_l20Open a0).bind fun x3 =>
  (m_spec_l20Pairs x3 (0 : Int)).bind fun x5 =>
  (m_spec_l20Pairs x5.2 (0 : Int)).bind fun x6 =>
  some (x5.1, x6.1)
theorem c_spec_DrawTwoPairs (a0 : (List UInt8)) (r : ((List S_impl_Pair) × (List S_impl_Pair))) (h : m_spec_DrawTwoPairs a0 = some r) : Ret Try.prog f_spec_DrawTwoPairs [e_Luint8 a0] (.tup [e_Limpl_Pair r.1, e_Limpl_Pair r.2]) := by
  refine Does.goG [] F_spec_DrawTwoPairs rfl e_spec_DrawTwoPairs n_spec_DrawTwoPairs rfl (rvs := [.tmp 2, .tmp 3]) rfl rfl ?_
  intro w0 ok0 lent ρ0
  refine LWP.seq_k fun N1 hN1 => ?_
  refine LWP.region (l := [_,_]) ?_
  refine LWo.assign _ rfl (hn := ?_)
  refine LWo.weakT 2 (e_Limpl_Pair ([] : (List S_impl_Pair))) rfl .nil ?_
  refine LWo.assign _ rfl (hn := ?_)
  refine LWo.weakT 3 (e_Limpl_Pair ([] : (List S_impl_Pair))) rfl .nil ?_
  refine LWo.nil (hN1 _ ?_)
  refine LWP.seq_k fun N2 hN2 => ?_
  refine LWP.region (l := [_,_,_]) ?_
  refine LWo.move (e_Luint8 a0) rfl (hn := ?_)
  refine bk h fun x3 e3 h => ?_
  refine LWo.bcallM (e := e_spec_l20Rd) 6 rfl rfl (c_spec_l20Open _ _ e3) (.same (.nil)) rfl rfl rfl (hn := ?_)
  refine LWo.assign (.ptr 6 0 0) rfl (hn := ?_)
  refine LWo.nil (hN2 _ ?_)
  refine LWP.seq_k fun N4 hN4 => ?_
  refine LWP.region (l := [_,_,_,_,_,_]) ?_
  refine LWo.move (.ptr 6 0 0) rfl (hn := ?_)
  refine bk h fun x5 e5 h => ?_
  refine LWo.lcall rfl rfl (k_spec_l20Pairs _ _ _ e5 6) rfl rfl rfl (hn := ?_)
  refine LWo.move (.ptr 6 0 0) rfl (hn := ?_)
  refine bk h fun x6 e6 h => ?_
  refine LWo.lcall rfl rfl (k_spec_l20Pairs _ _ _ e6 6) rfl rfl rfl (hn := ?_)
  refine LWo.assign (e_Limpl_Pair x5.1) rfl (hn := ?_)
  refine LWo.assign (e_Limpl_Pair x6.1) rfl (hn := ?_)
  refine LWo.nil (hN4 _ ?_)
  obtain rfl := Option.some.inj h
  refine LWP.ret (QG.mk (.inr rfl) (.cons (.tmp (x := (e_Limpl_Pair x5.1)) rfl) (.cons (.tmp (x := (e_Limpl_Pair x6.1)) rfl) (.nil))) (RetOK.many0 (.cons (.pure rfl) (.cons (.pure rfl) (.nil))) (by simp) (by decide)) rfl rfl)

def m_impl_between_j1 (t6 : Bool) : Option Bool :=
  some t6
def m_impl_between (a0 : Int) (a1 : Int) (a2 : Int) : Option Bool :=
  bif decide (a0 ≥ a1) then (m_impl_between_j1  (decide (a0 ≤ a2)))
  else (m_impl_between_j1  false)
theorem c_impl_between (a0 : Int) (a1 : Int) (a2 : Int) (r : Bool) (h : m_impl_between a0 a1 a2 = some r) : Ret Try.prog f_impl_between [e_int a0, e_int a1, e_int a2] (e_bool r) := by
  refine Does.goG [] F_impl_between rfl e_impl_between n_impl_between rfl (rvs := [.tmp 6]) rfl rfl ?_
  intro w0 ok0 lent ρ0
  refine LWP.seq_k fun N1 hN1 => ?_
  refine LWP.region (l := [_]) ?_
  refine LWo.assign (e_bool false) rfl (hn := ?_)
  refine LWo.nil (hN1 _ ?_)
  refine LWP.join (α := Bool) (fun z : Bool => [(6, (e_bool z))]) (fun z : Bool => []) (fun z : Bool => m_impl_between_j1  z) r (fun _ => by simp [hkeys]) ?_ ?_
  ·rintro t6 h
   replace h : m_impl_between_j1  t6 = some _ := h
   obtain rfl := Option.some.inj h
   refine LWP.ret (QG.mk (.inr rfl) (.cons (.tmp (x := (e_bool t6)) rfl) (.nil)) (RetOK.one0 (.pure rfl) (by decide)) rfl rfl)
  ·intro N2 hN2
   refine LWP.region (l := [_,_,_,_,_,_,_,_,_]) ?_
   refine LWo.move (e_int a0) rfl (hn := ?_)
   refine LWo.move (e_int a1) rfl (hn := ?_)
   refine LWo.int _ rfl rfl rfl (hn := ?_)
   refine LWo.move (e_bool (decide (a0 ≥ a1))) rfl (hn := ?_)
   refine LWo.byCases (t := 10) _ rfl (fun h3 => ?_) (fun h3 => ?_)
   ·have h := bT h3 h
    refine LWo.guardY (t := 10) rfl h3 rfl rfl ?_
    refine LWo.move (e_int a0) rfl (hn := ?_)
    refine LWo.guardY (t := 10) rfl h3 rfl rfl ?_
    refine LWo.move (e_int a2) rfl (hn := ?_)
    refine LWo.guardY (t := 10) rfl h3 rfl rfl ?_
    refine LWo.int _ rfl rfl rfl (hn := ?_)
    refine LWo.pickTM (e_bool (decide (a0 ≤ a2))) rfl h3 rfl (hn := ?_)
    refine LWo.assign (e_bool (decide (a0 ≤ a2))) rfl (hn := ?_)
    refine LWo.nil (hN2 (decide (a0 ≤ a2)) _ ⟨rfl, trivial⟩ trivial h)
   ·have h := bF h3 h
    refine LWo.guardNU (t := 10) rfl h3 rfl rfl rfl rfl rfl ?_
    refine LWo.guardNU (t := 10) rfl h3 rfl rfl rfl rfl rfl ?_
    refine LWo.guardNU (t := 10) rfl h3 rfl rfl rfl rfl rfl ?_
    refine LWo.pickFM (e_bool false) rfl h3 rfl (hn := ?_)
    refine LWo.assign (e_bool false) rfl (hn := ?_)
    refine LWo.nil (hN2 false _ ⟨rfl, trivial⟩ trivial h)

def m_impl_Pair_ok_j1 (t2 : Bool) : Option Bool :=
  some t2
def m_impl_Pair_ok (a0 : S_impl_Pair) : Option Bool :=
  (m_impl_between a0.From (0 : Int) (6 : Int)).bind fun x3 =>
  bif x3 then ((m_impl_between a0.To (0 : Int) (6 : Int)).bind fun x5 =>
    m_impl_Pair_ok_j1  x5)
  else (m_impl_Pair_ok_j1  false)
theorem c_impl_Pair_ok (a0 : S_impl_Pair) (r : Bool) (h : m_impl_Pair_ok a0 = some r) : Ret Try.prog f_impl_Pair_ok [e_impl_Pair a0] (e_bool r) := by
  refine Does.goG [] F_impl_Pair_ok rfl e_impl_Pair_ok n_impl_Pair_ok rfl (rvs := [.tmp 2]) rfl rfl ?_
  intro w0 ok0 lent ρ0
  refine LWP.seq_k fun N1 hN1 => ?_
  refine LWP.region (l := [_,_]) ?_
  refine LWo.boxF (e_impl_Pair a0) rfl rfl rfl (hn := ?_)
  refine LWo.assign (e_bool false) rfl (hn := ?_)
  refine LWo.nil (hN1 _ ?_)
  refine LWP.join (α := Bool) (fun z : Bool => [(2, (e_bool z))]) (fun z : Bool => []) (fun z : Bool => m_impl_Pair_ok_j1  z) r (fun _ => by simp [hkeys]) ?_ ?_
  ·rintro t2 h
   replace h : m_impl_Pair_ok_j1  t2 = some _ := h
   obtain rfl := Option.some.inj h
   refine LWP.ret (QG.mk (.inr rfl) (.cons (.tmp (x := (e_bool t2)) rfl) (.nil)) (RetOK.one0 (.pure rfl) (by decide)) rfl rfl)
  ·intro N2 hN2
   refine LWP.region (l := [_,_,_,_,_,_,_,_,_]) ?_
   refine LWo.fieldAddr _ u_impl_Pair rfl s_int rfl rfl (hn := ?_)
   refine LWo.load1 (c := (e_int a0.From)) g_int rfl (hn := ?_)
   refine bk h fun x3 e3 h => ?_
   refine LWo.vcall rfl rfl (c_impl_between _ _ _ _ e3) (.same (.same (.same (.nil)))) (hn := ?_)
   refine LWo.move (e_bool x3) rfl (hn := ?_)
   refine LWo.byCases (t := 6) _ rfl (fun h4 => ?_) (fun h4 => ?_)
   ·have h := bT h4 h
    refine LWo.guardY (t := 6) rfl h4 rfl rfl ?_
    refine LWo.fieldAddr _ u_impl_Pair rfl s_int rfl rfl (hn := ?_)
    refine LWo.guardY (t := 6) rfl h4 rfl rfl ?_
    refine LWo.load1 (c := (e_int a0.To)) g_int rfl (hn := ?_)
    refine bk h fun x5 e5 h => ?_
    refine LWo.guardY (t := 6) rfl h4 rfl rfl ?_
    refine LWo.vcall rfl rfl (c_impl_between _ _ _ _ e5) (.same (.same (.same (.nil)))) (hn := ?_)
    refine LWo.pickTM (e_bool x5) rfl h4 rfl (hn := ?_)
    refine LWo.assign (e_bool x5) rfl (hn := ?_)
    refine LWo.nil (hN2 x5 _ ⟨rfl, trivial⟩ trivial h)
   ·have h := bF h4 h
    refine LWo.guardNU (t := 6) rfl h4 rfl rfl rfl rfl rfl ?_
    refine LWo.guardNU (t := 6) rfl h4 rfl rfl rfl rfl rfl ?_
    refine LWo.guardNU (t := 6) rfl h4 rfl rfl rfl rfl rfl ?_
    refine LWo.pickFM (e_bool false) rfl h4 rfl (hn := ?_)
    refine LWo.assign (e_bool false) rfl (hn := ?_)
    refine LWo.nil (hN2 false _ ⟨rfl, trivial⟩ trivial h)

def m_cmp_isNaN_int (a0 : Int) : Option Bool :=
  some (a0 != a0)
theorem c_cmp_isNaN_int (a0 : Int) (r : Bool) (h : m_cmp_isNaN_int a0 = some r) : Ret Try.prog f_cmp_isNaN_int [e_int a0] (e_bool r) := by
  refine Does.goG [] F_cmp_isNaN_int rfl e_cmp_isNaN_int n_cmp_isNaN_int rfl (rvs := [.tmp 2]) rfl rfl ?_
  intro w0 ok0 lent ρ0
  refine LWP.seq_k fun N1 hN1 => ?_
  refine LWP.region (l := [_]) ?_
  refine LWo.assign (e_bool false) rfl (hn := ?_)
  refine LWo.nil (hN1 _ ?_)
  refine LWP.seq_k fun N2 hN2 => ?_
  refine LWP.region (l := [_,_,_,_]) ?_
  refine LWo.move (e_int a0) rfl (hn := ?_)
  refine LWo.move (e_int a0) rfl (hn := ?_)
  refine LWo.int _ rfl rfl rfl (hn := ?_)
  refine LWo.assign (e_bool (a0 != a0)) rfl (hn := ?_)
  refine LWo.nil (hN2 _ ?_)
  obtain rfl := Option.some.inj h
  refine LWP.ret (QG.mk (.inr rfl) (.cons (.tmp (x := (e_bool (a0 != a0))) rfl) (.nil)) (RetOK.one0 (.pure rfl) (by decide)) rfl rfl)

def m_cmp_Compare_int (a0 : Int) (a1 : Int) : Option Int :=
  (m_cmp_isNaN_int a0).bind fun x3 =>
  (m_cmp_isNaN_int a1).bind fun x5 =>
  bif x3 then (bif x5 then (some (0 : Int))
    else (some (-1 : Int)))
  else (bif x5 then (some (1 : Int))
  else (bif decide (a0 < a1) then (some (-1 : Int))
  else (bif decide (a0 > a1) then (some (1 : Int))
  else (some (0 : Int)))))
theorem c_cmp_Compare_int (a0 : Int) (a1 : Int) (r : Int) (h : m_cmp_Compare_int a0 a1 = some r) : Ret Try.prog f_cmp_Compare_int [e_int a0, e_int a1] (e_int r) := by
  refine Does.goG [] F_cmp_Compare_int rfl e_cmp_Compare_int n_cmp_Compare_int rfl (rvs := [.tmp 4]) rfl rfl ?_
  intro w0 ok0 lent ρ0
  refine LWP.seq_k fun N1 hN1 => ?_
  refine LWP.region (l := [_]) ?_
  refine LWo.assign (e_int (0 : Int)) rfl (hn := ?_)
  refine LWo.nil (hN1 _ ?_)
  refine LWP.seq_k fun N2 hN2 => ?_
  refine LWP.region (l := [_,_,_]) ?_
  refine LWo.move (e_int a0) rfl (hn := ?_)
  refine bk h fun x3 e3 h => ?_
  refine LWo.vcall rfl rfl (c_cmp_isNaN_int _ _ e3) (.same (.nil)) (hn := ?_)
  refine LWo.assign (e_bool x3) rfl (hn := ?_)
  refine LWo.nil (hN2 _ ?_)
  refine LWP.seq_k fun N4 hN4 => ?_
  refine LWP.region (l := [_,_,_]) ?_
  refine LWo.move (e_int a1) rfl (hn := ?_)
  refine bk h fun x5 e5 h => ?_
  refine LWo.vcall rfl rfl (c_cmp_isNaN_int _ _ e5) (.same (.nil)) (hn := ?_)
  refine LWo.assign (e_bool x5) rfl (hn := ?_)
  refine LWo.nil (hN4 _ ?_)
  refine LWP.seq_k fun N6 hN6 => ?_
  refine LWP.seq_k fun N7 hN7 => ?_
  refine LWP.region (l := [_]) ?_
  refine LWo.move (e_bool x3) rfl (hn := ?_)
  refine LWo.nil (hN7 _ ?_)
  refine LWP.cond_split rfl (fun h8 => ?_) (fun h8 => ?_)
  ·have h := bT h8 h
   refine LWP.seq_k fun N9 hN9 => ?_
   refine LWP.seq_k fun N10 hN10 => ?_
   refine LWP.region (l := [_]) ?_
   refine LWo.move (e_bool x5) rfl (hn := ?_)
   refine LWo.nil (hN10 _ ?_)
   refine LWP.cond_split rfl (fun h11 => ?_) (fun h11 => ?_)
   ·have h := bT h11 h
    refine LWP.seq_k fun N12 hN12 => ?_
    refine LWP.region (l := [_]) ?_
    refine LWo.assign (e_int (0 : Int)) rfl (hn := ?_)
    refine LWo.nil (hN12 _ ?_)
    obtain rfl := Option.some.inj h
    refine LWP.ret (QG.mk (.inr rfl) (.cons (.tmp (x := (e_int (0 : Int))) rfl) (.nil)) (RetOK.one0 (.pure rfl) (by decide)) rfl rfl)
   ·have h := bF h11 h
    refine LWP.skip (hN9 _ ?_)
    refine LWP.seq_k fun N13 hN13 => ?_
    refine LWP.region (l := [_]) ?_
    refine LWo.assign (e_int (-1 : Int)) rfl (hn := ?_)
    refine LWo.nil (hN13 _ ?_)
    obtain rfl := Option.some.inj h
    refine LWP.ret (QG.mk (.inr rfl) (.cons (.tmp (x := (e_int (-1 : Int))) rfl) (.nil)) (RetOK.one0 (.pure rfl) (by decide)) rfl rfl)
  ·have h := bF h8 h
   refine LWP.skip (hN6 _ ?_)
   refine LWP.seq_k fun N14 hN14 => ?_
   refine LWP.seq_k fun N15 hN15 => ?_
   refine LWP.region (l := [_]) ?_
   refine LWo.move (e_bool x5) rfl (hn := ?_)
   refine LWo.nil (hN15 _ ?_)
   refine LWP.cond_split rfl (fun h16 => ?_) (fun h16 => ?_)
   ·have h := bT h16 h
    refine LWP.seq_k fun N17 hN17 => ?_
    refine LWP.region (l := [_]) ?_
    refine LWo.assign (e_int (1 : Int)) rfl (hn := ?_)
    refine LWo.nil (hN17 _ ?_)
    obtain rfl := Option.some.inj h
    refine LWP.ret (QG.mk (.inr rfl) (.cons (.tmp (x := (e_int (1 : Int))) rfl) (.nil)) (RetOK.one0 (.pure rfl) (by decide)) rfl rfl)
   ·have h := bF h16 h
    refine LWP.skip (hN14 _ ?_)
    refine LWP.seq_k fun N18 hN18 => ?_
    refine LWP.seq_k fun N19 hN19 => ?_
    refine LWP.region (l := [_,_,_]) ?_
    refine LWo.move (e_int a0) rfl (hn := ?_)
    refine LWo.move (e_int a1) rfl (hn := ?_)
    refine LWo.int _ rfl rfl rfl (hn := ?_)
    refine LWo.nil (hN19 _ ?_)
    refine LWP.cond_split rfl (fun h20 => ?_) (fun h20 => ?_)
    ·have h := bT h20 h
     refine LWP.seq_k fun N21 hN21 => ?_
     refine LWP.region (l := [_]) ?_
     refine LWo.assign (e_int (-1 : Int)) rfl (hn := ?_)
     refine LWo.nil (hN21 _ ?_)
     obtain rfl := Option.some.inj h
     refine LWP.ret (QG.mk (.inr rfl) (.cons (.tmp (x := (e_int (-1 : Int))) rfl) (.nil)) (RetOK.one0 (.pure rfl) (by decide)) rfl rfl)
    ·have h := bF h20 h
     refine LWP.skip (hN18 _ ?_)
     refine LWP.seq_k fun N22 hN22 => ?_
     refine LWP.seq_k fun N23 hN23 => ?_
     refine LWP.region (l := [_,_,_]) ?_
     refine LWo.move (e_int a0) rfl (hn := ?_)
     refine LWo.move (e_int a1) rfl (hn := ?_)
     refine LWo.int _ rfl rfl rfl (hn := ?_)
     refine LWo.nil (hN23 _ ?_)
     refine LWP.cond_split rfl (fun h24 => ?_) (fun h24 => ?_)
     ·have h := bT h24 h
      refine LWP.seq_k fun N25 hN25 => ?_
      refine LWP.region (l := [_]) ?_
      refine LWo.assign (e_int (1 : Int)) rfl (hn := ?_)
      refine LWo.nil (hN25 _ ?_)
      obtain rfl := Option.some.inj h
      refine LWP.ret (QG.mk (.inr rfl) (.cons (.tmp (x := (e_int (1 : Int))) rfl) (.nil)) (RetOK.one0 (.pure rfl) (by decide)) rfl rfl)
     ·have h := bF h24 h
      refine LWP.skip (hN22 _ ?_)
      refine LWP.seq_k fun N26 hN26 => ?_
      refine LWP.region (l := [_]) ?_
      refine LWo.assign (e_int (0 : Int)) rfl (hn := ?_)
      refine LWo.nil (hN26 _ ?_)
      obtain rfl := Option.some.inj h
      refine LWP.ret (QG.mk (.inr rfl) (.cons (.tmp (x := (e_int (0 : Int))) rfl) (.nil)) (RetOK.one0 (.pure rfl) (by decide)) rfl rfl)

def m_cmp_Or_int_j1 (t3 : Int) : Option Int :=
  some t3
def m_cmp_Or_int_l1 : Nat → Int → (List Int) → Int → Int → Option Int
  | 0, _, _, _, _ => none
  | n1 + 1, t3, t6, t7, t8 =>
    bif decide (t8 < t7) then ((at? t6 t8).bind fun x12 =>
    bif (x12 != t3) then (some x12)
    else ((ckI (t8 + (1 : Int))).bind fun x16 =>
    (m_cmp_Or_int_l1  n1) t3 t6 t7 x16))
    else (m_cmp_Or_int_j1  t3)
def m_cmp_Or_int (a0 : (List Int)) : Option Int :=
  m_cmp_Or_int_l1  (((a0.length : Int) - (0 : Int)).toNat + 1) (0 : Int) a0 (a0.length : Int) (0 : Int)
theorem c_cmp_Or_int (a0 : (List Int)) (r : Int) (h : m_cmp_Or_int a0 = some r) : Ret Try.prog f_cmp_Or_int [e_Lint a0] (e_int r) := by
  refine Does.goG [] F_cmp_Or_int rfl e_cmp_Or_int n_cmp_Or_int rfl (rvs := [.tmp 2]) rfl rfl ?_
  intro w0 ok0 lent ρ0
  refine LWP.seq_k fun N1 hN1 => ?_
  refine LWP.region (l := [_]) ?_
  refine LWo.assign (e_int (0 : Int)) rfl (hn := ?_)
  refine LWo.nil (hN1 _ ?_)
  refine LWP.seq_k fun N2 hN2 => ?_
  refine LWP.region (l := [_]) ?_
  refine LWo.assign (e_int (0 : Int)) rfl (hn := ?_)
  refine LWo.nil (hN2 _ ?_)
  refine LWP.join (α := Int) (fun z : Int => [(3, (e_int z))]) (fun z : Int => []) (fun z : Int => m_cmp_Or_int_j1  z) r (fun _ => by simp [hkeys]) ?_ ?_
  ·rintro t3 h
   replace h : m_cmp_Or_int_j1  t3 = some _ := h
   refine LWP.seq_k fun N17 hN17 => ?_
   refine LWP.region (l := [_,_]) ?_
   refine LWo.move (e_int t3) rfl (hn := ?_)
   refine LWo.assign (e_int t3) rfl (hn := ?_)
   refine LWo.nil (hN17 _ ?_)
   obtain rfl := Option.some.inj h
   refine LWP.ret (QG.mk (.inr rfl) (.cons (.tmp (x := (e_int t3)) rfl) (.nil)) (RetOK.one0 (.pure rfl) (by decide)) rfl rfl)
  ·intro N3 hN3
   refine LWP.seq_k fun N4 hN4 => ?_
   refine LWP.region (l := [_,_,_]) ?_
   refine LWo.move (e_Lint a0) rfl (hn := ?_)
   refine LWo.lenM (f := e_int) (l := a0) u_Lint rfl (hn := ?_)
   refine LWo.move (e_int (0 : Int)) rfl (hn := ?_)
   refine LWo.nil (hN4 _ ?_)
   refine LWP.block ?_
   refine LWP.loopM (α := Int × (List Int) × Int × Int) (fun z : Int × (List Int) × Int × Int => [(3, (e_int z.1)), (6, (e_Lint z.2.1)), (7, (e_int z.2.2.1)), (8, (e_int z.2.2.2))]) (fun z : Int × (List Int) × Int × Int => []) (fun n1 (z : Int × (List Int) × Int × Int) => m_cmp_Or_int_l1  n1 z.1 z.2.1 z.2.2.1 z.2.2.2) r _ ((0 : Int), a0, (a0.length : Int), (0 : Int)) h (fun _ => rfl) (fun _ => by simp [hkeys]) ⟨rfl, rfl, rfl, rfl, trivial⟩ trivial ?_
   rintro n1 ⟨t3, t6, t7, t8⟩ h N5 hN5
   replace h : m_cmp_Or_int_l1  (n1 + 1) t3 t6 t7 t8 = some _ := h
   refine LWP.seq_k fun N7 hN7 => ?_
   refine LWP.region (l := [_]) ?_
   refine LWo.int _ rfl rfl rfl (hn := ?_)
   refine LWo.nil (hN7 _ ?_)
   refine LWP.seq_k fun N8 hN8 => ?_
   refine LWP.cond_split rfl (fun h9 => ?_) (fun h9 => ?_)
   ·have h := bT h9 h
    refine LWP.skip (hN8 _ ?_)
    refine LWP.seq_k fun N10 hN10 => ?_
    refine LWP.block ?_
    refine LWP.seq_k fun N11 hN11 => ?_
    refine LWP.region (l := [_,_,_]) ?_
    refine bk h fun x12 e12 h => ?_
    refine LWo.indexM (f := e_int) e12 u_Lint s_int rfl rfl (hn := ?_)
    refine LWo.load1 (c := (e_int x12)) g_int rfl (hn := ?_)
    refine LWo.assign (e_int x12) rfl (hn := ?_)
    refine LWo.nil (hN11 _ ?_)
    refine LWP.seq_k fun N13 hN13 => ?_
    refine LWP.region (l := [_,_,_]) ?_
    refine LWo.move (e_int x12) rfl (hn := ?_)
    refine LWo.move (e_int t3) rfl (hn := ?_)
    refine LWo.int _ rfl rfl rfl (hn := ?_)
    refine LWo.nil (hN13 _ ?_)
    refine LWP.cond_split rfl (fun h14 => ?_) (fun h14 => ?_)
    ·have h := bT h14 h
     refine LWP.seq_k fun N15 hN15 => ?_
     refine LWP.region (l := [_,_]) ?_
     refine LWo.move (e_int x12) rfl (hn := ?_)
     refine LWo.assign (e_int x12) rfl (hn := ?_)
     refine LWo.nil (hN15 _ ?_)
     obtain rfl := Option.some.inj h
     refine LWP.ret (QG.mk (.inr rfl) (.cons (.tmp (x := (e_int x12)) rfl) (.nil)) (RetOK.one0 (.pure rfl) (by decide)) rfl rfl)
    ·have h := bF h14 h
     refine LWP.skip (hN10 _ ?_)
     refine LWP.region (l := [_,_]) ?_
     refine bk h fun x16 e16 h => ?_
     refine LWo.int _ rfl rfl (add_ck e16) (hn := ?_)
     refine LWo.move (e_int x16) rfl (hn := ?_)
     refine LWo.nil (hN5 (t3, t6, t7, x16) _ ⟨rfl, rfl, rfl, rfl, trivial⟩ trivial h)
   ·have h := bF h9 h
    refine LWP.exit (hN3 t3 _ ⟨rfl, trivial⟩ trivial h)

def m_impl_Pair_order (a0 : S_impl_Pair) (a1 : S_impl_Pair) : Option Int :=
  (m_cmp_Compare_int a0.From a1.From).bind fun x3 =>
  (m_cmp_Compare_int a0.To a1.To).bind fun x4 =>
  (m_cmp_Or_int ([x3, x4] : (List Int))).bind fun x5 =>
  some x5
theorem c_impl_Pair_order (a0 : S_impl_Pair) (a1 : S_impl_Pair) (r : Int) (h : m_impl_Pair_order a0 a1 = some r) : Ret Try.prog f_impl_Pair_order [e_impl_Pair a0, e_impl_Pair a1] (e_int r) := by
  refine Does.goG [] F_impl_Pair_order rfl e_impl_Pair_order n_impl_Pair_order rfl (rvs := [.tmp 4]) rfl rfl ?_
  intro w0 ok0 lent ρ0
  refine LWP.seq_k fun N1 hN1 => ?_
  refine LWP.region (l := [_,_,_]) ?_
  refine LWo.boxF (e_impl_Pair a0) rfl rfl rfl (hn := ?_)
  refine LWo.boxF (e_impl_Pair a1) rfl rfl rfl (hn := ?_)
  refine LWo.assign (e_int (0 : Int)) rfl (hn := ?_)
  refine LWo.nil (hN1 _ ?_)
  refine LWP.seq_k fun N2 hN2 => ?_
  refine bk h fun x3 e3 h => ?_
  refine bk h fun x4 e4 h => ?_
  refine bk h fun x5 e5 h => ?_
  refine LWP.drawF (l := [_,_,_,_,_,_,_,_,_,_,_,_,_]) [] [2, 3] [([2], []), ([5], []), ([3], []), ([7], []), ([6, 8], []), ([2], []), ([10], []), ([3], []), ([12], []), ([11, 13], []), ([9, 14], []), ([15], []), ([16], [])] [4] [] mixed (by kernel_rfl) rfl (by decide) ?_
  refine dq 5 rfl (fun _ g u h => LWo.fieldAddr _ u_impl_Pair rfl s_int u.1 rfl (hn := .nil (zn g))) ?_
  refine dq 6 rfl (fun _ g u h => LWo.load1 (c := (e_int a0.From)) g_int u.1 (hn := .nil (zn g))) ?_
  refine dq 7 rfl (fun _ g u h => LWo.fieldAddr _ u_impl_Pair rfl s_int u.1 rfl (hn := .nil (zn g))) ?_
  refine dq 8 rfl (fun _ g u h => LWo.load1 (c := (e_int a1.From)) g_int u.1 (hn := .nil (zn g))) ?_
  refine dq 9 rfl (fun _ g u h => LWo.vcall rfl (av2 u.1 u.2.1) (c_cmp_Compare_int _ _ _ e3) (.same (.same (.nil))) (hn := .nil (zn g))) ?_
  refine dq 10 rfl (fun _ g u h => LWo.fieldAddr _ u_impl_Pair rfl s_int u.1 rfl (hn := .nil (zn g))) ?_
  refine dq 11 rfl (fun _ g u h => LWo.load1 (c := (e_int a0.To)) g_int u.1 (hn := .nil (zn g))) ?_
  refine dq 12 rfl (fun _ g u h => LWo.fieldAddr _ u_impl_Pair rfl s_int u.1 rfl (hn := .nil (zn g))) ?_
  refine dq 13 rfl (fun _ g u h => LWo.load1 (c := (e_int a1.To)) g_int u.1 (hn := .nil (zn g))) ?_
  refine dq 14 rfl (fun _ g u h => LWo.vcall rfl (av2 u.1 u.2.1) (c_cmp_Compare_int _ _ _ e4) (.same (.same (.nil))) (hn := .nil (zn g))) ?_
  refine dq 15 rfl (fun _ g u h => LWo.lit (ops := [_, _]) [(e_int x3), (e_int x4)] u_Lint s_int z_int (lv2 u.1 u.2.1) rfl rfl rfl rfl rfl (hn := .nil (zn g))) ?_
  refine dq 16 rfl (fun _ g u h => LWo.vcall rfl (av1 u.1) (c_cmp_Or_int _ _ e5) (.same (.nil)) (hn := .nil (zn g))) ?_
  refine dq 4 rfl (fun _ g u h => LWo.assign (e_int x5) u.1 (hn := .nil (zn g))) ?_
  refine ⟨rfl, by kernel_rfl, hN2 _ ?_⟩
  obtain rfl := Option.some.inj h
  refine LWP.ret (QG.mk (.inr rfl) (.cons (.tmp (x := (e_int x5)) rfl) (.nil)) (RetOK.one0 (.pure rfl) (by decide)) rfl rfl)

def m_impl_PairsOk_j2  : Option Bool :=
  some true
def m_impl_PairsOk_j1 (k1 : (List S_impl_Pair) → (List S_impl_Pair) → Int → Int → Option Bool) (t0 : (List S_impl_Pair)) (t5 : (List S_impl_Pair)) (t6 : Int) (t7 : Int) (t28 : Bool) : Option Bool :=
  bif t28 then (some false)
  else ((ckI (t7 + (1 : Int))).bind fun x22 =>
  k1 t0 t5 t6 x22)
def m_impl_PairsOk_l1 : Nat → (List S_impl_Pair) → (List S_impl_Pair) → Int → Int → Option Bool
  | 0, _, _, _, _ => none
  | n1 + 1, t0, t5, t6, t7 =>
    bif decide (t7 < t6) then ((at? t5 t7).bind fun x11 =>
    lt (x11) fun y12 =>
    (m_impl_Pair_ok y12).bind fun x14 =>
    bif (!x14) then (m_impl_PairsOk_j1  (m_impl_PairsOk_l1  n1) t0 t5 t6 t7 true)
    else (bif decide (t7 > (0 : Int)) then ((ckI (t7 - (1 : Int))).bind fun x17 =>
        (at? t0 x17).bind fun x18 =>
        (m_impl_Pair_order x18 y12).bind fun x19 =>
        m_impl_PairsOk_j1  (m_impl_PairsOk_l1  n1) t0 t5 t6 t7 (decide (x19 ≥ (0 : Int))))
      else (m_impl_PairsOk_j1  (m_impl_PairsOk_l1  n1) t0 t5 t6 t7 false)))
    else (m_impl_PairsOk_j2  )
def m_impl_PairsOk (a0 : (List S_impl_Pair)) : Option Bool :=
  m_impl_PairsOk_l1  (((a0.length : Int) - (0 : Int)).toNat + 1) a0 a0 (a0.length : Int) (0 : Int)
theorem c_impl_PairsOk (a0 : (List S_impl_Pair)) (r : Bool) (h : m_impl_PairsOk a0 = some r) : Ret Try.prog f_impl_PairsOk [e_Limpl_Pair a0] (e_bool r) := by
  refine Does.goG [] F_impl_PairsOk rfl e_impl_PairsOk n_impl_PairsOk rfl (rvs := [.tmp 2]) rfl rfl ?_
  intro w0 ok0 lent ρ0
  refine LWP.seq_k fun N1 hN1 => ?_
  refine LWP.region (l := [_]) ?_
  refine LWo.assign (e_bool false) rfl (hn := ?_)
  refine LWo.nil (hN1 _ ?_)
  refine LWP.join (α := Unit) (fun z : Unit => []) (fun z : Unit => []) (fun z : Unit => m_impl_PairsOk_j2  ) r (fun _ => by simp [hkeys]) ?_ ?_
  ·rintro _ h
   replace h : m_impl_PairsOk_j2   = some _ := h
   refine LWP.seq_k fun N23 hN23 => ?_
   refine LWP.region (l := [_]) ?_
   refine LWo.assign (e_bool true) rfl (hn := ?_)
   refine LWo.nil (hN23 _ ?_)
   obtain rfl := Option.some.inj h
   refine LWP.ret (QG.mk (.inr rfl) (.cons (.tmp (x := (e_bool true)) rfl) (.nil)) (RetOK.one0 (.pure rfl) (by decide)) rfl rfl)
  ·intro N2 hN2
   refine LWP.seq_k fun N3 hN3 => ?_
   refine LWP.region (l := [_,_,_]) ?_
   refine LWo.move (e_Limpl_Pair a0) rfl (hn := ?_)
   refine LWo.lenM (f := e_impl_Pair) (l := a0) u_Limpl_Pair rfl (hn := ?_)
   refine LWo.move (e_int (0 : Int)) rfl (hn := ?_)
   refine LWo.nil (hN3 _ ?_)
   refine LWP.block ?_
   refine LWP.loopM (α := (List S_impl_Pair) × (List S_impl_Pair) × Int × Int) (fun z : (List S_impl_Pair) × (List S_impl_Pair) × Int × Int => [(0, (e_Limpl_Pair z.1)), (5, (e_Limpl_Pair z.2.1)), (6, (e_int z.2.2.1)), (7, (e_int z.2.2.2))]) (fun z : (List S_impl_Pair) × (List S_impl_Pair) × Int × Int => []) (fun n1 (z : (List S_impl_Pair) × (List S_impl_Pair) × Int × Int) => m_impl_PairsOk_l1  n1 z.1 z.2.1 z.2.2.1 z.2.2.2) r _ (a0, a0, (a0.length : Int), (0 : Int)) h (fun _ => rfl) (fun _ => by simp [hkeys]) ⟨rfl, rfl, rfl, rfl, trivial⟩ trivial ?_
   rintro n1 ⟨t0, t5, t6, t7⟩ h N4 hN4
   replace h : m_impl_PairsOk_l1  (n1 + 1) t0 t5 t6 t7 = some _ := h
   refine LWP.seq_k fun N6 hN6 => ?_
   refine LWP.region (l := [_]) ?_
   refine LWo.int _ rfl rfl rfl (hn := ?_)
   refine LWo.nil (hN6 _ ?_)
   refine LWP.seq_k fun N7 hN7 => ?_
   refine LWP.cond_split rfl (fun h8 => ?_) (fun h8 => ?_)
   ·have h := bT h8 h
    refine LWP.skip (hN7 _ ?_)
    refine LWP.seq_k fun N9 hN9 => ?_
    refine LWP.block ?_
    refine LWP.seq_k fun N10 hN10 => ?_
    refine LWP.region (l := [_,_,_,_,_,_]) ?_
    refine LWo.move (e_int t7) rfl (hn := ?_)
    refine bk h fun x11 e11 h => ?_
    refine LWo.indexM (f := e_impl_Pair) e11 u_Limpl_Pair s_impl_Pair rfl rfl (hn := ?_)
    refine LWo.loadN ((e_impl_Pair x11)).cells g_impl_Pair s_impl_Pair rfl (Nat.le_of_ble_eq_true rfl) rfl (hn := ?_)
    refine LWo.alloc_impl_Pair 4 rfl (hn := ?_)
    refine LWo.assign (e_int t7) rfl (hn := ?_)
    refine lk h fun y12 e12 h => ?_
    refine LWo.storeW (y := (⟨(0 : Int), (0 : Int)⟩ : S_impl_Pair)) y12 s_impl_Pair rfl rfl rfl rfl rfl rfl (by rw [e12]; exact .refl) rfl (hn := ?_)
    refine LWo.nil (hN10 _ ?_)
    refine LWP.join (α := (List S_impl_Pair) × (List S_impl_Pair) × Int × Int × Bool) (fun z : (List S_impl_Pair) × (List S_impl_Pair) × Int × Int × Bool => [(0, (e_Limpl_Pair z.1)), (5, (e_Limpl_Pair z.2.1)), (6, (e_int z.2.2.1)), (7, (e_int z.2.2.2.1)), (28, (e_bool z.2.2.2.2))]) (fun z : (List S_impl_Pair) × (List S_impl_Pair) × Int × Int × Bool => []) (fun z : (List S_impl_Pair) × (List S_impl_Pair) × Int × Int × Bool => m_impl_PairsOk_j1  (m_impl_PairsOk_l1  n1) z.1 z.2.1 z.2.2.1 z.2.2.2.1 z.2.2.2.2) r (fun _ => by simp [hkeys]) ?_ ?_
    ·rintro ⟨t0, t5, t6, t7, t28⟩ h
     replace h : m_impl_PairsOk_j1  (m_impl_PairsOk_l1  n1) t0 t5 t6 t7 t28 = some _ := h
     refine LWP.cond_split rfl (fun h20 => ?_) (fun h20 => ?_)
     ·have h := bT h20 h
      refine LWP.seq_k fun N21 hN21 => ?_
      refine LWP.region (l := [_]) ?_
      refine LWo.assign (e_bool false) rfl (hn := ?_)
      refine LWo.nil (hN21 _ ?_)
      obtain rfl := Option.some.inj h
      refine LWP.ret (QG.mk (.inr rfl) (.cons (.tmp (x := (e_bool false)) rfl) (.nil)) (RetOK.one0 (.pure rfl) (by decide)) rfl rfl)
     ·have h := bF h20 h
      refine LWP.skip (hN9 _ ?_)
      refine LWP.region (l := [_,_]) ?_
      refine bk h fun x22 e22 h => ?_
      refine LWo.int _ rfl rfl (add_ck e22) (hn := ?_)
      refine LWo.move (e_int x22) rfl (hn := ?_)
      refine LWo.nil (hN4 (t0, t5, t6, x22) _ ⟨rfl, rfl, rfl, rfl, trivial⟩ trivial h)
    ·intro N13 hN13
     refine bk h fun x14 e14 h => ?_
     refine bS ((!x14)) (fun h15 => ?_) (fun h15 => ?_)
     ·have h := bT h15 h
      refine LWP.drawF (l := [_,_,_,_,_,_,_,_,_,_,_,_,_,_,_,_,_]) [] [0, 3, 4, 5, 6, 7] [([4], [4]), ([12], []), ([13], []), ([14], []), ([3, 15], []), ([15, 16], []), ([15, 17], []), ([0, 18], []), ([3, 18], []), ([18, 20], []), ([18, 19, 21], []), ([18, 22], []), ([4, 18], []), ([18, 23, 24], []), ([18, 25], []), ([15, 18, 26], []), ([15, 27], [])] [0, 5, 6, 7, 28] [] mixed (by kernel_rfl) rfl (by decide) ?_
      refine dq 12 rfl (fun _ g u h => LWo.loadVN ((e_impl_Pair y12)).cells  g_impl_Pair s_impl_Pair u.1 h.1 rfl rfl (hn := .nil (zn g))) ?_
      refine dq 13 rfl (fun _ g u h => LWo.vcall rfl (av1 u.1) (c_impl_Pair_ok _ _ e14) (.same (.nil)) (hn := .nil (zn g))) ?_
      refine dq 14 rfl (fun _ g u h => LWo.not u.1 (hn := .nil (zn g))) ?_
      refine dq 15 rfl (fun _ g u h => LWo.move (e_bool (!x14)) u.1 (hn := .nil (zn g))) ?_
      refine dq 16 rfl (fun _ g u h => LWo.guardNU (t := 15) u.2.1 h15 rfl rfl rfl rfl rfl (.nil (zn g))) ?_
      refine dq 17 rfl (fun _ g u h => LWo.guardNU (t := 15) u.1 h15 rfl rfl rfl rfl rfl (.nil (zn g))) ?_
      refine dq 18 rfl (fun _ g u h => LWo.guardNU (t := 15) u.1 h15 rfl rfl rfl rfl rfl (.nil (zn g))) ?_
      refine dq 19 rfl (fun _ g u h => LWo.guardU (t := 18) u.2.1 rfl rfl rfl rfl (.nil (zn g))) ?_
      refine dq 20 rfl (fun _ g u h => LWo.guardU (t := 18) u.2.1 rfl rfl rfl rfl (.nil (zn g))) ?_
      refine dq 21 rfl (fun _ g u h => LWo.guardU (t := 18) u.1 rfl rfl rfl rfl (.nil (zn g))) ?_
      refine dq 22 rfl (fun _ g u h => LWo.guardU (t := 18) u.1 rfl rfl rfl rfl (.nil (zn g))) ?_
      refine dq 23 rfl (fun _ g u h => LWo.guardU (t := 18) u.1 rfl rfl rfl rfl (.nil (zn g))) ?_
      refine dq 24 rfl (fun _ g u h => LWo.guardU (t := 18) u.2.1 rfl rfl rfl rfl (.nil (zn g))) ?_
      refine dq 25 rfl (fun _ g u h => LWo.guardU (t := 18) u.1 rfl rfl rfl rfl (.nil (zn g))) ?_
      refine dq 26 rfl (fun _ g u h => LWo.guardU (t := 18) u.1 rfl rfl rfl rfl (.nil (zn g))) ?_
      refine dq 27 rfl (fun _ g u h => LWo.guardNU (t := 15) u.1 h15 rfl rfl rfl rfl rfl (.nil (zn g))) ?_
      refine dq 28 rfl (fun _ g u h => LWo.pickTM (e_bool true) u.1 h15 rfl (hn := .nil (zn g))) ?_
      refine ⟨rfl, by kernel_rfl, hN13 (t0, t5, t6, t7, true) _ ⟨rfl, rfl, rfl, rfl, rfl, trivial⟩ trivial h⟩
     ·have h := bF h15 h
      refine bS (decide (t7 > (0 : Int))) (fun h16 => ?_) (fun h16 => ?_)
      ·have h := bT h16 h
       refine bk h fun x17 e17 h => ?_
       refine bk h fun x18 e18 h => ?_
       refine bk h fun x19 e19 h => ?_
       refine LWP.drawF (l := [_,_,_,_,_,_,_,_,_,_,_,_,_,_,_,_,_]) [] [0, 3, 4, 5, 6, 7] [([4], [4]), ([12], []), ([13], []), ([14], []), ([3, 15], []), ([15, 16], []), ([15, 17], []), ([0, 18], []), ([3, 18], []), ([18, 20], []), ([18, 19, 21], []), ([18, 22], []), ([4, 18], [4]), ([18, 23, 24], []), ([18, 25], []), ([15, 18, 26], []), ([15, 27], [])] [0, 5, 6, 7, 28] [] mixed (by kernel_rfl) rfl (by decide) ?_
       refine dq 12 rfl (fun _ g u h => LWo.loadVN ((e_impl_Pair y12)).cells  g_impl_Pair s_impl_Pair u.1 h.1 rfl rfl (hn := .nil (zn g))) ?_
       refine dq 13 rfl (fun _ g u h => LWo.vcall rfl (av1 u.1) (c_impl_Pair_ok _ _ e14) (.same (.nil)) (hn := .nil (zn g))) ?_
       refine dq 14 rfl (fun _ g u h => LWo.not u.1 (hn := .nil (zn g))) ?_
       refine dq 15 rfl (fun _ g u h => LWo.move (e_bool (!x14)) u.1 (hn := .nil (zn g))) ?_
       refine dq 16 rfl (fun _ g u h => LWo.guardY (t := 15) u.2.1 h15 rfl rfl (LWo.move (e_int t7) u.1 (hn := .nil (zn g)))) ?_
       refine dq 17 rfl (fun _ g u h => LWo.guardY (t := 15) u.1 h15 rfl rfl (LWo.int _ u.2.1 rfl rfl (hn := .nil (zn g)))) ?_
       refine dq 18 rfl (fun _ g u h => LWo.guardY (t := 15) u.1 h15 rfl rfl (LWo.move (e_bool (decide (t7 > (0 : Int)))) u.2.1 (hn := .nil (zn g)))) ?_
       refine dq 19 rfl (fun _ g u h => LWo.guardY (t := 18) u.2.1 h16 rfl rfl (LWo.move (e_Limpl_Pair t0) u.1 (hn := .nil (zn g)))) ?_
       refine dq 20 rfl (fun _ g u h => LWo.guardY (t := 18) u.2.1 h16 rfl rfl (LWo.move (e_int t7) u.1 (hn := .nil (zn g)))) ?_
       refine dq 21 rfl (fun _ g u h => LWo.guardY (t := 18) u.1 h16 rfl rfl (LWo.int _ u.2.1 rfl (sub_ck e17) (hn := .nil (zn g)))) ?_
       refine dq 22 rfl (fun _ g u h => LWo.guardY (t := 18) u.1 h16 rfl rfl (LWo.indexM (f := e_impl_Pair) e18 u_Limpl_Pair s_impl_Pair u.2.1 u.2.2.1 (hn := .nil (zn g)))) ?_
       refine dq 23 rfl (fun _ g u h => LWo.guardY (t := 18) u.1 h16 rfl rfl (LWo.loadN ((e_impl_Pair x18)).cells g_impl_Pair s_impl_Pair u.2.1 (Nat.le_of_ble_eq_true rfl) rfl (hn := .nil (zn g)))) ?_
       refine dq 24 rfl (fun _ g u h => LWo.guardY (t := 18) u.2.1 h16 rfl rfl (LWo.loadVN ((e_impl_Pair y12)).cells  g_impl_Pair s_impl_Pair u.1 h.1 rfl rfl (hn := .nil (zn g)))) ?_
       refine dq 25 rfl (fun _ g u h => LWo.guardY (t := 18) u.1 h16 rfl rfl (LWo.vcall rfl (av2 u.2.1 u.2.2.1) (c_impl_Pair_order _ _ _ e19) (.same (.same (.nil))) (hn := .nil (zn g)))) ?_
       refine dq 26 rfl (fun _ g u h => LWo.guardY (t := 18) u.1 h16 rfl rfl (LWo.int _ u.2.1 rfl rfl (hn := .nil (zn g)))) ?_
       refine dq 27 rfl (fun _ g u h => LWo.guardY (t := 15) u.1 h15 rfl rfl (LWo.pickTM (e_bool (decide (x19 ≥ (0 : Int)))) u.2.1 h16 u.2.2.1 (hn := .nil (zn g)))) ?_
       refine dq 28 rfl (fun _ g u h => LWo.pickFM (e_bool (decide (x19 ≥ (0 : Int)))) u.1 h15 u.2.1 (hn := .nil (zn g))) ?_
       refine ⟨rfl, by kernel_rfl, hN13 (t0, t5, t6, t7, decide (x19 ≥ (0 : Int))) _ ⟨rfl, rfl, rfl, rfl, rfl, trivial⟩ trivial h⟩
      ·have h := bF h16 h
       refine LWP.drawF (l := [_,_,_,_,_,_,_,_,_,_,_,_,_,_,_,_,_]) [] [0, 3, 4, 5, 6, 7] [([4], [4]), ([12], []), ([13], []), ([14], []), ([3, 15], []), ([15, 16], []), ([15, 17], []), ([0, 18], []), ([3, 18], []), ([18, 20], []), ([18, 19, 21], []), ([18, 22], []), ([4, 18], []), ([18, 23, 24], []), ([18, 25], []), ([15, 18, 26], []), ([15, 27], [])] [0, 5, 6, 7, 28] [] mixed (by kernel_rfl) rfl (by decide) ?_
       refine dq 12 rfl (fun _ g u h => LWo.loadVN ((e_impl_Pair y12)).cells  g_impl_Pair s_impl_Pair u.1 h.1 rfl rfl (hn := .nil (zn g))) ?_
       refine dq 13 rfl (fun _ g u h => LWo.vcall rfl (av1 u.1) (c_impl_Pair_ok _ _ e14) (.same (.nil)) (hn := .nil (zn g))) ?_
       refine dq 14 rfl (fun _ g u h => LWo.not u.1 (hn := .nil (zn g))) ?_
       refine dq 15 rfl (fun _ g u h => LWo.move (e_bool (!x14)) u.1 (hn := .nil (zn g))) ?_
       refine dq 16 rfl (fun _ g u h => LWo.guardY (t := 15) u.2.1 h15 rfl rfl (LWo.move (e_int t7) u.1 (hn := .nil (zn g)))) ?_
       refine dq 17 rfl (fun _ g u h => LWo.guardY (t := 15) u.1 h15 rfl rfl (LWo.int _ u.2.1 rfl rfl (hn := .nil (zn g)))) ?_
       refine dq 18 rfl (fun _ g u h => LWo.guardY (t := 15) u.1 h15 rfl rfl (LWo.move (e_bool (decide (t7 > (0 : Int)))) u.2.1 (hn := .nil (zn g)))) ?_
       refine dq 19 rfl (fun _ g u h => LWo.guardNU (t := 18) u.2.1 h16 rfl rfl rfl rfl rfl (.nil (zn g))) ?_
       refine dq 20 rfl (fun _ g u h => LWo.guardNU (t := 18) u.2.1 h16 rfl rfl rfl rfl rfl (.nil (zn g))) ?_
       refine dq 21 rfl (fun _ g u h => LWo.guardNU (t := 18) u.1 h16 rfl rfl rfl rfl rfl (.nil (zn g))) ?_
       refine dq 22 rfl (fun _ g u h => LWo.guardNU (t := 18) u.1 h16 rfl rfl rfl rfl rfl (.nil (zn g))) ?_
       refine dq 23 rfl (fun _ g u h => LWo.guardNU (t := 18) u.1 h16 rfl rfl rfl rfl rfl (.nil (zn g))) ?_
       refine dq 24 rfl (fun _ g u h => LWo.guardNU (t := 18) u.2.1 h16 rfl rfl rfl rfl rfl (.nil (zn g))) ?_
       refine dq 25 rfl (fun _ g u h => LWo.guardNU (t := 18) u.1 h16 rfl rfl rfl rfl rfl (.nil (zn g))) ?_
       refine dq 26 rfl (fun _ g u h => LWo.guardNU (t := 18) u.1 h16 rfl rfl rfl rfl rfl (.nil (zn g))) ?_
       refine dq 27 rfl (fun _ g u h => LWo.guardY (t := 15) u.1 h15 rfl rfl (LWo.pickFM (e_bool false) u.2.1 h16 rfl (hn := .nil (zn g)))) ?_
       refine dq 28 rfl (fun _ g u h => LWo.pickFM (e_bool false) u.1 h15 u.2.1 (hn := .nil (zn g))) ?_
       refine ⟨rfl, by kernel_rfl, hN13 (t0, t5, t6, t7, false) _ ⟨rfl, rfl, rfl, rfl, rfl, trivial⟩ trivial h⟩
   ·have h := bF h8 h
    refine LWP.exit (hN2 () _ trivial trivial h)

theorem cc_slices_Clip_Limpl_Pair_impl_Pair (xs : List LV) : Does Try.prog f_slices_Clip_Limpl_Pair_impl_Pair [.own 0 0 xs.length] [(0, { kind := .fro, sz := 2, elems := xs })] (fun r h => r = .nw 2 xs false ∧ h = []) := by
  refine Does.go [0] F_slices_Clip_Limpl_Pair_impl_Pair rfl e_slices_Clip_Limpl_Pair_impl_Pair n_slices_Clip_Limpl_Pair_impl_Pair rfl (ts := [2]) rfl rfl rfl ?_
  intro w0 ok0 lent ρ0
  refine LWP.seq_k fun N1 hN1 => ?_
  refine LWP.region (l := [_]) ?_
  refine LWo.assign _ rfl (hn := ?_)
  refine LWo.nil (hN1 _ ?_)
  refine LWP.seq_k fun N2 hN2 => ?_
  refine LWP.region (l := [_,_,_,_,_,_,_]) ?_
  refine LWo.move _ rfl (hn := ?_)
  refine LWo.move _ rfl (hn := ?_)
  refine LWo.len u_Limpl_Pair rfl (hn := ?_)
  refine LWo.move _ rfl (hn := ?_)
  refine LWo.len u_Limpl_Pair rfl (hn := ?_)
  refine LWo.cutOwn (l := 0) (h := xs.length) u_Limpl_Pair s_impl_Pair rfl rfl rfl rfl ⟨_, rfl⟩ ⟨_, _, rfl, Nat.le_refl _, Nat.le_refl _⟩ (.inr (by simp)) (Nat.zero_le _) (Nat.le_refl _) rfl rfl (hn := ?_)
  refine LWo.assign _ rfl (hn := ?_)
  refine LWo.nil (hN2 _ ?_)
  refine LWP.ret (QRet.own1 (.inr rfl) rfl rfl rfl rfl (by simp) ⟨?_, rfl⟩)
  clear hN1 hN2
  exact congrArg (fun l => LV.nw 2 l false) (by simp)
def m_slices_Clip_Limpl_Pair_impl_Pair_o (o0 : List S_impl_Pair) : Option (List S_impl_Pair) := some o0
theorem c_slices_Clip_Limpl_Pair_impl_Pair_o (o0 : List S_impl_Pair) (r : List S_impl_Pair) (h : m_slices_Clip_Limpl_Pair_impl_Pair_o o0 = some r) : Does Try.prog f_slices_Clip_Limpl_Pair_impl_Pair [.own 0 0 o0.length] [(0, lob 2 e_impl_Pair o0)] (fun x hh => x = .nw 2 (r.map e_impl_Pair) false ∧ hh = []) := by
  cases h
  have := cc_slices_Clip_Limpl_Pair_impl_Pair (o0.map e_impl_Pair)
  rw [List.length_map] at this
  exact this



def m_slices_Clip_Limpl_Pair_impl_Pair (a0 : (List S_impl_Pair)) : Option (List S_impl_Pair) :=
  (cut3? a0 (0 : Int) (a0.length : Int) (a0.length : Int)).bind fun x3 =>
  some x3
theorem c_slices_Clip_Limpl_Pair_impl_Pair (a0 : (List S_impl_Pair)) (r : (List S_impl_Pair)) (h : m_slices_Clip_Limpl_Pair_impl_Pair a0 = some r) : Ret Try.prog f_slices_Clip_Limpl_Pair_impl_Pair [e_Limpl_Pair a0] (e_Limpl_Pair r) := by
  refine Does.goG [] F_slices_Clip_Limpl_Pair_impl_Pair rfl e_slices_Clip_Limpl_Pair_impl_Pair n_slices_Clip_Limpl_Pair_impl_Pair rfl (rvs := [.tmp 2]) rfl rfl ?_
  intro w0 ok0 lent ρ0
  refine LWP.seq_k fun N1 hN1 => ?_
  refine LWP.region (l := [_]) ?_
  refine LWo.assign _ rfl (hn := ?_)
  refine LWo.weakT 2 (e_Limpl_Pair ([] : (List S_impl_Pair))) rfl .nil ?_
  refine LWo.nil (hN1 _ ?_)
  refine LWP.seq_k fun N2 hN2 => ?_
  refine LWP.region (l := [_,_,_,_,_,_,_]) ?_
  refine LWo.move (e_Limpl_Pair a0) rfl (hn := ?_)
  refine LWo.move (e_Limpl_Pair a0) rfl (hn := ?_)
  refine LWo.lenM (f := e_impl_Pair) (l := a0) u_Limpl_Pair rfl (hn := ?_)
  refine LWo.move (e_Limpl_Pair a0) rfl (hn := ?_)
  refine LWo.lenM (f := e_impl_Pair) (l := a0) u_Limpl_Pair rfl (hn := ?_)
  refine bk h fun x3 e3 h => ?_
  refine LWo.cutM3 (f := e_impl_Pair) e3 u_Limpl_Pair s_impl_Pair rfl rfl ⟨_, rfl⟩ ⟨_, rfl⟩ (hn := ?_)
  refine LWo.assign (e_Limpl_Pair x3) rfl (hn := ?_)
  refine LWo.nil (hN2 _ ?_)
  obtain rfl := Option.some.inj h
  refine LWP.ret (QG.mk (.inr rfl) (.cons (.tmp (x := (e_Limpl_Pair x3)) rfl) (.nil)) (RetOK.one0 (.pure rfl) (by decide)) rfl rfl)

def m_impl_clone_impl_Pair (a0 : (List S_impl_Pair)) : Option (List S_impl_Pair) :=
  bif ((a0.length : Int) == (0 : Int)) then (some ([] : (List S_impl_Pair)))
  else ((appN? a0).bind fun x7 =>
  (m_slices_Clip_Limpl_Pair_impl_Pair_o x7).bind fun x8 =>
  some x8)
theorem c_impl_clone_impl_Pair (a0 : (List S_impl_Pair)) (r : (List S_impl_Pair)) (h : m_impl_clone_impl_Pair a0 = some r) : Ret Try.prog f_impl_clone_impl_Pair [e_Limpl_Pair a0] (.nw 2 (r.map e_impl_Pair) false) := by
  refine Does.goG [] F_impl_clone_impl_Pair rfl e_impl_clone_impl_Pair n_impl_clone_impl_Pair rfl (rvs := [.tmp 2]) rfl rfl ?_
  intro w0 ok0 lent ρ0
  refine LWP.seq_k fun N1 hN1 => ?_
  refine LWP.region (l := [_]) ?_
  refine LWo.assign _ rfl (hn := ?_)
  refine LWo.ownNil 2 1002 2 rfl rfl rfl ?_
  refine LWo.known 2 (.own 1002 0 ([] : (List S_impl_Pair)).length) rfl ?_
  refine LWo.nil (hN1 _ ?_)
  refine LWP.seq_k fun N2 hN2 => ?_
  refine LWP.seq_k fun N3 hN3 => ?_
  refine LWP.region (l := [_,_,_]) ?_
  refine LWo.move (e_Limpl_Pair a0) rfl (hn := ?_)
  refine LWo.lenM (f := e_impl_Pair) (l := a0) u_Limpl_Pair rfl (hn := ?_)
  refine LWo.int _ rfl rfl rfl (hn := ?_)
  refine LWo.nil (hN3 _ ?_)
  refine LWP.cond_split rfl (fun h4 => ?_) (fun h4 => ?_)
  ·have h := bT h4 h
   refine LWP.seq_k fun N5 hN5 => ?_
   refine LWP.region (l := [_]) ?_
   refine LWo.assign _ rfl (hn := ?_)
   refine LWo.ownNil 2 1002 2 rfl rfl rfl ?_
   refine LWo.known 2 (.own 1002 0 ([] : (List S_impl_Pair)).length) rfl ?_
   refine LWo.nil (hN5 _ ?_)
   obtain rfl := Option.some.inj h
   refine LWP.ret (QG.mk (.inr rfl) (.cons (.tmp (x := (.own 1002 0 (([] : (List S_impl_Pair))).length)) rfl) (.nil)) (RetOK.one0 (.nwM rfl rfl) (by decide)) rfl rfl)
  ·have h := bF h4 h
   refine LWP.skip (hN2 _ ?_)
   refine LWP.seq_k fun N6 hN6 => ?_
   refine LWP.region (l := [_,_,_,_]) ?_
   refine LWo.move (e_Limpl_Pair a0) rfl (hn := ?_)
   refine bk h fun x7 e7 h => ?_
   refine LWo.appendC (f := e_impl_Pair) 1007 e7 u_Limpl_Pair u_Limpl_Pair (fun _ h => by cases h) i_impl_Pair rfl rfl (.sl rfl) (fun _ => rfl) rfl rfl (hn := ?_)
   refine bk h fun x8 e8 h => ?_
   refine LWo.tcallN (e := e_impl_Pair) (e' := e_impl_Pair) 1008 rfl rfl (c_slices_Clip_Limpl_Pair_impl_Pair_o _ _ e8) (fun _ => rfl) rfl rfl rfl rfl (hn := ?_)
   refine LWo.assign (.own 1008 0 (x8).length) rfl (hn := ?_)
   refine LWo.nil (hN6 _ ?_)
   obtain rfl := Option.some.inj h
   refine LWP.ret (QG.mk (.inr rfl) (.cons (.tmp (x := (.own 1008 0 (x8).length)) rfl) (.nil)) (RetOK.one0 (.nwM rfl rfl) (by decide)) rfl rfl)

instance : Inhabited S_impl_Pair := ⟨⟨0, 0⟩⟩
theorem xs_nan (a : Int) : m_cmp_isNaN_int a = some false := by unfold m_cmp_isNaN_int; simp
theorem xs_cmp (a b : Int) : m_cmp_Compare_int a b = some (if a < b then -1 else if b < a then 1 else 0) := by
  unfold m_cmp_Compare_int
  rw [xs_nan, xs_nan, Option.bind_some, Option.bind_some, cond_false, cond_false]
  by_cases h : a < b
  · rw [decide_eq_true h, if_pos h]; rfl
  · rw [decide_eq_false h, if_neg h, cond_false]
    by_cases h2 : b < a
    · rw [decide_eq_true (show a > b from h2), if_pos h2]; rfl
    · rw [decide_eq_false (show ¬ a > b from h2), if_neg h2]; rfl
theorem xs_or (a b : Int) : m_cmp_Or_int [a, b] = some (if a = 0 then b else a) := by
  unfold m_cmp_Or_int
  show m_cmp_Or_int_l1 3 0 [a, b] 2 0 = _
  by_cases h : a = 0
  · rw [if_pos h]
    subst h
    by_cases h2 : b = 0
    · subst h2; rfl
    · have e : (b != 0) = true := by simp [h2]
      show (bif b != 0 then some b else _) = _
      rw [e, cond_true]
  · have e : (a != 0) = true := by simp [h]
    rw [if_neg h]
    show (bif a != 0 then some a else _) = _
    rw [e, cond_true]
def cf_impl_Pair_order (a b : S_impl_Pair) : Int := (m_impl_Pair_order a b).getD 0
theorem tot_impl_Pair_order (a b : S_impl_Pair) : m_impl_Pair_order a b = some (cf_impl_Pair_order a b) := by
  unfold cf_impl_Pair_order m_impl_Pair_order
  rw [xs_cmp, Option.bind_some, xs_cmp, Option.bind_some, xs_or, Option.bind_some]
  rfl
theorem lt_impl_Pair_order (a b : S_impl_Pair) : cf_impl_Pair_order a b < 0 ↔ a.From < b.From ∨ (a.From = b.From ∧ a.To < b.To) := by
  unfold cf_impl_Pair_order m_impl_Pair_order
  rw [xs_cmp, Option.bind_some, xs_cmp, Option.bind_some, xs_or, Option.bind_some, Option.getD_some]
  constructor
  · intro h
    split at h <;> split at h <;> (try split at h) <;> (try split at h) <;> (try split at h) <;> omega
  · intro h
    split <;> split <;> (try split) <;> (try split) <;> (try split) <;> omega
theorem ord_impl_Pair_order : Order cf_impl_Pair_order where
  swo := by
    have h : ∀ x y : S_impl_Pair, Go.Proofs.ltOf cf_impl_Pair_order x y = true ↔ (x.From < y.From ∨ (x.From = y.From ∧ x.To < y.To)) := fun x y => by
      unfold Go.Proofs.ltOf
      rw [decide_eq_true_eq]
      exact lt_impl_Pair_order x y
    have h' : ∀ x y : S_impl_Pair, Go.Proofs.ltOf cf_impl_Pair_order x y = false ↔ ¬ (x.From < y.From ∨ (x.From = y.From ∧ x.To < y.To)) := fun x y => by
      rw [← h, Bool.not_eq_true]
    exact ⟨fun x => by rw [h']; omega, fun x y z => by rw [h, h, h]; omega, fun x y z => by rw [h', h', h']; omega⟩
  tot := by
    intro x y
    have h' : ∀ x y : S_impl_Pair, Go.Proofs.ltOf cf_impl_Pair_order x y = false ↔ ¬ (x.From < y.From ∨ (x.From = y.From ∧ x.To < y.To)) := fun x y => by
      rw [← lt_impl_Pair_order, ← decide_eq_false_iff_not]
      rfl
    rw [h', h']
    intro a b
    obtain ⟨x1, x2⟩ := x
    obtain ⟨y1, y2⟩ := y
    simp only at a b
    obtain rfl : x1 = y1 := by omega
    obtain rfl : x2 = y2 := by omega
    rfl

def ren_slices_SortFunc_Limpl_Pair_impl_Pair : Go.Shelf.Ren := ⟨fun n => match n with | 6 => 131 | 14 => 175 | 15 => 176 | 20 => 198 | 21 => 199 | 22 => 200 | 23 => 201 | 24 => 202 | 25 => 203 | 26 => 204 | 27 => 205 | 28 => 206 | 29 => 207 | 46 => 220 | 47 => 221 | 48 => 222 | 49 => 223 | 50 => 224 | 57 => 231 | _ => 0, fun n => match n with | 0 => 0 | 1 => 1 | 2 => 2 | 3 => 3 | 4 => 4 | 5 => 5 | 6 => 6 | 7 => 7 | 8 => 8 | 9 => 9 | 10 => 10 | 11 => 11 | 12 => 12 | 13 => 13 | 14 => 14 | 15 => 15 | 16 => 16 | 17 => 17 | 18 => 18 | 19 => 19 | 20 => 20 | 21 => 21 | 22 => 24 | 23 => 149 | 24 => 33 | 25 => 150 | 27 => 91 | 29 => 185 | 37 => 187 | 38 => 188 | 39 => 189 | 40 => 87 | 42 => 153 | 44 => 202 | 45 => 203 | 46 => 204 | 47 => 205 | 48 => 206 | 49 => 207 | 50 => 173 | 51 => 208 | 52 => 209 | 53 => 210 | 54 => 211 | 55 => 212 | 66 => 220 | 67 => 221 | 68 => 222 | 69 => 223 | 70 => 224 | 71 => 225 | 76 => 232 | 77 => 233 | 78 => 234 | 81 => 236 | 82 => 237 | 83 => 238 | 84 => 239 | 85 => 240 | 86 => 241 | 87 => 242 | 88 => 243 | 89 => 244 | 90 => 245 | 91 => 246 | 92 => 247 | 93 => 248 | 94 => 249 | 95 => 250 | 96 => 251 | _ => 0, fun n => n⟩
theorem lays_slices_SortFunc_Limpl_Pair_impl_Pair : Go.Proofs.SlLaysF0.n6 Try.prog ren_slices_SortFunc_Limpl_Pair_impl_Pair where
  mixed := mixed
  f6 := ⟨"slices.SortFunc[[]loop.example/tablehouse/impl.Pair,loop.example/tablehouse/impl.Pair]", by kernel_rfl, Try.func131.trans (by kernel_rfl)⟩
  f14 := ⟨"slices.pdqsortCmpFunc[loop.example/tablehouse/impl.Pair]", by kernel_rfl, Try.func175.trans (by kernel_rfl)⟩
  f15 := Try.func176.trans (by kernel_rfl)
  f20 := ⟨"slices.insertionSortCmpFunc[loop.example/tablehouse/impl.Pair]", by kernel_rfl, Try.func198.trans (by kernel_rfl)⟩
  f21 := ⟨"slices.heapSortCmpFunc[loop.example/tablehouse/impl.Pair]", by kernel_rfl, Try.func199.trans (by kernel_rfl)⟩
  f22 := ⟨"slices.breakPatternsCmpFunc[loop.example/tablehouse/impl.Pair]", by kernel_rfl, Try.func200.trans (by kernel_rfl)⟩
  f23 := ⟨"slices.choosePivotCmpFunc[loop.example/tablehouse/impl.Pair]", by kernel_rfl, Try.func201.trans (by kernel_rfl)⟩
  f24 := ⟨"slices.reverseRangeCmpFunc[loop.example/tablehouse/impl.Pair]", by kernel_rfl, Try.func202.trans (by kernel_rfl)⟩
  f25 := ⟨"slices.partialInsertionSortCmpFunc[loop.example/tablehouse/impl.Pair]", by kernel_rfl, Try.func203.trans (by kernel_rfl)⟩
  f26 := ⟨"slices.partitionEqualCmpFunc[loop.example/tablehouse/impl.Pair]", by kernel_rfl, Try.func204.trans (by kernel_rfl)⟩
  f27 := ⟨"slices.partitionCmpFunc[loop.example/tablehouse/impl.Pair]", by kernel_rfl, Try.func205.trans (by kernel_rfl)⟩
  f28 := Try.func206.trans (by kernel_rfl)
  f29 := Try.func207.trans (by kernel_rfl)
  f46 := ⟨"slices.siftDownCmpFunc[loop.example/tablehouse/impl.Pair]", by kernel_rfl, Try.func220.trans (by kernel_rfl)⟩
  f47 := Try.func221.trans (by kernel_rfl)
  f48 := Try.func222.trans (by kernel_rfl)
  f49 := ⟨"slices.medianAdjacentCmpFunc[loop.example/tablehouse/impl.Pair]", by kernel_rfl, Try.func223.trans (by kernel_rfl)⟩
  f50 := ⟨"slices.medianCmpFunc[loop.example/tablehouse/impl.Pair]", by kernel_rfl, Try.func224.trans (by kernel_rfl)⟩
  f57 := ⟨"slices.order2CmpFunc[loop.example/tablehouse/impl.Pair]", by kernel_rfl, Try.func231.trans (by kernel_rfl)⟩
  t0 := Try.underlying0
  a0 := Try.isAgg0
  z0 := Try.sizeOf0
  v0 := Try.zeroValue0
  t3 := Try.underlying3
  a3 := Try.isAgg3
  z3 := Try.sizeOf3
  v3 := Try.zeroValue3
  t4 := Try.underlying4
  a4 := Try.isAgg4
  z4 := Try.sizeOf4
  v4 := Try.zeroValue4
  t5 := Try.underlying5
  a5 := Try.isAgg5
  z5 := Try.sizeOf5
  v5 := Try.zeroValue5
  t9 := Try.underlying9
  a9 := Try.isAgg9
  z9 := Try.sizeOf9
  v9 := Try.zeroValue9
  t22 := Try.underlying24
  a22 := Try.isAgg24
  z22 := Try.sizeOf24
  v22 := Try.zeroValue24
  t25 := Try.underlying150
  a25 := Try.isAgg150
  z25 := Try.sizeOf150
  v25 := Try.zeroValue150
  t39 := Try.underlying189
  a39 := Try.isAgg189
  z39 := Try.sizeOf189
  v39 := Try.zeroValue189
  t45 := Try.underlying203
  a45 := Try.isAgg203
  z45 := Try.sizeOf203
  v45 := Try.zeroValue203
  t46 := Try.underlying204
  a46 := Try.isAgg204
  z46 := Try.sizeOf204
  v46 := Try.zeroValue204
  t50 := Try.underlying173
  a50 := Try.isAgg173
  z50 := Try.sizeOf173
  v50 := Try.zeroValue173
  t53 := Try.underlying210
  a53 := Try.isAgg210
  z53 := Try.sizeOf210
  v53 := Try.zeroValue210
  t55 := Try.underlying212
  a55 := Try.isAgg212
  z55 := Try.sizeOf212
  v55 := Try.zeroValue212
  t66 := Try.underlying220
  a66 := Try.isAgg220
  z66 := Try.sizeOf220
  v66 := Try.zeroValue220
  t70 := Try.underlying224
  a70 := Try.isAgg224
  z70 := Try.sizeOf224
  v70 := Try.zeroValue224
  t76 := Try.underlying232
  a76 := Try.isAgg232
  z76 := Try.sizeOf232
  v76 := Try.zeroValue232
  t77 := Try.underlying233
  a77 := Try.isAgg233
  z77 := Try.sizeOf233
  v77 := Try.zeroValue233
def enc_slices_SortFunc_Limpl_Pair_impl_Pair (v : S_impl_Pair) : List Value := [.int .i64 v.From, .int .i64 v.To]
def m_slices_SortFunc_Limpl_Pair_impl_Pair_by_impl_Pair_order (o0 : List S_impl_Pair) : Option (List S_impl_Pair) := if o0.length < 4000000000000000000 then some (o0.mergeSort fun x y => !decide (cf_impl_Pair_order y x < 0)) else none
set_option maxRecDepth 100000 in
theorem c_slices_SortFunc_Limpl_Pair_impl_Pair_by_impl_Pair_order (o0 : List S_impl_Pair) (r : List S_impl_Pair) (h : m_slices_SortFunc_Limpl_Pair_impl_Pair_by_impl_Pair_order o0 = some r) : Does Try.prog f_slices_SortFunc_Limpl_Pair_impl_Pair [.own 0 0 o0.length, .clo f_impl_Pair_order []] [(0, lob 2 e_impl_Pair o0)] (fun x hh => x = .tup [] ∧ hh = [(0, lob 2 e_impl_Pair r)]) := by
  unfold m_slices_SortFunc_Limpl_Pair_impl_Pair_by_impl_Pair_order at h
  split at h
  · rename_i hl
    cases h
    exact sortFunc_does lays_slices_SortFunc_Limpl_Pair_impl_Pair e_impl_Pair enc_slices_SortFunc_Limpl_Pair_impl_Pair 2 (by decide) (fun _ => rfl) (fun _ => rfl) (fun x v hv => by simp only [enc_slices_SortFunc_Limpl_Pair_impl_Pair, List.mem_cons, List.mem_nil_iff, or_false] at hv; rcases hv with rfl | rfl <;> rfl) (by intros; kernel_rfl) (by intros; kernel_rfl) cf_impl_Pair_order ord_impl_Pair_order f_impl_Pair_order [] rfl (fun a b => c_impl_Pair_order a b _ (tot_impl_Pair_order a b)) o0 (by omega)
  · cases h
theorem k_slices_SortFunc_Limpl_Pair_impl_Pair_by_impl_Pair_order (o0 : List S_impl_Pair) (r : List S_impl_Pair) (h : m_slices_SortFunc_Limpl_Pair_impl_Pair_by_impl_Pair_order o0 = some r) (k : Nat) : Does Try.prog f_slices_SortFunc_Limpl_Pair_impl_Pair [.own k 0 o0.length, .clo f_impl_Pair_order []] [(k, lob 2 e_impl_Pair o0)] (fun x hh => x = .tup [] ∧ hh = [(k, lob 2 e_impl_Pair r)]) :=
  Does.nameO (c_slices_SortFunc_Limpl_Pair_impl_Pair_by_impl_Pair_order o0 r h) (fun _ => rfl) k


def m_slices_Compact_Limpl_Pair_impl_Pair_j4 (o1000 : (List S_impl_Pair)) : Option (List S_impl_Pair) :=
  some o1000
def m_slices_Compact_Limpl_Pair_impl_Pair_j3 (k1 : Int → (List S_impl_Pair) → Option (List S_impl_Pair)) (t3 : Int) (o1000 : (List S_impl_Pair)) : Option (List S_impl_Pair) :=
  (ckI (t3 + (1 : Int))).bind fun x51 =>
  k1 x51 o1000
def m_slices_Compact_Limpl_Pair_impl_Pair_j2 (k1 : Int → (List S_impl_Pair) → Option (List S_impl_Pair)) (t3 : Int) (o1000 : (List S_impl_Pair)) : Option (List S_impl_Pair) :=
  (rng? t3 ((o1000).length : Int) ((o1000).length)).bind fun u47 =>
  (rng? (0 : Int) t3 ((o1000).length)).bind fun u49 =>
  (leN ((t3).toNat) (o1000.take (0 + (t3).toNat)).length).bind fun u50 =>
  some ((o1000.take (0 + (t3).toNat)).take ((t3).toNat))
def m_slices_Compact_Limpl_Pair_impl_Pair_j1 (k1 : Int → (List S_impl_Pair) → Option (List S_impl_Pair)) (k2 : Int → Nat → Nat → Int → (List S_impl_Pair) → Option (List S_impl_Pair)) (t3 : Int) (t4o : Nat) (t4n : Nat) (t5 : Int) (o1000 : (List S_impl_Pair)) : Option (List S_impl_Pair) :=
  (ckI (t5 + (1 : Int))).bind fun x45 =>
  k2 t3 t4o t4n x45 o1000
def m_slices_Compact_Limpl_Pair_impl_Pair_l2 (k1 : Int → (List S_impl_Pair) → Option (List S_impl_Pair)) : Nat → Int → Nat → Nat → Int → (List S_impl_Pair) → Option (List S_impl_Pair)
  | 0, _, _, _, _, _ => none
  | n2 + 1, t3, t4o, t4n, t5, o1000 =>
    bif decide (t5 < ((t4n : Nat) : Int)) then ((atc? o1000 t4o t4n t5).bind fun x32 =>
    (at? o1000 ((t4o + (t5).toNat : Nat) : Int)).bind fun x33 =>
    (ckI (t5 - (1 : Int))).bind fun x34 =>
    (atc? o1000 t4o t4n x34).bind fun x35 =>
    (at? o1000 ((t4o + (x34).toNat : Nat) : Int)).bind fun x36 =>
    bif (!(decide (x33 = x36))) then ((atc? o1000 t4o t4n t5).bind fun x39 =>
      (at? o1000 ((t4o + (t5).toNat : Nat) : Int)).bind fun x40 =>
      (at? o1000 t3).bind fun x41 =>
      (at? o1000 t3).bind fun x42 =>
      lt (x40) fun y43 =>
      (ckI (t3 + (1 : Int))).bind fun x44 =>
      m_slices_Compact_Limpl_Pair_impl_Pair_j1  k1 (m_slices_Compact_Limpl_Pair_impl_Pair_l2  k1 n2) x44 t4o t4n t5 (o1000.set (t3).toNat y43))
    else (m_slices_Compact_Limpl_Pair_impl_Pair_j1  k1 (m_slices_Compact_Limpl_Pair_impl_Pair_l2  k1 n2) t3 t4o t4n t5 o1000))
    else (m_slices_Compact_Limpl_Pair_impl_Pair_j2  k1 t3 o1000)
def m_slices_Compact_Limpl_Pair_impl_Pair_l1 : Nat → Int → (List S_impl_Pair) → Option (List S_impl_Pair)
  | 0, _, _ => none
  | n1 + 1, t3, o1000 =>
    bif decide (t3 < (o1000.length : Int)) then ((at? o1000 t3).bind fun x15 =>
    (at? o1000 t3).bind fun x16 =>
    (ckI (t3 - (1 : Int))).bind fun x17 =>
    (at? o1000 x17).bind fun x18 =>
    (at? o1000 x17).bind fun x19 =>
    bif (decide (x16 = x19)) then ((rng? t3 ((o1000).length : Int) ((o1000).length)).bind fun u22 =>
      m_slices_Compact_Limpl_Pair_impl_Pair_l2  (m_slices_Compact_Limpl_Pair_impl_Pair_l1  n1) ((((((o1000).length - (t3).toNat) : Nat) : Int) - (1 : Int)).toNat + 1) t3 (0 + (t3).toNat) ((o1000).length - (t3).toNat) (1 : Int) o1000)
    else (m_slices_Compact_Limpl_Pair_impl_Pair_j3  (m_slices_Compact_Limpl_Pair_impl_Pair_l1  n1) t3 o1000))
    else (m_slices_Compact_Limpl_Pair_impl_Pair_j4  o1000)
def m_slices_Compact_Limpl_Pair_impl_Pair (o0 : (List S_impl_Pair)) : Option (List S_impl_Pair) :=
  bif decide ((o0.length : Int) < (2 : Int)) then (some o0)
  else (m_slices_Compact_Limpl_Pair_impl_Pair_l1  (((o0.length : Int) - (1 : Int)).toNat + 1) (1 : Int) o0)
theorem c_slices_Compact_Limpl_Pair_impl_Pair (o0 : (List S_impl_Pair)) (r : (List S_impl_Pair)) (h : m_slices_Compact_Limpl_Pair_impl_Pair o0 = some r) : Does Try.prog f_slices_Compact_Limpl_Pair_impl_Pair [.own 0 0 o0.length] [(0, (lob 2 e_impl_Pair o0))] (fun x hh => x = .nw 2 (r.map e_impl_Pair) false ∧ hh = []) := by
  refine Does.goG [0] F_slices_Compact_Limpl_Pair_impl_Pair rfl e_slices_Compact_Limpl_Pair_impl_Pair n_slices_Compact_Limpl_Pair_impl_Pair rfl (rvs := [.tmp 2]) rfl rfl ?_
  intro w0 ok0 lent ρ0
  refine LWP.rekey 0 0 1000 rfl rfl rfl rfl rfl rfl ?_
  refine LWP.tell [(0, (.own 1000 0 (o0).length))] [(1000, (lob 2 e_impl_Pair o0))] ⟨rfl, trivial⟩ ⟨rfl, trivial⟩ (by simp [hkeys]) ?_
  refine LWP.seq_k fun N1 hN1 => ?_
  refine LWP.region (l := [_]) ?_
  refine LWo.assign _ rfl (hn := ?_)
  refine LWo.ownNil 2 1002 2 rfl rfl rfl ?_
  refine LWo.known 2 (.own 1002 0 ([] : (List S_impl_Pair)).length) rfl ?_
  refine LWo.nil (hN1 _ ?_)
  refine LWP.seq_k fun N2 hN2 => ?_
  refine LWP.seq_k fun N3 hN3 => ?_
  refine LWP.region (l := [_,_,_]) ?_
  refine LWo.move (.own 1000 0 (o0).length) rfl (hn := ?_)
  refine LWo.lenO u_Limpl_Pair rfl (hn := ?_)
  refine LWo.int _ rfl rfl rfl (hn := ?_)
  refine LWo.nil (hN3 _ ?_)
  refine LWP.cond_split rfl (fun h4 => ?_) (fun h4 => ?_)
  ·have h := bT h4 h
   refine LWP.seq_k fun N5 hN5 => ?_
   refine LWP.region (l := [_,_]) ?_
   refine LWo.move (.own 1000 0 (o0).length) rfl (hn := ?_)
   refine LWo.assign (.own 1000 0 (o0).length) rfl (hn := ?_)
   refine LWo.nil (hN5 _ ?_)
   obtain rfl := Option.some.inj h
   refine LWP.ret (QG.mk (.inr rfl) (.cons (.tmp (x := (.own 1000 0 (o0).length)) rfl) (.nil)) (RetOK.one0 (.nwM rfl rfl) (by decide)) rfl rfl)
  ·have h := bF h4 h
   refine LWP.skip (hN2 _ ?_)
   refine LWP.join (α := (List S_impl_Pair)) (fun z : (List S_impl_Pair) => [(0, (.own 1000 0 (z).length))]) (fun z : (List S_impl_Pair) => [(1000, (lob 2 e_impl_Pair z))]) (fun z : (List S_impl_Pair) => m_slices_Compact_Limpl_Pair_impl_Pair_j4  z) r (fun _ => by simp [hkeys]) ?_ ?_
   ·rintro o1000 h
    replace h : m_slices_Compact_Limpl_Pair_impl_Pair_j4  o1000 = some _ := h
    refine LWP.seq_k fun N52 hN52 => ?_
    refine LWP.region (l := [_,_]) ?_
    refine LWo.move (.own 1000 0 (o1000).length) rfl (hn := ?_)
    refine LWo.assign (.own 1000 0 (o1000).length) rfl (hn := ?_)
    refine LWo.nil (hN52 _ ?_)
    obtain rfl := Option.some.inj h
    refine LWP.ret (QG.mk (.inr rfl) (.cons (.tmp (x := (.own 1000 0 (o1000).length)) rfl) (.nil)) (RetOK.one0 (.nwM rfl rfl) (by decide)) rfl rfl)
   ·intro N6 hN6
    refine LWP.seq_k fun N7 hN7 => ?_
    refine LWP.region (l := [_]) ?_
    refine LWo.assign (e_int (1 : Int)) rfl (hn := ?_)
    refine LWo.nil (hN7 _ ?_)
    refine LWP.block ?_
    refine LWP.loopM (α := Int × (List S_impl_Pair)) (fun z : Int × (List S_impl_Pair) => [(0, (.own 1000 0 (z.2).length)), (3, (e_int z.1))]) (fun z : Int × (List S_impl_Pair) => [(1000, (lob 2 e_impl_Pair z.2))]) (fun n1 (z : Int × (List S_impl_Pair)) => m_slices_Compact_Limpl_Pair_impl_Pair_l1  n1 z.1 z.2) r _ ((1 : Int), o0) h (fun _ => rfl) (fun _ => by simp [hkeys]) ⟨rfl, rfl, trivial⟩ ⟨rfl, trivial⟩ ?_
    rintro n1 ⟨t3, o1000⟩ h N8 hN8
    replace h : m_slices_Compact_Limpl_Pair_impl_Pair_l1  (n1 + 1) t3 o1000 = some _ := h
    refine LWP.seq_k fun N10 hN10 => ?_
    refine LWP.seq_k fun N11 hN11 => ?_
    refine LWP.region (l := [_,_,_,_]) ?_
    refine LWo.move (e_int t3) rfl (hn := ?_)
    refine LWo.move (.own 1000 0 (o1000).length) rfl (hn := ?_)
    refine LWo.lenO u_Limpl_Pair rfl (hn := ?_)
    refine LWo.int _ rfl rfl rfl (hn := ?_)
    refine LWo.nil (hN11 _ ?_)
    refine LWP.cond_split rfl (fun h12 => ?_) (fun h12 => ?_)
    ·have h := bT h12 h
     refine LWP.skip (hN10 _ ?_)
     refine LWP.join (α := Int × (List S_impl_Pair)) (fun z : Int × (List S_impl_Pair) => [(0, (.own 1000 0 (z.2).length)), (3, (e_int z.1))]) (fun z : Int × (List S_impl_Pair) => [(1000, (lob 2 e_impl_Pair z.2))]) (fun z : Int × (List S_impl_Pair) => m_slices_Compact_Limpl_Pair_impl_Pair_j3  (m_slices_Compact_Limpl_Pair_impl_Pair_l1  n1) z.1 z.2) r (fun _ => by simp [hkeys]) ?_ ?_
     ·rintro ⟨t3, o1000⟩ h
      replace h : m_slices_Compact_Limpl_Pair_impl_Pair_j3  (m_slices_Compact_Limpl_Pair_impl_Pair_l1  n1) t3 o1000 = some _ := h
      refine LWP.region (l := [_,_,_]) ?_
      refine LWo.move (e_int t3) rfl (hn := ?_)
      refine bk h fun x51 e51 h => ?_
      refine LWo.int _ rfl rfl (add_ck e51) (hn := ?_)
      refine LWo.assign (e_int x51) rfl (hn := ?_)
      refine LWo.nil (hN8 (x51, o1000) _ ⟨rfl, rfl, trivial⟩ ⟨rfl, trivial⟩ h)
     ·intro N13 hN13
      refine LWP.block ?_
      refine LWP.seq_k fun N14 hN14 => ?_
      refine bk h fun x15 e15 h => ?_
      refine bk h fun x16 e16 h => ?_
      refine bk h fun x17 e17 h => ?_
      refine bk h fun x18 e18 h => ?_
      refine bk h fun x19 e19 h => ?_
      refine LWP.drawF (l := [_,_,_,_,_,_,_,_,_,_]) [] [0, 3] [([0], []), ([3], []), ([16, 17], [1000]), ([18], [1000]), ([0], []), ([3], []), ([21], []), ([20, 22], [1000]), ([23], [1000]), ([19, 24], [])] [0, 3, 25] [1000] mixed (by kernel_rfl) rfl (by decide) ?_
      refine dq 16 rfl (fun _ g u h => LWo.move (.own 1000 0 (o1000).length) u.1 (hn := .nil (zn g))) ?_
      refine dq 17 rfl (fun _ g u h => LWo.move (e_int t3) u.1 (hn := .nil (zn g))) ?_
      refine dq 18 rfl (fun _ g u h => LWo.indexO e15 rfl u_Limpl_Pair s_impl_Pair u.1 u.2.1 h.1 (hn := .nil (zn g))) ?_
      refine dq 19 rfl (fun _ g u h => LWo.loadON ((e_impl_Pair x16)).cells e16 g_impl_Pair s_impl_Pair u.1 h.1 rfl rfl (hn := .nil (zn g))) ?_
      refine dq 20 rfl (fun _ g u h => LWo.move (.own 1000 0 (o1000).length) u.1 (hn := .nil (zn g))) ?_
      refine dq 21 rfl (fun _ g u h => LWo.move (e_int t3) u.1 (hn := .nil (zn g))) ?_
      refine dq 22 rfl (fun _ g u h => LWo.int _ u.1 rfl (sub_ck e17) (hn := .nil (zn g))) ?_
      refine dq 23 rfl (fun _ g u h => LWo.indexO e18 rfl u_Limpl_Pair s_impl_Pair u.1 u.2.1 h.1 (hn := .nil (zn g))) ?_
      refine dq 24 rfl (fun _ g u h => LWo.loadON ((e_impl_Pair x19)).cells e19 g_impl_Pair s_impl_Pair u.1 h.1 rfl rfl (hn := .nil (zn g))) ?_
      refine dq 25 rfl (fun _ g u h => LWo.eq_impl_Pair _ _ u.1 u.2.1 (hn := .nil (zn g))) ?_
      refine ⟨rfl, by kernel_rfl, hN14 _ ?_⟩
      refine LWP.cond_split rfl (fun h20 => ?_) (fun h20 => ?_)
      ·have h := bT h20 h
       refine LWP.seq_k fun N21 hN21 => ?_
       refine LWP.region (l := [_,_,_,_]) ?_
       refine LWo.move (.own 1000 0 (o1000).length) rfl (hn := ?_)
       refine LWo.move (e_int t3) rfl (hn := ?_)
       refine bk h fun u22 e22 h => ?_
       refine LWo.cutOM e22 u_Limpl_Pair s_impl_Pair rfl rfl ⟨_, rfl⟩ rfl (hn := ?_)
       refine LWo.assign (.own 1000 (0 + (t3).toNat) ((o1000).length - (t3).toNat)) rfl (hn := ?_)
       refine LWo.nil (hN21 _ ?_)
       refine LWP.join (α := Int × (List S_impl_Pair)) (fun z : Int × (List S_impl_Pair) => [(0, (.own 1000 0 (z.2).length)), (3, (e_int z.1))]) (fun z : Int × (List S_impl_Pair) => [(1000, (lob 2 e_impl_Pair z.2))]) (fun z : Int × (List S_impl_Pair) => m_slices_Compact_Limpl_Pair_impl_Pair_j2  (m_slices_Compact_Limpl_Pair_impl_Pair_l1  n1) z.1 z.2) r (fun _ => by simp [hkeys]) ?_ ?_
       ·rintro ⟨t3, o1000⟩ h
        replace h : m_slices_Compact_Limpl_Pair_impl_Pair_j2  (m_slices_Compact_Limpl_Pair_impl_Pair_l1  n1) t3 o1000 = some _ := h
        refine LWP.seq_k fun N46 hN46 => ?_
        refine LWP.region (l := [_,_,_,_]) ?_
        refine LWo.move (.own 1000 0 (o1000).length) rfl (hn := ?_)
        refine LWo.move (e_int t3) rfl (hn := ?_)
        refine bk h fun u47 e47 h => ?_
        refine LWo.cutOM e47 u_Limpl_Pair s_impl_Pair rfl rfl ⟨_, rfl⟩ rfl (hn := ?_)
        refine LWo.clearO (f := e_impl_Pair) (l := o1000) none u_Limpl_Pair z_impl_Pair rfl rfl rfl rfl rfl (hn := ?_)
        refine LWo.nil (hN46 _ ?_)
        refine LWP.seq_k fun N48 hN48 => ?_
        refine LWP.region (l := [_,_,_,_]) ?_
        refine LWo.move (.own 1000 0 ((o1000).length)) rfl (hn := ?_)
        refine LWo.move (e_int t3) rfl (hn := ?_)
        refine bk h fun u49 e49 h => ?_
        refine LWo.cutOM e49 u_Limpl_Pair s_impl_Pair rfl rfl rfl ⟨_, rfl⟩ (hn := ?_)
        refine LWo.assign (.own 1000 0 ((t3).toNat)) rfl (hn := ?_)
        refine LWo.nil (hN48 _ ?_)
        refine bk h fun u50 e50 h => ?_
        obtain rfl := Option.some.inj h
        refine LWP.ret (QG.mk (.inr rfl) (.cons (.tmp (x := (.own 1000 0 ((t3).toNat))) rfl) (.nil)) (RetOK.one0 (.nwT (leN_b e50) rfl) (by decide)) rfl rfl)
       ·intro N23 hN23
        refine LWP.seq_k fun N24 hN24 => ?_
        refine LWP.region (l := [_]) ?_
        refine LWo.assign (e_int (1 : Int)) rfl (hn := ?_)
        refine LWo.nil (hN24 _ ?_)
        refine LWP.block ?_
        refine LWP.loopM (α := Int × Nat × Nat × Int × (List S_impl_Pair)) (fun z : Int × Nat × Nat × Int × (List S_impl_Pair) => [(0, (.own 1000 0 (z.2.2.2.2).length)), (3, (e_int z.1)), (4, (.own 1000 z.2.1 z.2.2.1)), (5, (e_int z.2.2.2.1))]) (fun z : Int × Nat × Nat × Int × (List S_impl_Pair) => [(1000, (lob 2 e_impl_Pair z.2.2.2.2))]) (fun n2 (z : Int × Nat × Nat × Int × (List S_impl_Pair)) => m_slices_Compact_Limpl_Pair_impl_Pair_l2  (m_slices_Compact_Limpl_Pair_impl_Pair_l1  n1) n2 z.1 z.2.1 z.2.2.1 z.2.2.2.1 z.2.2.2.2) r _ (t3, (0 + (t3).toNat), ((o1000).length - (t3).toNat), (1 : Int), o1000) h (fun _ => rfl) (fun _ => by simp [hkeys]) ⟨rfl, rfl, rfl, rfl, trivial⟩ ⟨rfl, trivial⟩ ?_
        rintro n2 ⟨t3, t4o, t4n, t5, o1000⟩ h N25 hN25
        replace h : m_slices_Compact_Limpl_Pair_impl_Pair_l2  (m_slices_Compact_Limpl_Pair_impl_Pair_l1  n1) (n2 + 1) t3 t4o t4n t5 o1000 = some _ := h
        refine LWP.seq_k fun N27 hN27 => ?_
        refine LWP.seq_k fun N28 hN28 => ?_
        refine LWP.region (l := [_,_,_,_]) ?_
        refine LWo.move (e_int t5) rfl (hn := ?_)
        refine LWo.move (.own 1000 t4o t4n) rfl (hn := ?_)
        refine LWo.lenO u_Limpl_Pair rfl (hn := ?_)
        refine LWo.int _ rfl rfl rfl (hn := ?_)
        refine LWo.nil (hN28 _ ?_)
        refine LWP.cond_split rfl (fun h29 => ?_) (fun h29 => ?_)
        ·have h := bT h29 h
         refine LWP.skip (hN27 _ ?_)
         refine LWP.join (α := Int × Nat × Nat × Int × (List S_impl_Pair)) (fun z : Int × Nat × Nat × Int × (List S_impl_Pair) => [(0, (.own 1000 0 (z.2.2.2.2).length)), (3, (e_int z.1)), (4, (.own 1000 z.2.1 z.2.2.1)), (5, (e_int z.2.2.2.1))]) (fun z : Int × Nat × Nat × Int × (List S_impl_Pair) => [(1000, (lob 2 e_impl_Pair z.2.2.2.2))]) (fun z : Int × Nat × Nat × Int × (List S_impl_Pair) => m_slices_Compact_Limpl_Pair_impl_Pair_j1  (m_slices_Compact_Limpl_Pair_impl_Pair_l1  n1) (m_slices_Compact_Limpl_Pair_impl_Pair_l2  (m_slices_Compact_Limpl_Pair_impl_Pair_l1  n1) n2) z.1 z.2.1 z.2.2.1 z.2.2.2.1 z.2.2.2.2) r (fun _ => by simp [hkeys]) ?_ ?_
         ·rintro ⟨t3, t4o, t4n, t5, o1000⟩ h
          replace h : m_slices_Compact_Limpl_Pair_impl_Pair_j1  (m_slices_Compact_Limpl_Pair_impl_Pair_l1  n1) (m_slices_Compact_Limpl_Pair_impl_Pair_l2  (m_slices_Compact_Limpl_Pair_impl_Pair_l1  n1) n2) t3 t4o t4n t5 o1000 = some _ := h
          refine LWP.region (l := [_,_,_]) ?_
          refine LWo.move (e_int t5) rfl (hn := ?_)
          refine bk h fun x45 e45 h => ?_
          refine LWo.int _ rfl rfl (add_ck e45) (hn := ?_)
          refine LWo.assign (e_int x45) rfl (hn := ?_)
          refine LWo.nil (hN25 (t3, t4o, t4n, x45, o1000) _ ⟨rfl, rfl, rfl, rfl, trivial⟩ ⟨rfl, trivial⟩ h)
         ·intro N30 hN30
          refine LWP.block ?_
          refine LWP.seq_k fun N31 hN31 => ?_
          refine bk h fun x32 e32 h => ?_
          refine bk h fun x33 e33 h => ?_
          refine bk h fun x34 e34 h => ?_
          refine bk h fun x35 e35 h => ?_
          refine bk h fun x36 e36 h => ?_
          refine LWP.drawF (l := [_,_,_,_,_,_,_,_,_,_]) [] [0, 3, 4, 5] [([4], []), ([5], []), ([35, 36], [1000]), ([37], [1000]), ([4], []), ([5], []), ([40], []), ([39, 41], [1000]), ([42], [1000]), ([38, 43], [])] [0, 3, 4, 5, 44] [1000] mixed (by kernel_rfl) rfl (by decide) ?_
          refine dq 35 rfl (fun _ g u h => LWo.move (.own 1000 t4o t4n) u.1 (hn := .nil (zn g))) ?_
          refine dq 36 rfl (fun _ g u h => LWo.move (e_int t5) u.1 (hn := .nil (zn g))) ?_
          refine dq 37 rfl (fun _ g u h => LWo.indexOC e32 u_Limpl_Pair s_impl_Pair u.1 u.2.1 h.1 (hn := .nil (zn g))) ?_
          refine dq 38 rfl (fun _ g u h => LWo.loadON ((e_impl_Pair x33)).cells e33 g_impl_Pair s_impl_Pair u.1 h.1 rfl rfl (hn := .nil (zn g))) ?_
          refine dq 39 rfl (fun _ g u h => LWo.move (.own 1000 t4o t4n) u.1 (hn := .nil (zn g))) ?_
          refine dq 40 rfl (fun _ g u h => LWo.move (e_int t5) u.1 (hn := .nil (zn g))) ?_
          refine dq 41 rfl (fun _ g u h => LWo.int _ u.1 rfl (sub_ck e34) (hn := .nil (zn g))) ?_
          refine dq 42 rfl (fun _ g u h => LWo.indexOC e35 u_Limpl_Pair s_impl_Pair u.1 u.2.1 h.1 (hn := .nil (zn g))) ?_
          refine dq 43 rfl (fun _ g u h => LWo.loadON ((e_impl_Pair x36)).cells e36 g_impl_Pair s_impl_Pair u.1 h.1 rfl rfl (hn := .nil (zn g))) ?_
          refine dq 44 rfl (fun _ g u h => LWo.ne_impl_Pair _ _ u.1 u.2.1 (hn := .nil (zn g))) ?_
          refine ⟨rfl, by kernel_rfl, hN31 _ ?_⟩
          refine LWP.cond_split rfl (fun h37 => ?_) (fun h37 => ?_)
          ·have h := bT h37 h
           refine LWP.seq_k fun N38 hN38 => ?_
           refine LWP.region (l := [_,_,_,_,_,_,_,_]) ?_
           refine LWo.move (.own 1000 0 (o1000).length) rfl (hn := ?_)
           refine LWo.move (e_int t3) rfl (hn := ?_)
           refine LWo.move (.own 1000 t4o t4n) rfl (hn := ?_)
           refine LWo.move (e_int t5) rfl (hn := ?_)
           refine bk h fun x39 e39 h => ?_
           refine LWo.indexOC e39 u_Limpl_Pair s_impl_Pair rfl rfl rfl (hn := ?_)
           refine bk h fun x40 e40 h => ?_
           refine LWo.loadON ((e_impl_Pair x40)).cells e40 g_impl_Pair s_impl_Pair rfl rfl rfl rfl (hn := ?_)
           refine bk h fun x41 e41 h => ?_
           refine LWo.indexO e41 rfl u_Limpl_Pair s_impl_Pair rfl rfl rfl (hn := ?_)
           refine bk h fun x42 e42 h => ?_
           refine lk h fun y43 e43 h => ?_
           refine LWo.storeO y43 e42 s_impl_Pair rfl rfl rfl rfl rfl rfl rfl (by rw [e43]; rfl) (hn := ?_)
           refine LWo.nil (hN38 _ ?_)
           refine LWP.region (l := [_,_,_]) ?_
           refine LWo.move (e_int t3) rfl (hn := ?_)
           refine bk h fun x44 e44 h => ?_
           refine LWo.int _ rfl rfl (add_ck e44) (hn := ?_)
           refine LWo.assign (e_int x44) rfl (hn := ?_)
           refine LWo.nil (hN30 (x44, t4o, t4n, t5, (o1000.set (t3).toNat y43)) _ ⟨(congrArg (LV.own 1000 0) List.length_set.symm), rfl, rfl, rfl, trivial⟩ ⟨rfl, trivial⟩ h)
          ·have h := bF h37 h
           refine LWP.skip (hN30 (t3, t4o, t4n, t5, o1000) _ ⟨rfl, rfl, rfl, rfl, trivial⟩ ⟨rfl, trivial⟩ h)
        ·have h := bF h29 h
         refine LWP.exit (hN23 (t3, o1000) _ ⟨rfl, rfl, trivial⟩ ⟨rfl, trivial⟩ h)
      ·have h := bF h20 h
       refine LWP.skip (hN13 (t3, o1000) _ ⟨rfl, rfl, trivial⟩ ⟨rfl, trivial⟩ h)
    ·have h := bF h12 h
     refine LWP.exit (hN6 o1000 _ ⟨rfl, trivial⟩ ⟨rfl, trivial⟩ h)

def m_impl_pairs (o0 : (List S_impl_Pair)) : Option (List S_impl_Pair) :=
  (m_slices_SortFunc_Limpl_Pair_impl_Pair_by_impl_Pair_order o0).bind fun x3 =>
  (lenQ x3.length o0.length ()).bind fun u4 =>
  (m_slices_Compact_Limpl_Pair_impl_Pair x3).bind fun x6 =>
  (m_impl_clone_impl_Pair x6).bind fun x7 =>
  some x7
theorem c_impl_pairs (o0 : (List S_impl_Pair)) (r : (List S_impl_Pair)) (h : m_impl_pairs o0 = some r) : Does Try.prog f_impl_pairs [.own 0 0 o0.length] [(0, (lob 2 e_impl_Pair o0))] (fun x hh => x = .nw 2 (r.map e_impl_Pair) false ∧ hh = []) := by
  refine Does.goG [0] F_impl_pairs rfl e_impl_pairs n_impl_pairs rfl (rvs := [.tmp 2]) rfl rfl ?_
  intro w0 ok0 lent ρ0
  refine LWP.rekey 0 0 1000 rfl rfl rfl rfl rfl rfl ?_
  refine LWP.tell [(0, (.own 1000 0 (o0).length))] [(1000, (lob 2 e_impl_Pair o0))] ⟨rfl, trivial⟩ ⟨rfl, trivial⟩ (by simp [hkeys]) ?_
  refine LWP.seq_k fun N1 hN1 => ?_
  refine LWP.region (l := [_]) ?_
  refine LWo.assign _ rfl (hn := ?_)
  refine LWo.ownNil 2 1002 2 rfl rfl rfl ?_
  refine LWo.known 2 (.own 1002 0 ([] : (List S_impl_Pair)).length) rfl ?_
  refine LWo.nil (hN1 _ ?_)
  refine LWP.seq_k fun N2 hN2 => ?_
  refine LWP.region (l := [_,_]) ?_
  refine LWo.move (.own 1000 0 (o0).length) rfl (hn := ?_)
  refine bk h fun x3 e3 h => ?_
  refine bk h fun u4 e4 h => ?_
  refine LWo.ucallM (e := e_impl_Pair) rfl rfl (k_slices_SortFunc_Limpl_Pair_impl_Pair_by_impl_Pair_order _ _ e3 1000) rfl rfl (some 4) rfl (hn := ?_)
  refine LWo.nil (hN2 _ ?_)
  refine LWP.seq_k fun N5 hN5 => ?_
  refine LWP.region (l := [_,_,_,_]) ?_
  refine LWo.move (.own 1000 0 (o0).length) rfl (hn := ?_)
  refine bk h fun x6 e6 h => ?_
  refine LWo.tcallN (e := e_impl_Pair) (e' := e_impl_Pair) 1006 rfl rfl (c_slices_Compact_Limpl_Pair_impl_Pair _ _ e6) (fun _ => rfl) rfl ((lenQ_some e4).1.symm) rfl rfl (hn := ?_)
  refine bk h fun x7 e7 h => ?_
  refine LWo.frzL (f := e_impl_Pair) (l := x6) [6] 1006 rfl rfl ⟨rfl, trivial⟩ ?_
  refine LWo.ncall (e := e_impl_Pair) 1007 rfl rfl (c_impl_clone_impl_Pair _ _ e7) (.same (.nil)) rfl (hn := ?_)
  refine LWo.assign (.own 1007 0 (x7).length) rfl (hn := ?_)
  refine LWo.nil (hN5 _ ?_)
  obtain rfl := Option.some.inj h
  refine LWP.ret (QG.mk (.inr rfl) (.cons (.tmp (x := (.own 1007 0 (x7).length)) rfl) (.nil)) (RetOK.one0 (.nwM rfl rfl) (by decide)) rfl rfl)
end Go.Proofs.Ytkgmomocjkmipaa
