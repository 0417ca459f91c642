/- Mirrors of functions, and that the functions return what the mirrors say. -/
import Derived.Test.YtgepipglchpabaaXTy
set_option linter.unusedVariables false
set_option linter.unusedSimpArgs false
set_option linter.unnecessarySimpa false
namespace Go.Proofs.Ytgepipglchpabaa
open Go.Proofs Go.Lift Go.RowKit
def m_spec_l20Open_j1 (t0 : (List UInt8)) : Option S_spec_l20Rd :=
  some (⟨t0, (0 : Int)⟩ : S_spec_l20Rd)
def m_spec_l20Open (a0 : (List UInt8)) : Option S_spec_l20Rd :=
  bif decide ((a0.length : Int) > (2000 : Int)) then ((cut? a0 (0 : Int) (2000 : Int)).bind fun x5 =>
    m_spec_l20Open_j1  x5)
  else (m_spec_l20Open_j1  a0)
theorem c_spec_l20Open (a0 : (List UInt8)) (r : S_spec_l20Rd) (h : m_spec_l20Open a0 = some r) : Ret Try.prog f_spec_l20Open [e_Luint8 a0] (.nb (e_spec_l20Rd r).cells) := by
  refine Does.goG [] F_spec_l20Open rfl e_spec_l20Open n_spec_l20Open rfl (rvs := [.tmp 2]) rfl rfl ?_
  intro w0 ok0 lent ρ0
  refine LWP.seq_k fun N1 hN1 => ?_
  refine LWP.region (l := [_]) ?_
  refine LWo.assign _ rfl (hn := ?_)
  refine LWo.nil (hN1 _ ?_)
  refine LWP.join (α := (List UInt8)) (fun z : (List UInt8) => [(0, (e_Luint8 z))]) (fun z : (List UInt8) => []) (fun z : (List UInt8) => m_spec_l20Open_j1  z) r (fun _ => by simp [hkeys]) ?_ ?_
  ·rintro t0 h
   replace h : m_spec_l20Open_j1  t0 = some _ := h
   refine LWP.seq_k fun N6 hN6 => ?_
   refine LWP.region (l := [_,_,_,_]) ?_
   refine LWo.move (e_Luint8 t0) rfl (hn := ?_)
   refine LWo.build_spec_l20Rd (parts := [_]) (⟨t0, (0 : Int)⟩ : S_spec_l20Rd) rfl rfl rfl .refl (hn := ?_)
   refine LWo.boxM (f := e_spec_l20Rd) (y := (⟨t0, (0 : Int)⟩ : S_spec_l20Rd)) 10 rfl rfl rfl rfl rfl rfl (hn := ?_)
   refine LWo.assign (.ptr 10 0 0) rfl (hn := ?_)
   refine LWo.nil (hN6 _ ?_)
   obtain rfl := Option.some.inj h
   refine LWP.ret (QG.mk (.inr rfl) (.cons (.tmp (x := (.ptr 10 0 0)) rfl) (.nil)) (RetOK.one0 (.box rfl rfl rfl rfl rfl) (by decide)) rfl rfl)
  ·intro N2 hN2
   refine LWP.seq_k fun N3 hN3 => ?_
   refine LWP.region (l := [_,_,_]) ?_
   refine LWo.move (e_Luint8 a0) rfl (hn := ?_)
   refine LWo.lenM (f := e_uint8) (l := a0) u_Luint8 rfl (hn := ?_)
   refine LWo.int _ rfl rfl rfl (hn := ?_)
   refine LWo.nil (hN3 _ ?_)
   refine LWP.cond_split rfl (fun h4 => ?_) (fun h4 => ?_)
   ·have h := bT h4 h
    refine LWP.region (l := [_,_,_]) ?_
    refine LWo.move (e_Luint8 a0) rfl (hn := ?_)
    refine bk h fun x5 e5 h => ?_
    refine LWo.cutM (f := e_uint8) e5 u_Luint8 s_uint8 rfl rfl ⟨_, rfl⟩ (hn := ?_)
    refine LWo.assign (e_Luint8 x5) rfl (hn := ?_)
    refine LWo.nil (hN2 x5 _ ⟨rfl, trivial⟩ trivial h)
   ·have h := bF h4 h
    refine LWP.skip (hN2 a0 _ ⟨rfl, trivial⟩ trivial h)

def m_Pspec_l20Rd_pick_j1 (t1 : Int) (t24 : Bool) (o0 : S_spec_l20Rd) : Option (Int × S_spec_l20Rd) :=
  bif t24 then (some ((0 : Int), o0))
  else ((ckI (o0.p - (1 : Int))).bind fun x11 =>
  bif decide (x11 < (o0.b.length : Int)) then ((at? o0.b x11).bind fun x16 =>
  (remI (x16.toNat : Int) t1).bind fun x17 =>
  some (x17, o0))
  else ((remI x11 (o0.b.length : Int)).bind fun x19 =>
  (at? o0.b x19).bind fun x20 =>
  (ckI ((x20.toNat : Int) * (131 : Int))).bind fun x21 =>
  (ckI (x11 * (7 : Int))).bind fun x22 =>
  (ckI (x22 + (3 : Int))).bind fun x23 =>
  (remI x23 (o0.b.length : Int)).bind fun x24 =>
  (at? o0.b x24).bind fun x25 =>
  (ckI ((x25.toNat : Int) * (1117 : Int))).bind fun x26 =>
  (ckI (x21 + x26)).bind fun x27 =>
  (ckI (x11 * (29 : Int))).bind fun x28 =>
  (ckI (x27 + x28)).bind fun x29 =>
  (quoI x11 (o0.b.length : Int)).bind fun x30 =>
  (ckI (x30 * (53 : Int))).bind fun x31 =>
  (ckI (x29 + x31)).bind fun x32 =>
  (quoI x32 (64 : Int)).bind fun x34 =>
  (xorI x32 x34).bind fun x35 =>
  (remI x35 t1).bind fun x37 =>
  some (x37, o0)))
def m_Pspec_l20Rd_pick (o0 : S_spec_l20Rd) (a1 : Int) : Option (Int × S_spec_l20Rd) :=
  (ckI (o0.p + (1 : Int))).bind fun x3 =>
  lt ({ o0 with p := x3 }) fun y4 =>
  bif decide (a1 < (1 : Int)) then (m_Pspec_l20Rd_pick_j1  a1 true y4)
  else (m_Pspec_l20Rd_pick_j1  a1 ((y4.b.length : Int) == (0 : Int)) y4)
theorem c_Pspec_l20Rd_pick (o0 : S_spec_l20Rd) (a1 : Int) (r : (Int × S_spec_l20Rd)) (h : m_Pspec_l20Rd_pick o0 a1 = some r) : Does Try.prog f_Pspec_l20Rd_pick [.ptr 0 0 0, e_int a1] [(0, (vob 2 e_spec_l20Rd o0))] (fun x hh => x = e_int r.1 ∧ hh = [(0, (vob 2 e_spec_l20Rd r.2))]) := by
  refine Does.goG [0] F_Pspec_l20Rd_pick rfl e_Pspec_l20Rd_pick n_Pspec_l20Rd_pick rfl (rvs := [.tmp 4]) rfl rfl ?_
  intro w0 ok0 lent ρ0
  refine LWP.seq_k fun N1 hN1 => ?_
  refine LWP.region (l := [_]) ?_
  refine LWo.assign (e_int (0 : Int)) rfl (hn := ?_)
  refine LWo.nil (hN1 _ ?_)
  refine LWP.seq_k fun N2 hN2 => ?_
  refine LWP.region (l := [_,_,_,_,_,_,_,_,_]) ?_
  refine LWo.move (.ptr 0 0 0) rfl (hn := ?_)
  refine LWo.move (.ptr 0 0 0) rfl (hn := ?_)
  refine LWo.nilCheckPtr rfl (hn := ?_)
  refine LWo.fieldPtr u_spec_l20Rd rfl s_int rfl rfl (hn := ?_)
  refine LWo.loadV1 (e_int o0.p)  g_int rfl rfl rfl (hn := ?_)
  refine bk h fun x3 e3 h => ?_
  refine LWo.int _ rfl rfl (add_ck e3) (hn := ?_)
  refine LWo.nilCheckPtr rfl (hn := ?_)
  refine LWo.fieldPtr u_spec_l20Rd rfl s_int rfl rfl (hn := ?_)
  refine lk h fun y4 e4 h => ?_
  refine LWo.storeW (y := o0) y4 s_int rfl rfl rfl rfl rfl rfl (by rw [e4]; exact .refl) rfl (hn := ?_)
  refine LWo.nil (hN2 _ ?_)
  refine LWP.seq_k fun N5 hN5 => ?_
  refine LWP.join (α := Int × Bool × S_spec_l20Rd) (fun z : Int × Bool × S_spec_l20Rd => [(0, (.ptr 0 0 0)), (1, (e_int z.1)), (24, (e_bool z.2.1))]) (fun z : Int × Bool × S_spec_l20Rd => [(0, (vob 2 e_spec_l20Rd z.2.2))]) (fun z : Int × Bool × S_spec_l20Rd => m_Pspec_l20Rd_pick_j1  z.1 z.2.1 z.2.2) r (fun _ => by simp [hkeys]) ?_ ?_
  ·rintro ⟨t1, t24, o0⟩ h
   replace h : m_Pspec_l20Rd_pick_j1  t1 t24 o0 = some _ := h
   refine LWP.cond_split rfl (fun h8 => ?_) (fun h8 => ?_)
   ·have h := bT h8 h
    refine LWP.seq_k fun N9 hN9 => ?_
    refine LWP.region (l := [_]) ?_
    refine LWo.assign (e_int (0 : Int)) rfl (hn := ?_)
    refine LWo.nil (hN9 _ ?_)
    obtain rfl := Option.some.inj h
    refine LWP.ret (QG.mk (.inr rfl) (.cons (.tmp (x := (e_int (0 : Int))) rfl) (.nil)) (RetOK.one1 (.pure rfl) (by decide) rfl rfl rfl rfl rfl) rfl rfl)
   ·have h := bF h8 h
    refine LWP.skip (hN5 _ ?_)
    refine LWP.seq_k fun N10 hN10 => ?_
    refine LWP.region (l := [_,_,_,_,_,_]) ?_
    refine LWo.move (.ptr 0 0 0) rfl (hn := ?_)
    refine LWo.nilCheckPtr rfl (hn := ?_)
    refine LWo.fieldPtr u_spec_l20Rd rfl s_int rfl rfl (hn := ?_)
    refine LWo.loadV1 (e_int o0.p)  g_int rfl rfl rfl (hn := ?_)
    refine bk h fun x11 e11 h => ?_
    refine LWo.int _ rfl rfl (sub_ck e11) (hn := ?_)
    refine LWo.assign (e_int x11) rfl (hn := ?_)
    refine LWo.nil (hN10 _ ?_)
    refine LWP.seq_k fun N12 hN12 => ?_
    refine LWP.seq_k fun N13 hN13 => ?_
    refine LWP.region (l := [_,_,_,_,_,_,_]) ?_
    refine LWo.move (e_int x11) rfl (hn := ?_)
    refine LWo.move (.ptr 0 0 0) rfl (hn := ?_)
    refine LWo.nilCheckPtr rfl (hn := ?_)
    refine LWo.fieldPtr u_spec_l20Rd rfl s_Luint8 rfl rfl (hn := ?_)
    refine LWo.loadV1 (e_Luint8 o0.b)  g_Luint8 rfl rfl rfl (hn := ?_)
    refine LWo.lenM (f := e_uint8) (l := o0.b) u_Luint8 rfl (hn := ?_)
    refine LWo.int _ rfl rfl rfl (hn := ?_)
    refine LWo.nil (hN13 _ ?_)
    refine LWP.cond_split rfl (fun h14 => ?_) (fun h14 => ?_)
    ·have h := bT h14 h
     refine LWP.seq_k fun N15 hN15 => ?_
     refine LWP.region (l := [_,_,_,_,_,_,_,_,_,_,_]) ?_
     refine LWo.move (.ptr 0 0 0) rfl (hn := ?_)
     refine LWo.nilCheckPtr rfl (hn := ?_)
     refine LWo.fieldPtr u_spec_l20Rd rfl s_Luint8 rfl rfl (hn := ?_)
     refine LWo.loadV1 (e_Luint8 o0.b)  g_Luint8 rfl rfl rfl (hn := ?_)
     refine LWo.move (e_int x11) rfl (hn := ?_)
     refine bk h fun x16 e16 h => ?_
     refine LWo.indexM (f := e_uint8) e16 u_Luint8 s_uint8 rfl rfl (hn := ?_)
     refine LWo.load1 (c := (e_uint8 x16)) g_uint8 rfl (hn := ?_)
     refine LWo.convByte _ u_uint8 u_int rfl (hn := ?_)
     refine LWo.move (e_int t1) rfl (hn := ?_)
     refine bk h fun x17 e17 h => ?_
     refine LWo.int _ rfl rfl (rem_ck e17) (hn := ?_)
     refine LWo.assign (e_int x17) rfl (hn := ?_)
     refine LWo.nil (hN15 _ ?_)
     obtain rfl := Option.some.inj h
     refine LWP.ret (QG.mk (.inr rfl) (.cons (.tmp (x := (e_int x17)) rfl) (.nil)) (RetOK.one1 (.pure rfl) (by decide) rfl rfl rfl rfl rfl) rfl rfl)
    ·have h := bF h14 h
     refine LWP.skip (hN12 _ ?_)
     refine LWP.seq_k fun N18 hN18 => ?_
     refine bk h fun x19 e19 h => ?_
     refine bk h fun x20 e20 h => ?_
     refine bk h fun x21 e21 h => ?_
     refine bk h fun x22 e22 h => ?_
     refine bk h fun x23 e23 h => ?_
     refine bk h fun x24 e24 h => ?_
     refine bk h fun x25 e25 h => ?_
     refine bk h fun x26 e26 h => ?_
     refine bk h fun x27 e27 h => ?_
     refine bk h fun x28 e28 h => ?_
     refine bk h fun x29 e29 h => ?_
     refine bk h fun x30 e30 h => ?_
     refine bk h fun x31 e31 h => ?_
     refine bk h fun x32 e32 h => ?_
     refine LWP.drawF (l := [_,_,_,_,_,_,_,_,_,_,_,_,_,_,_,_,_,_,_,_,_,_,_,_,_,_,_,_,_,_,_,_,_,_,_,_,_,_,_,_,_,_,_,_,_,_]) [] [0, 1, 5] [([0], []), ([47], []), ([48], []), ([49], [0]), ([5], []), ([0], []), ([52], []), ([53], []), ([54], [0]), ([55], []), ([51, 56], []), ([50, 57], []), ([58], []), ([59], []), ([60], []), ([0], []), ([62], []), ([63], []), ([64], [0]), ([5], []), ([66], []), ([67], []), ([0], []), ([69], []), ([70], []), ([71], [0]), ([72], []), ([68, 73], []), ([65, 74], []), ([75], []), ([76], []), ([77], []), ([61, 78], []), ([5], []), ([80], []), ([79, 81], []), ([5], []), ([0], []), ([84], []), ([85], []), ([86], [0]), ([87], []), ([83, 88], []), ([89], []), ([82, 90], []), ([91], [])] [1, 6] [0] mixed (by kernel_rfl) rfl (by decide) ?_
     refine dq 47 rfl (fun _ g u h => LWo.move (.ptr 0 0 0) u.1 (hn := .nil (zn g))) ?_
     refine dq 48 rfl (fun _ g u h => LWo.nilCheckPtr u.1 (hn := .nil (zn g))) ?_
     refine dq 49 rfl (fun _ g u h => LWo.fieldPtr u_spec_l20Rd rfl s_Luint8 u.1 rfl (hn := .nil (zn g))) ?_
     refine dq 50 rfl (fun _ g u h => LWo.loadV1 (e_Luint8 o0.b)  g_Luint8 u.1 h.1 rfl (hn := .nil (zn g))) ?_
     refine dq 51 rfl (fun _ g u h => LWo.move (e_int x11) u.1 (hn := .nil (zn g))) ?_
     refine dq 52 rfl (fun _ g u h => LWo.move (.ptr 0 0 0) u.1 (hn := .nil (zn g))) ?_
     refine dq 53 rfl (fun _ g u h => LWo.nilCheckPtr u.1 (hn := .nil (zn g))) ?_
     refine dq 54 rfl (fun _ g u h => LWo.fieldPtr u_spec_l20Rd rfl s_Luint8 u.1 rfl (hn := .nil (zn g))) ?_
     refine dq 55 rfl (fun _ g u h => LWo.loadV1 (e_Luint8 o0.b)  g_Luint8 u.1 h.1 rfl (hn := .nil (zn g))) ?_
     refine dq 56 rfl (fun _ g u h => LWo.lenM (f := e_uint8) (l := o0.b) u_Luint8 u.1 (hn := .nil (zn g))) ?_
     refine dq 57 rfl (fun _ g u h => LWo.int _ u.1 u.2.1 (rem_ck e19) (hn := .nil (zn g))) ?_
     refine dq 58 rfl (fun _ g u h => LWo.indexM (f := e_uint8) e20 u_Luint8 s_uint8 u.1 u.2.1 (hn := .nil (zn g))) ?_
     refine dq 59 rfl (fun _ g u h => LWo.load1 (c := (e_uint8 x20)) g_uint8 u.1 (hn := .nil (zn g))) ?_
     refine dq 60 rfl (fun _ g u h => LWo.convByte _ u_uint8 u_int u.1 (hn := .nil (zn g))) ?_
     refine dq 61 rfl (fun _ g u h => LWo.int _ u.1 rfl (mul_ck e21) (hn := .nil (zn g))) ?_
     refine dq 62 rfl (fun _ g u h => LWo.move (.ptr 0 0 0) u.1 (hn := .nil (zn g))) ?_
     refine dq 63 rfl (fun _ g u h => LWo.nilCheckPtr u.1 (hn := .nil (zn g))) ?_
     refine dq 64 rfl (fun _ g u h => LWo.fieldPtr u_spec_l20Rd rfl s_Luint8 u.1 rfl (hn := .nil (zn g))) ?_
     refine dq 65 rfl (fun _ g u h => LWo.loadV1 (e_Luint8 o0.b)  g_Luint8 u.1 h.1 rfl (hn := .nil (zn g))) ?_
     refine dq 66 rfl (fun _ g u h => LWo.move (e_int x11) u.1 (hn := .nil (zn g))) ?_
     refine dq 67 rfl (fun _ g u h => LWo.int _ u.1 rfl (mul_ck e22) (hn := .nil (zn g))) ?_
     refine dq 68 rfl (fun _ g u h => LWo.int _ u.1 rfl (add_ck e23) (hn := .nil (zn g))) ?_
     refine dq 69 rfl (fun _ g u h => LWo.move (.ptr 0 0 0) u.1 (hn := .nil (zn g))) ?_
     refine dq 70 rfl (fun _ g u h => LWo.nilCheckPtr u.1 (hn := .nil (zn g))) ?_
     refine dq 71 rfl (fun _ g u h => LWo.fieldPtr u_spec_l20Rd rfl s_Luint8 u.1 rfl (hn := .nil (zn g))) ?_
     refine dq 72 rfl (fun _ g u h => LWo.loadV1 (e_Luint8 o0.b)  g_Luint8 u.1 h.1 rfl (hn := .nil (zn g))) ?_
     refine dq 73 rfl (fun _ g u h => LWo.lenM (f := e_uint8) (l := o0.b) u_Luint8 u.1 (hn := .nil (zn g))) ?_
     refine dq 74 rfl (fun _ g u h => LWo.int _ u.1 u.2.1 (rem_ck e24) (hn := .nil (zn g))) ?_
     refine dq 75 rfl (fun _ g u h => LWo.indexM (f := e_uint8) e25 u_Luint8 s_uint8 u.1 u.2.1 (hn := .nil (zn g))) ?_
     refine dq 76 rfl (fun _ g u h => LWo.load1 (c := (e_uint8 x25)) g_uint8 u.1 (hn := .nil (zn g))) ?_
     refine dq 77 rfl (fun _ g u h => LWo.convByte _ u_uint8 u_int u.1 (hn := .nil (zn g))) ?_
     refine dq 78 rfl (fun _ g u h => LWo.int _ u.1 rfl (mul_ck e26) (hn := .nil (zn g))) ?_
     refine dq 79 rfl (fun _ g u h => LWo.int _ u.1 u.2.1 (add_ck e27) (hn := .nil (zn g))) ?_
     refine dq 80 rfl (fun _ g u h => LWo.move (e_int x11) u.1 (hn := .nil (zn g))) ?_
     refine dq 81 rfl (fun _ g u h => LWo.int _ u.1 rfl (mul_ck e28) (hn := .nil (zn g))) ?_
     refine dq 82 rfl (fun _ g u h => LWo.int _ u.1 u.2.1 (add_ck e29) (hn := .nil (zn g))) ?_
     refine dq 83 rfl (fun _ g u h => LWo.move (e_int x11) u.1 (hn := .nil (zn g))) ?_
     refine dq 84 rfl (fun _ g u h => LWo.move (.ptr 0 0 0) u.1 (hn := .nil (zn g))) ?_
     refine dq 85 rfl (fun _ g u h => LWo.nilCheckPtr u.1 (hn := .nil (zn g))) ?_
     refine dq 86 rfl (fun _ g u h => LWo.fieldPtr u_spec_l20Rd rfl s_Luint8 u.1 rfl (hn := .nil (zn g))) ?_
     refine dq 87 rfl (fun _ g u h => LWo.loadV1 (e_Luint8 o0.b)  g_Luint8 u.1 h.1 rfl (hn := .nil (zn g))) ?_
     refine dq 88 rfl (fun _ g u h => LWo.lenM (f := e_uint8) (l := o0.b) u_Luint8 u.1 (hn := .nil (zn g))) ?_
     refine dq 89 rfl (fun _ g u h => LWo.int _ u.1 u.2.1 (quo_ck e30) (hn := .nil (zn g))) ?_
     refine dq 90 rfl (fun _ g u h => LWo.int _ u.1 rfl (mul_ck e31) (hn := .nil (zn g))) ?_
     refine dq 91 rfl (fun _ g u h => LWo.int _ u.1 u.2.1 (add_ck e32) (hn := .nil (zn g))) ?_
     refine dq 6 rfl (fun _ g u h => LWo.assign (e_int x32) u.1 (hn := .nil (zn g))) ?_
     refine ⟨rfl, by kernel_rfl, hN18 _ ?_⟩
     refine LWP.seq_k fun N33 hN33 => ?_
     refine LWP.region (l := [_,_,_,_,_]) ?_
     refine LWo.move (e_int x32) rfl (hn := ?_)
     refine LWo.move (e_int x32) rfl (hn := ?_)
     refine bk h fun x34 e34 h => ?_
     refine LWo.int _ rfl rfl (quo_ck e34) (hn := ?_)
     refine bk h fun x35 e35 h => ?_
     refine LWo.xorM e35 rfl rfl (hn := ?_)
     refine LWo.assign (e_int x35) rfl (hn := ?_)
     refine LWo.nil (hN33 _ ?_)
     refine LWP.seq_k fun N36 hN36 => ?_
     refine LWP.region (l := [_,_,_,_]) ?_
     refine LWo.move (e_int x35) rfl (hn := ?_)
     refine LWo.move (e_int t1) rfl (hn := ?_)
     refine bk h fun x37 e37 h => ?_
     refine LWo.int _ rfl rfl (rem_ck e37) (hn := ?_)
     refine LWo.assign (e_int x37) rfl (hn := ?_)
     refine LWo.nil (hN36 _ ?_)
     obtain rfl := Option.some.inj h
     refine LWP.ret (QG.mk (.inr rfl) (.cons (.tmp (x := (e_int x37)) rfl) (.nil)) (RetOK.one1 (.pure rfl) (by decide) rfl rfl rfl rfl rfl) rfl rfl)
  ·intro N6 hN6
   refine LWP.region (l := [_,_,_,_,_,_,_,_,_,_]) ?_
   refine LWo.move (e_int a1) rfl (hn := ?_)
   refine LWo.int _ rfl rfl rfl (hn := ?_)
   refine LWo.move (e_bool (decide (a1 < (1 : Int)))) rfl (hn := ?_)
   refine LWo.byCases (t := 17) _ rfl (fun h7 => ?_) (fun h7 => ?_)
   ·have h := bT h7 h
    refine LWo.guardNU (t := 17) rfl h7 rfl rfl rfl rfl rfl ?_
    refine LWo.guardNU (t := 17) rfl h7 rfl rfl rfl rfl rfl ?_
    refine LWo.guardNU (t := 17) rfl h7 rfl rfl rfl rfl rfl ?_
    refine LWo.guardNU (t := 17) rfl h7 rfl rfl rfl rfl rfl ?_
    refine LWo.guardNU (t := 17) rfl h7 rfl rfl rfl rfl rfl ?_
    refine LWo.guardNU (t := 17) rfl h7 rfl rfl rfl rfl rfl ?_
    refine LWo.pickTM (e_bool true) rfl h7 rfl (hn := ?_)
    refine LWo.nil (hN6 (a1, true, y4) _ ⟨rfl, rfl, rfl, trivial⟩ ⟨rfl, trivial⟩ h)
   ·have h := bF h7 h
    refine LWo.guardY (t := 17) rfl h7 rfl rfl ?_
    refine LWo.move (.ptr 0 0 0) rfl (hn := ?_)
    refine LWo.guardY (t := 17) rfl h7 rfl rfl ?_
    refine LWo.nilCheckPtr rfl (hn := ?_)
    refine LWo.guardY (t := 17) rfl h7 rfl rfl ?_
    refine LWo.fieldPtr u_spec_l20Rd rfl s_Luint8 rfl rfl (hn := ?_)
    refine LWo.guardY (t := 17) rfl h7 rfl rfl ?_
    refine LWo.loadV1 (e_Luint8 y4.b)  g_Luint8 rfl rfl rfl (hn := ?_)
    refine LWo.guardY (t := 17) rfl h7 rfl rfl ?_
    refine LWo.lenM (f := e_uint8) (l := y4.b) u_Luint8 rfl (hn := ?_)
    refine LWo.guardY (t := 17) rfl h7 rfl rfl ?_
    refine LWo.int _ rfl rfl rfl (hn := ?_)
    refine LWo.pickFM (e_bool ((y4.b.length : Int) == (0 : Int))) rfl h7 rfl (hn := ?_)
    refine LWo.nil (hN6 (a1, ((y4.b.length : Int) == (0 : Int)), y4) _ ⟨rfl, rfl, rfl, trivial⟩ ⟨rfl, trivial⟩ h)
theorem k_Pspec_l20Rd_pick (o0 : S_spec_l20Rd) (a1 : Int) (r : (Int × S_spec_l20Rd)) (h : m_Pspec_l20Rd_pick o0 a1 = some r) (k : Nat) : Does Try.prog f_Pspec_l20Rd_pick [.ptr k 0 0, e_int a1] [(k, (vob 2 e_spec_l20Rd o0))] (fun x hh => x = e_int r.1 ∧ hh = [(k, (vob 2 e_spec_l20Rd r.2))]) :=
  Does.nameV (c_Pspec_l20Rd_pick o0 a1 r h) rfl rfl rfl rfl rfl rfl k

def m_Pspec_l20Rd_odd_j1 (t4 : Bool) (o0 : S_spec_l20Rd) : Option (Bool × S_spec_l20Rd) :=
  some (t4, o0)
def m_Pspec_l20Rd_odd (o0 : S_spec_l20Rd) (a1 : Int) : Option (Bool × S_spec_l20Rd) :=
  bif decide (a1 > (0 : Int)) then ((m_Pspec_l20Rd_pick o0 a1).bind fun x4 =>
    (ckI (a1 - (1 : Int))).bind fun x5 =>
    m_Pspec_l20Rd_odd_j1  (x4.1 == x5) x4.2)
  else (m_Pspec_l20Rd_odd_j1  false o0)
theorem c_Pspec_l20Rd_odd (o0 : S_spec_l20Rd) (a1 : Int) (r : (Bool × S_spec_l20Rd)) (h : m_Pspec_l20Rd_odd o0 a1 = some r) : Does Try.prog f_Pspec_l20Rd_odd [.ptr 0 0 0, e_int a1] [(0, (vob 2 e_spec_l20Rd o0))] (fun x hh => x = e_bool r.1 ∧ hh = [(0, (vob 2 e_spec_l20Rd r.2))]) := by
  refine Does.goG [0] F_Pspec_l20Rd_odd rfl e_Pspec_l20Rd_odd n_Pspec_l20Rd_odd rfl (rvs := [.tmp 4]) rfl rfl ?_
  intro w0 ok0 lent ρ0
  refine LWP.seq_k fun N1 hN1 => ?_
  refine LWP.region (l := [_]) ?_
  refine LWo.assign (e_bool false) rfl (hn := ?_)
  refine LWo.nil (hN1 _ ?_)
  refine LWP.join (α := Bool × S_spec_l20Rd) (fun z : Bool × S_spec_l20Rd => [(4, (e_bool z.1))]) (fun z : Bool × S_spec_l20Rd => [(0, (vob 2 e_spec_l20Rd z.2))]) (fun z : Bool × S_spec_l20Rd => m_Pspec_l20Rd_odd_j1  z.1 z.2) r (fun _ => by simp [hkeys]) ?_ ?_
  ·rintro ⟨t4, o0⟩ h
   replace h : m_Pspec_l20Rd_odd_j1  t4 o0 = some _ := h
   obtain rfl := Option.some.inj h
   refine LWP.ret (QG.mk (.inr rfl) (.cons (.tmp (x := (e_bool t4)) rfl) (.nil)) (RetOK.one1 (.pure rfl) (by decide) rfl rfl rfl rfl rfl) rfl rfl)
  ·intro N2 hN2
   refine LWP.region (l := [_,_,_,_,_,_,_,_,_,_,_]) ?_
   refine LWo.move (e_int a1) rfl (hn := ?_)
   refine LWo.int _ rfl rfl rfl (hn := ?_)
   refine LWo.move (e_bool (decide (a1 > (0 : Int)))) rfl (hn := ?_)
   refine LWo.byCases (t := 7) _ rfl (fun h3 => ?_) (fun h3 => ?_)
   ·have h := bT h3 h
    refine LWo.guardY (t := 7) rfl h3 rfl rfl ?_
    refine LWo.move (.ptr 0 0 0) rfl (hn := ?_)
    refine LWo.guardY (t := 7) rfl h3 rfl rfl ?_
    refine LWo.move (e_int a1) rfl (hn := ?_)
    refine bk h fun x4 e4 h => ?_
    refine LWo.guardY (t := 7) rfl h3 rfl rfl ?_
    refine LWo.lcall rfl rfl (k_Pspec_l20Rd_pick _ _ _ e4 0) rfl rfl rfl (hn := ?_)
    refine LWo.guardY (t := 7) rfl h3 rfl rfl ?_
    refine LWo.move (e_int a1) rfl (hn := ?_)
    refine bk h fun x5 e5 h => ?_
    refine LWo.guardY (t := 7) rfl h3 rfl rfl ?_
    refine LWo.int _ rfl rfl (sub_ck e5) (hn := ?_)
    refine LWo.guardY (t := 7) rfl h3 rfl rfl ?_
    refine LWo.int _ rfl rfl rfl (hn := ?_)
    refine LWo.pickTM (e_bool (x4.1 == x5)) rfl h3 rfl (hn := ?_)
    refine LWo.assign (e_bool (x4.1 == x5)) rfl (hn := ?_)
    refine LWo.nil (hN2 ((x4.1 == x5), x4.2) _ ⟨rfl, trivial⟩ ⟨rfl, trivial⟩ h)
   ·have h := bF h3 h
    refine LWo.guardNU (t := 7) rfl h3 rfl rfl rfl rfl rfl ?_
    refine LWo.guardNU (t := 7) rfl h3 rfl rfl rfl rfl rfl ?_
    refine LWo.guardNU (t := 7) rfl h3 rfl rfl rfl rfl rfl ?_
    refine LWo.guardNU (t := 7) rfl h3 rfl rfl rfl rfl rfl ?_
    refine LWo.guardNU (t := 7) rfl h3 rfl rfl rfl rfl rfl ?_
    refine LWo.guardNU (t := 7) rfl h3 rfl rfl rfl rfl rfl ?_
    refine LWo.pickFM (e_bool false) rfl h3 rfl (hn := ?_)
    refine LWo.assign (e_bool false) rfl (hn := ?_)
    refine LWo.nil (hN2 (false, o0) _ ⟨rfl, trivial⟩ ⟨rfl, trivial⟩ h)
theorem k_Pspec_l20Rd_odd (o0 : S_spec_l20Rd) (a1 : Int) (r : (Bool × S_spec_l20Rd)) (h : m_Pspec_l20Rd_odd o0 a1 = some r) (k : Nat) : Does Try.prog f_Pspec_l20Rd_odd [.ptr k 0 0, e_int a1] [(k, (vob 2 e_spec_l20Rd o0))] (fun x hh => x = e_bool r.1 ∧ hh = [(k, (vob 2 e_spec_l20Rd r.2))]) :=
  Does.nameV (c_Pspec_l20Rd_odd o0 a1 r h) rfl rfl rfl rfl rfl rfl k

def m_spec_l20Columns_j2 (o0 : S_spec_l20Rd) (o1007 : (List S_impl_Column)) : Option ((List S_impl_Column) × S_spec_l20Rd) :=
  some (o1007, o0)
def m_spec_l20Columns_j1 (t1 : Int) (o0 : S_spec_l20Rd) (o1007 : (List S_impl_Column)) : Option ((List S_impl_Column) × S_spec_l20Rd) :=
  (m_Pspec_l20Rd_odd o0 t1).bind fun x20 =>
  bif x20.1 then ((m_Pspec_l20Rd_pick x20.2 (6 : Int)).bind fun x22 =>
    (ckI (x22.1 - (1 : Int))).bind fun x23 =>
    (app? o1007 ([(⟨x23, false⟩ : S_impl_Column), (⟨(1 : Int), false⟩ : S_impl_Column), (⟨(1 : Int), false⟩ : S_impl_Column)] : (List S_impl_Column))).bind fun x24 =>
    m_spec_l20Columns_j2  x22.2 x24)
  else (m_spec_l20Columns_j2  x20.2 o1007)
def m_spec_l20Columns_l1 : Nat → Int → Int → S_spec_l20Rd → (List S_impl_Column) → Option ((List S_impl_Column) × S_spec_l20Rd)
  | 0, _, _, _, _ => none
  | n1 + 1, t1, t6, o0, o1007 =>
    bif decide (t6 > (0 : Int)) then ((m_Pspec_l20Rd_pick o0 (4 : Int)).bind fun x13 =>
    (at? ([(1 : Int), (1 : Int), (2 : Int), (3 : Int)] : (List Int)) x13.1).bind fun x14 =>
    (m_Pspec_l20Rd_pick x13.2 (3 : Int)).bind fun x15 =>
    (app? o1007 ([(⟨x14, decide (x15.1 > (0 : Int))⟩ : S_impl_Column)] : (List S_impl_Column))).bind fun x16 =>
    (ckI (t6 - (1 : Int))).bind fun x17 =>
    (m_spec_l20Columns_l1  n1) t1 x17 x15.2 x16)
    else (m_spec_l20Columns_j1  t1 o0 o1007)
def m_spec_l20Columns (o0 : S_spec_l20Rd) (a1 : Int) : Option ((List S_impl_Column) × S_spec_l20Rd) :=
  (m_Pspec_l20Rd_pick o0 (3 : Int)).bind fun x5 =>
  (ckI ((1 : Int) + x5.1)).bind fun x6 =>
  m_spec_l20Columns_l1  ((x6 - (0 : Int)).toNat + 1) a1 x6 x5.2 ([] : (List S_impl_Column))
theorem c_spec_l20Columns (o0 : S_spec_l20Rd) (a1 : Int) (r : ((List S_impl_Column) × S_spec_l20Rd)) (h : m_spec_l20Columns o0 a1 = some r) : Does Try.prog f_spec_l20Columns [.ptr 0 0 0, e_int a1] [(0, (vob 2 e_spec_l20Rd o0))] (fun x hh => x = .nw 2 (r.1.map e_impl_Column) false ∧ hh = [(0, (vob 2 e_spec_l20Rd r.2))]) := by
  refine Does.goG [0] F_spec_l20Columns rfl e_spec_l20Columns n_spec_l20Columns rfl (rvs := [.tmp 4]) rfl rfl ?_
  intro w0 ok0 lent ρ0
  refine LWP.seq_k fun N1 hN1 => ?_
  refine LWP.region (l := [_]) ?_
  refine LWo.assign _ rfl (hn := ?_)
  refine LWo.ownNil 4 1004 2 rfl rfl rfl ?_
  refine LWo.known 4 (.own 1004 0 ([] : (List S_impl_Column)).length) rfl ?_
  refine LWo.nil (hN1 _ ?_)
  refine LWP.seq_k fun N2 hN2 => ?_
  refine LWP.region (l := [_,_]) ?_
  refine LWo.lit0 1007 u_Limpl_Column s_impl_Column z_impl_Column (hn := ?_)
  refine LWo.known 7 (.own 1007 0 ([] : (List S_impl_Column)).length) rfl ?_
  refine LWo.assign (.own 1007 0 (([] : (List S_impl_Column))).length) rfl (hn := ?_)
  refine LWo.nil (hN2 _ ?_)
  refine LWP.join (α := Int × S_spec_l20Rd × (List S_impl_Column)) (fun z : Int × S_spec_l20Rd × (List S_impl_Column) => [(0, (.ptr 0 0 0)), (1, (e_int z.1)), (5, (.own 1007 0 (z.2.2).length))]) (fun z : Int × S_spec_l20Rd × (List S_impl_Column) => [(0, (vob 2 e_spec_l20Rd z.2.1)), (1007, (lob 2 e_impl_Column z.2.2))]) (fun z : Int × S_spec_l20Rd × (List S_impl_Column) => m_spec_l20Columns_j1  z.1 z.2.1 z.2.2) r (fun _ => by simp [hkeys]) ?_ ?_
  ·rintro ⟨t1, o0, o1007⟩ h
   replace h : m_spec_l20Columns_j1  t1 o0 o1007 = some _ := h
   refine LWP.join (α := S_spec_l20Rd × (List S_impl_Column)) (fun z : S_spec_l20Rd × (List S_impl_Column) => [(5, (.own 1007 0 (z.2).length))]) (fun z : S_spec_l20Rd × (List S_impl_Column) => [(0, (vob 2 e_spec_l20Rd z.1)), (1007, (lob 2 e_impl_Column z.2))]) (fun z : S_spec_l20Rd × (List S_impl_Column) => m_spec_l20Columns_j2  z.1 z.2) r (fun _ => by simp [hkeys]) ?_ ?_
   ·rintro ⟨o0, o1007⟩ h
    replace h : m_spec_l20Columns_j2  o0 o1007 = some _ := h
    refine LWP.seq_k fun N25 hN25 => ?_
    refine LWP.region (l := [_,_]) ?_
    refine LWo.move (.own 1007 0 (o1007).length) rfl (hn := ?_)
    refine LWo.assign (.own 1007 0 (o1007).length) rfl (hn := ?_)
    refine LWo.nil (hN25 _ ?_)
    obtain rfl := Option.some.inj h
    refine LWP.ret (QG.mk (.inr rfl) (.cons (.tmp (x := (.own 1007 0 (o1007).length)) rfl) (.nil)) (RetOK.one1 (.nwM rfl rfl) (by decide) rfl rfl rfl rfl rfl) rfl rfl)
   ·intro N18 hN18
    refine LWP.seq_k fun N19 hN19 => ?_
    refine LWP.region (l := [_,_,_]) ?_
    refine LWo.move (.ptr 0 0 0) rfl (hn := ?_)
    refine LWo.move (e_int t1) rfl (hn := ?_)
    refine bk h fun x20 e20 h => ?_
    refine LWo.lcall rfl rfl (k_Pspec_l20Rd_odd _ _ _ e20 0) rfl rfl rfl (hn := ?_)
    refine LWo.nil (hN19 _ ?_)
    refine LWP.cond_split rfl (fun h21 => ?_) (fun h21 => ?_)
    ·have h := bT h21 h
     refine LWP.region (l := [_,_,_,_,_,_,_,_,_,_]) ?_
     refine LWo.move (.own 1007 0 (o1007).length) rfl (hn := ?_)
     refine LWo.move (.ptr 0 0 0) rfl (hn := ?_)
     refine bk h fun x22 e22 h => ?_
     refine LWo.lcall rfl rfl (k_Pspec_l20Rd_pick _ _ _ e22 0) rfl rfl rfl (hn := ?_)
     refine bk h fun x23 e23 h => ?_
     refine LWo.int _ rfl rfl (sub_ck e23) (hn := ?_)
     refine LWo.build_impl_Column (parts := [_]) (⟨x23, false⟩ : S_impl_Column) rfl rfl rfl .refl (hn := ?_)
     refine LWo.build_impl_Column (parts := [_]) (⟨(1 : Int), false⟩ : S_impl_Column) rfl rfl rfl .refl (hn := ?_)
     refine LWo.build_impl_Column (parts := [_]) (⟨(1 : Int), false⟩ : S_impl_Column) rfl rfl rfl .refl (hn := ?_)
     refine LWo.lit (ops := [_, _, _]) [(e_impl_Column (⟨x23, false⟩ : S_impl_Column)), (e_impl_Column (⟨(1 : Int), false⟩ : S_impl_Column)), (e_impl_Column (⟨(1 : Int), false⟩ : S_impl_Column))] u_Limpl_Column s_impl_Column z_impl_Column rfl rfl rfl rfl rfl rfl (hn := ?_)
     refine bk h fun x24 e24 h => ?_
     refine LWo.appendM (f := e_impl_Column) e24 rfl u_Limpl_Column u_Limpl_Column (fun _ h => by cases h) s_impl_Column i_impl_Column rfl rfl rfl (.sl rfl) rfl rfl (hn := ?_)
     refine LWo.assign (.own 1007 0 (x24).length) rfl (hn := ?_)
     refine LWo.nil (hN18 (x22.2, x24) _ ⟨rfl, trivial⟩ ⟨rfl, rfl, trivial⟩ h)
    ·have h := bF h21 h
     refine LWP.skip (hN18 (x20.2, o1007) _ ⟨rfl, trivial⟩ ⟨rfl, rfl, trivial⟩ h)
  ·intro N3 hN3
   refine LWP.seq_k fun N4 hN4 => ?_
   refine LWP.region (l := [_,_,_,_]) ?_
   refine LWo.move (.ptr 0 0 0) rfl (hn := ?_)
   refine bk h fun x5 e5 h => ?_
   refine LWo.lcall rfl rfl (k_Pspec_l20Rd_pick _ _ _ e5 0) rfl rfl rfl (hn := ?_)
   refine bk h fun x6 e6 h => ?_
   refine LWo.int _ rfl rfl (add_ck e6) (hn := ?_)
   refine LWo.assign (e_int x6) rfl (hn := ?_)
   refine LWo.nil (hN4 _ ?_)
   refine LWP.block ?_
   refine LWP.loopM (α := Int × Int × S_spec_l20Rd × (List S_impl_Column)) (fun z : Int × Int × S_spec_l20Rd × (List S_impl_Column) => [(0, (.ptr 0 0 0)), (1, (e_int z.1)), (5, (.own 1007 0 (z.2.2.2).length)), (6, (e_int z.2.1))]) (fun z : Int × Int × S_spec_l20Rd × (List S_impl_Column) => [(0, (vob 2 e_spec_l20Rd z.2.2.1)), (1007, (lob 2 e_impl_Column z.2.2.2))]) (fun n1 (z : Int × Int × S_spec_l20Rd × (List S_impl_Column)) => m_spec_l20Columns_l1  n1 z.1 z.2.1 z.2.2.1 z.2.2.2) r _ (a1, x6, x5.2, ([] : (List S_impl_Column))) h (fun _ => rfl) (fun _ => by simp [hkeys]) ⟨rfl, rfl, rfl, rfl, trivial⟩ ⟨rfl, rfl, trivial⟩ ?_
   rintro n1 ⟨t1, t6, o0, o1007⟩ h N7 hN7
   replace h : m_spec_l20Columns_l1  (n1 + 1) t1 t6 o0 o1007 = some _ := h
   refine LWP.seq_k fun N9 hN9 => ?_
   refine LWP.seq_k fun N10 hN10 => ?_
   refine LWP.region (l := [_,_]) ?_
   refine LWo.move (e_int t6) rfl (hn := ?_)
   refine LWo.int _ rfl rfl rfl (hn := ?_)
   refine LWo.nil (hN10 _ ?_)
   refine LWP.cond_split rfl (fun h11 => ?_) (fun h11 => ?_)
   ·have h := bT h11 h
    refine LWP.skip (hN9 _ ?_)
    refine LWP.seq_k fun N12 hN12 => ?_
    refine LWP.block ?_
    refine bk h fun x13 e13 h => ?_
    refine bk h fun x14 e14 h => ?_
    refine bk h fun x15 e15 h => ?_
    refine bk h fun x16 e16 h => ?_
    refine LWP.drawF (l := [_,_,_,_,_,_,_,_,_,_,_,_,_]) [(1007, 1007)] [0, 1, 5, 6] [([5], []), ([], []), ([0], []), ([17], [0]), ([16, 18], []), ([19], []), ([0], []), ([21], [0]), ([22], []), ([20, 23], []), ([24], []), ([15, 25], [1007]), ([26], [])] [0, 1, 5, 6] [0, 1007] mixed (by kernel_rfl) rfl (by decide) ?_
    refine dq 15 rfl (fun _ g u h => LWo.move (.own 1007 0 (o1007).length) u.1 (hn := .nil (zn g))) ?_
    refine dq 16 rfl (fun _ g u h => LWo.lit (ops := [_, _, _, _]) [(e_int (1 : Int)), (e_int (1 : Int)), (e_int (2 : Int)), (e_int (3 : Int))] u_Lint s_int z_int (lv4 rfl rfl rfl rfl) rfl rfl rfl rfl rfl (hn := .nil (zn g))) ?_
    refine dq 17 rfl (fun _ g u h => LWo.move (.ptr 0 0 0) u.1 (hn := .nil (zn g))) ?_
    refine ⟨rfl, .upd (some 18) _ 0 _, (by exact (goodC rfl goodN)), fun _ g u h => LWo.lcall rfl (av2 u.1 rfl) (k_Pspec_l20Rd_pick _ _ _ e13 0) rfl h.1 rfl (hn := LWo.nil ⟨rfl, .inl rfl, Ef.good_ok (e := .upd (some 18) _ 0 _) (by exact (goodC rfl goodN)) g⟩), ?_⟩
    refine dq 19 rfl (fun _ g u h => LWo.indexM (f := e_int) e14 u_Lint s_int u.1 u.2.1 (hn := .nil (zn g))) ?_
    refine dq 20 rfl (fun _ g u h => LWo.load1 (c := (e_int x14)) g_int u.1 (hn := .nil (zn g))) ?_
    refine dq 21 rfl (fun _ g u h => LWo.move (.ptr 0 0 0) u.1 (hn := .nil (zn g))) ?_
    refine ⟨rfl, .upd (some 22) _ 0 _, (by exact (goodC rfl goodN)), fun _ g u h => LWo.lcall rfl (av2 u.1 rfl) (k_Pspec_l20Rd_pick _ _ _ e15 0) rfl h.1 rfl (hn := LWo.nil ⟨rfl, .inl rfl, Ef.good_ok (e := .upd (some 22) _ 0 _) (by exact (goodC rfl goodN)) g⟩), ?_⟩
    refine dq 23 rfl (fun _ g u h => LWo.int _ u.1 rfl rfl (hn := .nil (zn g))) ?_
    refine dq 24 rfl (fun _ g u h => LWo.build_impl_Column (parts := [_, _]) (⟨x14, decide (x15.1 > (0 : Int))⟩ : S_impl_Column) (pv2 u.1 u.2.1) rfl rfl .refl (hn := .nil (zn g))) ?_
    refine dq 25 rfl (fun _ g u h => LWo.lit (ops := [_]) [(e_impl_Column (⟨x14, decide (x15.1 > (0 : Int))⟩ : S_impl_Column))] u_Limpl_Column s_impl_Column z_impl_Column (lv1 u.1) rfl rfl rfl rfl rfl (hn := .nil (zn g))) ?_
    refine ⟨rfl, .make 26 _ 1007 _, (by exact (goodC rfl goodN)), fun _ g u h => LWo.appendM (f := e_impl_Column) e16 rfl u_Limpl_Column u_Limpl_Column (fun _ h => by cases h) s_impl_Column i_impl_Column rfl u.1 h.1 (.sl u.2.1) (lone_of g rfl) rfl (hn := LWo.nil ⟨rfl, .inl rfl, Ef.good_ok (e := .make 26 _ 1007 _) (by exact (goodC rfl goodN)) g⟩), ?_⟩
    refine dq 5 rfl (fun _ g u h => LWo.assign (.own 1007 0 (x16).length) u.1 (hn := .nil (zn g))) ?_
    refine ⟨rfl, by kernel_rfl, hN12 _ ?_⟩
    refine LWP.region (l := [_,_,_]) ?_
    refine LWo.move (e_int t6) rfl (hn := ?_)
    refine bk h fun x17 e17 h => ?_
    refine LWo.int _ rfl rfl (sub_ck e17) (hn := ?_)
    refine LWo.assign (e_int x17) rfl (hn := ?_)
    refine LWo.nil (hN7 (t1, x17, x15.2, x16) _ ⟨rfl, rfl, rfl, rfl, trivial⟩ ⟨rfl, rfl, trivial⟩ h)
   ·have h := bF h11 h
    refine LWP.exit (hN3 (t1, o0, o1007) _ ⟨rfl, rfl, rfl, trivial⟩ ⟨rfl, rfl, trivial⟩ h)
theorem k_spec_l20Columns (o0 : S_spec_l20Rd) (a1 : Int) (r : ((List S_impl_Column) × S_spec_l20Rd)) (h : m_spec_l20Columns o0 a1 = some r) (k : Nat) : Does Try.prog f_spec_l20Columns [.ptr k 0 0, e_int a1] [(k, (vob 2 e_spec_l20Rd o0))] (fun x hh => x = .nw 2 (r.1.map e_impl_Column) false ∧ hh = [(k, (vob 2 e_spec_l20Rd r.2))]) :=
  Does.nameV (c_spec_l20Columns o0 a1 r h) rfl rfl rfl rfl rfl rfl k

def m_spec_l20Like_j1 (t3 : S_impl_Column) (t11 : Bool) (o0 : S_spec_l20Rd) (o4 : S_impl_Value) : Option (S_impl_Value × S_spec_l20Rd) :=
  bif t11 then (lt ((⟨(0 : Int), (0 : Int), (⟨#[]⟩ : ByteArray)⟩ : S_impl_Value)) fun y8 =>
    some (y8, o0))
  else (bif (t3.Kind == (1 : Int)) then ((m_Pspec_l20Rd_pick o0 (4 : Int)).bind fun x14 =>
  lt ((⟨(1 : Int), x14.1, (⟨#[]⟩ : ByteArray)⟩ : S_impl_Value)) fun y15 =>
  some (y15, x14.2))
  else (bif (t3.Kind == (2 : Int)) then ((m_Pspec_l20Rd_pick o0 (4 : Int)).bind fun x19 =>
    (at? ([(⟨#[]⟩ : ByteArray), (⟨#[97]⟩ : ByteArray), (⟨#[98]⟩ : ByteArray), (⟨#[97, 98]⟩ : ByteArray)] : (List ByteArray)) x19.1).bind fun x20 =>
    lt ((⟨(2 : Int), (0 : Int), x20⟩ : S_impl_Value)) fun y21 =>
    some (y21, x19.2))
  else ((m_Pspec_l20Rd_pick o0 (2 : Int)).bind fun x23 =>
  lt ((⟨(3 : Int), x23.1, (⟨#[]⟩ : ByteArray)⟩ : S_impl_Value)) fun y24 =>
  some (y24, x23.2))))
def m_spec_l20Like (o0 : S_spec_l20Rd) (a1 : S_impl_Column) : Option (S_impl_Value × S_spec_l20Rd) :=
  bif a1.Empty then ((m_Pspec_l20Rd_pick o0 (5 : Int)).bind fun x5 =>
    m_spec_l20Like_j1  a1 (x5.1 == (0 : Int)) x5.2 (⟨(0 : Int), (0 : Int), (⟨#[]⟩ : ByteArray)⟩ : S_impl_Value))
  else (m_spec_l20Like_j1  a1 false o0 (⟨(0 : Int), (0 : Int), (⟨#[]⟩ : ByteArray)⟩ : S_impl_Value))
theorem c_spec_l20Like (o0 : S_spec_l20Rd) (a1 : S_impl_Column) (r : (S_impl_Value × S_spec_l20Rd)) (h : m_spec_l20Like o0 a1 = some r) : Does Try.prog f_spec_l20Like [.ptr 0 0 0, e_impl_Column a1] [(0, (vob 2 e_spec_l20Rd o0))] (fun x hh => x = e_impl_Value r.1 ∧ hh = [(0, (vob 2 e_spec_l20Rd r.2))]) := by
  refine Does.goG [0] F_spec_l20Like rfl e_spec_l20Like n_spec_l20Like rfl (rvs := [.cell 4 t_impl_Value]) rfl rfl ?_
  intro w0 ok0 lent ρ0
  refine LWP.seq_k fun N1 hN1 => ?_
  refine LWP.region (l := [_,_]) ?_
  refine LWo.boxF (e_impl_Column a1) rfl rfl rfl (hn := ?_)
  refine LWo.alloc_impl_Value 4 rfl (hn := ?_)
  refine LWo.nil (hN1 _ ?_)
  refine LWP.seq_k fun N2 hN2 => ?_
  refine LWP.join (α := S_impl_Column × Bool × S_spec_l20Rd × S_impl_Value) (fun z : S_impl_Column × Bool × S_spec_l20Rd × S_impl_Value => [(0, (.ptr 0 0 0)), (3, (.fp (e_impl_Column z.1).cells)), (4, (.ptr 4 0 0)), (11, (e_bool z.2.1))]) (fun z : S_impl_Column × Bool × S_spec_l20Rd × S_impl_Value => [(0, (vob 2 e_spec_l20Rd z.2.2.1)), (4, (vob 3 e_impl_Value z.2.2.2))]) (fun z : S_impl_Column × Bool × S_spec_l20Rd × S_impl_Value => m_spec_l20Like_j1  z.1 z.2.1 z.2.2.1 z.2.2.2) r (fun _ => by simp [hkeys]) ?_ ?_
  ·rintro ⟨t3, t11, o0, o4⟩ h
   replace h : m_spec_l20Like_j1  t3 t11 o0 o4 = some _ := h
   refine LWP.cond_split rfl (fun h6 => ?_) (fun h6 => ?_)
   ·have h := bT h6 h
    refine LWP.seq_k fun N7 hN7 => ?_
    refine LWP.region (l := [_,_]) ?_
    refine LWo.build_impl_Value (parts := []) (⟨(0 : Int), (0 : Int), (⟨#[]⟩ : ByteArray)⟩ : S_impl_Value) rfl rfl rfl .refl (hn := ?_)
    refine lk h fun y8 e8 h => ?_
    refine LWo.storeW (y := o4) y8 s_impl_Value rfl rfl rfl rfl rfl rfl (by rw [e8]; exact .refl) rfl (hn := ?_)
    refine LWo.nil (hN7 _ ?_)
    obtain rfl := Option.some.inj h
    refine LWP.ret (QG.mk (.inr rfl) (.cons (.cellN (ys := (e_impl_Value y8).cells) g_impl_Value s_impl_Value rfl rfl rfl rfl rfl (fun _ _ => rfl)) (.nil)) (RetOK.one1 (.pure rfl) (by decide) rfl rfl rfl rfl rfl) rfl rfl)
   ·have h := bF h6 h
    refine LWP.skip (hN2 _ ?_)
    refine LWP.seq_k fun N9 hN9 => ?_
    refine LWP.seq_k fun N10 hN10 => ?_
    refine LWP.region (l := [_,_]) ?_
    refine LWo.fieldAddr _ u_impl_Column rfl s_int rfl rfl (hn := ?_)
    refine LWo.load1 (c := (e_int t3.Kind)) g_int rfl (hn := ?_)
    refine LWo.nil (hN10 _ ?_)
    refine LWP.block ?_
    refine LWP.seq_k fun N11 hN11 => ?_
    refine LWP.region (l := [_,_]) ?_
    refine LWo.int _ rfl rfl rfl (hn := ?_)
    refine LWo.assign (e_bool (t3.Kind == (1 : Int))) rfl (hn := ?_)
    refine LWo.nil (hN11 _ ?_)
    refine LWP.cond_split rfl (fun h12 => ?_) (fun h12 => ?_)
    ·have h := bT h12 h
     refine LWP.seq_k fun N13 hN13 => ?_
     refine LWP.region (l := [_,_,_,_]) ?_
     refine LWo.move (.ptr 0 0 0) rfl (hn := ?_)
     refine bk h fun x14 e14 h => ?_
     refine LWo.lcall rfl rfl (k_Pspec_l20Rd_pick _ _ _ e14 0) rfl rfl rfl (hn := ?_)
     refine LWo.build_impl_Value (parts := [_, _]) (⟨(1 : Int), x14.1, (⟨#[]⟩ : ByteArray)⟩ : S_impl_Value) rfl rfl rfl .refl (hn := ?_)
     refine lk h fun y15 e15 h => ?_
     refine LWo.storeW (y := o4) y15 s_impl_Value rfl rfl rfl rfl rfl rfl (by rw [e15]; exact .refl) rfl (hn := ?_)
     refine LWo.nil (hN13 _ ?_)
     obtain rfl := Option.some.inj h
     refine LWP.ret (QG.mk (.inr rfl) (.cons (.cellN (ys := (e_impl_Value y15).cells) g_impl_Value s_impl_Value rfl rfl rfl rfl rfl (fun _ _ => rfl)) (.nil)) (RetOK.one1 (.pure rfl) (by decide) rfl rfl rfl rfl rfl) rfl rfl)
    ·have h := bF h12 h
     refine LWP.seq_k fun N16 hN16 => ?_
     refine LWP.region (l := [_,_]) ?_
     refine LWo.int _ rfl rfl rfl (hn := ?_)
     refine LWo.assign (e_bool (t3.Kind == (2 : Int))) rfl (hn := ?_)
     refine LWo.nil (hN16 _ ?_)
     refine LWP.cond_split rfl (fun h17 => ?_) (fun h17 => ?_)
     ·have h := bT h17 h
      refine LWP.seq_k fun N18 hN18 => ?_
      refine LWP.region (l := [_,_,_,_,_,_,_]) ?_
      refine LWo.lit (ops := [_, _, _, _]) [(e_string (⟨#[]⟩ : ByteArray)), (e_string (⟨#[97]⟩ : ByteArray)), (e_string (⟨#[98]⟩ : ByteArray)), (e_string (⟨#[97, 98]⟩ : ByteArray))] u_Lstring s_string z_string rfl rfl rfl rfl rfl rfl (hn := ?_)
      refine LWo.move (.ptr 0 0 0) rfl (hn := ?_)
      refine bk h fun x19 e19 h => ?_
      refine LWo.lcall rfl rfl (k_Pspec_l20Rd_pick _ _ _ e19 0) rfl rfl rfl (hn := ?_)
      refine bk h fun x20 e20 h => ?_
      refine LWo.indexM (f := e_string) e20 u_Lstring s_string rfl rfl (hn := ?_)
      refine LWo.load1 (c := (e_string x20)) g_string rfl (hn := ?_)
      refine LWo.build_impl_Value (parts := [_, _]) (⟨(2 : Int), (0 : Int), x20⟩ : S_impl_Value) rfl rfl rfl .refl (hn := ?_)
      refine lk h fun y21 e21 h => ?_
      refine LWo.storeW (y := o4) y21 s_impl_Value rfl rfl rfl rfl rfl rfl (by rw [e21]; exact .refl) rfl (hn := ?_)
      refine LWo.nil (hN18 _ ?_)
      obtain rfl := Option.some.inj h
      refine LWP.ret (QG.mk (.inr rfl) (.cons (.cellN (ys := (e_impl_Value y21).cells) g_impl_Value s_impl_Value rfl rfl rfl rfl rfl (fun _ _ => rfl)) (.nil)) (RetOK.one1 (.pure rfl) (by decide) rfl rfl rfl rfl rfl) rfl rfl)
     ·have h := bF h17 h
      refine LWP.skip (hN9 _ ?_)
      refine LWP.seq_k fun N22 hN22 => ?_
      refine LWP.region (l := [_,_,_,_]) ?_
      refine LWo.move (.ptr 0 0 0) rfl (hn := ?_)
      refine bk h fun x23 e23 h => ?_
      refine LWo.lcall rfl rfl (k_Pspec_l20Rd_pick _ _ _ e23 0) rfl rfl rfl (hn := ?_)
      refine LWo.build_impl_Value (parts := [_, _]) (⟨(3 : Int), x23.1, (⟨#[]⟩ : ByteArray)⟩ : S_impl_Value) rfl rfl rfl .refl (hn := ?_)
      refine lk h fun y24 e24 h => ?_
      refine LWo.storeW (y := o4) y24 s_impl_Value rfl rfl rfl rfl rfl rfl (by rw [e24]; exact .refl) rfl (hn := ?_)
      refine LWo.nil (hN22 _ ?_)
      obtain rfl := Option.some.inj h
      refine LWP.ret (QG.mk (.inr rfl) (.cons (.cellN (ys := (e_impl_Value y24).cells) g_impl_Value s_impl_Value rfl rfl rfl rfl rfl (fun _ _ => rfl)) (.nil)) (RetOK.one1 (.pure rfl) (by decide) rfl rfl rfl rfl rfl) rfl rfl)
  ·intro N3 hN3
   refine LWP.region (l := [_,_,_,_,_,_,_]) ?_
   refine LWo.fieldAddr _ u_impl_Column rfl s_bool rfl rfl (hn := ?_)
   refine LWo.load1 (c := (e_bool a1.Empty)) g_bool rfl (hn := ?_)
   refine LWo.move (e_bool a1.Empty) rfl (hn := ?_)
   refine LWo.byCases (t := 7) _ rfl (fun h4 => ?_) (fun h4 => ?_)
   ·have h := bT h4 h
    refine LWo.guardY (t := 7) rfl h4 rfl rfl ?_
    refine LWo.move (.ptr 0 0 0) rfl (hn := ?_)
    refine bk h fun x5 e5 h => ?_
    refine LWo.guardY (t := 7) rfl h4 rfl rfl ?_
    refine LWo.lcall rfl rfl (k_Pspec_l20Rd_pick _ _ _ e5 0) rfl rfl rfl (hn := ?_)
    refine LWo.guardY (t := 7) rfl h4 rfl rfl ?_
    refine LWo.int _ rfl rfl rfl (hn := ?_)
    refine LWo.pickTM (e_bool (x5.1 == (0 : Int))) rfl h4 rfl (hn := ?_)
    refine LWo.nil (hN3 (a1, (x5.1 == (0 : Int)), x5.2, (⟨(0 : Int), (0 : Int), (⟨#[]⟩ : ByteArray)⟩ : S_impl_Value)) _ ⟨rfl, rfl, rfl, rfl, trivial⟩ ⟨rfl, rfl, trivial⟩ h)
   ·have h := bF h4 h
    refine LWo.guardNU (t := 7) rfl h4 rfl rfl rfl rfl rfl ?_
    refine LWo.guardNU (t := 7) rfl h4 rfl rfl rfl rfl rfl ?_
    refine LWo.guardNU (t := 7) rfl h4 rfl rfl rfl rfl rfl ?_
    refine LWo.pickFM (e_bool false) rfl h4 rfl (hn := ?_)
    refine LWo.nil (hN3 (a1, false, o0, (⟨(0 : Int), (0 : Int), (⟨#[]⟩ : ByteArray)⟩ : S_impl_Value)) _ ⟨rfl, rfl, rfl, rfl, trivial⟩ ⟨rfl, rfl, trivial⟩ h)
theorem k_spec_l20Like (o0 : S_spec_l20Rd) (a1 : S_impl_Column) (r : (S_impl_Value × S_spec_l20Rd)) (h : m_spec_l20Like o0 a1 = some r) (k : Nat) : Does Try.prog f_spec_l20Like [.ptr k 0 0, e_impl_Column a1] [(k, (vob 2 e_spec_l20Rd o0))] (fun x hh => x = e_impl_Value r.1 ∧ hh = [(k, (vob 2 e_spec_l20Rd r.2))]) :=
  Does.nameV (c_spec_l20Like o0 a1 r h) rfl rfl rfl rfl rfl rfl k

def m_spec_l20Value_j4 (o0 : S_spec_l20Rd) (o4 : S_impl_Value) (o5 : S_impl_Value) : Option (S_impl_Value × S_spec_l20Rd) :=
  lt (o5) fun y67 =>
  some (y67, o0)
def m_spec_l20Value_j3 (t1 : Int) (o0 : S_spec_l20Rd) (o4 : S_impl_Value) (o5 : S_impl_Value) : Option (S_impl_Value × S_spec_l20Rd) :=
  (m_Pspec_l20Rd_odd o0 t1).bind fun x48 =>
  bif x48.1 then ((m_Pspec_l20Rd_pick x48.2 (4 : Int)).bind fun x51 =>
    bif (x51.1 == (0 : Int)) then (lt ({ o5 with N := (10000 : Int) }) fun y54 =>
      m_spec_l20Value_j4  x51.2 o4 y54)
    else (bif (x51.1 == (1 : Int)) then ((sCat? o5.S (⟨#[97, 98, 99, 100, 101, 102, 103]⟩ : ByteArray)).bind fun x57 =>
        lt ({ o5 with S := x57 }) fun y58 =>
        m_spec_l20Value_j4  x51.2 o4 y58)
      else (bif (x51.1 == (2 : Int)) then ((m_Pspec_l20Rd_pick x51.2 (7 : Int)).bind fun x61 =>
          (ckI (x61.1 - (1 : Int))).bind fun x62 =>
          lt ({ o5 with Kind := x62 }) fun y63 =>
          m_spec_l20Value_j4  x61.2 o4 y63)
        else ((sCat? o5.S (⟨#[65]⟩ : ByteArray)).bind fun x64 =>
          lt ({ o5 with S := x64 }) fun y65 =>
          m_spec_l20Value_j4  x51.2 o4 y65))))
  else (m_spec_l20Value_j4  x48.2 o4 o5)
def m_spec_l20Value_l1 : Nat → Int → Int → S_spec_l20Rd → S_impl_Value → S_impl_Value → Option (S_impl_Value × S_spec_l20Rd)
  | 0, _, _, _, _, _ => none
  | n1 + 1, t1, t6, o0, o4, o5 =>
    bif decide (t6 > (0 : Int)) then ((m_Pspec_l20Rd_pick o0 (3 : Int)).bind fun x39 =>
    (ckI ((97 : Int) + x39.1)).bind fun x40 =>
    (sCat? o5.S (bStr ([(Lift.byteOf x40)] : (List UInt8)))).bind fun x41 =>
    lt ({ o5 with S := x41 }) fun y42 =>
    (ckI (t6 - (1 : Int))).bind fun x43 =>
    (m_spec_l20Value_l1  n1) t1 x43 x39.2 o4 y42)
    else (m_spec_l20Value_j3  t1 o0 o4 o5)
def m_spec_l20Value_j2 (t1 : Int) (t32 : Bool) (o0 : S_spec_l20Rd) (o4 : S_impl_Value) (o5 : S_impl_Value) : Option (S_impl_Value × S_spec_l20Rd) :=
  bif t32 then (lt ((⟨(2 : Int), (0 : Int), (⟨#[]⟩ : ByteArray)⟩ : S_impl_Value)) fun y30 =>
    (m_Pspec_l20Rd_pick o0 (4 : Int)).bind fun x32 =>
    m_spec_l20Value_l1  ((x32.1 - (0 : Int)).toNat + 1) t1 x32.1 x32.2 o4 y30)
  else ((m_Pspec_l20Rd_pick o0 (2 : Int)).bind fun x44 =>
    lt ((⟨(3 : Int), x44.1, (⟨#[]⟩ : ByteArray)⟩ : S_impl_Value)) fun y45 =>
    m_spec_l20Value_j3  t1 x44.2 o4 y45)
def m_spec_l20Value_j1 (t1 : Int) (t9 : Int) (t15 : Bool) (o0 : S_spec_l20Rd) (o4 : S_impl_Value) (o5 : S_impl_Value) : Option (S_impl_Value × S_spec_l20Rd) :=
  bif t15 then ((m_Pspec_l20Rd_pick o0 (7 : Int)).bind fun x16 =>
    (ckI (x16.1 - (3 : Int))).bind fun x17 =>
    lt ((⟨(1 : Int), x17, (⟨#[]⟩ : ByteArray)⟩ : S_impl_Value)) fun y18 =>
    (m_Pspec_l20Rd_pick x16.2 (8 : Int)).bind fun x20 =>
    bif (x20.1 == (0 : Int)) then ((m_Pspec_l20Rd_pick x20.2 (5 : Int)).bind fun x22 =>
      (at? ([(9999 : Int), (-9999 : Int), (255 : Int), (256 : Int), (-256 : Int)] : (List Int)) x22.1).bind fun x23 =>
      lt ({ y18 with N := x23 }) fun y24 =>
      m_spec_l20Value_j3  t1 x22.2 o4 y24)
    else (m_spec_l20Value_j3  t1 x20.2 o4 y18))
  else (bif (t9 == (4 : Int)) then (m_spec_l20Value_j2  t1 (t9 == (4 : Int)) o0 o4 o5)
    else (m_spec_l20Value_j2  t1 (t9 == (5 : Int)) o0 o4 o5))
def m_spec_l20Value (o0 : S_spec_l20Rd) (a1 : Int) : Option (S_impl_Value × S_spec_l20Rd) :=
  lt ((⟨(0 : Int), (0 : Int), (⟨#[]⟩ : ByteArray)⟩ : S_impl_Value)) fun y3 =>
  (m_Pspec_l20Rd_pick o0 (7 : Int)).bind fun x6 =>
  bif (x6.1 == (0 : Int)) then (m_spec_l20Value_j3  a1 x6.2 (⟨(0 : Int), (0 : Int), (⟨#[]⟩ : ByteArray)⟩ : S_impl_Value) y3)
  else (bif (x6.1 == (1 : Int)) then (m_spec_l20Value_j1  a1 x6.1 (x6.1 == (1 : Int)) x6.2 (⟨(0 : Int), (0 : Int), (⟨#[]⟩ : ByteArray)⟩ : S_impl_Value) y3)
    else (bif (x6.1 == (2 : Int)) then (m_spec_l20Value_j1  a1 x6.1 (x6.1 == (2 : Int)) x6.2 (⟨(0 : Int), (0 : Int), (⟨#[]⟩ : ByteArray)⟩ : S_impl_Value) y3)
      else (m_spec_l20Value_j1  a1 x6.1 (x6.1 == (3 : Int)) x6.2 (⟨(0 : Int), (0 : Int), (⟨#[]⟩ : ByteArray)⟩ : S_impl_Value) y3)))
theorem c_spec_l20Value (o0 : S_spec_l20Rd) (a1 : Int) (r : (S_impl_Value × S_spec_l20Rd)) (h : m_spec_l20Value o0 a1 = some r) : Does Try.prog f_spec_l20Value [.ptr 0 0 0, e_int a1] [(0, (vob 2 e_spec_l20Rd o0))] (fun x hh => x = e_impl_Value r.1 ∧ hh = [(0, (vob 2 e_spec_l20Rd r.2))]) := by
  refine Does.goG [0] F_spec_l20Value rfl e_spec_l20Value n_spec_l20Value rfl (rvs := [.cell 4 t_impl_Value]) rfl rfl ?_
  intro w0 ok0 lent ρ0
  refine LWP.seq_k fun N1 hN1 => ?_
  refine LWP.region (l := [_]) ?_
  refine LWo.alloc_impl_Value 4 rfl (hn := ?_)
  refine LWo.nil (hN1 _ ?_)
  refine LWP.seq_k fun N2 hN2 => ?_
  refine LWP.region (l := [_,_,_]) ?_
  refine LWo.build_impl_Value (parts := []) (⟨(0 : Int), (0 : Int), (⟨#[]⟩ : ByteArray)⟩ : S_impl_Value) rfl rfl rfl .refl (hn := ?_)
  refine LWo.alloc_impl_Value 5 rfl (hn := ?_)
  refine lk h fun y3 e3 h => ?_
  refine LWo.storeW (y := (⟨(0 : Int), (0 : Int), (⟨#[]⟩ : ByteArray)⟩ : S_impl_Value)) y3 s_impl_Value rfl rfl rfl rfl rfl rfl (by rw [e3]; exact .refl) rfl (hn := ?_)
  refine LWo.nil (hN2 _ ?_)
  refine LWP.join (α := Int × S_spec_l20Rd × S_impl_Value × S_impl_Value) (fun z : Int × S_spec_l20Rd × S_impl_Value × S_impl_Value => [(0, (.ptr 0 0 0)), (1, (e_int z.1)), (4, (.ptr 4 0 0)), (5, (.ptr 5 0 0))]) (fun z : Int × S_spec_l20Rd × S_impl_Value × S_impl_Value => [(0, (vob 2 e_spec_l20Rd z.2.1)), (4, (vob 3 e_impl_Value z.2.2.1)), (5, (vob 3 e_impl_Value z.2.2.2))]) (fun z : Int × S_spec_l20Rd × S_impl_Value × S_impl_Value => m_spec_l20Value_j3  z.1 z.2.1 z.2.2.1 z.2.2.2) r (fun _ => by simp [hkeys]) ?_ ?_
  ·rintro ⟨t1, o0, o4, o5⟩ h
   replace h : m_spec_l20Value_j3  t1 o0 o4 o5 = some _ := h
   refine LWP.join (α := S_spec_l20Rd × S_impl_Value × S_impl_Value) (fun z : S_spec_l20Rd × S_impl_Value × S_impl_Value => [(4, (.ptr 4 0 0)), (5, (.ptr 5 0 0))]) (fun z : S_spec_l20Rd × S_impl_Value × S_impl_Value => [(0, (vob 2 e_spec_l20Rd z.1)), (4, (vob 3 e_impl_Value z.2.1)), (5, (vob 3 e_impl_Value z.2.2))]) (fun z : S_spec_l20Rd × S_impl_Value × S_impl_Value => m_spec_l20Value_j4  z.1 z.2.1 z.2.2) r (fun _ => by simp [hkeys]) ?_ ?_
   ·rintro ⟨o0, o4, o5⟩ h
    replace h : m_spec_l20Value_j4  o0 o4 o5 = some _ := h
    refine LWP.seq_k fun N66 hN66 => ?_
    refine LWP.region (l := [_,_]) ?_
    refine LWo.loadVN ((e_impl_Value o5)).cells  g_impl_Value s_impl_Value rfl rfl rfl rfl (hn := ?_)
    refine lk h fun y67 e67 h => ?_
    refine LWo.storeW (y := o4) y67 s_impl_Value rfl rfl rfl rfl rfl rfl (by rw [e67]; exact .refl) rfl (hn := ?_)
    refine LWo.nil (hN66 _ ?_)
    obtain rfl := Option.some.inj h
    refine LWP.ret (QG.mk (.inr rfl) (.cons (.cellN (ys := (e_impl_Value y67).cells) g_impl_Value s_impl_Value rfl rfl rfl rfl rfl (fun _ _ => rfl)) (.nil)) (RetOK.one1 (.pure rfl) (by decide) rfl rfl rfl rfl rfl) rfl rfl)
   ·intro N46 hN46
    refine LWP.seq_k fun N47 hN47 => ?_
    refine LWP.region (l := [_,_,_]) ?_
    refine LWo.move (.ptr 0 0 0) rfl (hn := ?_)
    refine LWo.move (e_int t1) rfl (hn := ?_)
    refine bk h fun x48 e48 h => ?_
    refine LWo.lcall rfl rfl (k_Pspec_l20Rd_odd _ _ _ e48 0) rfl rfl rfl (hn := ?_)
    refine LWo.nil (hN47 _ ?_)
    refine LWP.cond_split rfl (fun h49 => ?_) (fun h49 => ?_)
    ·have h := bT h49 h
     refine LWP.seq_k fun N50 hN50 => ?_
     refine LWP.region (l := [_,_]) ?_
     refine LWo.move (.ptr 0 0 0) rfl (hn := ?_)
     refine bk h fun x51 e51 h => ?_
     refine LWo.lcall rfl rfl (k_Pspec_l20Rd_pick _ _ _ e51 0) rfl rfl rfl (hn := ?_)
     refine LWo.nil (hN50 _ ?_)
     refine LWP.block ?_
     refine LWP.seq_k fun N52 hN52 => ?_
     refine LWP.region (l := [_,_]) ?_
     refine LWo.int _ rfl rfl rfl (hn := ?_)
     refine LWo.assign (e_bool (x51.1 == (0 : Int))) rfl (hn := ?_)
     refine LWo.nil (hN52 _ ?_)
     refine LWP.cond_split rfl (fun h53 => ?_) (fun h53 => ?_)
     ·have h := bT h53 h
      refine LWP.region (l := [_,_]) ?_
      refine LWo.fieldPtr u_impl_Value rfl s_int rfl rfl (hn := ?_)
      refine lk h fun y54 e54 h => ?_
      refine LWo.storeW (y := o5) y54 s_int rfl rfl rfl rfl rfl rfl (by rw [e54]; exact .refl) rfl (hn := ?_)
      refine LWo.nil (hN46 (x51.2, o4, y54) _ ⟨rfl, rfl, trivial⟩ ⟨rfl, rfl, rfl, trivial⟩ h)
     ·have h := bF h53 h
      refine LWP.seq_k fun N55 hN55 => ?_
      refine LWP.region (l := [_,_]) ?_
      refine LWo.int _ rfl rfl rfl (hn := ?_)
      refine LWo.assign (e_bool (x51.1 == (1 : Int))) rfl (hn := ?_)
      refine LWo.nil (hN55 _ ?_)
      refine LWP.cond_split rfl (fun h56 => ?_) (fun h56 => ?_)
      ·have h := bT h56 h
       refine LWP.region (l := [_,_,_,_,_]) ?_
       refine LWo.fieldPtr u_impl_Value rfl s_string rfl rfl (hn := ?_)
       refine LWo.loadV1 (e_string o5.S)  g_string rfl rfl rfl (hn := ?_)
       refine bk h fun x57 e57 h => ?_
       refine LWo.str _ rfl rfl (cat_ck e57) (hn := ?_)
       refine LWo.fieldPtr u_impl_Value rfl s_string rfl rfl (hn := ?_)
       refine lk h fun y58 e58 h => ?_
       refine LWo.storeW (y := o5) y58 s_string rfl rfl rfl rfl rfl rfl (by rw [e58]; exact .refl) rfl (hn := ?_)
       refine LWo.nil (hN46 (x51.2, o4, y58) _ ⟨rfl, rfl, trivial⟩ ⟨rfl, rfl, rfl, trivial⟩ h)
      ·have h := bF h56 h
       refine LWP.seq_k fun N59 hN59 => ?_
       refine LWP.region (l := [_,_]) ?_
       refine LWo.int _ rfl rfl rfl (hn := ?_)
       refine LWo.assign (e_bool (x51.1 == (2 : Int))) rfl (hn := ?_)
       refine LWo.nil (hN59 _ ?_)
       refine LWP.cond_split rfl (fun h60 => ?_) (fun h60 => ?_)
       ·have h := bT h60 h
        refine LWP.region (l := [_,_,_,_,_]) ?_
        refine LWo.move (.ptr 0 0 0) rfl (hn := ?_)
        refine bk h fun x61 e61 h => ?_
        refine LWo.lcall rfl rfl (k_Pspec_l20Rd_pick _ _ _ e61 0) rfl rfl rfl (hn := ?_)
        refine bk h fun x62 e62 h => ?_
        refine LWo.int _ rfl rfl (sub_ck e62) (hn := ?_)
        refine LWo.fieldPtr u_impl_Value rfl s_int rfl rfl (hn := ?_)
        refine lk h fun y63 e63 h => ?_
        refine LWo.storeW (y := o5) y63 s_int rfl rfl rfl rfl rfl rfl (by rw [e63]; exact .refl) rfl (hn := ?_)
        refine LWo.nil (hN46 (x61.2, o4, y63) _ ⟨rfl, rfl, trivial⟩ ⟨rfl, rfl, rfl, trivial⟩ h)
       ·have h := bF h60 h
        refine LWP.region (l := [_,_,_,_,_]) ?_
        refine LWo.fieldPtr u_impl_Value rfl s_string rfl rfl (hn := ?_)
        refine LWo.loadV1 (e_string o5.S)  g_string rfl rfl rfl (hn := ?_)
        refine bk h fun x64 e64 h => ?_
        refine LWo.str _ rfl rfl (cat_ck e64) (hn := ?_)
        refine LWo.fieldPtr u_impl_Value rfl s_string rfl rfl (hn := ?_)
        refine lk h fun y65 e65 h => ?_
        refine LWo.storeW (y := o5) y65 s_string rfl rfl rfl rfl rfl rfl (by rw [e65]; exact .refl) rfl (hn := ?_)
        refine LWo.nil (hN46 (x51.2, o4, y65) _ ⟨rfl, rfl, trivial⟩ ⟨rfl, rfl, rfl, trivial⟩ h)
    ·have h := bF h49 h
     refine LWP.skip (hN46 (x48.2, o4, o5) _ ⟨rfl, rfl, trivial⟩ ⟨rfl, rfl, rfl, trivial⟩ h)
  ·intro N4 hN4
   refine LWP.seq_k fun N5 hN5 => ?_
   refine LWP.region (l := [_,_]) ?_
   refine LWo.move (.ptr 0 0 0) rfl (hn := ?_)
   refine bk h fun x6 e6 h => ?_
   refine LWo.lcall rfl rfl (k_Pspec_l20Rd_pick _ _ _ e6 0) rfl rfl rfl (hn := ?_)
   refine LWo.nil (hN5 _ ?_)
   refine LWP.block ?_
   refine LWP.seq_k fun N7 hN7 => ?_
   refine LWP.region (l := [_,_]) ?_
   refine LWo.int _ rfl rfl rfl (hn := ?_)
   refine LWo.assign (e_bool (x6.1 == (0 : Int))) rfl (hn := ?_)
   refine LWo.nil (hN7 _ ?_)
   refine LWP.cond_split rfl (fun h8 => ?_) (fun h8 => ?_)
   ·have h := bT h8 h
    refine LWP.skip (hN4 (a1, x6.2, (⟨(0 : Int), (0 : Int), (⟨#[]⟩ : ByteArray)⟩ : S_impl_Value), y3) _ ⟨rfl, rfl, rfl, rfl, trivial⟩ ⟨rfl, rfl, rfl, trivial⟩ h)
   ·have h := bF h8 h
    refine LWP.join (α := Int × Int × Bool × S_spec_l20Rd × S_impl_Value × S_impl_Value) (fun z : Int × Int × Bool × S_spec_l20Rd × S_impl_Value × S_impl_Value => [(0, (.ptr 0 0 0)), (1, (e_int z.1)), (4, (.ptr 4 0 0)), (5, (.ptr 5 0 0)), (9, (e_int z.2.1)), (15, (e_bool z.2.2.1))]) (fun z : Int × Int × Bool × S_spec_l20Rd × S_impl_Value × S_impl_Value => [(0, (vob 2 e_spec_l20Rd z.2.2.2.1)), (4, (vob 3 e_impl_Value z.2.2.2.2.1)), (5, (vob 3 e_impl_Value z.2.2.2.2.2))]) (fun z : Int × Int × Bool × S_spec_l20Rd × S_impl_Value × S_impl_Value => m_spec_l20Value_j1  z.1 z.2.1 z.2.2.1 z.2.2.2.1 z.2.2.2.2.1 z.2.2.2.2.2) r (fun _ => by simp [hkeys]) ?_ ?_
    ·rintro ⟨t1, t9, t15, o0, o4, o5⟩ h
     replace h : m_spec_l20Value_j1  t1 t9 t15 o0 o4 o5 = some _ := h
     refine LWP.cond_split rfl (fun h14 => ?_) (fun h14 => ?_)
     ·have h := bT h14 h
      refine LWP.seq_k fun N15 hN15 => ?_
      refine LWP.region (l := [_,_,_,_,_]) ?_
      refine LWo.move (.ptr 0 0 0) rfl (hn := ?_)
      refine bk h fun x16 e16 h => ?_
      refine LWo.lcall rfl rfl (k_Pspec_l20Rd_pick _ _ _ e16 0) rfl rfl rfl (hn := ?_)
      refine bk h fun x17 e17 h => ?_
      refine LWo.int _ rfl rfl (sub_ck e17) (hn := ?_)
      refine LWo.build_impl_Value (parts := [_, _]) (⟨(1 : Int), x17, (⟨#[]⟩ : ByteArray)⟩ : S_impl_Value) rfl rfl rfl .refl (hn := ?_)
      refine lk h fun y18 e18 h => ?_
      refine LWo.storeW (y := o5) y18 s_impl_Value rfl rfl rfl rfl rfl rfl (by rw [e18]; exact .refl) rfl (hn := ?_)
      refine LWo.nil (hN15 _ ?_)
      refine LWP.seq_k fun N19 hN19 => ?_
      refine LWP.region (l := [_,_,_]) ?_
      refine LWo.move (.ptr 0 0 0) rfl (hn := ?_)
      refine bk h fun x20 e20 h => ?_
      refine LWo.lcall rfl rfl (k_Pspec_l20Rd_pick _ _ _ e20 0) rfl rfl rfl (hn := ?_)
      refine LWo.int _ rfl rfl rfl (hn := ?_)
      refine LWo.nil (hN19 _ ?_)
      refine LWP.cond_split rfl (fun h21 => ?_) (fun h21 => ?_)
      ·have h := bT h21 h
       refine LWP.region (l := [_,_,_,_,_,_,_]) ?_
       refine LWo.lit (ops := [_, _, _, _, _]) [(e_int (9999 : Int)), (e_int (-9999 : Int)), (e_int (255 : Int)), (e_int (256 : Int)), (e_int (-256 : Int))] u_Lint s_int z_int rfl rfl rfl rfl rfl rfl (hn := ?_)
       refine LWo.move (.ptr 0 0 0) rfl (hn := ?_)
       refine bk h fun x22 e22 h => ?_
       refine LWo.lcall rfl rfl (k_Pspec_l20Rd_pick _ _ _ e22 0) rfl rfl rfl (hn := ?_)
       refine bk h fun x23 e23 h => ?_
       refine LWo.indexM (f := e_int) e23 u_Lint s_int rfl rfl (hn := ?_)
       refine LWo.load1 (c := (e_int x23)) g_int rfl (hn := ?_)
       refine LWo.fieldPtr u_impl_Value rfl s_int rfl rfl (hn := ?_)
       refine lk h fun y24 e24 h => ?_
       refine LWo.storeW (y := y18) y24 s_int rfl rfl rfl rfl rfl rfl (by rw [e24]; exact .refl) rfl (hn := ?_)
       refine LWo.nil (hN4 (t1, x22.2, o4, y24) _ ⟨rfl, rfl, rfl, rfl, trivial⟩ ⟨rfl, rfl, rfl, trivial⟩ h)
      ·have h := bF h21 h
       refine LWP.skip (hN4 (t1, x20.2, o4, y18) _ ⟨rfl, rfl, rfl, rfl, trivial⟩ ⟨rfl, rfl, rfl, trivial⟩ h)
     ·have h := bF h14 h
      refine LWP.join (α := Int × Bool × S_spec_l20Rd × S_impl_Value × S_impl_Value) (fun z : Int × Bool × S_spec_l20Rd × S_impl_Value × S_impl_Value => [(0, (.ptr 0 0 0)), (1, (e_int z.1)), (4, (.ptr 4 0 0)), (5, (.ptr 5 0 0)), (32, (e_bool z.2.1))]) (fun z : Int × Bool × S_spec_l20Rd × S_impl_Value × S_impl_Value => [(0, (vob 2 e_spec_l20Rd z.2.2.1)), (4, (vob 3 e_impl_Value z.2.2.2.1)), (5, (vob 3 e_impl_Value z.2.2.2.2))]) (fun z : Int × Bool × S_spec_l20Rd × S_impl_Value × S_impl_Value => m_spec_l20Value_j2  z.1 z.2.1 z.2.2.1 z.2.2.2.1 z.2.2.2.2) r (fun _ => by simp [hkeys]) ?_ ?_
      ·rintro ⟨t1, t32, o0, o4, o5⟩ h
       replace h : m_spec_l20Value_j2  t1 t32 o0 o4 o5 = some _ := h
       refine LWP.cond_split rfl (fun h28 => ?_) (fun h28 => ?_)
       ·have h := bT h28 h
        refine LWP.seq_k fun N29 hN29 => ?_
        refine LWP.region (l := [_,_]) ?_
        refine LWo.build_impl_Value (parts := [_]) (⟨(2 : Int), (0 : Int), (⟨#[]⟩ : ByteArray)⟩ : S_impl_Value) rfl rfl rfl .refl (hn := ?_)
        refine lk h fun y30 e30 h => ?_
        refine LWo.storeW (y := o5) y30 s_impl_Value rfl rfl rfl rfl rfl rfl (by rw [e30]; exact .refl) rfl (hn := ?_)
        refine LWo.nil (hN29 _ ?_)
        refine LWP.seq_k fun N31 hN31 => ?_
        refine LWP.region (l := [_,_,_]) ?_
        refine LWo.move (.ptr 0 0 0) rfl (hn := ?_)
        refine bk h fun x32 e32 h => ?_
        refine LWo.lcall rfl rfl (k_Pspec_l20Rd_pick _ _ _ e32 0) rfl rfl rfl (hn := ?_)
        refine LWo.assign (e_int x32.1) rfl (hn := ?_)
        refine LWo.nil (hN31 _ ?_)
        refine LWP.block ?_
        refine LWP.loopM (α := Int × Int × S_spec_l20Rd × S_impl_Value × S_impl_Value) (fun z : Int × Int × S_spec_l20Rd × S_impl_Value × S_impl_Value => [(0, (.ptr 0 0 0)), (1, (e_int z.1)), (4, (.ptr 4 0 0)), (5, (.ptr 5 0 0)), (6, (e_int z.2.1))]) (fun z : Int × Int × S_spec_l20Rd × S_impl_Value × S_impl_Value => [(0, (vob 2 e_spec_l20Rd z.2.2.1)), (4, (vob 3 e_impl_Value z.2.2.2.1)), (5, (vob 3 e_impl_Value z.2.2.2.2))]) (fun n1 (z : Int × Int × S_spec_l20Rd × S_impl_Value × S_impl_Value) => m_spec_l20Value_l1  n1 z.1 z.2.1 z.2.2.1 z.2.2.2.1 z.2.2.2.2) r _ (t1, x32.1, x32.2, o4, y30) h (fun _ => rfl) (fun _ => by simp [hkeys]) ⟨rfl, rfl, rfl, rfl, rfl, trivial⟩ ⟨rfl, rfl, rfl, trivial⟩ ?_
        rintro n1 ⟨t1, t6, o0, o4, o5⟩ h N33 hN33
        replace h : m_spec_l20Value_l1  (n1 + 1) t1 t6 o0 o4 o5 = some _ := h
        refine LWP.seq_k fun N35 hN35 => ?_
        refine LWP.seq_k fun N36 hN36 => ?_
        refine LWP.region (l := [_,_]) ?_
        refine LWo.move (e_int t6) rfl (hn := ?_)
        refine LWo.int _ rfl rfl rfl (hn := ?_)
        refine LWo.nil (hN36 _ ?_)
        refine LWP.cond_split rfl (fun h37 => ?_) (fun h37 => ?_)
        ·have h := bT h37 h
         refine LWP.skip (hN35 _ ?_)
         refine LWP.seq_k fun N38 hN38 => ?_
         refine LWP.block ?_
         refine bk h fun x39 e39 h => ?_
         refine bk h fun x40 e40 h => ?_
         refine bk h fun x41 e41 h => ?_
         refine lk h fun y42 e42 h => ?_
         refine LWP.drawF (l := [_,_,_,_,_,_,_,_,_,_,_]) [] [0, 1, 4, 5, 6] [([5], []), ([42], [5]), ([0], []), ([44], [0]), ([45], []), ([46], []), ([47], []), ([48], []), ([43, 49], []), ([5], []), ([50, 51], [5])] [0, 1, 4, 5, 6] [0, 4, 5] mixed (by kernel_rfl) rfl (by decide) ?_
         refine dq 42 rfl (fun _ g u h => LWo.fieldPtr u_impl_Value rfl s_string u.1 rfl (hn := .nil (zn g))) ?_
         refine dq 43 rfl (fun _ g u h => LWo.loadV1 (e_string o5.S)  g_string u.1 h.1 rfl (hn := .nil (zn g))) ?_
         refine dq 44 rfl (fun _ g u h => LWo.move (.ptr 0 0 0) u.1 (hn := .nil (zn g))) ?_
         refine ⟨rfl, .upd (some 45) _ 0 _, (fun _ h => by cases h), fun _ g u h => LWo.lcall rfl (av2 u.1 rfl) (k_Pspec_l20Rd_pick _ _ _ e39 0) rfl h.1 rfl (hn := LWo.nil ⟨rfl, .inl rfl, Ef.good_ok (e := .upd (some 45) _ 0 _) (fun _ h => by cases h) g⟩), ?_⟩
         refine dq 46 rfl (fun _ g u h => LWo.int _ rfl u.1 (add_ck e40) (hn := .nil (zn g))) ?_
         refine dq 47 rfl (fun _ g u h => LWo.convU8 u_int u_uint8 u.1 (hn := .nil (zn g))) ?_
         refine dq 48 rfl (fun _ g u h => LWo.lit (ops := [_]) [(e_uint8 (Lift.byteOf x40))] u_Luint8 s_uint8 z_uint8 (lv1 u.1) rfl rfl rfl rfl rfl (hn := .nil (zn g))) ?_
         refine dq 49 rfl (fun _ g u h => LWo.strM (l := ([(Lift.byteOf x40)] : (List UInt8))) u_Luint8 u_string u_uint8 u.1 (hn := .nil (zn g))) ?_
         refine dq 50 rfl (fun _ g u h => LWo.str _ u.1 u.2.1 (cat_ck e41) (hn := .nil (zn g))) ?_
         refine dq 51 rfl (fun _ g u h => LWo.fieldPtr u_impl_Value rfl s_string u.1 rfl (hn := .nil (zn g))) ?_
         refine ⟨rfl, .upd none .junk 5 _, (fun _ h => by cases h), fun _ g u h => LWo.storeW (y := o5) y42 s_string u.2.1 u.1 rfl rfl h.1 rfl (by rw [e42]; exact .refl) rfl (hn := LWo.nil ⟨rfl, .inl rfl, Ef.good_ok (e := .upd none .junk 5 _) (fun _ h => by cases h) g⟩), ?_⟩
         refine ⟨rfl, by kernel_rfl, hN38 _ ?_⟩
         refine LWP.region (l := [_,_,_]) ?_
         refine LWo.move (e_int t6) rfl (hn := ?_)
         refine bk h fun x43 e43 h => ?_
         refine LWo.int _ rfl rfl (sub_ck e43) (hn := ?_)
         refine LWo.assign (e_int x43) rfl (hn := ?_)
         refine LWo.nil (hN33 (t1, x43, x39.2, o4, y42) _ ⟨rfl, rfl, rfl, rfl, rfl, trivial⟩ ⟨rfl, rfl, rfl, trivial⟩ h)
        ·have h := bF h37 h
         refine LWP.exit (hN4 (t1, o0, o4, o5) _ ⟨rfl, rfl, rfl, rfl, trivial⟩ ⟨rfl, rfl, rfl, trivial⟩ h)
       ·have h := bF h28 h
        refine LWP.region (l := [_,_,_,_]) ?_
        refine LWo.move (.ptr 0 0 0) rfl (hn := ?_)
        refine bk h fun x44 e44 h => ?_
        refine LWo.lcall rfl rfl (k_Pspec_l20Rd_pick _ _ _ e44 0) rfl rfl rfl (hn := ?_)
        refine LWo.build_impl_Value (parts := [_, _]) (⟨(3 : Int), x44.1, (⟨#[]⟩ : ByteArray)⟩ : S_impl_Value) rfl rfl rfl .refl (hn := ?_)
        refine lk h fun y45 e45 h => ?_
        refine LWo.storeW (y := o5) y45 s_impl_Value rfl rfl rfl rfl rfl rfl (by rw [e45]; exact .refl) rfl (hn := ?_)
        refine LWo.nil (hN4 (t1, x44.2, o4, y45) _ ⟨rfl, rfl, rfl, rfl, trivial⟩ ⟨rfl, rfl, rfl, trivial⟩ h)
      ·intro N25 hN25
       refine LWP.seq_k fun N26 hN26 => ?_
       refine LWP.region (l := [_,_]) ?_
       refine LWo.int _ rfl rfl rfl (hn := ?_)
       refine LWo.assign (e_bool (t9 == (4 : Int))) rfl (hn := ?_)
       refine LWo.nil (hN26 _ ?_)
       refine LWP.cond_split rfl (fun h27 => ?_) (fun h27 => ?_)
       ·have h := bT h27 h
        refine LWP.skip (hN25 (t1, (t9 == (4 : Int)), o0, o4, o5) _ ⟨rfl, rfl, rfl, rfl, rfl, trivial⟩ ⟨rfl, rfl, rfl, trivial⟩ h)
       ·have h := bF h27 h
        refine LWP.region (l := [_,_]) ?_
        refine LWo.int _ rfl rfl rfl (hn := ?_)
        refine LWo.assign (e_bool (t9 == (5 : Int))) rfl (hn := ?_)
        refine LWo.nil (hN25 (t1, (t9 == (5 : Int)), o0, o4, o5) _ ⟨rfl, rfl, rfl, rfl, rfl, trivial⟩ ⟨rfl, rfl, rfl, trivial⟩ h)
    ·intro N9 hN9
     refine LWP.seq_k fun N10 hN10 => ?_
     refine LWP.region (l := [_,_]) ?_
     refine LWo.int _ rfl rfl rfl (hn := ?_)
     refine LWo.assign (e_bool (x6.1 == (1 : Int))) rfl (hn := ?_)
     refine LWo.nil (hN10 _ ?_)
     refine LWP.cond_split rfl (fun h11 => ?_) (fun h11 => ?_)
     ·have h := bT h11 h
      refine LWP.skip (hN9 (a1, x6.1, (x6.1 == (1 : Int)), x6.2, (⟨(0 : Int), (0 : Int), (⟨#[]⟩ : ByteArray)⟩ : S_impl_Value), y3) _ ⟨rfl, rfl, rfl, rfl, rfl, rfl, trivial⟩ ⟨rfl, rfl, rfl, trivial⟩ h)
     ·have h := bF h11 h
      refine LWP.seq_k fun N12 hN12 => ?_
      refine LWP.region (l := [_,_]) ?_
      refine LWo.int _ rfl rfl rfl (hn := ?_)
      refine LWo.assign (e_bool (x6.1 == (2 : Int))) rfl (hn := ?_)
      refine LWo.nil (hN12 _ ?_)
      refine LWP.cond_split rfl (fun h13 => ?_) (fun h13 => ?_)
      ·have h := bT h13 h
       refine LWP.skip (hN9 (a1, x6.1, (x6.1 == (2 : Int)), x6.2, (⟨(0 : Int), (0 : Int), (⟨#[]⟩ : ByteArray)⟩ : S_impl_Value), y3) _ ⟨rfl, rfl, rfl, rfl, rfl, rfl, trivial⟩ ⟨rfl, rfl, rfl, trivial⟩ h)
      ·have h := bF h13 h
       refine LWP.region (l := [_,_]) ?_
       refine LWo.int _ rfl rfl rfl (hn := ?_)
       refine LWo.assign (e_bool (x6.1 == (3 : Int))) rfl (hn := ?_)
       refine LWo.nil (hN9 (a1, x6.1, (x6.1 == (3 : Int)), x6.2, (⟨(0 : Int), (0 : Int), (⟨#[]⟩ : ByteArray)⟩ : S_impl_Value), y3) _ ⟨rfl, rfl, rfl, rfl, rfl, rfl, trivial⟩ ⟨rfl, rfl, rfl, trivial⟩ h)
theorem k_spec_l20Value (o0 : S_spec_l20Rd) (a1 : Int) (r : (S_impl_Value × S_spec_l20Rd)) (h : m_spec_l20Value o0 a1 = some r) (k : Nat) : Does Try.prog f_spec_l20Value [.ptr k 0 0, e_int a1] [(k, (vob 2 e_spec_l20Rd o0))] (fun x hh => x = e_impl_Value r.1 ∧ hh = [(k, (vob 2 e_spec_l20Rd r.2))]) :=
  Does.nameV (c_spec_l20Value o0 a1 r h) rfl rfl rfl rfl rfl rfl k

def m_spec_l20Fit_j2 (o0 : S_spec_l20Rd) (o1009 : (List S_impl_Value)) : Option ((List S_impl_Value) × S_spec_l20Rd) :=
  some (o1009, o0)
def m_spec_l20Fit_j1 (t2 : Int) (o0 : S_spec_l20Rd) (o1009 : (List S_impl_Value)) : Option ((List S_impl_Value) × S_spec_l20Rd) :=
  (m_Pspec_l20Rd_odd o0 t2).bind fun x17 =>
  bif x17.1 then ((m_Pspec_l20Rd_pick x17.2 (3 : Int)).bind fun x20 =>
    bif (x20.1 == (0 : Int)) then ((app? o1009 ([(⟨(0 : Int), (0 : Int), (⟨#[]⟩ : ByteArray)⟩ : S_impl_Value)] : (List S_impl_Value))).bind fun x23 =>
      m_spec_l20Fit_j2  x20.2 x23)
    else (bif (x20.1 == (1 : Int)) then (bif decide ((o1009.length : Int) > (0 : Int)) then ((m_Pspec_l20Rd_pick x20.2 (o1009.length : Int)).bind fun x28 =>
          (m_spec_l20Value x28.2 (3 : Int)).bind fun x29 =>
          (at? o1009 x28.1).bind fun x30 =>
          (at? o1009 x28.1).bind fun x31 =>
          lt (x29.1) fun y32 =>
          m_spec_l20Fit_j2  x29.2 (o1009.set (x28.1).toNat y32))
        else (m_spec_l20Fit_j2  x20.2 o1009))
      else ((m_spec_l20Value x20.2 (0 : Int)).bind fun x33 =>
        (m_spec_l20Value x33.2 (0 : Int)).bind fun x34 =>
        (m_spec_l20Value x34.2 (0 : Int)).bind fun x35 =>
        (app? o1009 ([x33.1, x34.1, x35.1] : (List S_impl_Value))).bind fun x36 =>
        m_spec_l20Fit_j2  x35.2 x36)))
  else (m_spec_l20Fit_j2  x17.2 o1009)
def m_spec_l20Fit_l1 : Nat → (List S_impl_Column) → Int → Int → S_spec_l20Rd → (List S_impl_Value) → Option ((List S_impl_Value) × S_spec_l20Rd)
  | 0, _, _, _, _, _ => none
  | n1 + 1, t1, t2, t8, o0, o1009 =>
    bif decide (t8 < (t1.length : Int)) then ((at? t1 t8).bind fun x11 =>
    (m_spec_l20Like o0 x11).bind fun x12 =>
    (app? o1009 ([x12.1] : (List S_impl_Value))).bind fun x13 =>
    (ckI (t8 + (1 : Int))).bind fun x14 =>
    (m_spec_l20Fit_l1  n1) t1 t2 x14 x12.2 x13)
    else (m_spec_l20Fit_j1  t2 o0 o1009)
def m_spec_l20Fit (o0 : S_spec_l20Rd) (a1 : (List S_impl_Column)) (a2 : Int) : Option ((List S_impl_Value) × S_spec_l20Rd) :=
  m_spec_l20Fit_l1  (((a1.length : Int) - (0 : Int)).toNat + 1) a1 a2 (0 : Int) o0 ([] : (List S_impl_Value))
theorem c_spec_l20Fit (o0 : S_spec_l20Rd) (a1 : (List S_impl_Column)) (a2 : Int) (r : ((List S_impl_Value) × S_spec_l20Rd)) (h : m_spec_l20Fit o0 a1 a2 = some r) : Does Try.prog f_spec_l20Fit [.ptr 0 0 0, e_Limpl_Column a1, e_int a2] [(0, (vob 2 e_spec_l20Rd o0))] (fun x hh => x = .nw 3 (r.1.map e_impl_Value) false ∧ hh = [(0, (vob 2 e_spec_l20Rd r.2))]) := by
  refine Does.goG [0] F_spec_l20Fit rfl e_spec_l20Fit n_spec_l20Fit rfl (rvs := [.tmp 6]) rfl rfl ?_
  intro w0 ok0 lent ρ0
  refine LWP.seq_k fun N1 hN1 => ?_
  refine LWP.region (l := [_]) ?_
  refine LWo.assign _ rfl (hn := ?_)
  refine LWo.ownNil 6 1006 3 rfl rfl rfl ?_
  refine LWo.known 6 (.own 1006 0 ([] : (List S_impl_Value)).length) rfl ?_
  refine LWo.nil (hN1 _ ?_)
  refine LWP.seq_k fun N2 hN2 => ?_
  refine LWP.region (l := [_,_]) ?_
  refine LWo.lit0 1009 u_Limpl_Value s_impl_Value z_impl_Value (hn := ?_)
  refine LWo.known 9 (.own 1009 0 ([] : (List S_impl_Value)).length) rfl ?_
  refine LWo.assign (.own 1009 0 (([] : (List S_impl_Value))).length) rfl (hn := ?_)
  refine LWo.nil (hN2 _ ?_)
  refine LWP.join (α := Int × S_spec_l20Rd × (List S_impl_Value)) (fun z : Int × S_spec_l20Rd × (List S_impl_Value) => [(0, (.ptr 0 0 0)), (2, (e_int z.1)), (7, (.own 1009 0 (z.2.2).length))]) (fun z : Int × S_spec_l20Rd × (List S_impl_Value) => [(0, (vob 2 e_spec_l20Rd z.2.1)), (1009, (lob 3 e_impl_Value z.2.2))]) (fun z : Int × S_spec_l20Rd × (List S_impl_Value) => m_spec_l20Fit_j1  z.1 z.2.1 z.2.2) r (fun _ => by simp [hkeys]) ?_ ?_
  ·rintro ⟨t2, o0, o1009⟩ h
   replace h : m_spec_l20Fit_j1  t2 o0 o1009 = some _ := h
   refine LWP.join (α := S_spec_l20Rd × (List S_impl_Value)) (fun z : S_spec_l20Rd × (List S_impl_Value) => [(7, (.own 1009 0 (z.2).length))]) (fun z : S_spec_l20Rd × (List S_impl_Value) => [(0, (vob 2 e_spec_l20Rd z.1)), (1009, (lob 3 e_impl_Value z.2))]) (fun z : S_spec_l20Rd × (List S_impl_Value) => m_spec_l20Fit_j2  z.1 z.2) r (fun _ => by simp [hkeys]) ?_ ?_
   ·rintro ⟨o0, o1009⟩ h
    replace h : m_spec_l20Fit_j2  o0 o1009 = some _ := h
    refine LWP.seq_k fun N37 hN37 => ?_
    refine LWP.region (l := [_,_]) ?_
    refine LWo.move (.own 1009 0 (o1009).length) rfl (hn := ?_)
    refine LWo.assign (.own 1009 0 (o1009).length) rfl (hn := ?_)
    refine LWo.nil (hN37 _ ?_)
    obtain rfl := Option.some.inj h
    refine LWP.ret (QG.mk (.inr rfl) (.cons (.tmp (x := (.own 1009 0 (o1009).length)) rfl) (.nil)) (RetOK.one1 (.nwM rfl rfl) (by decide) rfl rfl rfl rfl rfl) rfl rfl)
   ·intro N15 hN15
    refine LWP.seq_k fun N16 hN16 => ?_
    refine LWP.region (l := [_,_,_]) ?_
    refine LWo.move (.ptr 0 0 0) rfl (hn := ?_)
    refine LWo.move (e_int t2) rfl (hn := ?_)
    refine bk h fun x17 e17 h => ?_
    refine LWo.lcall rfl rfl (k_Pspec_l20Rd_odd _ _ _ e17 0) rfl rfl rfl (hn := ?_)
    refine LWo.nil (hN16 _ ?_)
    refine LWP.cond_split rfl (fun h18 => ?_) (fun h18 => ?_)
    ·have h := bT h18 h
     refine LWP.seq_k fun N19 hN19 => ?_
     refine LWP.region (l := [_,_]) ?_
     refine LWo.move (.ptr 0 0 0) rfl (hn := ?_)
     refine bk h fun x20 e20 h => ?_
     refine LWo.lcall rfl rfl (k_Pspec_l20Rd_pick _ _ _ e20 0) rfl rfl rfl (hn := ?_)
     refine LWo.nil (hN19 _ ?_)
     refine LWP.block ?_
     refine LWP.seq_k fun N21 hN21 => ?_
     refine LWP.region (l := [_,_]) ?_
     refine LWo.int _ rfl rfl rfl (hn := ?_)
     refine LWo.assign (e_bool (x20.1 == (0 : Int))) rfl (hn := ?_)
     refine LWo.nil (hN21 _ ?_)
     refine LWP.cond_split rfl (fun h22 => ?_) (fun h22 => ?_)
     ·have h := bT h22 h
      refine LWP.region (l := [_,_,_,_,_]) ?_
      refine LWo.move (.own 1009 0 (o1009).length) rfl (hn := ?_)
      refine LWo.build_impl_Value (parts := []) (⟨(0 : Int), (0 : Int), (⟨#[]⟩ : ByteArray)⟩ : S_impl_Value) rfl rfl rfl .refl (hn := ?_)
      refine LWo.lit (ops := [_]) [(e_impl_Value (⟨(0 : Int), (0 : Int), (⟨#[]⟩ : ByteArray)⟩ : S_impl_Value))] u_Limpl_Value s_impl_Value z_impl_Value rfl rfl rfl rfl rfl rfl (hn := ?_)
      refine bk h fun x23 e23 h => ?_
      refine LWo.appendM (f := e_impl_Value) e23 rfl u_Limpl_Value u_Limpl_Value (fun _ h => by cases h) s_impl_Value i_impl_Value rfl rfl rfl (.sl rfl) rfl rfl (hn := ?_)
      refine LWo.assign (.own 1009 0 (x23).length) rfl (hn := ?_)
      refine LWo.nil (hN15 (x20.2, x23) _ ⟨rfl, trivial⟩ ⟨rfl, rfl, trivial⟩ h)
     ·have h := bF h22 h
      refine LWP.seq_k fun N24 hN24 => ?_
      refine LWP.region (l := [_,_]) ?_
      refine LWo.int _ rfl rfl rfl (hn := ?_)
      refine LWo.assign (e_bool (x20.1 == (1 : Int))) rfl (hn := ?_)
      refine LWo.nil (hN24 _ ?_)
      refine LWP.cond_split rfl (fun h25 => ?_) (fun h25 => ?_)
      ·have h := bT h25 h
       refine LWP.seq_k fun N26 hN26 => ?_
       refine LWP.region (l := [_,_,_]) ?_
       refine LWo.move (.own 1009 0 (o1009).length) rfl (hn := ?_)
       refine LWo.lenO u_Limpl_Value rfl (hn := ?_)
       refine LWo.int _ rfl rfl rfl (hn := ?_)
       refine LWo.nil (hN26 _ ?_)
       refine LWP.cond_split rfl (fun h27 => ?_) (fun h27 => ?_)
       ·have h := bT h27 h
        refine LWP.region (l := [_,_,_,_,_,_,_,_,_]) ?_
        refine LWo.move (.own 1009 0 (o1009).length) rfl (hn := ?_)
        refine LWo.move (.ptr 0 0 0) rfl (hn := ?_)
        refine LWo.move (.own 1009 0 (o1009).length) rfl (hn := ?_)
        refine LWo.lenO u_Limpl_Value rfl (hn := ?_)
        refine bk h fun x28 e28 h => ?_
        refine LWo.lcall rfl rfl (k_Pspec_l20Rd_pick _ _ _ e28 0) rfl rfl rfl (hn := ?_)
        refine LWo.move (.ptr 0 0 0) rfl (hn := ?_)
        refine bk h fun x29 e29 h => ?_
        refine LWo.lcall rfl rfl (k_spec_l20Value _ _ _ e29 0) rfl rfl rfl (hn := ?_)
        refine bk h fun x30 e30 h => ?_
        refine LWo.indexO e30 rfl u_Limpl_Value s_impl_Value rfl rfl rfl (hn := ?_)
        refine bk h fun x31 e31 h => ?_
        refine lk h fun y32 e32 h => ?_
        refine LWo.storeO y32 e31 s_impl_Value rfl rfl rfl rfl rfl rfl rfl (by rw [e32]; rfl) (hn := ?_)
        refine LWo.nil (hN15 (x29.2, (o1009.set (x28.1).toNat y32)) _ ⟨(congrArg (LV.own 1009 0) List.length_set.symm), trivial⟩ ⟨rfl, rfl, trivial⟩ h)
       ·have h := bF h27 h
        refine LWP.skip (hN15 (x20.2, o1009) _ ⟨rfl, trivial⟩ ⟨rfl, rfl, trivial⟩ h)
      ·have h := bF h25 h
       refine LWP.region (l := [_,_,_,_,_,_,_,_,_,_]) ?_
       refine LWo.move (.own 1009 0 (o1009).length) rfl (hn := ?_)
       refine LWo.move (.ptr 0 0 0) rfl (hn := ?_)
       refine bk h fun x33 e33 h => ?_
       refine LWo.lcall rfl rfl (k_spec_l20Value _ _ _ e33 0) rfl rfl rfl (hn := ?_)
       refine LWo.move (.ptr 0 0 0) rfl (hn := ?_)
       refine bk h fun x34 e34 h => ?_
       refine LWo.lcall rfl rfl (k_spec_l20Value _ _ _ e34 0) rfl rfl rfl (hn := ?_)
       refine LWo.move (.ptr 0 0 0) rfl (hn := ?_)
       refine bk h fun x35 e35 h => ?_
       refine LWo.lcall rfl rfl (k_spec_l20Value _ _ _ e35 0) rfl rfl rfl (hn := ?_)
       refine LWo.lit (ops := [_, _, _]) [(e_impl_Value x33.1), (e_impl_Value x34.1), (e_impl_Value x35.1)] u_Limpl_Value s_impl_Value z_impl_Value rfl rfl rfl rfl rfl rfl (hn := ?_)
       refine bk h fun x36 e36 h => ?_
       refine LWo.appendM (f := e_impl_Value) e36 rfl u_Limpl_Value u_Limpl_Value (fun _ h => by cases h) s_impl_Value i_impl_Value rfl rfl rfl (.sl rfl) rfl rfl (hn := ?_)
       refine LWo.assign (.own 1009 0 (x36).length) rfl (hn := ?_)
       refine LWo.nil (hN15 (x35.2, x36) _ ⟨rfl, trivial⟩ ⟨rfl, rfl, trivial⟩ h)
    ·have h := bF h18 h
     refine LWP.skip (hN15 (x17.2, o1009) _ ⟨rfl, trivial⟩ ⟨rfl, rfl, trivial⟩ h)
  ·intro N3 hN3
   refine LWP.seq_k fun N4 hN4 => ?_
   refine LWP.region (l := [_]) ?_
   refine LWo.assign (e_int (0 : Int)) rfl (hn := ?_)
   refine LWo.nil (hN4 _ ?_)
   refine LWP.block ?_
   refine LWP.loopM (α := (List S_impl_Column) × Int × Int × S_spec_l20Rd × (List S_impl_Value)) (fun z : (List S_impl_Column) × Int × Int × S_spec_l20Rd × (List S_impl_Value) => [(0, (.ptr 0 0 0)), (1, (e_Limpl_Column z.1)), (2, (e_int z.2.1)), (7, (.own 1009 0 (z.2.2.2.2).length)), (8, (e_int z.2.2.1))]) (fun z : (List S_impl_Column) × Int × Int × S_spec_l20Rd × (List S_impl_Value) => [(0, (vob 2 e_spec_l20Rd z.2.2.2.1)), (1009, (lob 3 e_impl_Value z.2.2.2.2))]) (fun n1 (z : (List S_impl_Column) × Int × Int × S_spec_l20Rd × (List S_impl_Value)) => m_spec_l20Fit_l1  n1 z.1 z.2.1 z.2.2.1 z.2.2.2.1 z.2.2.2.2) r _ (a1, a2, (0 : Int), o0, ([] : (List S_impl_Value))) h (fun _ => rfl) (fun _ => by simp [hkeys]) ⟨rfl, rfl, rfl, rfl, rfl, trivial⟩ ⟨rfl, rfl, trivial⟩ ?_
   rintro n1 ⟨t1, t2, t8, o0, o1009⟩ h N5 hN5
   replace h : m_spec_l20Fit_l1  (n1 + 1) t1 t2 t8 o0 o1009 = some _ := h
   refine LWP.seq_k fun N7 hN7 => ?_
   refine LWP.seq_k fun N8 hN8 => ?_
   refine LWP.region (l := [_,_,_,_]) ?_
   refine LWo.move (e_int t8) rfl (hn := ?_)
   refine LWo.move (e_Limpl_Column t1) rfl (hn := ?_)
   refine LWo.lenM (f := e_impl_Column) (l := t1) u_Limpl_Column rfl (hn := ?_)
   refine LWo.int _ rfl rfl rfl (hn := ?_)
   refine LWo.nil (hN8 _ ?_)
   refine LWP.cond_split rfl (fun h9 => ?_) (fun h9 => ?_)
   ·have h := bT h9 h
    refine LWP.skip (hN7 _ ?_)
    refine LWP.seq_k fun N10 hN10 => ?_
    refine LWP.block ?_
    refine LWP.region (l := [_,_,_,_,_,_,_,_,_,_]) ?_
    refine LWo.move (.own 1009 0 (o1009).length) rfl (hn := ?_)
    refine LWo.move (.ptr 0 0 0) rfl (hn := ?_)
    refine LWo.move (e_Limpl_Column t1) rfl (hn := ?_)
    refine LWo.move (e_int t8) rfl (hn := ?_)
    refine bk h fun x11 e11 h => ?_
    refine LWo.indexM (f := e_impl_Column) e11 u_Limpl_Column s_impl_Column rfl rfl (hn := ?_)
    refine LWo.loadN ((e_impl_Column x11)).cells g_impl_Column s_impl_Column rfl (Nat.le_of_ble_eq_true rfl) rfl (hn := ?_)
    refine bk h fun x12 e12 h => ?_
    refine LWo.lcall rfl rfl (k_spec_l20Like _ _ _ e12 0) rfl rfl rfl (hn := ?_)
    refine LWo.lit (ops := [_]) [(e_impl_Value x12.1)] u_Limpl_Value s_impl_Value z_impl_Value rfl rfl rfl rfl rfl rfl (hn := ?_)
    refine bk h fun x13 e13 h => ?_
    refine LWo.appendM (f := e_impl_Value) e13 rfl u_Limpl_Value u_Limpl_Value (fun _ h => by cases h) s_impl_Value i_impl_Value rfl rfl rfl (.sl rfl) rfl rfl (hn := ?_)
    refine LWo.assign (.own 1009 0 (x13).length) rfl (hn := ?_)
    refine LWo.nil (hN10 _ ?_)
    refine LWP.region (l := [_,_,_]) ?_
    refine LWo.move (e_int t8) rfl (hn := ?_)
    refine bk h fun x14 e14 h => ?_
    refine LWo.int _ rfl rfl (add_ck e14) (hn := ?_)
    refine LWo.assign (e_int x14) rfl (hn := ?_)
    refine LWo.nil (hN5 (t1, t2, x14, x12.2, x13) _ ⟨rfl, rfl, rfl, rfl, rfl, trivial⟩ ⟨rfl, rfl, trivial⟩ h)
   ·have h := bF h9 h
    refine LWP.exit (hN3 (t2, o0, o1009) _ ⟨rfl, rfl, rfl, trivial⟩ ⟨rfl, rfl, trivial⟩ h)
theorem k_spec_l20Fit (o0 : S_spec_l20Rd) (a1 : (List S_impl_Column)) (a2 : Int) (r : ((List S_impl_Value) × S_spec_l20Rd)) (h : m_spec_l20Fit o0 a1 a2 = some r) (k : Nat) : Does Try.prog f_spec_l20Fit [.ptr k 0 0, e_Limpl_Column a1, e_int a2] [(k, (vob 2 e_spec_l20Rd o0))] (fun x hh => x = .nw 3 (r.1.map e_impl_Value) false ∧ hh = [(k, (vob 2 e_spec_l20Rd r.2))]) :=
  Does.nameV (c_spec_l20Fit o0 a1 a2 r h) rfl rfl rfl rfl rfl rfl k

def m_spec_l20Leaf_j3 (t2 : Int) (o0 : S_spec_l20Rd) (o6 : S_impl_Part) : Option (S_impl_Part × S_spec_l20Rd) :=
  (m_spec_l20Like o0 (⟨t2, false⟩ : S_impl_Column)).bind fun x22 =>
  lt ((⟨(1 : Int), (0 : Int), x22.1⟩ : S_impl_Part)) fun y23 =>
  some (y23, x22.2)
def m_spec_l20Leaf_j2 (k1 : (List S_impl_Column) → Int → Int → S_spec_l20Rd → S_impl_Part → Option (S_impl_Part × S_spec_l20Rd)) (t1 : (List S_impl_Column)) (t2 : Int) (t7 : Int) (t8 : Int) (t33 : Bool) (o0 : S_spec_l20Rd) (o6 : S_impl_Part) : Option (S_impl_Part × S_spec_l20Rd) :=
  bif t33 then (lt ((⟨(2 : Int), t8, (⟨(0 : Int), (0 : Int), (⟨#[]⟩ : ByteArray)⟩ : S_impl_Value)⟩ : S_impl_Part)) fun y19 =>
    some (y19, o0))
  else ((ckI (t7 + (1 : Int))).bind fun x20 =>
  k1 t1 t2 x20 o0 o6)
def m_spec_l20Leaf_j1 (k1 : (List S_impl_Column) → Int → Int → S_spec_l20Rd → S_impl_Part → Option (S_impl_Part × S_spec_l20Rd)) (t1 : (List S_impl_Column)) (t2 : Int) (t7 : Int) (t15 : Bool) (o0 : S_spec_l20Rd) (o6 : S_impl_Part) : Option (S_impl_Part × S_spec_l20Rd) :=
  bif t15 then ((m_Pspec_l20Rd_pick o0 (t1.length : Int)).bind fun x12 =>
  (at? t1 x12.1).bind fun x14 =>
  bif (x14.Kind == t2) then ((m_Pspec_l20Rd_pick x12.2 (3 : Int)).bind fun x16 =>
  m_spec_l20Leaf_j2  k1 t1 t2 t7 x12.1 (decide (x16.1 > (0 : Int))) x16.2 o6)
  else (m_spec_l20Leaf_j2  k1 t1 t2 t7 x12.1 false x12.2 o6))
  else (m_spec_l20Leaf_j3  t2 o0 o6)
def m_spec_l20Leaf_l1 : Nat → (List S_impl_Column) → Int → Int → S_spec_l20Rd → S_impl_Part → Option (S_impl_Part × S_spec_l20Rd)
  | 0, _, _, _, _, _ => none
  | n1 + 1, t1, t2, t7, o0, o6 =>
    bif decide (t7 < (4 : Int)) then (m_spec_l20Leaf_j1  (m_spec_l20Leaf_l1  n1) t1 t2 t7 (decide ((t1.length : Int) > (0 : Int))) o0 o6)
    else (m_spec_l20Leaf_j1  (m_spec_l20Leaf_l1  n1) t1 t2 t7 false o0 o6)
def m_spec_l20Leaf (o0 : S_spec_l20Rd) (a1 : (List S_impl_Column)) (a2 : Int) : Option (S_impl_Part × S_spec_l20Rd) :=
  m_spec_l20Leaf_l1  (1000000000) a1 a2 (0 : Int) o0 (⟨(0 : Int), (0 : Int), (⟨(0 : Int), (0 : Int), (⟨#[]⟩ : ByteArray)⟩ : S_impl_Value)⟩ : S_impl_Part)
theorem c_spec_l20Leaf (o0 : S_spec_l20Rd) (a1 : (List S_impl_Column)) (a2 : Int) (r : (S_impl_Part × S_spec_l20Rd)) (h : m_spec_l20Leaf o0 a1 a2 = some r) : Does Try.prog f_spec_l20Leaf [.ptr 0 0 0, e_Limpl_Column a1, e_int a2] [(0, (vob 2 e_spec_l20Rd o0))] (fun x hh => x = e_impl_Part r.1 ∧ hh = [(0, (vob 2 e_spec_l20Rd r.2))]) := by
  refine Does.goG [0] F_spec_l20Leaf rfl e_spec_l20Leaf n_spec_l20Leaf rfl (rvs := [.cell 6 t_impl_Part]) rfl rfl ?_
  intro w0 ok0 lent ρ0
  refine LWP.seq_k fun N1 hN1 => ?_
  refine LWP.region (l := [_]) ?_
  refine LWo.alloc_impl_Part 6 rfl (hn := ?_)
  refine LWo.nil (hN1 _ ?_)
  refine LWP.join (α := Int × S_spec_l20Rd × S_impl_Part) (fun z : Int × S_spec_l20Rd × S_impl_Part => [(0, (.ptr 0 0 0)), (2, (e_int z.1)), (6, (.ptr 6 0 0))]) (fun z : Int × S_spec_l20Rd × S_impl_Part => [(0, (vob 2 e_spec_l20Rd z.2.1)), (6, (vob 5 e_impl_Part z.2.2))]) (fun z : Int × S_spec_l20Rd × S_impl_Part => m_spec_l20Leaf_j3  z.1 z.2.1 z.2.2) r (fun _ => by simp [hkeys]) ?_ ?_
  ·rintro ⟨t2, o0, o6⟩ h
   replace h : m_spec_l20Leaf_j3  t2 o0 o6 = some _ := h
   refine LWP.seq_k fun N21 hN21 => ?_
   refine LWP.region (l := [_,_,_,_,_,_]) ?_
   refine LWo.move (.ptr 0 0 0) rfl (hn := ?_)
   refine LWo.move (e_int t2) rfl (hn := ?_)
   refine LWo.build_impl_Column (parts := [_]) (⟨t2, false⟩ : S_impl_Column) rfl rfl rfl .refl (hn := ?_)
   refine bk h fun x22 e22 h => ?_
   refine LWo.lcall rfl rfl (k_spec_l20Like _ _ _ e22 0) rfl rfl rfl (hn := ?_)
   refine LWo.build_impl_Part (parts := [_, _]) (⟨(1 : Int), (0 : Int), x22.1⟩ : S_impl_Part) rfl rfl rfl .refl (hn := ?_)
   refine lk h fun y23 e23 h => ?_
   refine LWo.storeW (y := o6) y23 s_impl_Part rfl rfl rfl rfl rfl rfl (by rw [e23]; exact .refl) rfl (hn := ?_)
   refine LWo.nil (hN21 _ ?_)
   obtain rfl := Option.some.inj h
   refine LWP.ret (QG.mk (.inr rfl) (.cons (.cellN (ys := (e_impl_Part y23).cells) g_impl_Part s_impl_Part rfl rfl rfl rfl rfl (fun _ _ => rfl)) (.nil)) (RetOK.one1 (.pure rfl) (by decide) rfl rfl rfl rfl rfl) rfl rfl)
  ·intro N2 hN2
   refine LWP.seq_k fun N3 hN3 => ?_
   refine LWP.region (l := [_]) ?_
   refine LWo.assign (e_int (0 : Int)) rfl (hn := ?_)
   refine LWo.nil (hN3 _ ?_)
   refine LWP.block ?_
   refine LWP.loopM (α := (List S_impl_Column) × Int × Int × S_spec_l20Rd × S_impl_Part) (fun z : (List S_impl_Column) × Int × Int × S_spec_l20Rd × S_impl_Part => [(0, (.ptr 0 0 0)), (1, (e_Limpl_Column z.1)), (2, (e_int z.2.1)), (6, (.ptr 6 0 0)), (7, (e_int z.2.2.1))]) (fun z : (List S_impl_Column) × Int × Int × S_spec_l20Rd × S_impl_Part => [(0, (vob 2 e_spec_l20Rd z.2.2.2.1)), (6, (vob 5 e_impl_Part z.2.2.2.2))]) (fun n1 (z : (List S_impl_Column) × Int × Int × S_spec_l20Rd × S_impl_Part) => m_spec_l20Leaf_l1  n1 z.1 z.2.1 z.2.2.1 z.2.2.2.1 z.2.2.2.2) r _ (a1, a2, (0 : Int), o0, (⟨(0 : Int), (0 : Int), (⟨(0 : Int), (0 : Int), (⟨#[]⟩ : ByteArray)⟩ : S_impl_Value)⟩ : S_impl_Part)) h (fun _ => rfl) (fun _ => by simp [hkeys]) ⟨rfl, rfl, rfl, rfl, rfl, trivial⟩ ⟨rfl, rfl, trivial⟩ ?_
   rintro n1 ⟨t1, t2, t7, o0, o6⟩ h N4 hN4
   replace h : m_spec_l20Leaf_l1  (n1 + 1) t1 t2 t7 o0 o6 = some _ := h
   refine LWP.seq_k fun N6 hN6 => ?_
   refine LWP.join (α := (List S_impl_Column) × Int × Int × Bool × S_spec_l20Rd × S_impl_Part) (fun z : (List S_impl_Column) × Int × Int × Bool × S_spec_l20Rd × S_impl_Part => [(0, (.ptr 0 0 0)), (1, (e_Limpl_Column z.1)), (2, (e_int z.2.1)), (6, (.ptr 6 0 0)), (7, (e_int z.2.2.1)), (15, (e_bool z.2.2.2.1))]) (fun z : (List S_impl_Column) × Int × Int × Bool × S_spec_l20Rd × S_impl_Part => [(0, (vob 2 e_spec_l20Rd z.2.2.2.2.1)), (6, (vob 5 e_impl_Part z.2.2.2.2.2))]) (fun z : (List S_impl_Column) × Int × Int × Bool × S_spec_l20Rd × S_impl_Part => m_spec_l20Leaf_j1  (m_spec_l20Leaf_l1  n1) z.1 z.2.1 z.2.2.1 z.2.2.2.1 z.2.2.2.2.1 z.2.2.2.2.2) r (fun _ => by simp [hkeys]) ?_ ?_
   ·rintro ⟨t1, t2, t7, t15, o0, o6⟩ h
    replace h : m_spec_l20Leaf_j1  (m_spec_l20Leaf_l1  n1) t1 t2 t7 t15 o0 o6 = some _ := h
    refine LWP.cond_split rfl (fun h9 => ?_) (fun h9 => ?_)
    ·have h := bT h9 h
     refine LWP.skip (hN6 _ ?_)
     refine LWP.seq_k fun N10 hN10 => ?_
     refine LWP.block ?_
     refine LWP.seq_k fun N11 hN11 => ?_
     refine LWP.region (l := [_,_,_,_,_]) ?_
     refine LWo.move (.ptr 0 0 0) rfl (hn := ?_)
     refine LWo.move (e_Limpl_Column t1) rfl (hn := ?_)
     refine LWo.lenM (f := e_impl_Column) (l := t1) u_Limpl_Column rfl (hn := ?_)
     refine bk h fun x12 e12 h => ?_
     refine LWo.lcall rfl rfl (k_Pspec_l20Rd_pick _ _ _ e12 0) rfl rfl rfl (hn := ?_)
     refine LWo.assign (e_int x12.1) rfl (hn := ?_)
     refine LWo.nil (hN11 _ ?_)
     refine LWP.join (α := (List S_impl_Column) × Int × Int × Int × Bool × S_spec_l20Rd × S_impl_Part) (fun z : (List S_impl_Column) × Int × Int × Int × Bool × S_spec_l20Rd × S_impl_Part => [(0, (.ptr 0 0 0)), (1, (e_Limpl_Column z.1)), (2, (e_int z.2.1)), (6, (.ptr 6 0 0)), (7, (e_int z.2.2.1)), (8, (e_int z.2.2.2.1)), (33, (e_bool z.2.2.2.2.1))]) (fun z : (List S_impl_Column) × Int × Int × Int × Bool × S_spec_l20Rd × S_impl_Part => [(0, (vob 2 e_spec_l20Rd z.2.2.2.2.2.1)), (6, (vob 5 e_impl_Part z.2.2.2.2.2.2))]) (fun z : (List S_impl_Column) × Int × Int × Int × Bool × S_spec_l20Rd × S_impl_Part => m_spec_l20Leaf_j2  (m_spec_l20Leaf_l1  n1) z.1 z.2.1 z.2.2.1 z.2.2.2.1 z.2.2.2.2.1 z.2.2.2.2.2.1 z.2.2.2.2.2.2) r (fun _ => by simp [hkeys]) ?_ ?_
     ·rintro ⟨t1, t2, t7, t8, t33, o0, o6⟩ h
      replace h : m_spec_l20Leaf_j2  (m_spec_l20Leaf_l1  n1) t1 t2 t7 t8 t33 o0 o6 = some _ := h
      refine LWP.cond_split rfl (fun h17 => ?_) (fun h17 => ?_)
      ·have h := bT h17 h
       refine LWP.seq_k fun N18 hN18 => ?_
       refine LWP.region (l := [_,_,_]) ?_
       refine LWo.move (e_int t8) rfl (hn := ?_)
       refine LWo.build_impl_Part (parts := [_, _]) (⟨(2 : Int), t8, (⟨(0 : Int), (0 : Int), (⟨#[]⟩ : ByteArray)⟩ : S_impl_Value)⟩ : S_impl_Part) rfl rfl rfl .refl (hn := ?_)
       refine lk h fun y19 e19 h => ?_
       refine LWo.storeW (y := o6) y19 s_impl_Part rfl rfl rfl rfl rfl rfl (by rw [e19]; exact .refl) rfl (hn := ?_)
       refine LWo.nil (hN18 _ ?_)
       obtain rfl := Option.some.inj h
       refine LWP.ret (QG.mk (.inr rfl) (.cons (.cellN (ys := (e_impl_Part y19).cells) g_impl_Part s_impl_Part rfl rfl rfl rfl rfl (fun _ _ => rfl)) (.nil)) (RetOK.one1 (.pure rfl) (by decide) rfl rfl rfl rfl rfl) rfl rfl)
      ·have h := bF h17 h
       refine LWP.skip (hN10 _ ?_)
       refine LWP.region (l := [_,_,_]) ?_
       refine LWo.move (e_int t7) rfl (hn := ?_)
       refine bk h fun x20 e20 h => ?_
       refine LWo.int _ rfl rfl (add_ck e20) (hn := ?_)
       refine LWo.assign (e_int x20) rfl (hn := ?_)
       refine LWo.nil (hN4 (t1, t2, x20, o0, o6) _ ⟨rfl, rfl, rfl, rfl, rfl, trivial⟩ ⟨rfl, rfl, trivial⟩ h)
     ·intro N13 hN13
      refine LWP.region (l := [_,_,_,_,_,_,_,_,_,_,_,_]) ?_
      refine LWo.move (e_Limpl_Column t1) rfl (hn := ?_)
      refine LWo.move (e_int x12.1) rfl (hn := ?_)
      refine bk h fun x14 e14 h => ?_
      refine LWo.indexM (f := e_impl_Column) e14 u_Limpl_Column s_impl_Column rfl rfl (hn := ?_)
      refine LWo.fieldAddr _ u_impl_Column rfl s_int rfl rfl (hn := ?_)
      refine LWo.load1 (c := (e_int x14.Kind)) g_int rfl (hn := ?_)
      refine LWo.move (e_int t2) rfl (hn := ?_)
      refine LWo.int _ rfl rfl rfl (hn := ?_)
      refine LWo.move (e_bool (x14.Kind == t2)) rfl (hn := ?_)
      refine LWo.byCases (t := 29) _ rfl (fun h15 => ?_) (fun h15 => ?_)
      ·have h := bT h15 h
       refine LWo.guardY (t := 29) rfl h15 rfl rfl ?_
       refine LWo.move (.ptr 0 0 0) rfl (hn := ?_)
       refine bk h fun x16 e16 h => ?_
       refine LWo.guardY (t := 29) rfl h15 rfl rfl ?_
       refine LWo.lcall rfl rfl (k_Pspec_l20Rd_pick _ _ _ e16 0) rfl rfl rfl (hn := ?_)
       refine LWo.guardY (t := 29) rfl h15 rfl rfl ?_
       refine LWo.int _ rfl rfl rfl (hn := ?_)
       refine LWo.pickTM (e_bool (decide (x16.1 > (0 : Int)))) rfl h15 rfl (hn := ?_)
       refine LWo.nil (hN13 (t1, t2, t7, x12.1, decide (x16.1 > (0 : Int)), x16.2, o6) _ ⟨rfl, rfl, rfl, rfl, rfl, rfl, rfl, trivial⟩ ⟨rfl, rfl, trivial⟩ h)
      ·have h := bF h15 h
       refine LWo.guardNU (t := 29) rfl h15 rfl rfl rfl rfl rfl ?_
       refine LWo.guardNU (t := 29) rfl h15 rfl rfl rfl rfl rfl ?_
       refine LWo.guardNU (t := 29) rfl h15 rfl rfl rfl rfl rfl ?_
       refine LWo.pickFM (e_bool false) rfl h15 rfl (hn := ?_)
       refine LWo.nil (hN13 (t1, t2, t7, x12.1, false, x12.2, o6) _ ⟨rfl, rfl, rfl, rfl, rfl, rfl, rfl, trivial⟩ ⟨rfl, rfl, trivial⟩ h)
    ·have h := bF h9 h
     refine LWP.exit (hN2 (t2, o0, o6) _ ⟨rfl, rfl, rfl, trivial⟩ ⟨rfl, rfl, trivial⟩ h)
   ·intro N7 hN7
    refine LWP.region (l := [_,_,_,_,_,_,_]) ?_
    refine LWo.move (e_int t7) rfl (hn := ?_)
    refine LWo.int _ rfl rfl rfl (hn := ?_)
    refine LWo.move (e_bool (decide (t7 < (4 : Int)))) rfl (hn := ?_)
    refine LWo.byCases (t := 11) _ rfl (fun h8 => ?_) (fun h8 => ?_)
    ·have h := bT h8 h
     refine LWo.guardY (t := 11) rfl h8 rfl rfl ?_
     refine LWo.move (e_Limpl_Column t1) rfl (hn := ?_)
     refine LWo.guardY (t := 11) rfl h8 rfl rfl ?_
     refine LWo.lenM (f := e_impl_Column) (l := t1) u_Limpl_Column rfl (hn := ?_)
     refine LWo.guardY (t := 11) rfl h8 rfl rfl ?_
     refine LWo.int _ rfl rfl rfl (hn := ?_)
     refine LWo.pickTM (e_bool (decide ((t1.length : Int) > (0 : Int)))) rfl h8 rfl (hn := ?_)
     refine LWo.nil (hN7 (t1, t2, t7, decide ((t1.length : Int) > (0 : Int)), o0, o6) _ ⟨rfl, rfl, rfl, rfl, rfl, rfl, trivial⟩ ⟨rfl, rfl, trivial⟩ h)
    ·have h := bF h8 h
     refine LWo.guardNU (t := 11) rfl h8 rfl rfl rfl rfl rfl ?_
     refine LWo.guardNU (t := 11) rfl h8 rfl rfl rfl rfl rfl ?_
     refine LWo.guardNU (t := 11) rfl h8 rfl rfl rfl rfl rfl ?_
     refine LWo.pickFM (e_bool false) rfl h8 rfl (hn := ?_)
     refine LWo.nil (hN7 (t1, t2, t7, false, o0, o6) _ ⟨rfl, rfl, rfl, rfl, rfl, rfl, trivial⟩ ⟨rfl, rfl, trivial⟩ h)
theorem k_spec_l20Leaf (o0 : S_spec_l20Rd) (a1 : (List S_impl_Column)) (a2 : Int) (r : (S_impl_Part × S_spec_l20Rd)) (h : m_spec_l20Leaf o0 a1 a2 = some r) (k : Nat) : Does Try.prog f_spec_l20Leaf [.ptr k 0 0, e_Limpl_Column a1, e_int a2] [(k, (vob 2 e_spec_l20Rd o0))] (fun x hh => x = e_impl_Part r.1 ∧ hh = [(k, (vob 2 e_spec_l20Rd r.2))]) :=
  Does.nameV (c_spec_l20Leaf o0 a1 a2 r h) rfl rfl rfl rfl rfl rfl k

def m_spec_l20Expr_j1 (rc : (S_spec_l20Rd) → ((List S_impl_Column)) → (Int) → (Int) → Option ((List S_impl_Part) × S_spec_l20Rd)) (t1 : (List S_impl_Column)) (t2 : Int) (t3 : Int) (t16 : Bool) (o0 : S_spec_l20Rd) : Option ((List S_impl_Part) × S_spec_l20Rd) :=
  bif t16 then ((m_spec_l20Leaf o0 t1 t2).bind fun x8 =>
    lt (([x8.1] : (List S_impl_Part))) fun y9 =>
    some (y9, x8.2))
  else (bif (t2 == (1 : Int)) then ((ckI (t3 - (1 : Int))).bind fun x14 =>
  (rc o0 t1 t2 x14).bind fun x15 =>
  (m_spec_l20Leaf x15.2 t1 t2).bind fun x16 =>
  (app? x15.1 ([x16.1] : (List S_impl_Part))).bind fun x17 =>
  (app? x17 ([(⟨(3 : Int), (0 : Int), (⟨(0 : Int), (0 : Int), (⟨#[]⟩ : ByteArray)⟩ : S_impl_Value)⟩ : S_impl_Part)] : (List S_impl_Part))).bind fun x18 =>
  some (x18, x16.2))
  else (bif (t2 == (2 : Int)) then ((m_spec_l20Leaf o0 t1 t2).bind fun x23 =>
  lt (([x23.1] : (List S_impl_Part))) fun y24 =>
  some (y24, x23.2))
  else ((m_Pspec_l20Rd_pick o0 (6 : Int)).bind fun x27 =>
  bif (x27.1 == (0 : Int)) then ((ckI (t3 - (1 : Int))).bind fun x31 =>
  (rc x27.2 t1 (3 : Int) x31).bind fun x32 =>
  (ckI (t3 - (2 : Int))).bind fun x33 =>
  (rc x32.2 t1 (3 : Int) x33).bind fun x34 =>
  (app? x32.1 x34.1).bind fun x35 =>
  (m_Pspec_l20Rd_pick x34.2 (2 : Int)).bind fun x36 =>
  (ckI ((5 : Int) + x36.1)).bind fun x37 =>
  (app? x35 ([(⟨x37, (0 : Int), (⟨(0 : Int), (0 : Int), (⟨#[]⟩ : ByteArray)⟩ : S_impl_Value)⟩ : S_impl_Part)] : (List S_impl_Part))).bind fun x38 =>
  some (x38, x36.2))
  else (bif (x27.1 == (1 : Int)) then ((ckI (t3 - (1 : Int))).bind fun x42 =>
    (rc x27.2 t1 (3 : Int) x42).bind fun x43 =>
    (app? x43.1 ([(⟨(7 : Int), (0 : Int), (⟨(0 : Int), (0 : Int), (⟨#[]⟩ : ByteArray)⟩ : S_impl_Value)⟩ : S_impl_Part)] : (List S_impl_Part))).bind fun x44 =>
    some (x44, x43.2))
  else (bif (x27.1 == (2 : Int)) then ((m_Pspec_l20Rd_pick x27.2 (3 : Int)).bind fun x48 =>
      (ckI ((1 : Int) + x48.1)).bind fun x49 =>
      (ckI (t3 - (1 : Int))).bind fun x50 =>
      (rc x48.2 t1 x49 x50).bind fun x51 =>
      (app? x51.1 ([(⟨(8 : Int), (0 : Int), (⟨(0 : Int), (0 : Int), (⟨#[]⟩ : ByteArray)⟩ : S_impl_Value)⟩ : S_impl_Part)] : (List S_impl_Part))).bind fun x52 =>
      some (x52, x51.2))
    else ((m_Pspec_l20Rd_pick x27.2 (3 : Int)).bind fun x54 =>
  (ckI ((1 : Int) + x54.1)).bind fun x55 =>
  (ckI (t3 - (1 : Int))).bind fun x57 =>
  (rc x54.2 t1 x55 x57).bind fun x58 =>
  (m_spec_l20Leaf x58.2 t1 x55).bind fun x59 =>
  (app? x58.1 ([x59.1] : (List S_impl_Part))).bind fun x60 =>
  (m_Pspec_l20Rd_pick x59.2 (4 : Int)).bind fun x61 =>
  (ckI ((1 : Int) + x61.1)).bind fun x62 =>
  (app? x60 ([(⟨(4 : Int), x62, (⟨(0 : Int), (0 : Int), (⟨#[]⟩ : ByteArray)⟩ : S_impl_Value)⟩ : S_impl_Part)] : (List S_impl_Part))).bind fun x63 =>
  some (x63, x61.2)))))))
def m_spec_l20Expr_b (rc : (S_spec_l20Rd) → ((List S_impl_Column)) → (Int) → (Int) → Option ((List S_impl_Part) × S_spec_l20Rd)) (o0 : S_spec_l20Rd) (a1 : (List S_impl_Column)) (a2 : Int) (a3 : Int) : Option ((List S_impl_Part) × S_spec_l20Rd) :=
  bif decide (a3 < (1 : Int)) then (m_spec_l20Expr_j1 rc a1 a2 a3 true o0)
  else ((m_Pspec_l20Rd_pick o0 (4 : Int)).bind fun x5 =>
    m_spec_l20Expr_j1 rc a1 a2 a3 (x5.1 == (0 : Int)) x5.2)
def m_spec_l20Expr : Nat → (S_spec_l20Rd) → ((List S_impl_Column)) → (Int) → (Int) → Option ((List S_impl_Part) × S_spec_l20Rd)
  | 0, _, _, _, _ => none
  | fu + 1, o0, a1, a2, a3 => m_spec_l20Expr_b (m_spec_l20Expr fu) o0 a1 a2 a3
theorem cb_spec_l20Expr (rc : (S_spec_l20Rd) → ((List S_impl_Column)) → (Int) → (Int) → Option ((List S_impl_Part) × S_spec_l20Rd)) (hrc : ∀ (o0 : S_spec_l20Rd) (a1 : (List S_impl_Column)) (a2 : Int) (a3 : Int) (r : ((List S_impl_Part) × S_spec_l20Rd)), rc o0 a1 a2 a3 = some r → Does Try.prog f_spec_l20Expr [.ptr 0 0 0, e_Limpl_Column a1, e_int a2, e_int a3] [(0, (vob 2 e_spec_l20Rd o0))] (fun x hh => x = .nw 5 (r.1.map e_impl_Part) false ∧ hh = [(0, (vob 2 e_spec_l20Rd r.2))])) (o0 : S_spec_l20Rd) (a1 : (List S_impl_Column)) (a2 : Int) (a3 : Int) (r : ((List S_impl_Part) × S_spec_l20Rd)) (h : m_spec_l20Expr_b rc o0 a1 a2 a3 = some r) : Does Try.prog f_spec_l20Expr [.ptr 0 0 0, e_Limpl_Column a1, e_int a2, e_int a3] [(0, (vob 2 e_spec_l20Rd o0))] (fun x hh => x = .nw 5 (r.1.map e_impl_Part) false ∧ hh = [(0, (vob 2 e_spec_l20Rd r.2))]) := by
  refine Does.goG [0] F_spec_l20Expr rfl e_spec_l20Expr n_spec_l20Expr rfl (rvs := [.tmp 8]) rfl rfl ?_
  intro w0 ok0 lent ρ0
  refine LWP.seq_k fun N1 hN1 => ?_
  refine LWP.region (l := [_]) ?_
  refine LWo.assign _ rfl (hn := ?_)
  refine LWo.ownNil 8 1008 5 rfl rfl rfl ?_
  refine LWo.known 8 (.own 1008 0 ([] : (List S_impl_Part)).length) rfl ?_
  refine LWo.nil (hN1 _ ?_)
  refine LWP.seq_k fun N2 hN2 => ?_
  refine LWP.join (α := (List S_impl_Column) × Int × Int × Bool × S_spec_l20Rd) (fun z : (List S_impl_Column) × Int × Int × Bool × S_spec_l20Rd => [(0, (.ptr 0 0 0)), (1, (e_Limpl_Column z.1)), (2, (e_int z.2.1)), (3, (e_int z.2.2.1)), (16, (e_bool z.2.2.2.1))]) (fun z : (List S_impl_Column) × Int × Int × Bool × S_spec_l20Rd => [(0, (vob 2 e_spec_l20Rd z.2.2.2.2))]) (fun z : (List S_impl_Column) × Int × Int × Bool × S_spec_l20Rd => m_spec_l20Expr_j1 rc z.1 z.2.1 z.2.2.1 z.2.2.2.1 z.2.2.2.2) r (fun _ => by simp [hkeys]) ?_ ?_
  ·rintro ⟨t1, t2, t3, t16, o0⟩ h
   replace h : m_spec_l20Expr_j1 rc t1 t2 t3 t16 o0 = some _ := h
   refine LWP.cond_split rfl (fun h6 => ?_) (fun h6 => ?_)
   ·have h := bT h6 h
    refine LWP.seq_k fun N7 hN7 => ?_
    refine LWP.region (l := [_,_,_,_,_,_]) ?_
    refine LWo.move (.ptr 0 0 0) rfl (hn := ?_)
    refine LWo.move (e_Limpl_Column t1) rfl (hn := ?_)
    refine LWo.move (e_int t2) rfl (hn := ?_)
    refine bk h fun x8 e8 h => ?_
    refine LWo.lcall rfl rfl (k_spec_l20Leaf _ _ _ _ e8 0) rfl rfl rfl (hn := ?_)
    refine lk h fun y9 e9 h => ?_
    refine LWo.litO (ops := [_]) (f := e_impl_Part) (l := y9) 1021 u_Limpl_Part s_impl_Part z_impl_Part (by rw [e9]; rfl) (by rw [e9]; rfl) rfl rfl rfl rfl (hn := ?_)
    refine LWo.assign (.own 1021 0 (y9).length) rfl (hn := ?_)
    refine LWo.nil (hN7 _ ?_)
    obtain rfl := Option.some.inj h
    refine LWP.ret (QG.mk (.inr rfl) (.cons (.tmp (x := (.own 1021 0 (y9).length)) rfl) (.nil)) (RetOK.one1 (.nwM rfl rfl) (by decide) rfl rfl rfl rfl rfl) rfl rfl)
   ·have h := bF h6 h
    refine LWP.skip (hN2 _ ?_)
    refine LWP.seq_k fun N10 hN10 => ?_
    refine LWP.seq_k fun N11 hN11 => ?_
    refine LWP.region (l := [_,_]) ?_
    refine LWo.move (e_int t2) rfl (hn := ?_)
    refine LWo.int _ rfl rfl rfl (hn := ?_)
    refine LWo.nil (hN11 _ ?_)
    refine LWP.cond_split rfl (fun h12 => ?_) (fun h12 => ?_)
    ·have h := bT h12 h
     refine LWP.seq_k fun N13 hN13 => ?_
     refine LWP.region (l := [_,_,_,_,_,_,_,_,_,_,_,_,_,_,_,_]) ?_
     refine LWo.move (.ptr 0 0 0) rfl (hn := ?_)
     refine LWo.move (e_Limpl_Column t1) rfl (hn := ?_)
     refine LWo.move (e_int t2) rfl (hn := ?_)
     refine LWo.move (e_int t3) rfl (hn := ?_)
     refine bk h fun x14 e14 h => ?_
     refine LWo.int _ rfl rfl (sub_ck e14) (hn := ?_)
     refine bk h fun x15 e15 h => ?_
     refine LWo.lncall (e := e_impl_Part) (l := x15.1) 1029 rfl rfl ((fun k => Does.nameV (hrc _ _ _ _ _ e15) rfl rfl rfl rfl rfl rfl k) 0) rfl rfl rfl rfl (hn := ?_)
     refine LWo.move (.ptr 0 0 0) rfl (hn := ?_)
     refine LWo.move (e_Limpl_Column t1) rfl (hn := ?_)
     refine LWo.move (e_int t2) rfl (hn := ?_)
     refine bk h fun x16 e16 h => ?_
     refine LWo.lcall rfl rfl (k_spec_l20Leaf _ _ _ _ e16 0) rfl rfl rfl (hn := ?_)
     refine LWo.lit (ops := [_]) [(e_impl_Part x16.1)] u_Limpl_Part s_impl_Part z_impl_Part rfl rfl rfl rfl rfl rfl (hn := ?_)
     refine bk h fun x17 e17 h => ?_
     refine LWo.appendM (f := e_impl_Part) e17 rfl u_Limpl_Part u_Limpl_Part (fun _ h => by cases h) s_impl_Part i_impl_Part rfl rfl rfl (.sl rfl) rfl rfl (hn := ?_)
     refine LWo.build_impl_Part (parts := [_]) (⟨(3 : Int), (0 : Int), (⟨(0 : Int), (0 : Int), (⟨#[]⟩ : ByteArray)⟩ : S_impl_Value)⟩ : S_impl_Part) rfl rfl rfl .refl (hn := ?_)
     refine LWo.lit (ops := [_]) [(e_impl_Part (⟨(3 : Int), (0 : Int), (⟨(0 : Int), (0 : Int), (⟨#[]⟩ : ByteArray)⟩ : S_impl_Value)⟩ : S_impl_Part))] u_Limpl_Part s_impl_Part z_impl_Part rfl rfl rfl rfl rfl rfl (hn := ?_)
     refine bk h fun x18 e18 h => ?_
     refine LWo.appendM (f := e_impl_Part) e18 rfl u_Limpl_Part u_Limpl_Part (fun _ h => by cases h) s_impl_Part i_impl_Part rfl rfl rfl (.sl rfl) rfl rfl (hn := ?_)
     refine LWo.assign (.own 1029 0 (x18).length) rfl (hn := ?_)
     refine LWo.nil (hN13 _ ?_)
     obtain rfl := Option.some.inj h
     refine LWP.ret (QG.mk (.inr rfl) (.cons (.tmp (x := (.own 1029 0 (x18).length)) rfl) (.nil)) (RetOK.one1 (.nwM rfl rfl) (by decide) rfl rfl rfl rfl rfl) rfl rfl)
    ·have h := bF h12 h
     refine LWP.skip (hN10 _ ?_)
     refine LWP.seq_k fun N19 hN19 => ?_
     refine LWP.seq_k fun N20 hN20 => ?_
     refine LWP.region (l := [_,_]) ?_
     refine LWo.move (e_int t2) rfl (hn := ?_)
     refine LWo.int _ rfl rfl rfl (hn := ?_)
     refine LWo.nil (hN20 _ ?_)
     refine LWP.cond_split rfl (fun h21 => ?_) (fun h21 => ?_)
     ·have h := bT h21 h
      refine LWP.seq_k fun N22 hN22 => ?_
      refine LWP.region (l := [_,_,_,_,_,_]) ?_
      refine LWo.move (.ptr 0 0 0) rfl (hn := ?_)
      refine LWo.move (e_Limpl_Column t1) rfl (hn := ?_)
      refine LWo.move (e_int t2) rfl (hn := ?_)
      refine bk h fun x23 e23 h => ?_
      refine LWo.lcall rfl rfl (k_spec_l20Leaf _ _ _ _ e23 0) rfl rfl rfl (hn := ?_)
      refine lk h fun y24 e24 h => ?_
      refine LWo.litO (ops := [_]) (f := e_impl_Part) (l := y24) 1045 u_Limpl_Part s_impl_Part z_impl_Part (by rw [e24]; rfl) (by rw [e24]; rfl) rfl rfl rfl rfl (hn := ?_)
      refine LWo.assign (.own 1045 0 (y24).length) rfl (hn := ?_)
      refine LWo.nil (hN22 _ ?_)
      obtain rfl := Option.some.inj h
      refine LWP.ret (QG.mk (.inr rfl) (.cons (.tmp (x := (.own 1045 0 (y24).length)) rfl) (.nil)) (RetOK.one1 (.nwM rfl rfl) (by decide) rfl rfl rfl rfl rfl) rfl rfl)
     ·have h := bF h21 h
      refine LWP.skip (hN19 _ ?_)
      refine LWP.seq_k fun N25 hN25 => ?_
      refine LWP.seq_k fun N26 hN26 => ?_
      refine LWP.region (l := [_,_]) ?_
      refine LWo.move (.ptr 0 0 0) rfl (hn := ?_)
      refine bk h fun x27 e27 h => ?_
      refine LWo.lcall rfl rfl (k_Pspec_l20Rd_pick _ _ _ e27 0) rfl rfl rfl (hn := ?_)
      refine LWo.nil (hN26 _ ?_)
      refine LWP.block ?_
      refine LWP.seq_k fun N28 hN28 => ?_
      refine LWP.region (l := [_,_]) ?_
      refine LWo.int _ rfl rfl rfl (hn := ?_)
      refine LWo.assign (e_bool (x27.1 == (0 : Int))) rfl (hn := ?_)
      refine LWo.nil (hN28 _ ?_)
      refine LWP.cond_split rfl (fun h29 => ?_) (fun h29 => ?_)
      ·have h := bT h29 h
       refine LWP.seq_k fun N30 hN30 => ?_
       refine LWP.region (l := [_,_,_,_,_,_,_,_,_,_,_,_,_,_,_,_,_,_]) ?_
       refine LWo.move (.ptr 0 0 0) rfl (hn := ?_)
       refine LWo.move (e_Limpl_Column t1) rfl (hn := ?_)
       refine LWo.move (e_int t3) rfl (hn := ?_)
       refine bk h fun x31 e31 h => ?_
       refine LWo.int _ rfl rfl (sub_ck e31) (hn := ?_)
       refine bk h fun x32 e32 h => ?_
       refine LWo.lncall (e := e_impl_Part) (l := x32.1) 1054 rfl rfl ((fun k => Does.nameV (hrc _ _ _ _ _ e32) rfl rfl rfl rfl rfl rfl k) 0) rfl rfl rfl rfl (hn := ?_)
       refine LWo.move (.ptr 0 0 0) rfl (hn := ?_)
       refine LWo.move (e_Limpl_Column t1) rfl (hn := ?_)
       refine LWo.move (e_int t3) rfl (hn := ?_)
       refine bk h fun x33 e33 h => ?_
       refine LWo.int _ rfl rfl (sub_ck e33) (hn := ?_)
       refine bk h fun x34 e34 h => ?_
       refine LWo.lcall rfl rfl ((fun k => Does.nameV (hrc _ _ _ _ _ e34) rfl rfl rfl rfl rfl rfl k) 0) rfl rfl rfl (hn := ?_)
       refine bk h fun x35 e35 h => ?_
       refine LWo.appendM (f := e_impl_Part) e35 rfl u_Limpl_Part u_Limpl_Part (fun _ h => by cases h) s_impl_Part i_impl_Part rfl rfl rfl (.sl rfl) rfl rfl (hn := ?_)
       refine LWo.move (.ptr 0 0 0) rfl (hn := ?_)
       refine bk h fun x36 e36 h => ?_
       refine LWo.lcall rfl rfl (k_Pspec_l20Rd_pick _ _ _ e36 0) rfl rfl rfl (hn := ?_)
       refine bk h fun x37 e37 h => ?_
       refine LWo.int _ rfl rfl (add_ck e37) (hn := ?_)
       refine LWo.build_impl_Part (parts := [_]) (⟨x37, (0 : Int), (⟨(0 : Int), (0 : Int), (⟨#[]⟩ : ByteArray)⟩ : S_impl_Value)⟩ : S_impl_Part) rfl rfl rfl .refl (hn := ?_)
       refine LWo.lit (ops := [_]) [(e_impl_Part (⟨x37, (0 : Int), (⟨(0 : Int), (0 : Int), (⟨#[]⟩ : ByteArray)⟩ : S_impl_Value)⟩ : S_impl_Part))] u_Limpl_Part s_impl_Part z_impl_Part rfl rfl rfl rfl rfl rfl (hn := ?_)
       refine bk h fun x38 e38 h => ?_
       refine LWo.appendM (f := e_impl_Part) e38 rfl u_Limpl_Part u_Limpl_Part (fun _ h => by cases h) s_impl_Part i_impl_Part rfl rfl rfl (.sl rfl) rfl rfl (hn := ?_)
       refine LWo.assign (.own 1054 0 (x38).length) rfl (hn := ?_)
       refine LWo.nil (hN30 _ ?_)
       obtain rfl := Option.some.inj h
       refine LWP.ret (QG.mk (.inr rfl) (.cons (.tmp (x := (.own 1054 0 (x38).length)) rfl) (.nil)) (RetOK.one1 (.nwM rfl rfl) (by decide) rfl rfl rfl rfl rfl) rfl rfl)
      ·have h := bF h29 h
       refine LWP.seq_k fun N39 hN39 => ?_
       refine LWP.region (l := [_,_]) ?_
       refine LWo.int _ rfl rfl rfl (hn := ?_)
       refine LWo.assign (e_bool (x27.1 == (1 : Int))) rfl (hn := ?_)
       refine LWo.nil (hN39 _ ?_)
       refine LWP.cond_split rfl (fun h40 => ?_) (fun h40 => ?_)
       ·have h := bT h40 h
        refine LWP.seq_k fun N41 hN41 => ?_
        refine LWP.region (l := [_,_,_,_,_,_,_,_,_]) ?_
        refine LWo.move (.ptr 0 0 0) rfl (hn := ?_)
        refine LWo.move (e_Limpl_Column t1) rfl (hn := ?_)
        refine LWo.move (e_int t3) rfl (hn := ?_)
        refine bk h fun x42 e42 h => ?_
        refine LWo.int _ rfl rfl (sub_ck e42) (hn := ?_)
        refine bk h fun x43 e43 h => ?_
        refine LWo.lncall (e := e_impl_Part) (l := x43.1) 1073 rfl rfl ((fun k => Does.nameV (hrc _ _ _ _ _ e43) rfl rfl rfl rfl rfl rfl k) 0) rfl rfl rfl rfl (hn := ?_)
        refine LWo.build_impl_Part (parts := [_]) (⟨(7 : Int), (0 : Int), (⟨(0 : Int), (0 : Int), (⟨#[]⟩ : ByteArray)⟩ : S_impl_Value)⟩ : S_impl_Part) rfl rfl rfl .refl (hn := ?_)
        refine LWo.lit (ops := [_]) [(e_impl_Part (⟨(7 : Int), (0 : Int), (⟨(0 : Int), (0 : Int), (⟨#[]⟩ : ByteArray)⟩ : S_impl_Value)⟩ : S_impl_Part))] u_Limpl_Part s_impl_Part z_impl_Part rfl rfl rfl rfl rfl rfl (hn := ?_)
        refine bk h fun x44 e44 h => ?_
        refine LWo.appendM (f := e_impl_Part) e44 rfl u_Limpl_Part u_Limpl_Part (fun _ h => by cases h) s_impl_Part i_impl_Part rfl rfl rfl (.sl rfl) rfl rfl (hn := ?_)
        refine LWo.assign (.own 1073 0 (x44).length) rfl (hn := ?_)
        refine LWo.nil (hN41 _ ?_)
        obtain rfl := Option.some.inj h
        refine LWP.ret (QG.mk (.inr rfl) (.cons (.tmp (x := (.own 1073 0 (x44).length)) rfl) (.nil)) (RetOK.one1 (.nwM rfl rfl) (by decide) rfl rfl rfl rfl rfl) rfl rfl)
       ·have h := bF h40 h
        refine LWP.seq_k fun N45 hN45 => ?_
        refine LWP.region (l := [_,_]) ?_
        refine LWo.int _ rfl rfl rfl (hn := ?_)
        refine LWo.assign (e_bool (x27.1 == (2 : Int))) rfl (hn := ?_)
        refine LWo.nil (hN45 _ ?_)
        refine LWP.cond_split rfl (fun h46 => ?_) (fun h46 => ?_)
        ·have h := bT h46 h
         refine LWP.seq_k fun N47 hN47 => ?_
         refine LWP.region (l := [_,_,_,_,_,_,_,_,_,_,_,_]) ?_
         refine LWo.move (.ptr 0 0 0) rfl (hn := ?_)
         refine LWo.move (e_Limpl_Column t1) rfl (hn := ?_)
         refine LWo.move (.ptr 0 0 0) rfl (hn := ?_)
         refine bk h fun x48 e48 h => ?_
         refine LWo.lcall rfl rfl (k_Pspec_l20Rd_pick _ _ _ e48 0) rfl rfl rfl (hn := ?_)
         refine bk h fun x49 e49 h => ?_
         refine LWo.int _ rfl rfl (add_ck e49) (hn := ?_)
         refine LWo.move (e_int t3) rfl (hn := ?_)
         refine bk h fun x50 e50 h => ?_
         refine LWo.int _ rfl rfl (sub_ck e50) (hn := ?_)
         refine bk h fun x51 e51 h => ?_
         refine LWo.lncall (e := e_impl_Part) (l := x51.1) 1086 rfl rfl ((fun k => Does.nameV (hrc _ _ _ _ _ e51) rfl rfl rfl rfl rfl rfl k) 0) rfl rfl rfl rfl (hn := ?_)
         refine LWo.build_impl_Part (parts := [_]) (⟨(8 : Int), (0 : Int), (⟨(0 : Int), (0 : Int), (⟨#[]⟩ : ByteArray)⟩ : S_impl_Value)⟩ : S_impl_Part) rfl rfl rfl .refl (hn := ?_)
         refine LWo.lit (ops := [_]) [(e_impl_Part (⟨(8 : Int), (0 : Int), (⟨(0 : Int), (0 : Int), (⟨#[]⟩ : ByteArray)⟩ : S_impl_Value)⟩ : S_impl_Part))] u_Limpl_Part s_impl_Part z_impl_Part rfl rfl rfl rfl rfl rfl (hn := ?_)
         refine bk h fun x52 e52 h => ?_
         refine LWo.appendM (f := e_impl_Part) e52 rfl u_Limpl_Part u_Limpl_Part (fun _ h => by cases h) s_impl_Part i_impl_Part rfl rfl rfl (.sl rfl) rfl rfl (hn := ?_)
         refine LWo.assign (.own 1086 0 (x52).length) rfl (hn := ?_)
         refine LWo.nil (hN47 _ ?_)
         obtain rfl := Option.some.inj h
         refine LWP.ret (QG.mk (.inr rfl) (.cons (.tmp (x := (.own 1086 0 (x52).length)) rfl) (.nil)) (RetOK.one1 (.nwM rfl rfl) (by decide) rfl rfl rfl rfl rfl) rfl rfl)
        ·have h := bF h46 h
         refine LWP.skip (hN25 _ ?_)
         refine LWP.seq_k fun N53 hN53 => ?_
         refine LWP.region (l := [_,_,_,_]) ?_
         refine LWo.move (.ptr 0 0 0) rfl (hn := ?_)
         refine bk h fun x54 e54 h => ?_
         refine LWo.lcall rfl rfl (k_Pspec_l20Rd_pick _ _ _ e54 0) rfl rfl rfl (hn := ?_)
         refine bk h fun x55 e55 h => ?_
         refine LWo.int _ rfl rfl (add_ck e55) (hn := ?_)
         refine LWo.assign (e_int x55) rfl (hn := ?_)
         refine LWo.nil (hN53 _ ?_)
         refine LWP.seq_k fun N56 hN56 => ?_
         refine LWP.region (l := [_,_,_,_,_,_,_,_,_,_,_,_,_,_,_,_,_,_,_]) ?_
         refine LWo.move (.ptr 0 0 0) rfl (hn := ?_)
         refine LWo.move (e_Limpl_Column t1) rfl (hn := ?_)
         refine LWo.move (e_int x55) rfl (hn := ?_)
         refine LWo.move (e_int t3) rfl (hn := ?_)
         refine bk h fun x57 e57 h => ?_
         refine LWo.int _ rfl rfl (sub_ck e57) (hn := ?_)
         refine bk h fun x58 e58 h => ?_
         refine LWo.lncall (e := e_impl_Part) (l := x58.1) 1098 rfl rfl ((fun k => Does.nameV (hrc _ _ _ _ _ e58) rfl rfl rfl rfl rfl rfl k) 0) rfl rfl rfl rfl (hn := ?_)
         refine LWo.move (.ptr 0 0 0) rfl (hn := ?_)
         refine LWo.move (e_Limpl_Column t1) rfl (hn := ?_)
         refine LWo.move (e_int x55) rfl (hn := ?_)
         refine bk h fun x59 e59 h => ?_
         refine LWo.lcall rfl rfl (k_spec_l20Leaf _ _ _ _ e59 0) rfl rfl rfl (hn := ?_)
         refine LWo.lit (ops := [_]) [(e_impl_Part x59.1)] u_Limpl_Part s_impl_Part z_impl_Part rfl rfl rfl rfl rfl rfl (hn := ?_)
         refine bk h fun x60 e60 h => ?_
         refine LWo.appendM (f := e_impl_Part) e60 rfl u_Limpl_Part u_Limpl_Part (fun _ h => by cases h) s_impl_Part i_impl_Part rfl rfl rfl (.sl rfl) rfl rfl (hn := ?_)
         refine LWo.move (.ptr 0 0 0) rfl (hn := ?_)
         refine bk h fun x61 e61 h => ?_
         refine LWo.lcall rfl rfl (k_Pspec_l20Rd_pick _ _ _ e61 0) rfl rfl rfl (hn := ?_)
         refine bk h fun x62 e62 h => ?_
         refine LWo.int _ rfl rfl (add_ck e62) (hn := ?_)
         refine LWo.build_impl_Part (parts := [_, _]) (⟨(4 : Int), x62, (⟨(0 : Int), (0 : Int), (⟨#[]⟩ : ByteArray)⟩ : S_impl_Value)⟩ : S_impl_Part) rfl rfl rfl .refl (hn := ?_)
         refine LWo.lit (ops := [_]) [(e_impl_Part (⟨(4 : Int), x62, (⟨(0 : Int), (0 : Int), (⟨#[]⟩ : ByteArray)⟩ : S_impl_Value)⟩ : S_impl_Part))] u_Limpl_Part s_impl_Part z_impl_Part rfl rfl rfl rfl rfl rfl (hn := ?_)
         refine bk h fun x63 e63 h => ?_
         refine LWo.appendM (f := e_impl_Part) e63 rfl u_Limpl_Part u_Limpl_Part (fun _ h => by cases h) s_impl_Part i_impl_Part rfl rfl rfl (.sl rfl) rfl rfl (hn := ?_)
         refine LWo.assign (.own 1098 0 (x63).length) rfl (hn := ?_)
         refine LWo.nil (hN56 _ ?_)
         obtain rfl := Option.some.inj h
         refine LWP.ret (QG.mk (.inr rfl) (.cons (.tmp (x := (.own 1098 0 (x63).length)) rfl) (.nil)) (RetOK.one1 (.nwM rfl rfl) (by decide) rfl rfl rfl rfl rfl) rfl rfl)
  ·intro N3 hN3
   refine LWP.region (l := [_,_,_,_,_,_,_]) ?_
   refine LWo.move (e_int a3) rfl (hn := ?_)
   refine LWo.int _ rfl rfl rfl (hn := ?_)
   refine LWo.move (e_bool (decide (a3 < (1 : Int)))) rfl (hn := ?_)
   refine LWo.byCases (t := 12) _ rfl (fun h4 => ?_) (fun h4 => ?_)
   ·have h := bT h4 h
    refine LWo.guardNU (t := 12) rfl h4 rfl rfl rfl rfl rfl ?_
    refine LWo.guardNU (t := 12) rfl h4 rfl rfl rfl rfl rfl ?_
    refine LWo.guardNU (t := 12) rfl h4 rfl rfl rfl rfl rfl ?_
    refine LWo.pickTM (e_bool true) rfl h4 rfl (hn := ?_)
    refine LWo.nil (hN3 (a1, a2, a3, true, o0) _ ⟨rfl, rfl, rfl, rfl, rfl, trivial⟩ ⟨rfl, trivial⟩ h)
   ·have h := bF h4 h
    refine LWo.guardY (t := 12) rfl h4 rfl rfl ?_
    refine LWo.move (.ptr 0 0 0) rfl (hn := ?_)
    refine bk h fun x5 e5 h => ?_
    refine LWo.guardY (t := 12) rfl h4 rfl rfl ?_
    refine LWo.lcall rfl rfl (k_Pspec_l20Rd_pick _ _ _ e5 0) rfl rfl rfl (hn := ?_)
    refine LWo.guardY (t := 12) rfl h4 rfl rfl ?_
    refine LWo.int _ rfl rfl rfl (hn := ?_)
    refine LWo.pickFM (e_bool (x5.1 == (0 : Int))) rfl h4 rfl (hn := ?_)
    refine LWo.nil (hN3 (a1, a2, a3, (x5.1 == (0 : Int)), x5.2) _ ⟨rfl, rfl, rfl, rfl, rfl, trivial⟩ ⟨rfl, trivial⟩ h)
theorem c_spec_l20Expr (fu : Nat) : ∀ (o0 : S_spec_l20Rd) (a1 : (List S_impl_Column)) (a2 : Int) (a3 : Int) (r : ((List S_impl_Part) × S_spec_l20Rd)) (h : m_spec_l20Expr fu o0 a1 a2 a3 = some r), Does Try.prog f_spec_l20Expr [.ptr 0 0 0, e_Limpl_Column a1, e_int a2, e_int a3] [(0, (vob 2 e_spec_l20Rd o0))] (fun x hh => x = .nw 5 (r.1.map e_impl_Part) false ∧ hh = [(0, (vob 2 e_spec_l20Rd r.2))]) := by
  induction fu with
  | zero => intro o0 a1 a2 a3 r h; cases h
  | succ fu ih => intro o0 a1 a2 a3 r h; exact cb_spec_l20Expr (m_spec_l20Expr fu) ih o0 a1 a2 a3 r h
theorem k_spec_l20Expr (fu : Nat) (o0 : S_spec_l20Rd) (a1 : (List S_impl_Column)) (a2 : Int) (a3 : Int) (r : ((List S_impl_Part) × S_spec_l20Rd)) (h : m_spec_l20Expr fu o0 a1 a2 a3 = some r) (k : Nat) : Does Try.prog f_spec_l20Expr [.ptr k 0 0, e_Limpl_Column a1, e_int a2, e_int a3] [(k, (vob 2 e_spec_l20Rd o0))] (fun x hh => x = .nw 5 (r.1.map e_impl_Part) false ∧ hh = [(k, (vob 2 e_spec_l20Rd r.2))]) :=
  Does.nameV (c_spec_l20Expr fu o0 a1 a2 a3 r h) rfl rfl rfl rfl rfl rfl k

def m_spec_l20Wild_j1 (t7n : Nat) (o0 : S_spec_l20Rd) (o1015 : (List S_impl_Part)) : Option ((List S_impl_Part) × S_spec_l20Rd) :=
  (leN t7n o1015.length).bind fun u27 =>
  some ((o1015.take t7n), o0)
def m_spec_l20Wild (o0 : S_spec_l20Rd) (a1 : (List S_impl_Column)) (a2 : Int) : Option ((List S_impl_Part) × S_spec_l20Rd) :=
  (m_Pspec_l20Rd_pick o0 (4 : Int)).bind fun x3 =>
  (at? ([(3 : Int), (3 : Int), (1 : Int), (2 : Int)] : (List Int)) x3.1).bind fun x4 =>
  (m_spec_l20Expr 1000000000 x3.2 a1 x4 (3 : Int)).bind fun x5 =>
  (m_Pspec_l20Rd_odd x5.2 a2).bind fun x8 =>
  bif x8.1 then ((m_Pspec_l20Rd_pick x8.2 (3 : Int)).bind fun x11 =>
    bif (x11.1 == (0 : Int)) then ((m_Pspec_l20Rd_pick x11.2 (x5.1.length : Int)).bind fun x14 =>
      (rng? (0 : Int) x14.1 ((x5.1).length)).bind fun u15 =>
      m_spec_l20Wild_j1  ((x14.1).toNat) x14.2 x5.1)
    else (bif (x11.1 == (1 : Int)) then ((m_Pspec_l20Rd_pick x11.2 (x5.1.length : Int)).bind fun x18 =>
        (m_Pspec_l20Rd_pick x18.2 (10 : Int)).bind fun x19 =>
        (m_Pspec_l20Rd_pick x19.2 (5 : Int)).bind fun x20 =>
        (at? x5.1 x18.1).bind fun x21 =>
        (at? x5.1 x18.1).bind fun x22 =>
        lt ((⟨x19.1, x20.1, (⟨(0 : Int), (0 : Int), (⟨#[]⟩ : ByteArray)⟩ : S_impl_Value)⟩ : S_impl_Part)) fun y23 =>
        m_spec_l20Wild_j1  ((x5.1).length) x20.2 (x5.1.set (x18.1).toNat y23))
      else ((m_spec_l20Value x11.2 (2 : Int)).bind fun x24 =>
        (app? x5.1 ([(⟨(1 : Int), (0 : Int), x24.1⟩ : S_impl_Part)] : (List S_impl_Part))).bind fun x25 =>
        m_spec_l20Wild_j1  ((x25).length) x24.2 x25)))
  else (m_spec_l20Wild_j1  ((x5.1).length) x8.2 x5.1)
theorem c_spec_l20Wild (o0 : S_spec_l20Rd) (a1 : (List S_impl_Column)) (a2 : Int) (r : ((List S_impl_Part) × S_spec_l20Rd)) (h : m_spec_l20Wild o0 a1 a2 = some r) : Does Try.prog f_spec_l20Wild [.ptr 0 0 0, e_Limpl_Column a1, e_int a2] [(0, (vob 2 e_spec_l20Rd o0))] (fun x hh => x = .nw 5 (r.1.map e_impl_Part) false ∧ hh = [(0, (vob 2 e_spec_l20Rd r.2))]) := by
  refine Does.goG [0] F_spec_l20Wild rfl e_spec_l20Wild n_spec_l20Wild rfl (rvs := [.tmp 6]) rfl rfl ?_
  intro w0 ok0 lent ρ0
  refine LWP.seq_k fun N1 hN1 => ?_
  refine LWP.region (l := [_]) ?_
  refine LWo.assign _ rfl (hn := ?_)
  refine LWo.ownNil 6 1006 5 rfl rfl rfl ?_
  refine LWo.known 6 (.own 1006 0 ([] : (List S_impl_Part)).length) rfl ?_
  refine LWo.nil (hN1 _ ?_)
  refine LWP.seq_k fun N2 hN2 => ?_
  refine LWP.region (l := [_,_,_,_,_,_,_,_,_]) ?_
  refine LWo.move (.ptr 0 0 0) rfl (hn := ?_)
  refine LWo.move (e_Limpl_Column a1) rfl (hn := ?_)
  refine LWo.lit (ops := [_, _, _, _]) [(e_int (3 : Int)), (e_int (3 : Int)), (e_int (1 : Int)), (e_int (2 : Int))] u_Lint s_int z_int rfl rfl rfl rfl rfl rfl (hn := ?_)
  refine LWo.move (.ptr 0 0 0) rfl (hn := ?_)
  refine bk h fun x3 e3 h => ?_
  refine LWo.lcall rfl rfl (k_Pspec_l20Rd_pick _ _ _ e3 0) rfl rfl rfl (hn := ?_)
  refine bk h fun x4 e4 h => ?_
  refine LWo.indexM (f := e_int) e4 u_Lint s_int rfl rfl (hn := ?_)
  refine LWo.load1 (c := (e_int x4)) g_int rfl (hn := ?_)
  refine bk h fun x5 e5 h => ?_
  refine LWo.lncall (e := e_impl_Part) (l := x5.1) 1015 rfl rfl (k_spec_l20Expr 1000000000 _ _ _ _ _ e5 0) rfl rfl rfl rfl (hn := ?_)
  refine LWo.assign (.own 1015 0 (x5.1).length) rfl (hn := ?_)
  refine LWo.nil (hN2 _ ?_)
  refine LWP.join (α := Nat × S_spec_l20Rd × (List S_impl_Part)) (fun z : Nat × S_spec_l20Rd × (List S_impl_Part) => [(7, (.own 1015 0 z.1))]) (fun z : Nat × S_spec_l20Rd × (List S_impl_Part) => [(0, (vob 2 e_spec_l20Rd z.2.1)), (1015, (lob 5 e_impl_Part z.2.2))]) (fun z : Nat × S_spec_l20Rd × (List S_impl_Part) => m_spec_l20Wild_j1  z.1 z.2.1 z.2.2) r (fun _ => by simp [hkeys]) ?_ ?_
  ·rintro ⟨t7n, o0, o1015⟩ h
   replace h : m_spec_l20Wild_j1  t7n o0 o1015 = some _ := h
   refine LWP.seq_k fun N26 hN26 => ?_
   refine LWP.region (l := [_,_]) ?_
   refine LWo.move (.own 1015 0 t7n) rfl (hn := ?_)
   refine LWo.assign (.own 1015 0 t7n) rfl (hn := ?_)
   refine LWo.nil (hN26 _ ?_)
   refine bk h fun u27 e27 h => ?_
   obtain rfl := Option.some.inj h
   refine LWP.ret (QG.mk (.inr rfl) (.cons (.tmp (x := (.own 1015 0 t7n)) rfl) (.nil)) (RetOK.one1 (.nwT (leN_b e27) rfl) (by decide) rfl rfl rfl rfl rfl) rfl rfl)
  ·intro N6 hN6
   refine LWP.seq_k fun N7 hN7 => ?_
   refine LWP.region (l := [_,_,_]) ?_
   refine LWo.move (.ptr 0 0 0) rfl (hn := ?_)
   refine LWo.move (e_int a2) rfl (hn := ?_)
   refine bk h fun x8 e8 h => ?_
   refine LWo.lcall rfl rfl (k_Pspec_l20Rd_odd _ _ _ e8 0) rfl rfl rfl (hn := ?_)
   refine LWo.nil (hN7 _ ?_)
   refine LWP.cond_split rfl (fun h9 => ?_) (fun h9 => ?_)
   ·have h := bT h9 h
    refine LWP.seq_k fun N10 hN10 => ?_
    refine LWP.region (l := [_,_]) ?_
    refine LWo.move (.ptr 0 0 0) rfl (hn := ?_)
    refine bk h fun x11 e11 h => ?_
    refine LWo.lcall rfl rfl (k_Pspec_l20Rd_pick _ _ _ e11 0) rfl rfl rfl (hn := ?_)
    refine LWo.nil (hN10 _ ?_)
    refine LWP.block ?_
    refine LWP.seq_k fun N12 hN12 => ?_
    refine LWP.region (l := [_,_]) ?_
    refine LWo.int _ rfl rfl rfl (hn := ?_)
    refine LWo.assign (e_bool (x11.1 == (0 : Int))) rfl (hn := ?_)
    refine LWo.nil (hN12 _ ?_)
    refine LWP.cond_split rfl (fun h13 => ?_) (fun h13 => ?_)
    ·have h := bT h13 h
     refine LWP.region (l := [_,_,_,_,_,_,_]) ?_
     refine LWo.move (.own 1015 0 (x5.1).length) rfl (hn := ?_)
     refine LWo.move (.ptr 0 0 0) rfl (hn := ?_)
     refine LWo.move (.own 1015 0 (x5.1).length) rfl (hn := ?_)
     refine LWo.lenO u_Limpl_Part rfl (hn := ?_)
     refine bk h fun x14 e14 h => ?_
     refine LWo.lcall rfl rfl (k_Pspec_l20Rd_pick _ _ _ e14 0) rfl rfl rfl (hn := ?_)
     refine bk h fun u15 e15 h => ?_
     refine LWo.cutOM e15 u_Limpl_Part s_impl_Part rfl rfl rfl ⟨_, rfl⟩ (hn := ?_)
     refine LWo.assign (.own 1015 0 ((x14.1).toNat)) rfl (hn := ?_)
     refine LWo.nil (hN6 ((x14.1).toNat, x14.2, x5.1) _ ⟨rfl, trivial⟩ ⟨rfl, rfl, trivial⟩ h)
    ·have h := bF h13 h
     refine LWP.seq_k fun N16 hN16 => ?_
     refine LWP.region (l := [_,_]) ?_
     refine LWo.int _ rfl rfl rfl (hn := ?_)
     refine LWo.assign (e_bool (x11.1 == (1 : Int))) rfl (hn := ?_)
     refine LWo.nil (hN16 _ ?_)
     refine LWP.cond_split rfl (fun h17 => ?_) (fun h17 => ?_)
     ·have h := bT h17 h
      refine LWP.region (l := [_,_,_,_,_,_,_,_,_,_,_,_]) ?_
      refine LWo.move (.own 1015 0 (x5.1).length) rfl (hn := ?_)
      refine LWo.move (.ptr 0 0 0) rfl (hn := ?_)
      refine LWo.move (.own 1015 0 (x5.1).length) rfl (hn := ?_)
      refine LWo.lenO u_Limpl_Part rfl (hn := ?_)
      refine bk h fun x18 e18 h => ?_
      refine LWo.lcall rfl rfl (k_Pspec_l20Rd_pick _ _ _ e18 0) rfl rfl rfl (hn := ?_)
      refine LWo.move (.ptr 0 0 0) rfl (hn := ?_)
      refine bk h fun x19 e19 h => ?_
      refine LWo.lcall rfl rfl (k_Pspec_l20Rd_pick _ _ _ e19 0) rfl rfl rfl (hn := ?_)
      refine LWo.move (.ptr 0 0 0) rfl (hn := ?_)
      refine bk h fun x20 e20 h => ?_
      refine LWo.lcall rfl rfl (k_Pspec_l20Rd_pick _ _ _ e20 0) rfl rfl rfl (hn := ?_)
      refine LWo.build_impl_Part (parts := [_, _]) (⟨x19.1, x20.1, (⟨(0 : Int), (0 : Int), (⟨#[]⟩ : ByteArray)⟩ : S_impl_Value)⟩ : S_impl_Part) rfl rfl rfl .refl (hn := ?_)
      refine bk h fun x21 e21 h => ?_
      refine LWo.indexO e21 rfl u_Limpl_Part s_impl_Part rfl rfl rfl (hn := ?_)
      refine bk h fun x22 e22 h => ?_
      refine lk h fun y23 e23 h => ?_
      refine LWo.storeO y23 e22 s_impl_Part rfl rfl rfl rfl rfl rfl rfl (by rw [e23]; rfl) (hn := ?_)
      refine LWo.nil (hN6 ((x5.1).length, x20.2, (x5.1.set (x18.1).toNat y23)) _ ⟨rfl, trivial⟩ ⟨rfl, rfl, trivial⟩ h)
     ·have h := bF h17 h
      refine LWP.region (l := [_,_,_,_,_,_,_]) ?_
      refine LWo.move (.own 1015 0 (x5.1).length) rfl (hn := ?_)
      refine LWo.move (.ptr 0 0 0) rfl (hn := ?_)
      refine bk h fun x24 e24 h => ?_
      refine LWo.lcall rfl rfl (k_spec_l20Value _ _ _ e24 0) rfl rfl rfl (hn := ?_)
      refine LWo.build_impl_Part (parts := [_, _]) (⟨(1 : Int), (0 : Int), x24.1⟩ : S_impl_Part) rfl rfl rfl .refl (hn := ?_)
      refine LWo.lit (ops := [_]) [(e_impl_Part (⟨(1 : Int), (0 : Int), x24.1⟩ : S_impl_Part))] u_Limpl_Part s_impl_Part z_impl_Part rfl rfl rfl rfl rfl rfl (hn := ?_)
      refine bk h fun x25 e25 h => ?_
      refine LWo.appendM (f := e_impl_Part) e25 rfl u_Limpl_Part u_Limpl_Part (fun _ h => by cases h) s_impl_Part i_impl_Part rfl rfl rfl (.sl rfl) rfl rfl (hn := ?_)
      refine LWo.assign (.own 1015 0 (x25).length) rfl (hn := ?_)
      refine LWo.nil (hN6 ((x25).length, x24.2, x25) _ ⟨rfl, trivial⟩ ⟨rfl, rfl, trivial⟩ h)
   ·have h := bF h9 h
    refine LWP.skip (hN6 ((x5.1).length, x8.2, x5.1) _ ⟨rfl, trivial⟩ ⟨rfl, rfl, trivial⟩ h)
theorem k_spec_l20Wild (o0 : S_spec_l20Rd) (a1 : (List S_impl_Column)) (a2 : Int) (r : ((List S_impl_Part) × S_spec_l20Rd)) (h : m_spec_l20Wild o0 a1 a2 = some r) (k : Nat) : Does Try.prog f_spec_l20Wild [.ptr k 0 0, e_Limpl_Column a1, e_int a2] [(k, (vob 2 e_spec_l20Rd o0))] (fun x hh => x = .nw 5 (r.1.map e_impl_Part) false ∧ hh = [(k, (vob 2 e_spec_l20Rd r.2))]) :=
  Does.nameV (c_spec_l20Wild o0 a1 a2 r h) rfl rfl rfl rfl rfl rfl k
end Go.Proofs.Ytgepipglchpabaa
