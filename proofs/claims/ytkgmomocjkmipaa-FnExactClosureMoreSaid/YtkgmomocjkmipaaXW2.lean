/- Mirrors of functions, and that the functions return what the mirrors say. -/
import Derived.Test.YtkgmomocjkmipaaXW1
set_option linter.unusedVariables false
set_option linter.unusedSimpArgs false
set_option linter.unnecessarySimpa false
namespace Go.Proofs.Ytkgmomocjkmipaa
open Go.Proofs Go.Lift Go.RowKit
def m_cmp_Or_int_j1 (t3 : Int) : Option Int :=
  some t3
def m_cmp_Or_int_l1 : Nat → Int → (List Int) → Int → Int → Option Int
  | 0, _, _, _, _ => none
  | n1 + 1, t3, t6, t7, t8 =>
    bif decide (t8 < t7) then ((at? t6 t8).bind fun x12 =>
    bif (x12 != t3) then (some x12)
    else ((ckI (t8 + (1 : Int))).bind fun x16 =>
    (m_cmp_Or_int_l1  n1) t3 t6 t7 x16))
    else (m_cmp_Or_int_j1  t3)
def m_cmp_Or_int (a0 : (List Int)) : Option Int :=
  m_cmp_Or_int_l1  (((a0.length : Int) - (0 : Int)).toNat + 1) (0 : Int) a0 (a0.length : Int) (0 : Int)
theorem c_cmp_Or_int (a0 : (List Int)) (r : Int) (h : m_cmp_Or_int a0 = some r) : Ret Try.prog f_cmp_Or_int [e_Lint a0] (e_int r) := by
  refine Does.goG [] F_cmp_Or_int rfl e_cmp_Or_int n_cmp_Or_int rfl (rvs := [.tmp 2]) rfl rfl ?_
  intro w0 ok0 lent ρ0
  refine LWP.seq_k fun N1 hN1 => ?_
  refine LWP.region (l := [_]) ?_
  refine LWo.assign (e_int (0 : Int)) rfl (hn := ?_)
  refine LWo.nil (hN1 _ ?_)
  refine LWP.seq_k fun N2 hN2 => ?_
  refine LWP.region (l := [_]) ?_
  refine LWo.assign (e_int (0 : Int)) rfl (hn := ?_)
  refine LWo.nil (hN2 _ ?_)
  refine LWP.join (α := Int) (fun z : Int => [(3, (e_int z))]) (fun z : Int => []) (fun z : Int => m_cmp_Or_int_j1  z) r (fun _ => by simp [hkeys]) ?_ ?_
  ·rintro t3 h
   replace h : m_cmp_Or_int_j1  t3 = some _ := h
   refine LWP.seq_k fun N17 hN17 => ?_
   refine LWP.region (l := [_,_]) ?_
   refine LWo.move (e_int t3) rfl (hn := ?_)
   refine LWo.assign (e_int t3) rfl (hn := ?_)
   refine LWo.nil (hN17 _ ?_)
   obtain rfl := Option.some.inj h
   refine LWP.ret (QG.mk (.inr rfl) (.cons (.tmp (x := (e_int t3)) rfl) (.nil)) (RetOK.one0 (.pure rfl) (by decide)) rfl rfl)
  ·intro N3 hN3
   refine LWP.seq_k fun N4 hN4 => ?_
   refine LWP.region (l := [_,_,_]) ?_
   refine LWo.move (e_Lint a0) rfl (hn := ?_)
   refine LWo.lenM (f := e_int) (l := a0) u_Lint rfl (hn := ?_)
   refine LWo.move (e_int (0 : Int)) rfl (hn := ?_)
   refine LWo.nil (hN4 _ ?_)
   refine LWP.block ?_
   refine LWP.loopM (α := Int × (List Int) × Int × Int) (fun z : Int × (List Int) × Int × Int => [(3, (e_int z.1)), (6, (e_Lint z.2.1)), (7, (e_int z.2.2.1)), (8, (e_int z.2.2.2))]) (fun z : Int × (List Int) × Int × Int => []) (fun n1 (z : Int × (List Int) × Int × Int) => m_cmp_Or_int_l1  n1 z.1 z.2.1 z.2.2.1 z.2.2.2) r _ ((0 : Int), a0, (a0.length : Int), (0 : Int)) h (fun _ => rfl) (fun _ => by simp [hkeys]) ⟨rfl, rfl, rfl, rfl, trivial⟩ trivial ?_
   rintro n1 ⟨t3, t6, t7, t8⟩ h N5 hN5
   replace h : m_cmp_Or_int_l1  (n1 + 1) t3 t6 t7 t8 = some _ := h
   refine LWP.seq_k fun N7 hN7 => ?_
   refine LWP.region (l := [_]) ?_
   refine LWo.int _ rfl rfl rfl (hn := ?_)
   refine LWo.nil (hN7 _ ?_)
   refine LWP.seq_k fun N8 hN8 => ?_
   refine LWP.cond_split rfl (fun h9 => ?_) (fun h9 => ?_)
   ·have h := bT h9 h
    refine LWP.skip (hN8 _ ?_)
    refine LWP.seq_k fun N10 hN10 => ?_
    refine LWP.block ?_
    refine LWP.seq_k fun N11 hN11 => ?_
    refine LWP.region (l := [_,_,_]) ?_
    refine bk h fun x12 e12 h => ?_
    refine LWo.indexM (f := e_int) e12 u_Lint s_int rfl rfl (hn := ?_)
    refine LWo.load1 (c := (e_int x12)) g_int rfl (hn := ?_)
    refine LWo.assign (e_int x12) rfl (hn := ?_)
    refine LWo.nil (hN11 _ ?_)
    refine LWP.seq_k fun N13 hN13 => ?_
    refine LWP.region (l := [_,_,_]) ?_
    refine LWo.move (e_int x12) rfl (hn := ?_)
    refine LWo.move (e_int t3) rfl (hn := ?_)
    refine LWo.int _ rfl rfl rfl (hn := ?_)
    refine LWo.nil (hN13 _ ?_)
    refine LWP.cond_split rfl (fun h14 => ?_) (fun h14 => ?_)
    ·have h := bT h14 h
     refine LWP.seq_k fun N15 hN15 => ?_
     refine LWP.region (l := [_,_]) ?_
     refine LWo.move (e_int x12) rfl (hn := ?_)
     refine LWo.assign (e_int x12) rfl (hn := ?_)
     refine LWo.nil (hN15 _ ?_)
     obtain rfl := Option.some.inj h
     refine LWP.ret (QG.mk (.inr rfl) (.cons (.tmp (x := (e_int x12)) rfl) (.nil)) (RetOK.one0 (.pure rfl) (by decide)) rfl rfl)
    ·have h := bF h14 h
     refine LWP.skip (hN10 _ ?_)
     refine LWP.region (l := [_,_]) ?_
     refine bk h fun x16 e16 h => ?_
     refine LWo.int _ rfl rfl (add_ck e16) (hn := ?_)
     refine LWo.move (e_int x16) rfl (hn := ?_)
     refine LWo.nil (hN5 (t3, t6, t7, x16) _ ⟨rfl, rfl, rfl, rfl, trivial⟩ trivial h)
   ·have h := bF h9 h
    refine LWP.exit (hN3 t3 _ ⟨rfl, trivial⟩ trivial h)

def m_impl_Pair_order (a0 : S_impl_Pair) (a1 : S_impl_Pair) : Option Int :=
  (m_cmp_Compare_int a0.From a1.From).bind fun x3 =>
  (m_cmp_Compare_int a0.To a1.To).bind fun x4 =>
  (m_cmp_Or_int ([x3, x4] : (List Int))).bind fun x5 =>
  some x5
theorem c_impl_Pair_order (a0 : S_impl_Pair) (a1 : S_impl_Pair) (r : Int) (h : m_impl_Pair_order a0 a1 = some r) : Ret Try.prog f_impl_Pair_order [e_impl_Pair a0, e_impl_Pair a1] (e_int r) := by
  refine Does.goG [] F_impl_Pair_order rfl e_impl_Pair_order n_impl_Pair_order rfl (rvs := [.tmp 4]) rfl rfl ?_
  intro w0 ok0 lent ρ0
  refine LWP.seq_k fun N1 hN1 => ?_
  refine LWP.region (l := [_,_,_]) ?_
  refine LWo.boxF (e_impl_Pair a0) rfl rfl rfl (hn := ?_)
  refine LWo.boxF (e_impl_Pair a1) rfl rfl rfl (hn := ?_)
  refine LWo.assign (e_int (0 : Int)) rfl (hn := ?_)
  refine LWo.nil (hN1 _ ?_)
  refine LWP.seq_k fun N2 hN2 => ?_
  refine bk h fun x3 e3 h => ?_
  refine bk h fun x4 e4 h => ?_
  refine bk h fun x5 e5 h => ?_
  refine LWP.drawF (l := [_,_,_,_,_,_,_,_,_,_,_,_,_]) [] [2, 3] [([2], []), ([5], []), ([3], []), ([7], []), ([6, 8], []), ([2], []), ([10], []), ([3], []), ([12], []), ([11, 13], []), ([9, 14], []), ([15], []), ([16], [])] [4] [] mixed (by kernel_rfl) rfl (by decide) ?_
  refine dq 5 rfl (fun _ g u h => LWo.fieldAddr _ u_impl_Pair rfl s_int u.1 rfl (hn := .nil (zn g))) ?_
  refine dq 6 rfl (fun _ g u h => LWo.load1 (c := (e_int a0.From)) g_int u.1 (hn := .nil (zn g))) ?_
  refine dq 7 rfl (fun _ g u h => LWo.fieldAddr _ u_impl_Pair rfl s_int u.1 rfl (hn := .nil (zn g))) ?_
  refine dq 8 rfl (fun _ g u h => LWo.load1 (c := (e_int a1.From)) g_int u.1 (hn := .nil (zn g))) ?_
  refine dq 9 rfl (fun _ g u h => LWo.vcall rfl (av2 u.1 u.2.1) (c_cmp_Compare_int _ _ _ e3) (.same (.same (.nil))) (hn := .nil (zn g))) ?_
  refine dq 10 rfl (fun _ g u h => LWo.fieldAddr _ u_impl_Pair rfl s_int u.1 rfl (hn := .nil (zn g))) ?_
  refine dq 11 rfl (fun _ g u h => LWo.load1 (c := (e_int a0.To)) g_int u.1 (hn := .nil (zn g))) ?_
  refine dq 12 rfl (fun _ g u h => LWo.fieldAddr _ u_impl_Pair rfl s_int u.1 rfl (hn := .nil (zn g))) ?_
  refine dq 13 rfl (fun _ g u h => LWo.load1 (c := (e_int a1.To)) g_int u.1 (hn := .nil (zn g))) ?_
  refine dq 14 rfl (fun _ g u h => LWo.vcall rfl (av2 u.1 u.2.1) (c_cmp_Compare_int _ _ _ e4) (.same (.same (.nil))) (hn := .nil (zn g))) ?_
  refine dq 15 rfl (fun _ g u h => LWo.lit (ops := [_, _]) [(e_int x3), (e_int x4)] u_Lint s_int z_int (lv2 u.1 u.2.1) rfl rfl rfl rfl rfl (hn := .nil (zn g))) ?_
  refine dq 16 rfl (fun _ g u h => LWo.vcall rfl (av1 u.1) (c_cmp_Or_int _ _ e5) (.same (.nil)) (hn := .nil (zn g))) ?_
  refine dq 4 rfl (fun _ g u h => LWo.assign (e_int x5) u.1 (hn := .nil (zn g))) ?_
  refine ⟨rfl, by kernel_rfl, hN2 _ ?_⟩
  obtain rfl := Option.some.inj h
  refine LWP.ret (QG.mk (.inr rfl) (.cons (.tmp (x := (e_int x5)) rfl) (.nil)) (RetOK.one0 (.pure rfl) (by decide)) rfl rfl)

def m_impl_PairsOk_j2  : Option Bool :=
  some true
def m_impl_PairsOk_j1 (k1 : (List S_impl_Pair) → (List S_impl_Pair) → Int → Int → Option Bool) (t0 : (List S_impl_Pair)) (t5 : (List S_impl_Pair)) (t6 : Int) (t7 : Int) (t28 : Bool) : Option Bool :=
  bif t28 then (some false)
  else ((ckI (t7 + (1 : Int))).bind fun x22 =>
  k1 t0 t5 t6 x22)
def m_impl_PairsOk_l1 : Nat → (List S_impl_Pair) → (List S_impl_Pair) → Int → Int → Option Bool
  | 0, _, _, _, _ => none
  | n1 + 1, t0, t5, t6, t7 =>
    bif decide (t7 < t6) then ((at? t5 t7).bind fun x11 =>
    lt (x11) fun y12 =>
    (m_impl_Pair_ok y12).bind fun x14 =>
    bif (!x14) then (m_impl_PairsOk_j1  (m_impl_PairsOk_l1  n1) t0 t5 t6 t7 true)
    else (bif decide (t7 > (0 : Int)) then ((ckI (t7 - (1 : Int))).bind fun x17 =>
        (at? t0 x17).bind fun x18 =>
        (m_impl_Pair_order x18 y12).bind fun x19 =>
        m_impl_PairsOk_j1  (m_impl_PairsOk_l1  n1) t0 t5 t6 t7 (decide (x19 ≥ (0 : Int))))
      else (m_impl_PairsOk_j1  (m_impl_PairsOk_l1  n1) t0 t5 t6 t7 false)))
    else (m_impl_PairsOk_j2  )
def m_impl_PairsOk (a0 : (List S_impl_Pair)) : Option Bool :=
  m_impl_PairsOk_l1  (((a0.length : Int) - (0 : Int)).toNat + 1) a0 a0 (a0.length : Int) (0 : Int)
theorem c_impl_PairsOk (a0 : (List S_impl_Pair)) (r : Bool) (h : m_impl_PairsOk a0 = some r) : Ret Try.prog f_impl_PairsOk [e_Limpl_Pair a0] (e_bool r) := by
  refine Does.goG [] F_impl_PairsOk rfl e_impl_PairsOk n_impl_PairsOk rfl (rvs := [.tmp 2]) rfl rfl ?_
  intro w0 ok0 lent ρ0
  refine LWP.seq_k fun N1 hN1 => ?_
  refine LWP.region (l := [_]) ?_
  refine LWo.assign (e_bool false) rfl (hn := ?_)
  refine LWo.nil (hN1 _ ?_)
  refine LWP.join (α := Unit) (fun z : Unit => []) (fun z : Unit => []) (fun z : Unit => m_impl_PairsOk_j2  ) r (fun _ => by simp [hkeys]) ?_ ?_
  ·rintro _ h
   replace h : m_impl_PairsOk_j2   = some _ := h
   refine LWP.seq_k fun N23 hN23 => ?_
   refine LWP.region (l := [_]) ?_
   refine LWo.assign (e_bool true) rfl (hn := ?_)
   refine LWo.nil (hN23 _ ?_)
   obtain rfl := Option.some.inj h
   refine LWP.ret (QG.mk (.inr rfl) (.cons (.tmp (x := (e_bool true)) rfl) (.nil)) (RetOK.one0 (.pure rfl) (by decide)) rfl rfl)
  ·intro N2 hN2
   refine LWP.seq_k fun N3 hN3 => ?_
   refine LWP.region (l := [_,_,_]) ?_
   refine LWo.move (e_Limpl_Pair a0) rfl (hn := ?_)
   refine LWo.lenM (f := e_impl_Pair) (l := a0) u_Limpl_Pair rfl (hn := ?_)
   refine LWo.move (e_int (0 : Int)) rfl (hn := ?_)
   refine LWo.nil (hN3 _ ?_)
   refine LWP.block ?_
   refine LWP.loopM (α := (List S_impl_Pair) × (List S_impl_Pair) × Int × Int) (fun z : (List S_impl_Pair) × (List S_impl_Pair) × Int × Int => [(0, (e_Limpl_Pair z.1)), (5, (e_Limpl_Pair z.2.1)), (6, (e_int z.2.2.1)), (7, (e_int z.2.2.2))]) (fun z : (List S_impl_Pair) × (List S_impl_Pair) × Int × Int => []) (fun n1 (z : (List S_impl_Pair) × (List S_impl_Pair) × Int × Int) => m_impl_PairsOk_l1  n1 z.1 z.2.1 z.2.2.1 z.2.2.2) r _ (a0, a0, (a0.length : Int), (0 : Int)) h (fun _ => rfl) (fun _ => by simp [hkeys]) ⟨rfl, rfl, rfl, rfl, trivial⟩ trivial ?_
   rintro n1 ⟨t0, t5, t6, t7⟩ h N4 hN4
   replace h : m_impl_PairsOk_l1  (n1 + 1) t0 t5 t6 t7 = some _ := h
   refine LWP.seq_k fun N6 hN6 => ?_
   refine LWP.region (l := [_]) ?_
   refine LWo.int _ rfl rfl rfl (hn := ?_)
   refine LWo.nil (hN6 _ ?_)
   refine LWP.seq_k fun N7 hN7 => ?_
   refine LWP.cond_split rfl (fun h8 => ?_) (fun h8 => ?_)
   ·have h := bT h8 h
    refine LWP.skip (hN7 _ ?_)
    refine LWP.seq_k fun N9 hN9 => ?_
    refine LWP.block ?_
    refine LWP.seq_k fun N10 hN10 => ?_
    refine LWP.region (l := [_,_,_,_,_,_]) ?_
    refine LWo.move (e_int t7) rfl (hn := ?_)
    refine bk h fun x11 e11 h => ?_
    refine LWo.indexM (f := e_impl_Pair) e11 u_Limpl_Pair s_impl_Pair rfl rfl (hn := ?_)
    refine LWo.loadN ((e_impl_Pair x11)).cells g_impl_Pair s_impl_Pair rfl (Nat.le_of_ble_eq_true rfl) rfl (hn := ?_)
    refine LWo.alloc_impl_Pair 4 rfl (hn := ?_)
    refine LWo.assign (e_int t7) rfl (hn := ?_)
    refine lk h fun y12 e12 h => ?_
    refine LWo.storeW (y := (⟨(0 : Int), (0 : Int)⟩ : S_impl_Pair)) y12 s_impl_Pair rfl rfl rfl rfl rfl rfl (by rw [e12]; exact .refl) rfl (hn := ?_)
    refine LWo.nil (hN10 _ ?_)
    refine LWP.join (α := (List S_impl_Pair) × (List S_impl_Pair) × Int × Int × Bool) (fun z : (List S_impl_Pair) × (List S_impl_Pair) × Int × Int × Bool => [(0, (e_Limpl_Pair z.1)), (5, (e_Limpl_Pair z.2.1)), (6, (e_int z.2.2.1)), (7, (e_int z.2.2.2.1)), (28, (e_bool z.2.2.2.2))]) (fun z : (List S_impl_Pair) × (List S_impl_Pair) × Int × Int × Bool => []) (fun z : (List S_impl_Pair) × (List S_impl_Pair) × Int × Int × Bool => m_impl_PairsOk_j1  (m_impl_PairsOk_l1  n1) z.1 z.2.1 z.2.2.1 z.2.2.2.1 z.2.2.2.2) r (fun _ => by simp [hkeys]) ?_ ?_
    ·rintro ⟨t0, t5, t6, t7, t28⟩ h
     replace h : m_impl_PairsOk_j1  (m_impl_PairsOk_l1  n1) t0 t5 t6 t7 t28 = some _ := h
     refine LWP.cond_split rfl (fun h20 => ?_) (fun h20 => ?_)
     ·have h := bT h20 h
      refine LWP.seq_k fun N21 hN21 => ?_
      refine LWP.region (l := [_]) ?_
      refine LWo.assign (e_bool false) rfl (hn := ?_)
      refine LWo.nil (hN21 _ ?_)
      obtain rfl := Option.some.inj h
      refine LWP.ret (QG.mk (.inr rfl) (.cons (.tmp (x := (e_bool false)) rfl) (.nil)) (RetOK.one0 (.pure rfl) (by decide)) rfl rfl)
     ·have h := bF h20 h
      refine LWP.skip (hN9 _ ?_)
      refine LWP.region (l := [_,_]) ?_
      refine bk h fun x22 e22 h => ?_
      refine LWo.int _ rfl rfl (add_ck e22) (hn := ?_)
      refine LWo.move (e_int x22) rfl (hn := ?_)
      refine LWo.nil (hN4 (t0, t5, t6, x22) _ ⟨rfl, rfl, rfl, rfl, trivial⟩ trivial h)
    ·intro N13 hN13
     refine bk h fun x14 e14 h => ?_
     refine bS ((!x14)) (fun h15 => ?_) (fun h15 => ?_)
     ·have h := bT h15 h
      refine LWP.drawF (l := [_,_,_,_,_,_,_,_,_,_,_,_,_,_,_,_,_]) [] [0, 3, 4, 5, 6, 7] [([4], [4]), ([12], []), ([13], []), ([14], []), ([3, 15], []), ([15, 16], []), ([15, 17], []), ([0, 18], []), ([3, 18], []), ([18, 20], []), ([18, 19, 21], []), ([18, 22], []), ([4, 18], []), ([18, 23, 24], []), ([18, 25], []), ([15, 18, 26], []), ([15, 27], [])] [0, 5, 6, 7, 28] [] mixed (by kernel_rfl) rfl (by decide) ?_
      refine dq 12 rfl (fun _ g u h => LWo.loadVN ((e_impl_Pair y12)).cells  g_impl_Pair s_impl_Pair u.1 h.1 rfl rfl (hn := .nil (zn g))) ?_
      refine dq 13 rfl (fun _ g u h => LWo.vcall rfl (av1 u.1) (c_impl_Pair_ok _ _ e14) (.same (.nil)) (hn := .nil (zn g))) ?_
      refine dq 14 rfl (fun _ g u h => LWo.not u.1 (hn := .nil (zn g))) ?_
      refine dq 15 rfl (fun _ g u h => LWo.move (e_bool (!x14)) u.1 (hn := .nil (zn g))) ?_
      refine dq 16 rfl (fun _ g u h => LWo.guardNU (t := 15) u.2.1 h15 rfl rfl rfl rfl rfl (.nil (zn g))) ?_
      refine dq 17 rfl (fun _ g u h => LWo.guardNU (t := 15) u.1 h15 rfl rfl rfl rfl rfl (.nil (zn g))) ?_
      refine dq 18 rfl (fun _ g u h => LWo.guardNU (t := 15) u.1 h15 rfl rfl rfl rfl rfl (.nil (zn g))) ?_
      refine dq 19 rfl (fun _ g u h => LWo.guardU (t := 18) u.2.1 rfl rfl rfl rfl (.nil (zn g))) ?_
      refine dq 20 rfl (fun _ g u h => LWo.guardU (t := 18) u.2.1 rfl rfl rfl rfl (.nil (zn g))) ?_
      refine dq 21 rfl (fun _ g u h => LWo.guardU (t := 18) u.1 rfl rfl rfl rfl (.nil (zn g))) ?_
      refine dq 22 rfl (fun _ g u h => LWo.guardU (t := 18) u.1 rfl rfl rfl rfl (.nil (zn g))) ?_
      refine dq 23 rfl (fun _ g u h => LWo.guardU (t := 18) u.1 rfl rfl rfl rfl (.nil (zn g))) ?_
      refine dq 24 rfl (fun _ g u h => LWo.guardU (t := 18) u.2.1 rfl rfl rfl rfl (.nil (zn g))) ?_
      refine dq 25 rfl (fun _ g u h => LWo.guardU (t := 18) u.1 rfl rfl rfl rfl (.nil (zn g))) ?_
      refine dq 26 rfl (fun _ g u h => LWo.guardU (t := 18) u.1 rfl rfl rfl rfl (.nil (zn g))) ?_
      refine dq 27 rfl (fun _ g u h => LWo.guardNU (t := 15) u.1 h15 rfl rfl rfl rfl rfl (.nil (zn g))) ?_
      refine dq 28 rfl (fun _ g u h => LWo.pickTM (e_bool true) u.1 h15 rfl (hn := .nil (zn g))) ?_
      refine ⟨rfl, by kernel_rfl, hN13 (t0, t5, t6, t7, true) _ ⟨rfl, rfl, rfl, rfl, rfl, trivial⟩ trivial h⟩
     ·have h := bF h15 h
      refine bS (decide (t7 > (0 : Int))) (fun h16 => ?_) (fun h16 => ?_)
      ·have h := bT h16 h
       refine bk h fun x17 e17 h => ?_
       refine bk h fun x18 e18 h => ?_
       refine bk h fun x19 e19 h => ?_
       refine LWP.drawF (l := [_,_,_,_,_,_,_,_,_,_,_,_,_,_,_,_,_]) [] [0, 3, 4, 5, 6, 7] [([4], [4]), ([12], []), ([13], []), ([14], []), ([3, 15], []), ([15, 16], []), ([15, 17], []), ([0, 18], []), ([3, 18], []), ([18, 20], []), ([18, 19, 21], []), ([18, 22], []), ([4, 18], [4]), ([18, 23, 24], []), ([18, 25], []), ([15, 18, 26], []), ([15, 27], [])] [0, 5, 6, 7, 28] [] mixed (by kernel_rfl) rfl (by decide) ?_
       refine dq 12 rfl (fun _ g u h => LWo.loadVN ((e_impl_Pair y12)).cells  g_impl_Pair s_impl_Pair u.1 h.1 rfl rfl (hn := .nil (zn g))) ?_
       refine dq 13 rfl (fun _ g u h => LWo.vcall rfl (av1 u.1) (c_impl_Pair_ok _ _ e14) (.same (.nil)) (hn := .nil (zn g))) ?_
       refine dq 14 rfl (fun _ g u h => LWo.not u.1 (hn := .nil (zn g))) ?_
       refine dq 15 rfl (fun _ g u h => LWo.move (e_bool (!x14)) u.1 (hn := .nil (zn g))) ?_
       refine dq 16 rfl (fun _ g u h => LWo.guardY (t := 15) u.2.1 h15 rfl rfl (LWo.move (e_int t7) u.1 (hn := .nil (zn g)))) ?_
       refine dq 17 rfl (fun _ g u h => LWo.guardY (t := 15) u.1 h15 rfl rfl (LWo.int _ u.2.1 rfl rfl (hn := .nil (zn g)))) ?_
       refine dq 18 rfl (fun _ g u h => LWo.guardY (t := 15) u.1 h15 rfl rfl (LWo.move (e_bool (decide (t7 > (0 : Int)))) u.2.1 (hn := .nil (zn g)))) ?_
       refine dq 19 rfl (fun _ g u h => LWo.guardY (t := 18) u.2.1 h16 rfl rfl (LWo.move (e_Limpl_Pair t0) u.1 (hn := .nil (zn g)))) ?_
       refine dq 20 rfl (fun _ g u h => LWo.guardY (t := 18) u.2.1 h16 rfl rfl (LWo.move (e_int t7) u.1 (hn := .nil (zn g)))) ?_
       refine dq 21 rfl (fun _ g u h => LWo.guardY (t := 18) u.1 h16 rfl rfl (LWo.int _ u.2.1 rfl (sub_ck e17) (hn := .nil (zn g)))) ?_
       refine dq 22 rfl (fun _ g u h => LWo.guardY (t := 18) u.1 h16 rfl rfl (LWo.indexM (f := e_impl_Pair) e18 u_Limpl_Pair s_impl_Pair u.2.1 u.2.2.1 (hn := .nil (zn g)))) ?_
       refine dq 23 rfl (fun _ g u h => LWo.guardY (t := 18) u.1 h16 rfl rfl (LWo.loadN ((e_impl_Pair x18)).cells g_impl_Pair s_impl_Pair u.2.1 (Nat.le_of_ble_eq_true rfl) rfl (hn := .nil (zn g)))) ?_
       refine dq 24 rfl (fun _ g u h => LWo.guardY (t := 18) u.2.1 h16 rfl rfl (LWo.loadVN ((e_impl_Pair y12)).cells  g_impl_Pair s_impl_Pair u.1 h.1 rfl rfl (hn := .nil (zn g)))) ?_
       refine dq 25 rfl (fun _ g u h => LWo.guardY (t := 18) u.1 h16 rfl rfl (LWo.vcall rfl (av2 u.2.1 u.2.2.1) (c_impl_Pair_order _ _ _ e19) (.same (.same (.nil))) (hn := .nil (zn g)))) ?_
       refine dq 26 rfl (fun _ g u h => LWo.guardY (t := 18) u.1 h16 rfl rfl (LWo.int _ u.2.1 rfl rfl (hn := .nil (zn g)))) ?_
       refine dq 27 rfl (fun _ g u h => LWo.guardY (t := 15) u.1 h15 rfl rfl (LWo.pickTM (e_bool (decide (x19 ≥ (0 : Int)))) u.2.1 h16 u.2.2.1 (hn := .nil (zn g)))) ?_
       refine dq 28 rfl (fun _ g u h => LWo.pickFM (e_bool (decide (x19 ≥ (0 : Int)))) u.1 h15 u.2.1 (hn := .nil (zn g))) ?_
       refine ⟨rfl, by kernel_rfl, hN13 (t0, t5, t6, t7, decide (x19 ≥ (0 : Int))) _ ⟨rfl, rfl, rfl, rfl, rfl, trivial⟩ trivial h⟩
      ·have h := bF h16 h
       refine LWP.drawF (l := [_,_,_,_,_,_,_,_,_,_,_,_,_,_,_,_,_]) [] [0, 3, 4, 5, 6, 7] [([4], [4]), ([12], []), ([13], []), ([14], []), ([3, 15], []), ([15, 16], []), ([15, 17], []), ([0, 18], []), ([3, 18], []), ([18, 20], []), ([18, 19, 21], []), ([18, 22], []), ([4, 18], []), ([18, 23, 24], []), ([18, 25], []), ([15, 18, 26], []), ([15, 27], [])] [0, 5, 6, 7, 28] [] mixed (by kernel_rfl) rfl (by decide) ?_
       refine dq 12 rfl (fun _ g u h => LWo.loadVN ((e_impl_Pair y12)).cells  g_impl_Pair s_impl_Pair u.1 h.1 rfl rfl (hn := .nil (zn g))) ?_
       refine dq 13 rfl (fun _ g u h => LWo.vcall rfl (av1 u.1) (c_impl_Pair_ok _ _ e14) (.same (.nil)) (hn := .nil (zn g))) ?_
       refine dq 14 rfl (fun _ g u h => LWo.not u.1 (hn := .nil (zn g))) ?_
       refine dq 15 rfl (fun _ g u h => LWo.move (e_bool (!x14)) u.1 (hn := .nil (zn g))) ?_
       refine dq 16 rfl (fun _ g u h => LWo.guardY (t := 15) u.2.1 h15 rfl rfl (LWo.move (e_int t7) u.1 (hn := .nil (zn g)))) ?_
       refine dq 17 rfl (fun _ g u h => LWo.guardY (t := 15) u.1 h15 rfl rfl (LWo.int _ u.2.1 rfl rfl (hn := .nil (zn g)))) ?_
       refine dq 18 rfl (fun _ g u h => LWo.guardY (t := 15) u.1 h15 rfl rfl (LWo.move (e_bool (decide (t7 > (0 : Int)))) u.2.1 (hn := .nil (zn g)))) ?_
       refine dq 19 rfl (fun _ g u h => LWo.guardNU (t := 18) u.2.1 h16 rfl rfl rfl rfl rfl (.nil (zn g))) ?_
       refine dq 20 rfl (fun _ g u h => LWo.guardNU (t := 18) u.2.1 h16 rfl rfl rfl rfl rfl (.nil (zn g))) ?_
       refine dq 21 rfl (fun _ g u h => LWo.guardNU (t := 18) u.1 h16 rfl rfl rfl rfl rfl (.nil (zn g))) ?_
       refine dq 22 rfl (fun _ g u h => LWo.guardNU (t := 18) u.1 h16 rfl rfl rfl rfl rfl (.nil (zn g))) ?_
       refine dq 23 rfl (fun _ g u h => LWo.guardNU (t := 18) u.1 h16 rfl rfl rfl rfl rfl (.nil (zn g))) ?_
       refine dq 24 rfl (fun _ g u h => LWo.guardNU (t := 18) u.2.1 h16 rfl rfl rfl rfl rfl (.nil (zn g))) ?_
       refine dq 25 rfl (fun _ g u h => LWo.guardNU (t := 18) u.1 h16 rfl rfl rfl rfl rfl (.nil (zn g))) ?_
       refine dq 26 rfl (fun _ g u h => LWo.guardNU (t := 18) u.1 h16 rfl rfl rfl rfl rfl (.nil (zn g))) ?_
       refine dq 27 rfl (fun _ g u h => LWo.guardY (t := 15) u.1 h15 rfl rfl (LWo.pickFM (e_bool false) u.2.1 h16 rfl (hn := .nil (zn g)))) ?_
       refine dq 28 rfl (fun _ g u h => LWo.pickFM (e_bool false) u.1 h15 u.2.1 (hn := .nil (zn g))) ?_
       refine ⟨rfl, by kernel_rfl, hN13 (t0, t5, t6, t7, false) _ ⟨rfl, rfl, rfl, rfl, rfl, trivial⟩ trivial h⟩
   ·have h := bF h8 h
    refine LWP.exit (hN2 () _ trivial trivial h)

theorem cc_slices_Clip_Limpl_Pair_impl_Pair (xs : List LV) : Does Try.prog f_slices_Clip_Limpl_Pair_impl_Pair [.own 0 0 xs.length] [(0, { kind := .fro, sz := 2, elems := xs })] (fun r h => r = .nw 2 xs false ∧ h = []) := by
  refine Does.go [0] F_slices_Clip_Limpl_Pair_impl_Pair rfl e_slices_Clip_Limpl_Pair_impl_Pair n_slices_Clip_Limpl_Pair_impl_Pair rfl (ts := [2]) rfl rfl rfl ?_
  intro w0 ok0 lent ρ0
  refine LWP.seq_k fun N1 hN1 => ?_
  refine LWP.region (l := [_]) ?_
  refine LWo.assign _ rfl (hn := ?_)
  refine LWo.nil (hN1 _ ?_)
  refine LWP.seq_k fun N2 hN2 => ?_
  refine LWP.region (l := [_,_,_,_,_,_,_]) ?_
  refine LWo.move _ rfl (hn := ?_)
  refine LWo.move _ rfl (hn := ?_)
  refine LWo.len u_Limpl_Pair rfl (hn := ?_)
  refine LWo.move _ rfl (hn := ?_)
  refine LWo.len u_Limpl_Pair rfl (hn := ?_)
  refine LWo.cutOwn (l := 0) (h := xs.length) u_Limpl_Pair s_impl_Pair rfl rfl rfl rfl ⟨_, rfl⟩ ⟨_, _, rfl, Nat.le_refl _, Nat.le_refl _⟩ (.inr (by simp)) (Nat.zero_le _) (Nat.le_refl _) rfl rfl (hn := ?_)
  refine LWo.assign _ rfl (hn := ?_)
  refine LWo.nil (hN2 _ ?_)
  refine LWP.ret (QRet.own1 (.inr rfl) rfl rfl rfl rfl (by simp) ⟨?_, rfl⟩)
  clear hN1 hN2
  exact congrArg (fun l => LV.nw 2 l false) (by simp)
def m_slices_Clip_Limpl_Pair_impl_Pair_o (o0 : List S_impl_Pair) : Option (List S_impl_Pair) := some o0
theorem c_slices_Clip_Limpl_Pair_impl_Pair_o (o0 : List S_impl_Pair) (r : List S_impl_Pair) (h : m_slices_Clip_Limpl_Pair_impl_Pair_o o0 = some r) : Does Try.prog f_slices_Clip_Limpl_Pair_impl_Pair [.own 0 0 o0.length] [(0, lob 2 e_impl_Pair o0)] (fun x hh => x = .nw 2 (r.map e_impl_Pair) false ∧ hh = []) := by
  cases h
  have := cc_slices_Clip_Limpl_Pair_impl_Pair (o0.map e_impl_Pair)
  rw [List.length_map] at this
  exact this



def m_slices_Clip_Limpl_Pair_impl_Pair (a0 : (List S_impl_Pair)) : Option (List S_impl_Pair) :=
  (cut3? a0 (0 : Int) (a0.length : Int) (a0.length : Int)).bind fun x3 =>
  some x3
theorem c_slices_Clip_Limpl_Pair_impl_Pair (a0 : (List S_impl_Pair)) (r : (List S_impl_Pair)) (h : m_slices_Clip_Limpl_Pair_impl_Pair a0 = some r) : Ret Try.prog f_slices_Clip_Limpl_Pair_impl_Pair [e_Limpl_Pair a0] (e_Limpl_Pair r) := by
  refine Does.goG [] F_slices_Clip_Limpl_Pair_impl_Pair rfl e_slices_Clip_Limpl_Pair_impl_Pair n_slices_Clip_Limpl_Pair_impl_Pair rfl (rvs := [.tmp 2]) rfl rfl ?_
  intro w0 ok0 lent ρ0
  refine LWP.seq_k fun N1 hN1 => ?_
  refine LWP.region (l := [_]) ?_
  refine LWo.assign _ rfl (hn := ?_)
  refine LWo.weakT 2 (e_Limpl_Pair ([] : (List S_impl_Pair))) rfl .nil ?_
  refine LWo.nil (hN1 _ ?_)
  refine LWP.seq_k fun N2 hN2 => ?_
  refine LWP.region (l := [_,_,_,_,_,_,_]) ?_
  refine LWo.move (e_Limpl_Pair a0) rfl (hn := ?_)
  refine LWo.move (e_Limpl_Pair a0) rfl (hn := ?_)
  refine LWo.lenM (f := e_impl_Pair) (l := a0) u_Limpl_Pair rfl (hn := ?_)
  refine LWo.move (e_Limpl_Pair a0) rfl (hn := ?_)
  refine LWo.lenM (f := e_impl_Pair) (l := a0) u_Limpl_Pair rfl (hn := ?_)
  refine bk h fun x3 e3 h => ?_
  refine LWo.cutM3 (f := e_impl_Pair) e3 u_Limpl_Pair s_impl_Pair rfl rfl ⟨_, rfl⟩ ⟨_, rfl⟩ (hn := ?_)
  refine LWo.assign (e_Limpl_Pair x3) rfl (hn := ?_)
  refine LWo.nil (hN2 _ ?_)
  obtain rfl := Option.some.inj h
  refine LWP.ret (QG.mk (.inr rfl) (.cons (.tmp (x := (e_Limpl_Pair x3)) rfl) (.nil)) (RetOK.one0 (.pure rfl) (by decide)) rfl rfl)

def m_impl_clone_impl_Pair (a0 : (List S_impl_Pair)) : Option (List S_impl_Pair) :=
  bif ((a0.length : Int) == (0 : Int)) then (some ([] : (List S_impl_Pair)))
  else ((appN? a0).bind fun x7 =>
  (m_slices_Clip_Limpl_Pair_impl_Pair_o x7).bind fun x8 =>
  some x8)
theorem c_impl_clone_impl_Pair (a0 : (List S_impl_Pair)) (r : (List S_impl_Pair)) (h : m_impl_clone_impl_Pair a0 = some r) : Ret Try.prog f_impl_clone_impl_Pair [e_Limpl_Pair a0] (.nw 2 (r.map e_impl_Pair) false) := by
  refine Does.goG [] F_impl_clone_impl_Pair rfl e_impl_clone_impl_Pair n_impl_clone_impl_Pair rfl (rvs := [.tmp 2]) rfl rfl ?_
  intro w0 ok0 lent ρ0
  refine LWP.seq_k fun N1 hN1 => ?_
  refine LWP.region (l := [_]) ?_
  refine LWo.assign _ rfl (hn := ?_)
  refine LWo.ownNil 2 1002 2 rfl rfl rfl ?_
  refine LWo.known 2 (.own 1002 0 ([] : (List S_impl_Pair)).length) rfl ?_
  refine LWo.nil (hN1 _ ?_)
  refine LWP.seq_k fun N2 hN2 => ?_
  refine LWP.seq_k fun N3 hN3 => ?_
  refine LWP.region (l := [_,_,_]) ?_
  refine LWo.move (e_Limpl_Pair a0) rfl (hn := ?_)
  refine LWo.lenM (f := e_impl_Pair) (l := a0) u_Limpl_Pair rfl (hn := ?_)
  refine LWo.int _ rfl rfl rfl (hn := ?_)
  refine LWo.nil (hN3 _ ?_)
  refine LWP.cond_split rfl (fun h4 => ?_) (fun h4 => ?_)
  ·have h := bT h4 h
   refine LWP.seq_k fun N5 hN5 => ?_
   refine LWP.region (l := [_]) ?_
   refine LWo.assign _ rfl (hn := ?_)
   refine LWo.ownNil 2 1002 2 rfl rfl rfl ?_
   refine LWo.known 2 (.own 1002 0 ([] : (List S_impl_Pair)).length) rfl ?_
   refine LWo.nil (hN5 _ ?_)
   obtain rfl := Option.some.inj h
   refine LWP.ret (QG.mk (.inr rfl) (.cons (.tmp (x := (.own 1002 0 (([] : (List S_impl_Pair))).length)) rfl) (.nil)) (RetOK.one0 (.nwM rfl rfl) (by decide)) rfl rfl)
  ·have h := bF h4 h
   refine LWP.skip (hN2 _ ?_)
   refine LWP.seq_k fun N6 hN6 => ?_
   refine LWP.region (l := [_,_,_,_]) ?_
   refine LWo.move (e_Limpl_Pair a0) rfl (hn := ?_)
   refine bk h fun x7 e7 h => ?_
   refine LWo.appendC (f := e_impl_Pair) 1007 e7 u_Limpl_Pair u_Limpl_Pair (fun _ h => by cases h) i_impl_Pair rfl rfl (.sl rfl) (fun _ => rfl) rfl rfl (hn := ?_)
   refine bk h fun x8 e8 h => ?_
   refine LWo.tcallN (e := e_impl_Pair) (e' := e_impl_Pair) 1008 rfl rfl (c_slices_Clip_Limpl_Pair_impl_Pair_o _ _ e8) (fun _ => rfl) rfl rfl rfl rfl (hn := ?_)
   refine LWo.assign (.own 1008 0 (x8).length) rfl (hn := ?_)
   refine LWo.nil (hN6 _ ?_)
   obtain rfl := Option.some.inj h
   refine LWP.ret (QG.mk (.inr rfl) (.cons (.tmp (x := (.own 1008 0 (x8).length)) rfl) (.nil)) (RetOK.one0 (.nwM rfl rfl) (by decide)) rfl rfl)

instance : Inhabited S_impl_Pair := ⟨⟨0, 0⟩⟩
theorem xs_nan (a : Int) : m_cmp_isNaN_int a = some false := by unfold m_cmp_isNaN_int; simp
theorem xs_cmp (a b : Int) : m_cmp_Compare_int a b = some (if a < b then -1 else if b < a then 1 else 0) := by
  unfold m_cmp_Compare_int
  rw [xs_nan, xs_nan, Option.bind_some, Option.bind_some, cond_false, cond_false]
  by_cases h : a < b
  · rw [decide_eq_true h, if_pos h]; rfl
  · rw [decide_eq_false h, if_neg h, cond_false]
    by_cases h2 : b < a
    · rw [decide_eq_true (show a > b from h2), if_pos h2]; rfl
    · rw [decide_eq_false (show ¬ a > b from h2), if_neg h2]; rfl
theorem xs_or (a b : Int) : m_cmp_Or_int [a, b] = some (if a = 0 then b else a) := by
  unfold m_cmp_Or_int
  show m_cmp_Or_int_l1 3 0 [a, b] 2 0 = _
  by_cases h : a = 0
  · rw [if_pos h]
    subst h
    by_cases h2 : b = 0
    · subst h2; rfl
    · have e : (b != 0) = true := by simp [h2]
      show (bif b != 0 then some b else _) = _
      rw [e, cond_true]
  · have e : (a != 0) = true := by simp [h]
    rw [if_neg h]
    show (bif a != 0 then some a else _) = _
    rw [e, cond_true]
def cf_impl_Pair_order (a b : S_impl_Pair) : Int := (m_impl_Pair_order a b).getD 0
theorem tot_impl_Pair_order (a b : S_impl_Pair) : m_impl_Pair_order a b = some (cf_impl_Pair_order a b) := by
  unfold cf_impl_Pair_order m_impl_Pair_order
  rw [xs_cmp, Option.bind_some, xs_cmp, Option.bind_some, xs_or, Option.bind_some]
  rfl
theorem lt_impl_Pair_order (a b : S_impl_Pair) : cf_impl_Pair_order a b < 0 ↔ a.From < b.From ∨ (a.From = b.From ∧ a.To < b.To) := by
  unfold cf_impl_Pair_order m_impl_Pair_order
  rw [xs_cmp, Option.bind_some, xs_cmp, Option.bind_some, xs_or, Option.bind_some, Option.getD_some]
  constructor
  · intro h
    split at h <;> split at h <;> (try split at h) <;> (try split at h) <;> (try split at h) <;> omega
  · intro h
    split <;> split <;> (try split) <;> (try split) <;> (try split) <;> omega
theorem ord_impl_Pair_order : Order cf_impl_Pair_order where
  swo := by
    have h : ∀ x y : S_impl_Pair, Go.Proofs.ltOf cf_impl_Pair_order x y = true ↔ (x.From < y.From ∨ (x.From = y.From ∧ x.To < y.To)) := fun x y => by
      unfold Go.Proofs.ltOf
      rw [decide_eq_true_eq]
      exact lt_impl_Pair_order x y
    have h' : ∀ x y : S_impl_Pair, Go.Proofs.ltOf cf_impl_Pair_order x y = false ↔ ¬ (x.From < y.From ∨ (x.From = y.From ∧ x.To < y.To)) := fun x y => by
      rw [← h, Bool.not_eq_true]
    exact ⟨fun x => by rw [h']; omega, fun x y z => by rw [h, h, h]; omega, fun x y z => by rw [h', h', h']; omega⟩
  tot := by
    intro x y
    have h' : ∀ x y : S_impl_Pair, Go.Proofs.ltOf cf_impl_Pair_order x y = false ↔ ¬ (x.From < y.From ∨ (x.From = y.From ∧ x.To < y.To)) := fun x y => by
      rw [← lt_impl_Pair_order, ← decide_eq_false_iff_not]
      rfl
    rw [h', h']
    intro a b
    obtain ⟨x1, x2⟩ := x
    obtain ⟨y1, y2⟩ := y
    simp only at a b
    obtain rfl : x1 = y1 := by omega
    obtain rfl : x2 = y2 := by omega
    rfl

def ren_slices_SortFunc_Limpl_Pair_impl_Pair : Go.Shelf.Ren := ⟨fun n => match n with | 6 => 131 | 14 => 175 | 15 => 176 | 20 => 198 | 21 => 199 | 22 => 200 | 23 => 201 | 24 => 202 | 25 => 203 | 26 => 204 | 27 => 205 | 28 => 206 | 29 => 207 | 46 => 220 | 47 => 221 | 48 => 222 | 49 => 223 | 50 => 224 | 57 => 231 | _ => 0, fun n => match n with | 0 => 0 | 1 => 1 | 2 => 2 | 3 => 3 | 4 => 4 | 5 => 5 | 6 => 6 | 7 => 7 | 8 => 8 | 9 => 9 | 10 => 10 | 11 => 11 | 12 => 12 | 13 => 13 | 14 => 14 | 15 => 15 | 16 => 16 | 17 => 17 | 18 => 18 | 19 => 19 | 20 => 20 | 21 => 21 | 22 => 24 | 23 => 149 | 24 => 33 | 25 => 150 | 27 => 91 | 29 => 185 | 37 => 187 | 38 => 188 | 39 => 189 | 40 => 87 | 42 => 153 | 44 => 202 | 45 => 203 | 46 => 204 | 47 => 205 | 48 => 206 | 49 => 207 | 50 => 173 | 51 => 208 | 52 => 209 | 53 => 210 | 54 => 211 | 55 => 212 | 66 => 220 | 67 => 221 | 68 => 222 | 69 => 223 | 70 => 224 | 71 => 225 | 76 => 232 | 77 => 233 | 78 => 234 | 81 => 236 | 82 => 237 | 83 => 238 | 84 => 239 | 85 => 240 | 86 => 241 | 87 => 242 | 88 => 243 | 89 => 244 | 90 => 245 | 91 => 246 | 92 => 247 | 93 => 248 | 94 => 249 | 95 => 250 | 96 => 251 | _ => 0, fun n => n⟩
theorem lays_slices_SortFunc_Limpl_Pair_impl_Pair : Go.Proofs.SlLaysF0.n6 Try.prog ren_slices_SortFunc_Limpl_Pair_impl_Pair where
  mixed := mixed
  f6 := ⟨"slices.SortFunc[[]loop.example/tablehouse/impl.Pair,loop.example/tablehouse/impl.Pair]", by kernel_rfl, Try.func131.trans (by kernel_rfl)⟩
  f14 := ⟨"slices.pdqsortCmpFunc[loop.example/tablehouse/impl.Pair]", by kernel_rfl, Try.func175.trans (by kernel_rfl)⟩
  f15 := Try.func176.trans (by kernel_rfl)
  f20 := ⟨"slices.insertionSortCmpFunc[loop.example/tablehouse/impl.Pair]", by kernel_rfl, Try.func198.trans (by kernel_rfl)⟩
  f21 := ⟨"slices.heapSortCmpFunc[loop.example/tablehouse/impl.Pair]", by kernel_rfl, Try.func199.trans (by kernel_rfl)⟩
  f22 := ⟨"slices.breakPatternsCmpFunc[loop.example/tablehouse/impl.Pair]", by kernel_rfl, Try.func200.trans (by kernel_rfl)⟩
  f23 := ⟨"slices.choosePivotCmpFunc[loop.example/tablehouse/impl.Pair]", by kernel_rfl, Try.func201.trans (by kernel_rfl)⟩
  f24 := ⟨"slices.reverseRangeCmpFunc[loop.example/tablehouse/impl.Pair]", by kernel_rfl, Try.func202.trans (by kernel_rfl)⟩
  f25 := ⟨"slices.partialInsertionSortCmpFunc[loop.example/tablehouse/impl.Pair]", by kernel_rfl, Try.func203.trans (by kernel_rfl)⟩
  f26 := ⟨"slices.partitionEqualCmpFunc[loop.example/tablehouse/impl.Pair]", by kernel_rfl, Try.func204.trans (by kernel_rfl)⟩
  f27 := ⟨"slices.partitionCmpFunc[loop.example/tablehouse/impl.Pair]", by kernel_rfl, Try.func205.trans (by kernel_rfl)⟩
  f28 := Try.func206.trans (by kernel_rfl)
  f29 := Try.func207.trans (by kernel_rfl)
  f46 := ⟨"slices.siftDownCmpFunc[loop.example/tablehouse/impl.Pair]", by kernel_rfl, Try.func220.trans (by kernel_rfl)⟩
  f47 := Try.func221.trans (by kernel_rfl)
  f48 := Try.func222.trans (by kernel_rfl)
  f49 := ⟨"slices.medianAdjacentCmpFunc[loop.example/tablehouse/impl.Pair]", by kernel_rfl, Try.func223.trans (by kernel_rfl)⟩
  f50 := ⟨"slices.medianCmpFunc[loop.example/tablehouse/impl.Pair]", by kernel_rfl, Try.func224.trans (by kernel_rfl)⟩
  f57 := ⟨"slices.order2CmpFunc[loop.example/tablehouse/impl.Pair]", by kernel_rfl, Try.func231.trans (by kernel_rfl)⟩
  t0 := Try.underlying0
  a0 := Try.isAgg0
  z0 := Try.sizeOf0
  v0 := Try.zeroValue0
  t3 := Try.underlying3
  a3 := Try.isAgg3
  z3 := Try.sizeOf3
  v3 := Try.zeroValue3
  t4 := Try.underlying4
  a4 := Try.isAgg4
  z4 := Try.sizeOf4
  v4 := Try.zeroValue4
  t5 := Try.underlying5
  a5 := Try.isAgg5
  z5 := Try.sizeOf5
  v5 := Try.zeroValue5
  t9 := Try.underlying9
  a9 := Try.isAgg9
  z9 := Try.sizeOf9
  v9 := Try.zeroValue9
  t22 := Try.underlying24
  a22 := Try.isAgg24
  z22 := Try.sizeOf24
  v22 := Try.zeroValue24
  t25 := Try.underlying150
  a25 := Try.isAgg150
  z25 := Try.sizeOf150
  v25 := Try.zeroValue150
  t39 := Try.underlying189
  a39 := Try.isAgg189
  z39 := Try.sizeOf189
  v39 := Try.zeroValue189
  t45 := Try.underlying203
  a45 := Try.isAgg203
  z45 := Try.sizeOf203
  v45 := Try.zeroValue203
  t46 := Try.underlying204
  a46 := Try.isAgg204
  z46 := Try.sizeOf204
  v46 := Try.zeroValue204
  t50 := Try.underlying173
  a50 := Try.isAgg173
  z50 := Try.sizeOf173
  v50 := Try.zeroValue173
  t53 := Try.underlying210
  a53 := Try.isAgg210
  z53 := Try.sizeOf210
  v53 := Try.zeroValue210
  t55 := Try.underlying212
  a55 := Try.isAgg212
  z55 := Try.sizeOf212
  v55 := Try.zeroValue212
  t66 := Try.underlying220
  a66 := Try.isAgg220
  z66 := Try.sizeOf220
  v66 := Try.zeroValue220
  t70 := Try.underlying224
  a70 := Try.isAgg224
  z70 := Try.sizeOf224
  v70 := Try.zeroValue224
  t76 := Try.underlying232
  a76 := Try.isAgg232
  z76 := Try.sizeOf232
  v76 := Try.zeroValue232
  t77 := Try.underlying233
  a77 := Try.isAgg233
  z77 := Try.sizeOf233
  v77 := Try.zeroValue233
def enc_slices_SortFunc_Limpl_Pair_impl_Pair (v : S_impl_Pair) : List Value := [.int .i64 v.From, .int .i64 v.To]
def m_slices_SortFunc_Limpl_Pair_impl_Pair_by_impl_Pair_order (o0 : List S_impl_Pair) : Option (List S_impl_Pair) := if o0.length < 4000000000000000000 then some (o0.mergeSort fun x y => !decide (cf_impl_Pair_order y x < 0)) else none
set_option maxRecDepth 100000 in
theorem c_slices_SortFunc_Limpl_Pair_impl_Pair_by_impl_Pair_order (o0 : List S_impl_Pair) (r : List S_impl_Pair) (h : m_slices_SortFunc_Limpl_Pair_impl_Pair_by_impl_Pair_order o0 = some r) : Does Try.prog f_slices_SortFunc_Limpl_Pair_impl_Pair [.own 0 0 o0.length, .clo f_impl_Pair_order []] [(0, lob 2 e_impl_Pair o0)] (fun x hh => x = .tup [] ∧ hh = [(0, lob 2 e_impl_Pair r)]) := by
  unfold m_slices_SortFunc_Limpl_Pair_impl_Pair_by_impl_Pair_order at h
  split at h
  · rename_i hl
    cases h
    exact sortFunc_does lays_slices_SortFunc_Limpl_Pair_impl_Pair e_impl_Pair enc_slices_SortFunc_Limpl_Pair_impl_Pair 2 (by decide) (fun _ => rfl) (fun _ => rfl) (fun x v hv => by simp only [enc_slices_SortFunc_Limpl_Pair_impl_Pair, List.mem_cons, List.mem_nil_iff, or_false] at hv; rcases hv with rfl | rfl <;> rfl) (by intros; kernel_rfl) (by intros; kernel_rfl) cf_impl_Pair_order ord_impl_Pair_order f_impl_Pair_order [] rfl (fun a b => c_impl_Pair_order a b _ (tot_impl_Pair_order a b)) o0 (by omega)
  · cases h
theorem k_slices_SortFunc_Limpl_Pair_impl_Pair_by_impl_Pair_order (o0 : List S_impl_Pair) (r : List S_impl_Pair) (h : m_slices_SortFunc_Limpl_Pair_impl_Pair_by_impl_Pair_order o0 = some r) (k : Nat) : Does Try.prog f_slices_SortFunc_Limpl_Pair_impl_Pair [.own k 0 o0.length, .clo f_impl_Pair_order []] [(k, lob 2 e_impl_Pair o0)] (fun x hh => x = .tup [] ∧ hh = [(k, lob 2 e_impl_Pair r)]) :=
  Does.nameO (c_slices_SortFunc_Limpl_Pair_impl_Pair_by_impl_Pair_order o0 r h) (fun _ => rfl) k


def m_slices_Compact_Limpl_Pair_impl_Pair_j4 (o1000 : (List S_impl_Pair)) : Option (List S_impl_Pair) :=
  some o1000
def m_slices_Compact_Limpl_Pair_impl_Pair_j3 (k1 : Int → (List S_impl_Pair) → Option (List S_impl_Pair)) (t3 : Int) (o1000 : (List S_impl_Pair)) : Option (List S_impl_Pair) :=
  (ckI (t3 + (1 : Int))).bind fun x51 =>
  k1 x51 o1000
def m_slices_Compact_Limpl_Pair_impl_Pair_j2 (k1 : Int → (List S_impl_Pair) → Option (List S_impl_Pair)) (t3 : Int) (o1000 : (List S_impl_Pair)) : Option (List S_impl_Pair) :=
  (rng? t3 ((o1000).length : Int) ((o1000).length)).bind fun u47 =>
  (rng? (0 : Int) t3 ((o1000).length)).bind fun u49 =>
  (leN ((t3).toNat) (o1000.take (0 + (t3).toNat)).length).bind fun u50 =>
  some ((o1000.take (0 + (t3).toNat)).take ((t3).toNat))
def m_slices_Compact_Limpl_Pair_impl_Pair_j1 (k1 : Int → (List S_impl_Pair) → Option (List S_impl_Pair)) (k2 : Int → Nat → Nat → Int → (List S_impl_Pair) → Option (List S_impl_Pair)) (t3 : Int) (t4o : Nat) (t4n : Nat) (t5 : Int) (o1000 : (List S_impl_Pair)) : Option (List S_impl_Pair) :=
  (ckI (t5 + (1 : Int))).bind fun x45 =>
  k2 t3 t4o t4n x45 o1000
def m_slices_Compact_Limpl_Pair_impl_Pair_l2 (k1 : Int → (List S_impl_Pair) → Option (List S_impl_Pair)) : Nat → Int → Nat → Nat → Int → (List S_impl_Pair) → Option (List S_impl_Pair)
  | 0, _, _, _, _, _ => none
  | n2 + 1, t3, t4o, t4n, t5, o1000 =>
    bif decide (t5 < ((t4n : Nat) : Int)) then ((atc? o1000 t4o t4n t5).bind fun x32 =>
    (at? o1000 ((t4o + (t5).toNat : Nat) : Int)).bind fun x33 =>
    (ckI (t5 - (1 : Int))).bind fun x34 =>
    (atc? o1000 t4o t4n x34).bind fun x35 =>
    (at? o1000 ((t4o + (x34).toNat : Nat) : Int)).bind fun x36 =>
    bif (!(decide (x33 = x36))) then ((atc? o1000 t4o t4n t5).bind fun x39 =>
      (at? o1000 ((t4o + (t5).toNat : Nat) : Int)).bind fun x40 =>
      (at? o1000 t3).bind fun x41 =>
      (at? o1000 t3).bind fun x42 =>
      lt (x40) fun y43 =>
      (ckI (t3 + (1 : Int))).bind fun x44 =>
      m_slices_Compact_Limpl_Pair_impl_Pair_j1  k1 (m_slices_Compact_Limpl_Pair_impl_Pair_l2  k1 n2) x44 t4o t4n t5 (o1000.set (t3).toNat y43))
    else (m_slices_Compact_Limpl_Pair_impl_Pair_j1  k1 (m_slices_Compact_Limpl_Pair_impl_Pair_l2  k1 n2) t3 t4o t4n t5 o1000))
    else (m_slices_Compact_Limpl_Pair_impl_Pair_j2  k1 t3 o1000)
def m_slices_Compact_Limpl_Pair_impl_Pair_l1 : Nat → Int → (List S_impl_Pair) → Option (List S_impl_Pair)
  | 0, _, _ => none
  | n1 + 1, t3, o1000 =>
    bif decide (t3 < (o1000.length : Int)) then ((at? o1000 t3).bind fun x15 =>
    (at? o1000 t3).bind fun x16 =>
    (ckI (t3 - (1 : Int))).bind fun x17 =>
    (at? o1000 x17).bind fun x18 =>
    (at? o1000 x17).bind fun x19 =>
    bif (decide (x16 = x19)) then ((rng? t3 ((o1000).length : Int) ((o1000).length)).bind fun u22 =>
      m_slices_Compact_Limpl_Pair_impl_Pair_l2  (m_slices_Compact_Limpl_Pair_impl_Pair_l1  n1) ((((((o1000).length - (t3).toNat) : Nat) : Int) - (1 : Int)).toNat + 1) t3 (0 + (t3).toNat) ((o1000).length - (t3).toNat) (1 : Int) o1000)
    else (m_slices_Compact_Limpl_Pair_impl_Pair_j3  (m_slices_Compact_Limpl_Pair_impl_Pair_l1  n1) t3 o1000))
    else (m_slices_Compact_Limpl_Pair_impl_Pair_j4  o1000)
def m_slices_Compact_Limpl_Pair_impl_Pair (o0 : (List S_impl_Pair)) : Option (List S_impl_Pair) :=
  bif decide ((o0.length : Int) < (2 : Int)) then (some o0)
  else (m_slices_Compact_Limpl_Pair_impl_Pair_l1  (((o0.length : Int) - (1 : Int)).toNat + 1) (1 : Int) o0)
theorem c_slices_Compact_Limpl_Pair_impl_Pair (o0 : (List S_impl_Pair)) (r : (List S_impl_Pair)) (h : m_slices_Compact_Limpl_Pair_impl_Pair o0 = some r) : Does Try.prog f_slices_Compact_Limpl_Pair_impl_Pair [.own 0 0 o0.length] [(0, (lob 2 e_impl_Pair o0))] (fun x hh => x = .nw 2 (r.map e_impl_Pair) false ∧ hh = []) := by
  refine Does.goG [0] F_slices_Compact_Limpl_Pair_impl_Pair rfl e_slices_Compact_Limpl_Pair_impl_Pair n_slices_Compact_Limpl_Pair_impl_Pair rfl (rvs := [.tmp 2]) rfl rfl ?_
  intro w0 ok0 lent ρ0
  refine LWP.rekey 0 0 1000 rfl rfl rfl rfl rfl rfl ?_
  refine LWP.tell [(0, (.own 1000 0 (o0).length))] [(1000, (lob 2 e_impl_Pair o0))] ⟨rfl, trivial⟩ ⟨rfl, trivial⟩ (by simp [hkeys]) ?_
  refine LWP.seq_k fun N1 hN1 => ?_
  refine LWP.region (l := [_]) ?_
  refine LWo.assign _ rfl (hn := ?_)
  refine LWo.ownNil 2 1002 2 rfl rfl rfl ?_
  refine LWo.known 2 (.own 1002 0 ([] : (List S_impl_Pair)).length) rfl ?_
  refine LWo.nil (hN1 _ ?_)
  refine LWP.seq_k fun N2 hN2 => ?_
  refine LWP.seq_k fun N3 hN3 => ?_
  refine LWP.region (l := [_,_,_]) ?_
  refine LWo.move (.own 1000 0 (o0).length) rfl (hn := ?_)
  refine LWo.lenO u_Limpl_Pair rfl (hn := ?_)
  refine LWo.int _ rfl rfl rfl (hn := ?_)
  refine LWo.nil (hN3 _ ?_)
  refine LWP.cond_split rfl (fun h4 => ?_) (fun h4 => ?_)
  ·have h := bT h4 h
   refine LWP.seq_k fun N5 hN5 => ?_
   refine LWP.region (l := [_,_]) ?_
   refine LWo.move (.own 1000 0 (o0).length) rfl (hn := ?_)
   refine LWo.assign (.own 1000 0 (o0).length) rfl (hn := ?_)
   refine LWo.nil (hN5 _ ?_)
   obtain rfl := Option.some.inj h
   refine LWP.ret (QG.mk (.inr rfl) (.cons (.tmp (x := (.own 1000 0 (o0).length)) rfl) (.nil)) (RetOK.one0 (.nwM rfl rfl) (by decide)) rfl rfl)
  ·have h := bF h4 h
   refine LWP.skip (hN2 _ ?_)
   refine LWP.join (α := (List S_impl_Pair)) (fun z : (List S_impl_Pair) => [(0, (.own 1000 0 (z).length))]) (fun z : (List S_impl_Pair) => [(1000, (lob 2 e_impl_Pair z))]) (fun z : (List S_impl_Pair) => m_slices_Compact_Limpl_Pair_impl_Pair_j4  z) r (fun _ => by simp [hkeys]) ?_ ?_
   ·rintro o1000 h
    replace h : m_slices_Compact_Limpl_Pair_impl_Pair_j4  o1000 = some _ := h
    refine LWP.seq_k fun N52 hN52 => ?_
    refine LWP.region (l := [_,_]) ?_
    refine LWo.move (.own 1000 0 (o1000).length) rfl (hn := ?_)
    refine LWo.assign (.own 1000 0 (o1000).length) rfl (hn := ?_)
    refine LWo.nil (hN52 _ ?_)
    obtain rfl := Option.some.inj h
    refine LWP.ret (QG.mk (.inr rfl) (.cons (.tmp (x := (.own 1000 0 (o1000).length)) rfl) (.nil)) (RetOK.one0 (.nwM rfl rfl) (by decide)) rfl rfl)
   ·intro N6 hN6
    refine LWP.seq_k fun N7 hN7 => ?_
    refine LWP.region (l := [_]) ?_
    refine LWo.assign (e_int (1 : Int)) rfl (hn := ?_)
    refine LWo.nil (hN7 _ ?_)
    refine LWP.block ?_
    refine LWP.loopM (α := Int × (List S_impl_Pair)) (fun z : Int × (List S_impl_Pair) => [(0, (.own 1000 0 (z.2).length)), (3, (e_int z.1))]) (fun z : Int × (List S_impl_Pair) => [(1000, (lob 2 e_impl_Pair z.2))]) (fun n1 (z : Int × (List S_impl_Pair)) => m_slices_Compact_Limpl_Pair_impl_Pair_l1  n1 z.1 z.2) r _ ((1 : Int), o0) h (fun _ => rfl) (fun _ => by simp [hkeys]) ⟨rfl, rfl, trivial⟩ ⟨rfl, trivial⟩ ?_
    rintro n1 ⟨t3, o1000⟩ h N8 hN8
    replace h : m_slices_Compact_Limpl_Pair_impl_Pair_l1  (n1 + 1) t3 o1000 = some _ := h
    refine LWP.seq_k fun N10 hN10 => ?_
    refine LWP.seq_k fun N11 hN11 => ?_
    refine LWP.region (l := [_,_,_,_]) ?_
    refine LWo.move (e_int t3) rfl (hn := ?_)
    refine LWo.move (.own 1000 0 (o1000).length) rfl (hn := ?_)
    refine LWo.lenO u_Limpl_Pair rfl (hn := ?_)
    refine LWo.int _ rfl rfl rfl (hn := ?_)
    refine LWo.nil (hN11 _ ?_)
    refine LWP.cond_split rfl (fun h12 => ?_) (fun h12 => ?_)
    ·have h := bT h12 h
     refine LWP.skip (hN10 _ ?_)
     refine LWP.join (α := Int × (List S_impl_Pair)) (fun z : Int × (List S_impl_Pair) => [(0, (.own 1000 0 (z.2).length)), (3, (e_int z.1))]) (fun z : Int × (List S_impl_Pair) => [(1000, (lob 2 e_impl_Pair z.2))]) (fun z : Int × (List S_impl_Pair) => m_slices_Compact_Limpl_Pair_impl_Pair_j3  (m_slices_Compact_Limpl_Pair_impl_Pair_l1  n1) z.1 z.2) r (fun _ => by simp [hkeys]) ?_ ?_
     ·rintro ⟨t3, o1000⟩ h
      replace h : m_slices_Compact_Limpl_Pair_impl_Pair_j3  (m_slices_Compact_Limpl_Pair_impl_Pair_l1  n1) t3 o1000 = some _ := h
      refine LWP.region (l := [_,_,_]) ?_
      refine LWo.move (e_int t3) rfl (hn := ?_)
      refine bk h fun x51 e51 h => ?_
      refine LWo.int _ rfl rfl (add_ck e51) (hn := ?_)
      refine LWo.assign (e_int x51) rfl (hn := ?_)
      refine LWo.nil (hN8 (x51, o1000) _ ⟨rfl, rfl, trivial⟩ ⟨rfl, trivial⟩ h)
     ·intro N13 hN13
      refine LWP.block ?_
      refine LWP.seq_k fun N14 hN14 => ?_
      refine bk h fun x15 e15 h => ?_
      refine bk h fun x16 e16 h => ?_
      refine bk h fun x17 e17 h => ?_
      refine bk h fun x18 e18 h => ?_
      refine bk h fun x19 e19 h => ?_
      refine LWP.drawF (l := [_,_,_,_,_,_,_,_,_,_]) [] [0, 3] [([0], []), ([3], []), ([16, 17], [1000]), ([18], [1000]), ([0], []), ([3], []), ([21], []), ([20, 22], [1000]), ([23], [1000]), ([19, 24], [])] [0, 3, 25] [1000] mixed (by kernel_rfl) rfl (by decide) ?_
      refine dq 16 rfl (fun _ g u h => LWo.move (.own 1000 0 (o1000).length) u.1 (hn := .nil (zn g))) ?_
      refine dq 17 rfl (fun _ g u h => LWo.move (e_int t3) u.1 (hn := .nil (zn g))) ?_
      refine dq 18 rfl (fun _ g u h => LWo.indexO e15 rfl u_Limpl_Pair s_impl_Pair u.1 u.2.1 h.1 (hn := .nil (zn g))) ?_
      refine dq 19 rfl (fun _ g u h => LWo.loadON ((e_impl_Pair x16)).cells e16 g_impl_Pair s_impl_Pair u.1 h.1 rfl rfl (hn := .nil (zn g))) ?_
      refine dq 20 rfl (fun _ g u h => LWo.move (.own 1000 0 (o1000).length) u.1 (hn := .nil (zn g))) ?_
      refine dq 21 rfl (fun _ g u h => LWo.move (e_int t3) u.1 (hn := .nil (zn g))) ?_
      refine dq 22 rfl (fun _ g u h => LWo.int _ u.1 rfl (sub_ck e17) (hn := .nil (zn g))) ?_
      refine dq 23 rfl (fun _ g u h => LWo.indexO e18 rfl u_Limpl_Pair s_impl_Pair u.1 u.2.1 h.1 (hn := .nil (zn g))) ?_
      refine dq 24 rfl (fun _ g u h => LWo.loadON ((e_impl_Pair x19)).cells e19 g_impl_Pair s_impl_Pair u.1 h.1 rfl rfl (hn := .nil (zn g))) ?_
      refine dq 25 rfl (fun _ g u h => LWo.eq_impl_Pair _ _ u.1 u.2.1 (hn := .nil (zn g))) ?_
      refine ⟨rfl, by kernel_rfl, hN14 _ ?_⟩
      refine LWP.cond_split rfl (fun h20 => ?_) (fun h20 => ?_)
      ·have h := bT h20 h
       refine LWP.seq_k fun N21 hN21 => ?_
       refine LWP.region (l := [_,_,_,_]) ?_
       refine LWo.move (.own 1000 0 (o1000).length) rfl (hn := ?_)
       refine LWo.move (e_int t3) rfl (hn := ?_)
       refine bk h fun u22 e22 h => ?_
       refine LWo.cutOM e22 u_Limpl_Pair s_impl_Pair rfl rfl ⟨_, rfl⟩ rfl (hn := ?_)
       refine LWo.assign (.own 1000 (0 + (t3).toNat) ((o1000).length - (t3).toNat)) rfl (hn := ?_)
       refine LWo.nil (hN21 _ ?_)
       refine LWP.join (α := Int × (List S_impl_Pair)) (fun z : Int × (List S_impl_Pair) => [(0, (.own 1000 0 (z.2).length)), (3, (e_int z.1))]) (fun z : Int × (List S_impl_Pair) => [(1000, (lob 2 e_impl_Pair z.2))]) (fun z : Int × (List S_impl_Pair) => m_slices_Compact_Limpl_Pair_impl_Pair_j2  (m_slices_Compact_Limpl_Pair_impl_Pair_l1  n1) z.1 z.2) r (fun _ => by simp [hkeys]) ?_ ?_
       ·rintro ⟨t3, o1000⟩ h
        replace h : m_slices_Compact_Limpl_Pair_impl_Pair_j2  (m_slices_Compact_Limpl_Pair_impl_Pair_l1  n1) t3 o1000 = some _ := h
        refine LWP.seq_k fun N46 hN46 => ?_
        refine LWP.region (l := [_,_,_,_]) ?_
        refine LWo.move (.own 1000 0 (o1000).length) rfl (hn := ?_)
        refine LWo.move (e_int t3) rfl (hn := ?_)
        refine bk h fun u47 e47 h => ?_
        refine LWo.cutOM e47 u_Limpl_Pair s_impl_Pair rfl rfl ⟨_, rfl⟩ rfl (hn := ?_)
        refine LWo.clearO (f := e_impl_Pair) (l := o1000) none u_Limpl_Pair z_impl_Pair rfl rfl rfl rfl rfl (hn := ?_)
        refine LWo.nil (hN46 _ ?_)
        refine LWP.seq_k fun N48 hN48 => ?_
        refine LWP.region (l := [_,_,_,_]) ?_
        refine LWo.move (.own 1000 0 ((o1000).length)) rfl (hn := ?_)
        refine LWo.move (e_int t3) rfl (hn := ?_)
        refine bk h fun u49 e49 h => ?_
        refine LWo.cutOM e49 u_Limpl_Pair s_impl_Pair rfl rfl rfl ⟨_, rfl⟩ (hn := ?_)
        refine LWo.assign (.own 1000 0 ((t3).toNat)) rfl (hn := ?_)
        refine LWo.nil (hN48 _ ?_)
        refine bk h fun u50 e50 h => ?_
        obtain rfl := Option.some.inj h
        refine LWP.ret (QG.mk (.inr rfl) (.cons (.tmp (x := (.own 1000 0 ((t3).toNat))) rfl) (.nil)) (RetOK.one0 (.nwT (leN_b e50) rfl) (by decide)) rfl rfl)
       ·intro N23 hN23
        refine LWP.seq_k fun N24 hN24 => ?_
        refine LWP.region (l := [_]) ?_
        refine LWo.assign (e_int (1 : Int)) rfl (hn := ?_)
        refine LWo.nil (hN24 _ ?_)
        refine LWP.block ?_
        refine LWP.loopM (α := Int × Nat × Nat × Int × (List S_impl_Pair)) (fun z : Int × Nat × Nat × Int × (List S_impl_Pair) => [(0, (.own 1000 0 (z.2.2.2.2).length)), (3, (e_int z.1)), (4, (.own 1000 z.2.1 z.2.2.1)), (5, (e_int z.2.2.2.1))]) (fun z : Int × Nat × Nat × Int × (List S_impl_Pair) => [(1000, (lob 2 e_impl_Pair z.2.2.2.2))]) (fun n2 (z : Int × Nat × Nat × Int × (List S_impl_Pair)) => m_slices_Compact_Limpl_Pair_impl_Pair_l2  (m_slices_Compact_Limpl_Pair_impl_Pair_l1  n1) n2 z.1 z.2.1 z.2.2.1 z.2.2.2.1 z.2.2.2.2) r _ (t3, (0 + (t3).toNat), ((o1000).length - (t3).toNat), (1 : Int), o1000) h (fun _ => rfl) (fun _ => by simp [hkeys]) ⟨rfl, rfl, rfl, rfl, trivial⟩ ⟨rfl, trivial⟩ ?_
        rintro n2 ⟨t3, t4o, t4n, t5, o1000⟩ h N25 hN25
        replace h : m_slices_Compact_Limpl_Pair_impl_Pair_l2  (m_slices_Compact_Limpl_Pair_impl_Pair_l1  n1) (n2 + 1) t3 t4o t4n t5 o1000 = some _ := h
        refine LWP.seq_k fun N27 hN27 => ?_
        refine LWP.seq_k fun N28 hN28 => ?_
        refine LWP.region (l := [_,_,_,_]) ?_
        refine LWo.move (e_int t5) rfl (hn := ?_)
        refine LWo.move (.own 1000 t4o t4n) rfl (hn := ?_)
        refine LWo.lenO u_Limpl_Pair rfl (hn := ?_)
        refine LWo.int _ rfl rfl rfl (hn := ?_)
        refine LWo.nil (hN28 _ ?_)
        refine LWP.cond_split rfl (fun h29 => ?_) (fun h29 => ?_)
        ·have h := bT h29 h
         refine LWP.skip (hN27 _ ?_)
         refine LWP.join (α := Int × Nat × Nat × Int × (List S_impl_Pair)) (fun z : Int × Nat × Nat × Int × (List S_impl_Pair) => [(0, (.own 1000 0 (z.2.2.2.2).length)), (3, (e_int z.1)), (4, (.own 1000 z.2.1 z.2.2.1)), (5, (e_int z.2.2.2.1))]) (fun z : Int × Nat × Nat × Int × (List S_impl_Pair) => [(1000, (lob 2 e_impl_Pair z.2.2.2.2))]) (fun z : Int × Nat × Nat × Int × (List S_impl_Pair) => m_slices_Compact_Limpl_Pair_impl_Pair_j1  (m_slices_Compact_Limpl_Pair_impl_Pair_l1  n1) (m_slices_Compact_Limpl_Pair_impl_Pair_l2  (m_slices_Compact_Limpl_Pair_impl_Pair_l1  n1) n2) z.1 z.2.1 z.2.2.1 z.2.2.2.1 z.2.2.2.2) r (fun _ => by simp [hkeys]) ?_ ?_
         ·rintro ⟨t3, t4o, t4n, t5, o1000⟩ h
          replace h : m_slices_Compact_Limpl_Pair_impl_Pair_j1  (m_slices_Compact_Limpl_Pair_impl_Pair_l1  n1) (m_slices_Compact_Limpl_Pair_impl_Pair_l2  (m_slices_Compact_Limpl_Pair_impl_Pair_l1  n1) n2) t3 t4o t4n t5 o1000 = some _ := h
          refine LWP.region (l := [_,_,_]) ?_
          refine LWo.move (e_int t5) rfl (hn := ?_)
          refine bk h fun x45 e45 h => ?_
          refine LWo.int _ rfl rfl (add_ck e45) (hn := ?_)
          refine LWo.assign (e_int x45) rfl (hn := ?_)
          refine LWo.nil (hN25 (t3, t4o, t4n, x45, o1000) _ ⟨rfl, rfl, rfl, rfl, trivial⟩ ⟨rfl, trivial⟩ h)
         ·intro N30 hN30
          refine LWP.block ?_
          refine LWP.seq_k fun N31 hN31 => ?_
          refine bk h fun x32 e32 h => ?_
          refine bk h fun x33 e33 h => ?_
          refine bk h fun x34 e34 h => ?_
          refine bk h fun x35 e35 h => ?_
          refine bk h fun x36 e36 h => ?_
          refine LWP.drawF (l := [_,_,_,_,_,_,_,_,_,_]) [] [0, 3, 4, 5] [([4], []), ([5], []), ([35, 36], [1000]), ([37], [1000]), ([4], []), ([5], []), ([40], []), ([39, 41], [1000]), ([42], [1000]), ([38, 43], [])] [0, 3, 4, 5, 44] [1000] mixed (by kernel_rfl) rfl (by decide) ?_
          refine dq 35 rfl (fun _ g u h => LWo.move (.own 1000 t4o t4n) u.1 (hn := .nil (zn g))) ?_
          refine dq 36 rfl (fun _ g u h => LWo.move (e_int t5) u.1 (hn := .nil (zn g))) ?_
          refine dq 37 rfl (fun _ g u h => LWo.indexOC e32 u_Limpl_Pair s_impl_Pair u.1 u.2.1 h.1 (hn := .nil (zn g))) ?_
          refine dq 38 rfl (fun _ g u h => LWo.loadON ((e_impl_Pair x33)).cells e33 g_impl_Pair s_impl_Pair u.1 h.1 rfl rfl (hn := .nil (zn g))) ?_
          refine dq 39 rfl (fun _ g u h => LWo.move (.own 1000 t4o t4n) u.1 (hn := .nil (zn g))) ?_
          refine dq 40 rfl (fun _ g u h => LWo.move (e_int t5) u.1 (hn := .nil (zn g))) ?_
          refine dq 41 rfl (fun _ g u h => LWo.int _ u.1 rfl (sub_ck e34) (hn := .nil (zn g))) ?_
          refine dq 42 rfl (fun _ g u h => LWo.indexOC e35 u_Limpl_Pair s_impl_Pair u.1 u.2.1 h.1 (hn := .nil (zn g))) ?_
          refine dq 43 rfl (fun _ g u h => LWo.loadON ((e_impl_Pair x36)).cells e36 g_impl_Pair s_impl_Pair u.1 h.1 rfl rfl (hn := .nil (zn g))) ?_
          refine dq 44 rfl (fun _ g u h => LWo.ne_impl_Pair _ _ u.1 u.2.1 (hn := .nil (zn g))) ?_
          refine ⟨rfl, by kernel_rfl, hN31 _ ?_⟩
          refine LWP.cond_split rfl (fun h37 => ?_) (fun h37 => ?_)
          ·have h := bT h37 h
           refine LWP.seq_k fun N38 hN38 => ?_
           refine LWP.region (l := [_,_,_,_,_,_,_,_]) ?_
           refine LWo.move (.own 1000 0 (o1000).length) rfl (hn := ?_)
           refine LWo.move (e_int t3) rfl (hn := ?_)
           refine LWo.move (.own 1000 t4o t4n) rfl (hn := ?_)
           refine LWo.move (e_int t5) rfl (hn := ?_)
           refine bk h fun x39 e39 h => ?_
           refine LWo.indexOC e39 u_Limpl_Pair s_impl_Pair rfl rfl rfl (hn := ?_)
           refine bk h fun x40 e40 h => ?_
           refine LWo.loadON ((e_impl_Pair x40)).cells e40 g_impl_Pair s_impl_Pair rfl rfl rfl rfl (hn := ?_)
           refine bk h fun x41 e41 h => ?_
           refine LWo.indexO e41 rfl u_Limpl_Pair s_impl_Pair rfl rfl rfl (hn := ?_)
           refine bk h fun x42 e42 h => ?_
           refine lk h fun y43 e43 h => ?_
           refine LWo.storeO y43 e42 s_impl_Pair rfl rfl rfl rfl rfl rfl rfl (by rw [e43]; rfl) (hn := ?_)
           refine LWo.nil (hN38 _ ?_)
           refine LWP.region (l := [_,_,_]) ?_
           refine LWo.move (e_int t3) rfl (hn := ?_)
           refine bk h fun x44 e44 h => ?_
           refine LWo.int _ rfl rfl (add_ck e44) (hn := ?_)
           refine LWo.assign (e_int x44) rfl (hn := ?_)
           refine LWo.nil (hN30 (x44, t4o, t4n, t5, (o1000.set (t3).toNat y43)) _ ⟨(congrArg (LV.own 1000 0) List.length_set.symm), rfl, rfl, rfl, trivial⟩ ⟨rfl, trivial⟩ h)
          ·have h := bF h37 h
           refine LWP.skip (hN30 (t3, t4o, t4n, t5, o1000) _ ⟨rfl, rfl, rfl, rfl, trivial⟩ ⟨rfl, trivial⟩ h)
        ·have h := bF h29 h
         refine LWP.exit (hN23 (t3, o1000) _ ⟨rfl, rfl, trivial⟩ ⟨rfl, trivial⟩ h)
      ·have h := bF h20 h
       refine LWP.skip (hN13 (t3, o1000) _ ⟨rfl, rfl, trivial⟩ ⟨rfl, trivial⟩ h)
    ·have h := bF h12 h
     refine LWP.exit (hN6 o1000 _ ⟨rfl, trivial⟩ ⟨rfl, trivial⟩ h)

def m_impl_pairs (o0 : (List S_impl_Pair)) : Option (List S_impl_Pair) :=
  (m_slices_SortFunc_Limpl_Pair_impl_Pair_by_impl_Pair_order o0).bind fun x3 =>
  (lenQ x3.length o0.length ()).bind fun u4 =>
  (m_slices_Compact_Limpl_Pair_impl_Pair x3).bind fun x6 =>
  (m_impl_clone_impl_Pair x6).bind fun x7 =>
  some x7
theorem c_impl_pairs (o0 : (List S_impl_Pair)) (r : (List S_impl_Pair)) (h : m_impl_pairs o0 = some r) : Does Try.prog f_impl_pairs [.own 0 0 o0.length] [(0, (lob 2 e_impl_Pair o0))] (fun x hh => x = .nw 2 (r.map e_impl_Pair) false ∧ hh = []) := by
  refine Does.goG [0] F_impl_pairs rfl e_impl_pairs n_impl_pairs rfl (rvs := [.tmp 2]) rfl rfl ?_
  intro w0 ok0 lent ρ0
  refine LWP.rekey 0 0 1000 rfl rfl rfl rfl rfl rfl ?_
  refine LWP.tell [(0, (.own 1000 0 (o0).length))] [(1000, (lob 2 e_impl_Pair o0))] ⟨rfl, trivial⟩ ⟨rfl, trivial⟩ (by simp [hkeys]) ?_
  refine LWP.seq_k fun N1 hN1 => ?_
  refine LWP.region (l := [_]) ?_
  refine LWo.assign _ rfl (hn := ?_)
  refine LWo.ownNil 2 1002 2 rfl rfl rfl ?_
  refine LWo.known 2 (.own 1002 0 ([] : (List S_impl_Pair)).length) rfl ?_
  refine LWo.nil (hN1 _ ?_)
  refine LWP.seq_k fun N2 hN2 => ?_
  refine LWP.region (l := [_,_]) ?_
  refine LWo.move (.own 1000 0 (o0).length) rfl (hn := ?_)
  refine bk h fun x3 e3 h => ?_
  refine bk h fun u4 e4 h => ?_
  refine LWo.ucallM (e := e_impl_Pair) rfl rfl (k_slices_SortFunc_Limpl_Pair_impl_Pair_by_impl_Pair_order _ _ e3 1000) rfl rfl (some 4) rfl (hn := ?_)
  refine LWo.nil (hN2 _ ?_)
  refine LWP.seq_k fun N5 hN5 => ?_
  refine LWP.region (l := [_,_,_,_]) ?_
  refine LWo.move (.own 1000 0 (o0).length) rfl (hn := ?_)
  refine bk h fun x6 e6 h => ?_
  refine LWo.tcallN (e := e_impl_Pair) (e' := e_impl_Pair) 1006 rfl rfl (c_slices_Compact_Limpl_Pair_impl_Pair _ _ e6) (fun _ => rfl) rfl ((lenQ_some e4).1.symm) rfl rfl (hn := ?_)
  refine bk h fun x7 e7 h => ?_
  refine LWo.frzL (f := e_impl_Pair) (l := x6) [6] 1006 rfl rfl ⟨rfl, trivial⟩ ?_
  refine LWo.ncall (e := e_impl_Pair) 1007 rfl rfl (c_impl_clone_impl_Pair _ _ e7) (.same (.nil)) rfl (hn := ?_)
  refine LWo.assign (.own 1007 0 (x7).length) rfl (hn := ?_)
  refine LWo.nil (hN5 _ ?_)
  obtain rfl := Option.some.inj h
  refine LWP.ret (QG.mk (.inr rfl) (.cons (.tmp (x := (.own 1007 0 (x7).length)) rfl) (.nil)) (RetOK.one0 (.nwM rfl rfl) (by decide)) rfl rfl)

def m_impl_joined_j3 (o1005 : (List S_impl_Pair)) : Option (List S_impl_Pair) :=
  (m_impl_pairs o1005).bind fun x30 =>
  some x30
def m_impl_joined_j2 (k1 : (List S_impl_Pair) → (List S_impl_Pair) → Int → Int → (List S_impl_Pair) → Option (List S_impl_Pair)) (t1 : (List S_impl_Pair)) (t10 : (List S_impl_Pair)) (t11 : Int) (t12 : Int) (o1005 : (List S_impl_Pair)) : Option (List S_impl_Pair) :=
  (ckI (t12 + (1 : Int))).bind fun x28 =>
  k1 t1 t10 t11 x28 o1005
def m_impl_joined_j1 (k1 : (List S_impl_Pair) → (List S_impl_Pair) → Int → Int → (List S_impl_Pair) → Option (List S_impl_Pair)) (k2 : (List S_impl_Pair) → (List S_impl_Pair) → Int → Int → (List S_impl_Pair) → Int → Int → S_impl_Pair → (List S_impl_Pair) → Option (List S_impl_Pair)) (t1 : (List S_impl_Pair)) (t10 : (List S_impl_Pair)) (t11 : Int) (t12 : Int) (t16 : (List S_impl_Pair)) (t17 : Int) (t18 : Int) (o7 : S_impl_Pair) (o1005 : (List S_impl_Pair)) : Option (List S_impl_Pair) :=
  (ckI (t18 + (1 : Int))).bind fun x27 =>
  k2 t1 t10 t11 t12 t16 t17 x27 o7 o1005
def m_impl_joined_l2 (k1 : (List S_impl_Pair) → (List S_impl_Pair) → Int → Int → (List S_impl_Pair) → Option (List S_impl_Pair)) : Nat → (List S_impl_Pair) → (List S_impl_Pair) → Int → Int → (List S_impl_Pair) → Int → Int → S_impl_Pair → (List S_impl_Pair) → Option (List S_impl_Pair)
  | 0, _, _, _, _, _, _, _, _, _ => none
  | n2 + 1, t1, t10, t11, t12, t16, t17, t18, o7, o1005 =>
    bif decide (t18 < t17) then ((at? t16 t18).bind fun x22 =>
    lt (x22) fun y23 =>
    bif (o7.To == y23.From) then ((app? o1005 ([(⟨o7.From, y23.To⟩ : S_impl_Pair)] : (List S_impl_Pair))).bind fun x26 =>
      m_impl_joined_j1  k1 (m_impl_joined_l2  k1 n2) t1 t10 t11 t12 t16 t17 t18 o7 x26)
    else (m_impl_joined_j1  k1 (m_impl_joined_l2  k1 n2) t1 t10 t11 t12 t16 t17 t18 o7 o1005))
    else (m_impl_joined_j2  k1 t1 t10 t11 t12 o1005)
def m_impl_joined_l1 : Nat → (List S_impl_Pair) → (List S_impl_Pair) → Int → Int → (List S_impl_Pair) → Option (List S_impl_Pair)
  | 0, _, _, _, _, _ => none
  | n1 + 1, t1, t10, t11, t12, o1005 =>
    bif decide (t12 < t11) then ((at? t10 t12).bind fun x12 =>
    lt (x12) fun y13 =>
    m_impl_joined_l2  (m_impl_joined_l1  n1) (((t1.length : Int) - (0 : Int)).toNat + 1) t1 t10 t11 t12 t1 (t1.length : Int) (0 : Int) y13 o1005)
    else (m_impl_joined_j3  o1005)
def m_impl_joined (a0 : (List S_impl_Pair)) (a1 : (List S_impl_Pair)) : Option (List S_impl_Pair) :=
  m_impl_joined_l1  (((a0.length : Int) - (0 : Int)).toNat + 1) a1 a0 (a0.length : Int) (0 : Int) ([] : (List S_impl_Pair))
theorem c_impl_joined (a0 : (List S_impl_Pair)) (a1 : (List S_impl_Pair)) (r : (List S_impl_Pair)) (h : m_impl_joined a0 a1 = some r) : Ret Try.prog f_impl_joined [e_Limpl_Pair a0, e_Limpl_Pair a1] (.nw 2 (r.map e_impl_Pair) false) := by
  refine Does.goG [] F_impl_joined rfl e_impl_joined n_impl_joined rfl (rvs := [.tmp 4]) rfl rfl ?_
  intro w0 ok0 lent ρ0
  refine LWP.seq_k fun N1 hN1 => ?_
  refine LWP.region (l := [_]) ?_
  refine LWo.assign _ rfl (hn := ?_)
  refine LWo.ownNil 4 1004 2 rfl rfl rfl ?_
  refine LWo.known 4 (.own 1004 0 ([] : (List S_impl_Pair)).length) rfl ?_
  refine LWo.nil (hN1 _ ?_)
  refine LWP.seq_k fun N2 hN2 => ?_
  refine LWP.region (l := [_]) ?_
  refine LWo.assign _ rfl (hn := ?_)
  refine LWo.ownNil 5 1005 2 rfl rfl rfl ?_
  refine LWo.known 5 (.own 1005 0 ([] : (List S_impl_Pair)).length) rfl ?_
  refine LWo.nil (hN2 _ ?_)
  refine LWP.join (α := (List S_impl_Pair)) (fun z : (List S_impl_Pair) => [(5, (.own 1005 0 (z).length))]) (fun z : (List S_impl_Pair) => [(1005, (lob 2 e_impl_Pair z))]) (fun z : (List S_impl_Pair) => m_impl_joined_j3  z) r (fun _ => by simp [hkeys]) ?_ ?_
  ·rintro o1005 h
   replace h : m_impl_joined_j3  o1005 = some _ := h
   refine LWP.seq_k fun N29 hN29 => ?_
   refine LWP.region (l := [_,_,_]) ?_
   refine LWo.move (.own 1005 0 (o1005).length) rfl (hn := ?_)
   refine bk h fun x30 e30 h => ?_
   refine LWo.tcallN (e := e_impl_Pair) (e' := e_impl_Pair) 1038 rfl rfl (c_impl_pairs _ _ e30) (fun _ => rfl) rfl rfl rfl rfl (hn := ?_)
   refine LWo.assign (.own 1038 0 (x30).length) rfl (hn := ?_)
   refine LWo.nil (hN29 _ ?_)
   obtain rfl := Option.some.inj h
   refine LWP.ret (QG.mk (.inr rfl) (.cons (.tmp (x := (.own 1038 0 (x30).length)) rfl) (.nil)) (RetOK.one0 (.nwM rfl rfl) (by decide)) rfl rfl)
  ·intro N3 hN3
   refine LWP.seq_k fun N4 hN4 => ?_
   refine LWP.region (l := [_,_,_]) ?_
   refine LWo.move (e_Limpl_Pair a0) rfl (hn := ?_)
   refine LWo.lenM (f := e_impl_Pair) (l := a0) u_Limpl_Pair rfl (hn := ?_)
   refine LWo.move (e_int (0 : Int)) rfl (hn := ?_)
   refine LWo.nil (hN4 _ ?_)
   refine LWP.block ?_
   refine LWP.loopM (α := (List S_impl_Pair) × (List S_impl_Pair) × Int × Int × (List S_impl_Pair)) (fun z : (List S_impl_Pair) × (List S_impl_Pair) × Int × Int × (List S_impl_Pair) => [(1, (e_Limpl_Pair z.1)), (5, (.own 1005 0 (z.2.2.2.2).length)), (10, (e_Limpl_Pair z.2.1)), (11, (e_int z.2.2.1)), (12, (e_int z.2.2.2.1))]) (fun z : (List S_impl_Pair) × (List S_impl_Pair) × Int × Int × (List S_impl_Pair) => [(1005, (lob 2 e_impl_Pair z.2.2.2.2))]) (fun n1 (z : (List S_impl_Pair) × (List S_impl_Pair) × Int × Int × (List S_impl_Pair)) => m_impl_joined_l1  n1 z.1 z.2.1 z.2.2.1 z.2.2.2.1 z.2.2.2.2) r _ (a1, a0, (a0.length : Int), (0 : Int), ([] : (List S_impl_Pair))) h (fun _ => rfl) (fun _ => by simp [hkeys]) ⟨rfl, rfl, rfl, rfl, rfl, trivial⟩ ⟨rfl, trivial⟩ ?_
   rintro n1 ⟨t1, t10, t11, t12, o1005⟩ h N5 hN5
   replace h : m_impl_joined_l1  (n1 + 1) t1 t10 t11 t12 o1005 = some _ := h
   refine LWP.seq_k fun N7 hN7 => ?_
   refine LWP.region (l := [_]) ?_
   refine LWo.int _ rfl rfl rfl (hn := ?_)
   refine LWo.nil (hN7 _ ?_)
   refine LWP.seq_k fun N8 hN8 => ?_
   refine LWP.cond_split rfl (fun h9 => ?_) (fun h9 => ?_)
   ·have h := bT h9 h
    refine LWP.skip (hN8 _ ?_)
    refine LWP.join (α := (List S_impl_Pair) × (List S_impl_Pair) × Int × Int × (List S_impl_Pair)) (fun z : (List S_impl_Pair) × (List S_impl_Pair) × Int × Int × (List S_impl_Pair) => [(1, (e_Limpl_Pair z.1)), (5, (.own 1005 0 (z.2.2.2.2).length)), (10, (e_Limpl_Pair z.2.1)), (11, (e_int z.2.2.1)), (12, (e_int z.2.2.2.1))]) (fun z : (List S_impl_Pair) × (List S_impl_Pair) × Int × Int × (List S_impl_Pair) => [(1005, (lob 2 e_impl_Pair z.2.2.2.2))]) (fun z : (List S_impl_Pair) × (List S_impl_Pair) × Int × Int × (List S_impl_Pair) => m_impl_joined_j2  (m_impl_joined_l1  n1) z.1 z.2.1 z.2.2.1 z.2.2.2.1 z.2.2.2.2) r (fun _ => by simp [hkeys]) ?_ ?_
    ·rintro ⟨t1, t10, t11, t12, o1005⟩ h
     replace h : m_impl_joined_j2  (m_impl_joined_l1  n1) t1 t10 t11 t12 o1005 = some _ := h
     refine LWP.region (l := [_,_]) ?_
     refine bk h fun x28 e28 h => ?_
     refine LWo.int _ rfl rfl (add_ck e28) (hn := ?_)
     refine LWo.move (e_int x28) rfl (hn := ?_)
     refine LWo.nil (hN5 (t1, t10, t11, x28, o1005) _ ⟨rfl, rfl, rfl, rfl, rfl, trivial⟩ ⟨rfl, trivial⟩ h)
    ·intro N10 hN10
     refine LWP.block ?_
     refine LWP.seq_k fun N11 hN11 => ?_
     refine LWP.region (l := [_,_,_,_]) ?_
     refine bk h fun x12 e12 h => ?_
     refine LWo.indexM (f := e_impl_Pair) e12 u_Limpl_Pair s_impl_Pair rfl rfl (hn := ?_)
     refine LWo.loadN ((e_impl_Pair x12)).cells g_impl_Pair s_impl_Pair rfl (Nat.le_of_ble_eq_true rfl) rfl (hn := ?_)
     refine LWo.alloc_impl_Pair 7 rfl (hn := ?_)
     refine lk h fun y13 e13 h => ?_
     refine LWo.storeW (y := (⟨(0 : Int), (0 : Int)⟩ : S_impl_Pair)) y13 s_impl_Pair rfl rfl rfl rfl rfl rfl (by rw [e13]; exact .refl) rfl (hn := ?_)
     refine LWo.nil (hN11 _ ?_)
     refine LWP.seq_k fun N14 hN14 => ?_
     refine LWP.region (l := [_,_,_]) ?_
     refine LWo.move (e_Limpl_Pair t1) rfl (hn := ?_)
     refine LWo.lenM (f := e_impl_Pair) (l := t1) u_Limpl_Pair rfl (hn := ?_)
     refine LWo.move (e_int (0 : Int)) rfl (hn := ?_)
     refine LWo.nil (hN14 _ ?_)
     refine LWP.block ?_
     refine LWP.loopM (α := (List S_impl_Pair) × (List S_impl_Pair) × Int × Int × (List S_impl_Pair) × Int × Int × S_impl_Pair × (List S_impl_Pair)) (fun z : (List S_impl_Pair) × (List S_impl_Pair) × Int × Int × (List S_impl_Pair) × Int × Int × S_impl_Pair × (List S_impl_Pair) => [(1, (e_Limpl_Pair z.1)), (5, (.own 1005 0 (z.2.2.2.2.2.2.2.2).length)), (7, (.ptr 7 0 0)), (10, (e_Limpl_Pair z.2.1)), (11, (e_int z.2.2.1)), (12, (e_int z.2.2.2.1)), (16, (e_Limpl_Pair z.2.2.2.2.1)), (17, (e_int z.2.2.2.2.2.1)), (18, (e_int z.2.2.2.2.2.2.1))]) (fun z : (List S_impl_Pair) × (List S_impl_Pair) × Int × Int × (List S_impl_Pair) × Int × Int × S_impl_Pair × (List S_impl_Pair) => [(7, (vob 2 e_impl_Pair z.2.2.2.2.2.2.2.1)), (1005, (lob 2 e_impl_Pair z.2.2.2.2.2.2.2.2))]) (fun n2 (z : (List S_impl_Pair) × (List S_impl_Pair) × Int × Int × (List S_impl_Pair) × Int × Int × S_impl_Pair × (List S_impl_Pair)) => m_impl_joined_l2  (m_impl_joined_l1  n1) n2 z.1 z.2.1 z.2.2.1 z.2.2.2.1 z.2.2.2.2.1 z.2.2.2.2.2.1 z.2.2.2.2.2.2.1 z.2.2.2.2.2.2.2.1 z.2.2.2.2.2.2.2.2) r _ (t1, t10, t11, t12, t1, (t1.length : Int), (0 : Int), y13, o1005) h (fun _ => rfl) (fun _ => by simp [hkeys]) ⟨rfl, rfl, rfl, rfl, rfl, rfl, rfl, rfl, rfl, trivial⟩ ⟨rfl, rfl, trivial⟩ ?_
     rintro n2 ⟨t1, t10, t11, t12, t16, t17, t18, o7, o1005⟩ h N15 hN15
     replace h : m_impl_joined_l2  (m_impl_joined_l1  n1) (n2 + 1) t1 t10 t11 t12 t16 t17 t18 o7 o1005 = some _ := h
     refine LWP.seq_k fun N17 hN17 => ?_
     refine LWP.region (l := [_]) ?_
     refine LWo.int _ rfl rfl rfl (hn := ?_)
     refine LWo.nil (hN17 _ ?_)
     refine LWP.seq_k fun N18 hN18 => ?_
     refine LWP.cond_split rfl (fun h19 => ?_) (fun h19 => ?_)
     ·have h := bT h19 h
      refine LWP.skip (hN18 _ ?_)
      refine LWP.join (α := (List S_impl_Pair) × (List S_impl_Pair) × Int × Int × (List S_impl_Pair) × Int × Int × S_impl_Pair × (List S_impl_Pair)) (fun z : (List S_impl_Pair) × (List S_impl_Pair) × Int × Int × (List S_impl_Pair) × Int × Int × S_impl_Pair × (List S_impl_Pair) => [(1, (e_Limpl_Pair z.1)), (5, (.own 1005 0 (z.2.2.2.2.2.2.2.2).length)), (7, (.ptr 7 0 0)), (10, (e_Limpl_Pair z.2.1)), (11, (e_int z.2.2.1)), (12, (e_int z.2.2.2.1)), (16, (e_Limpl_Pair z.2.2.2.2.1)), (17, (e_int z.2.2.2.2.2.1)), (18, (e_int z.2.2.2.2.2.2.1))]) (fun z : (List S_impl_Pair) × (List S_impl_Pair) × Int × Int × (List S_impl_Pair) × Int × Int × S_impl_Pair × (List S_impl_Pair) => [(7, (vob 2 e_impl_Pair z.2.2.2.2.2.2.2.1)), (1005, (lob 2 e_impl_Pair z.2.2.2.2.2.2.2.2))]) (fun z : (List S_impl_Pair) × (List S_impl_Pair) × Int × Int × (List S_impl_Pair) × Int × Int × S_impl_Pair × (List S_impl_Pair) => m_impl_joined_j1  (m_impl_joined_l1  n1) (m_impl_joined_l2  (m_impl_joined_l1  n1) n2) z.1 z.2.1 z.2.2.1 z.2.2.2.1 z.2.2.2.2.1 z.2.2.2.2.2.1 z.2.2.2.2.2.2.1 z.2.2.2.2.2.2.2.1 z.2.2.2.2.2.2.2.2) r (fun _ => by simp [hkeys]) ?_ ?_
      ·rintro ⟨t1, t10, t11, t12, t16, t17, t18, o7, o1005⟩ h
       replace h : m_impl_joined_j1  (m_impl_joined_l1  n1) (m_impl_joined_l2  (m_impl_joined_l1  n1) n2) t1 t10 t11 t12 t16 t17 t18 o7 o1005 = some _ := h
       refine LWP.region (l := [_,_]) ?_
       refine bk h fun x27 e27 h => ?_
       refine LWo.int _ rfl rfl (add_ck e27) (hn := ?_)
       refine LWo.move (e_int x27) rfl (hn := ?_)
       refine LWo.nil (hN15 (t1, t10, t11, t12, t16, t17, x27, o7, o1005) _ ⟨rfl, rfl, rfl, rfl, rfl, rfl, rfl, rfl, rfl, trivial⟩ ⟨rfl, rfl, trivial⟩ h)
      ·intro N20 hN20
       refine LWP.block ?_
       refine LWP.seq_k fun N21 hN21 => ?_
       refine LWP.region (l := [_,_,_,_]) ?_
       refine bk h fun x22 e22 h => ?_
       refine LWo.indexM (f := e_impl_Pair) e22 u_Limpl_Pair s_impl_Pair rfl rfl (hn := ?_)
       refine LWo.loadN ((e_impl_Pair x22)).cells g_impl_Pair s_impl_Pair rfl (Nat.le_of_ble_eq_true rfl) rfl (hn := ?_)
       refine LWo.alloc_impl_Pair 9 rfl (hn := ?_)
       refine lk h fun y23 e23 h => ?_
       refine LWo.storeW (y := (⟨(0 : Int), (0 : Int)⟩ : S_impl_Pair)) y23 s_impl_Pair rfl rfl rfl rfl rfl rfl (by rw [e23]; exact .refl) rfl (hn := ?_)
       refine LWo.nil (hN21 _ ?_)
       refine LWP.seq_k fun N24 hN24 => ?_
       refine LWP.region (l := [_,_,_,_,_]) ?_
       refine LWo.fieldPtr u_impl_Pair rfl s_int rfl rfl (hn := ?_)
       refine LWo.loadV1 (e_int o7.To)  g_int rfl rfl rfl (hn := ?_)
       refine LWo.fieldPtr u_impl_Pair rfl s_int rfl rfl (hn := ?_)
       refine LWo.loadV1 (e_int y23.From)  g_int rfl rfl rfl (hn := ?_)
       refine LWo.int _ rfl rfl rfl (hn := ?_)
       refine LWo.nil (hN24 _ ?_)
       refine LWP.cond_split rfl (fun h25 => ?_) (fun h25 => ?_)
       ·have h := bT h25 h
        refine LWP.region (l := [_,_,_,_,_,_,_,_,_]) ?_
        refine LWo.move (.own 1005 0 (o1005).length) rfl (hn := ?_)
        refine LWo.fieldPtr u_impl_Pair rfl s_int rfl rfl (hn := ?_)
        refine LWo.loadV1 (e_int o7.From)  g_int rfl rfl rfl (hn := ?_)
        refine LWo.fieldPtr u_impl_Pair rfl s_int rfl rfl (hn := ?_)
        refine LWo.loadV1 (e_int y23.To)  g_int rfl rfl rfl (hn := ?_)
        refine LWo.build_impl_Pair (parts := [_, _]) (⟨o7.From, y23.To⟩ : S_impl_Pair) rfl rfl rfl .refl (hn := ?_)
        refine LWo.lit (ops := [_]) [(e_impl_Pair (⟨o7.From, y23.To⟩ : S_impl_Pair))] u_Limpl_Pair s_impl_Pair z_impl_Pair rfl rfl rfl rfl rfl rfl (hn := ?_)
        refine bk h fun x26 e26 h => ?_
        refine LWo.appendM (f := e_impl_Pair) e26 rfl u_Limpl_Pair u_Limpl_Pair (fun _ h => by cases h) s_impl_Pair i_impl_Pair rfl rfl rfl (.sl rfl) rfl rfl (hn := ?_)
        refine LWo.assign (.own 1005 0 (x26).length) rfl (hn := ?_)
        refine LWo.nil (hN20 (t1, t10, t11, t12, t16, t17, t18, o7, x26) _ ⟨rfl, rfl, rfl, rfl, rfl, rfl, rfl, rfl, rfl, trivial⟩ ⟨rfl, rfl, trivial⟩ h)
       ·have h := bF h25 h
        refine LWP.skip (hN20 (t1, t10, t11, t12, t16, t17, t18, o7, o1005) _ ⟨rfl, rfl, rfl, rfl, rfl, rfl, rfl, rfl, rfl, trivial⟩ ⟨rfl, rfl, trivial⟩ h)
     ·have h := bF h19 h
      refine LWP.exit (hN10 (t1, t10, t11, t12, o1005) _ ⟨rfl, rfl, rfl, rfl, rfl, trivial⟩ ⟨rfl, trivial⟩ h)
   ·have h := bF h9 h
    refine LWP.exit (hN3 o1005 _ ⟨rfl, trivial⟩ ⟨rfl, trivial⟩ h)

theorem cc_slices_Grow_Limpl_Pair_impl_Pair (n : Nat) (hb : n ≤ 1000000000) : Ret Try.prog f_slices_Grow_Limpl_Pair_impl_Pair [.imm (.slice none 0 0), e_int n] (.nw 2 [] false) := by
  refine Does.go [] F_slices_Grow_Limpl_Pair_impl_Pair rfl e_slices_Grow_Limpl_Pair_impl_Pair n_slices_Grow_Limpl_Pair_impl_Pair rfl (ts := [4]) rfl rfl rfl ?_
  intro w0 ok0 lent ρ0
  refine LWP.seq_k fun N1 hN1 => ?_
  refine LWP.region (l := [_]) ?_
  refine LWo.assign _ rfl (hn := ?_)
  refine LWo.nil (hN1 _ ?_)
  refine LWP.seq_k fun N2 hN2 => ?_
  refine LWP.seq_k fun N3 hN3 => ?_
  refine LWP.region (l := [_,_]) ?_
  refine LWo.move _ rfl (hn := ?_)
  refine LWo.int _ rfl rfl rfl (hn := ?_)
  refine LWo.nil (hN3 _ ?_)
  refine LWP.cond_split rfl (fun h4 => ?_) (fun h4 => ?_)
  · try simp only [List.length_map, decide_eq_true_eq, decide_eq_false_iff_not, Int.ofNat_lt, Int.ofNat_le, Int.not_lt, Int.not_le, ge_iff_le, gt_iff_lt, Nat.not_le, Nat.not_lt] at h4
    clear hN1 hN2 hN3
    omega
  · try simp only [List.length_map, decide_eq_true_eq, decide_eq_false_iff_not, Int.ofNat_lt, Int.ofNat_le, Int.not_lt, Int.not_le, ge_iff_le, gt_iff_lt, Nat.not_le, Nat.not_lt] at h4
    refine LWP.skip (hN2 _ ?_)
    refine LWP.seq_k fun N5 hN5 => ?_
    refine LWP.seq_k fun N6 hN6 => ?_
    refine LWP.region (l := [_,_,_,_,_,_,_,_]) ?_
    refine LWo.move _ rfl (hn := ?_)
    refine LWo.move _ rfl (hn := ?_)
    refine LWo.capNil u_Limpl_Pair rfl (hn := ?_)
    refine LWo.move _ rfl (hn := ?_)
    refine LWo.len u_Limpl_Pair rfl (hn := ?_)
    refine LWo.int _ rfl rfl (sub_in (by omega) (by omega)) (hn := ?_)
    refine LWo.int _ rfl rfl (sub_in (by omega) (by omega)) (hn := ?_)
    refine LWo.assign _ rfl (hn := ?_)
    refine LWo.nil (hN6 _ ?_)
    refine LWP.seq_k fun N7 hN7 => ?_
    refine LWP.region (l := [_,_]) ?_
    refine LWo.move _ rfl (hn := ?_)
    refine LWo.int _ rfl rfl rfl (hn := ?_)
    refine LWo.nil (hN7 _ ?_)
    refine LWP.cond_split rfl (fun h8 => ?_) (fun h8 => ?_)
    · try simp only [List.length_map, decide_eq_true_eq, decide_eq_false_iff_not, Int.ofNat_lt, Int.ofNat_le, Int.not_lt, Int.not_le, ge_iff_le, gt_iff_lt, Nat.not_le, Nat.not_lt] at h8
      refine LWP.region (l := [_,_,_,_,_,_,_,_,_,_]) ?_
      refine LWo.move _ rfl (hn := ?_)
      refine LWo.move _ rfl (hn := ?_)
      refine LWo.capNil u_Limpl_Pair rfl (hn := ?_)
      refine LWo.cutNil u_Limpl_Pair s_impl_Pair rfl rfl ⟨_, rfl⟩ (hn := ?_)
      refine LWo.move _ rfl (hn := ?_)
      refine LWo.appendMake (m := n) 22 (.agg ([Go.Value.int Go.IntKind.i64 0, Go.Value.int Go.IntKind.i64 0].map LV.imm)) u_Limpl_Pair u_int i_impl_Pair (zs := [Go.Value.int Go.IntKind.i64 0, Go.Value.int Go.IntKind.i64 0]) rfl rfl (by simp [Value.oneCell']) rfl (.nil rfl (by simp at h8; omega)) (congrArg (fun z => LV.imm (Value.int .i64 z)) (show (n : Int) - (0 - ((0 : Nat) : Int)) = (n : Int) by omega)) rfl rfl (by simp; omega) (by simp; omega) (by simp at h8; omega) (by decide) (hn := ?_)
      refine LWo.move _ rfl (hn := ?_)
      refine LWo.len u_Limpl_Pair rfl (hn := ?_)
      refine LWo.cutOwn (l := 0) (h := 0) u_Limpl_Pair s_impl_Pair rfl rfl rfl rfl ⟨_, rfl⟩ trivial (.inl rfl) (Nat.le_refl _) (Nat.zero_le _) rfl rfl (hn := ?_)
      refine LWo.assign _ rfl (hn := ?_)
      refine LWo.nil (hN5 _ ?_)
      refine LWP.seq_k fun N9 hN9 => ?_
      refine LWP.region (l := [_,_]) ?_
      refine LWo.move _ rfl (hn := ?_)
      refine LWo.assign _ rfl (hn := ?_)
      refine LWo.nil (hN9 _ ?_)
      refine LWP.ret (QRet.own1 (.inr rfl) rfl rfl rfl rfl (Nat.zero_le _) ⟨?_, rfl⟩)
      clear hN1 hN2 hN3 hN5 hN6 hN7 hN9
      rfl
    · try simp only [List.length_map, decide_eq_true_eq, decide_eq_false_iff_not, Int.ofNat_lt, Int.ofNat_le, Int.not_lt, Int.not_le, ge_iff_le, gt_iff_lt, Nat.not_le, Nat.not_lt] at h8
      refine LWP.skip (hN5 _ ?_)
      refine LWP.seq_k fun N10 hN10 => ?_
      refine LWP.region (l := [_,_]) ?_
      refine LWo.move _ rfl (hn := ?_)
      refine LWo.assign _ rfl (hn := ?_)
      refine LWo.nil (hN10 _ ?_)
      refine LWP.ret (QRet.nil1 (sz := 2) (dp := false) (.inr rfl) rfl ⟨?_, rfl⟩)
      clear hN1 hN2 hN3 hN5 hN6 hN7 hN10
      rfl

def m_slices_Grow_Limpl_Pair_impl_Pair (a1 : Int) : Option (List S_impl_Pair) := if 0 ≤ a1 ∧ a1 ≤ 1000000000 then some [] else none
theorem c_slices_Grow_Limpl_Pair_impl_Pair (a1 : Int) (r : List S_impl_Pair) (h : m_slices_Grow_Limpl_Pair_impl_Pair a1 = some r) : Ret Try.prog f_slices_Grow_Limpl_Pair_impl_Pair [.imm (.slice none 0 0), e_int a1] (.nw 2 (r.map e_impl_Pair) false) := by
  unfold m_slices_Grow_Limpl_Pair_impl_Pair at h
  split at h
  · rename_i h1
    cases h
    have := cc_slices_Grow_Limpl_Pair_impl_Pair a1.toNat (by omega)
    rw [Int.toNat_of_nonneg h1.1] at this
    exact this
  · cases h



def m_slices_Concat_Limpl_Pair_impl_Pair_j2 (o1024 : (List S_impl_Pair)) : Option (List S_impl_Pair) :=
  some o1024
def m_slices_Concat_Limpl_Pair_impl_Pair_l2 : Nat → (List (List S_impl_Pair)) → Int → Int → (List S_impl_Pair) → Option (List S_impl_Pair)
  | 0, _, _, _, _ => none
  | n2 + 1, t25, t26, t27, o1024 =>
    bif decide (t27 < t26) then ((at? t25 t27).bind fun x29 =>
    (app? o1024 x29).bind fun x30 =>
    (ckI (t27 + (1 : Int))).bind fun x31 =>
    (m_slices_Concat_Limpl_Pair_impl_Pair_l2  n2) t25 t26 x31 x30)
    else (m_slices_Concat_Limpl_Pair_impl_Pair_j2  o1024)
def m_slices_Concat_Limpl_Pair_impl_Pair_j1 (t0 : (List (List S_impl_Pair))) (t3 : Int) : Option (List S_impl_Pair) :=
  (m_slices_Grow_Limpl_Pair_impl_Pair t3).bind fun x19 =>
  m_slices_Concat_Limpl_Pair_impl_Pair_l2  (((t0.length : Int) - (0 : Int)).toNat + 1) t0 (t0.length : Int) (0 : Int) x19
def m_slices_Concat_Limpl_Pair_impl_Pair_l1 : Nat → (List (List S_impl_Pair)) → Int → (List (List S_impl_Pair)) → Int → Int → Option (List S_impl_Pair)
  | 0, _, _, _, _, _ => none
  | n1 + 1, t0, t3, t9, t10, t11 =>
    bif decide (t11 < t10) then ((at? t9 t11).bind fun x12 =>
    (ckI (t3 + (x12.length : Int))).bind fun x14 =>
    bif decide (x14 < (0 : Int)) then (none)
    else ((ckI (t11 + (1 : Int))).bind fun x17 =>
    (m_slices_Concat_Limpl_Pair_impl_Pair_l1  n1) t0 x14 t9 t10 x17))
    else (m_slices_Concat_Limpl_Pair_impl_Pair_j1  t0 t3)
def m_slices_Concat_Limpl_Pair_impl_Pair (a0 : (List (List S_impl_Pair))) : Option (List S_impl_Pair) :=
  m_slices_Concat_Limpl_Pair_impl_Pair_l1  (((a0.length : Int) - (0 : Int)).toNat + 1) a0 (0 : Int) a0 (a0.length : Int) (0 : Int)
theorem c_slices_Concat_Limpl_Pair_impl_Pair (a0 : (List (List S_impl_Pair))) (r : (List S_impl_Pair)) (h : m_slices_Concat_Limpl_Pair_impl_Pair a0 = some r) : Ret Try.prog f_slices_Concat_Limpl_Pair_impl_Pair [e_LLimpl_Pair a0] (.nw 2 (r.map e_impl_Pair) false) := by
  refine Does.goG [] F_slices_Concat_Limpl_Pair_impl_Pair rfl e_slices_Concat_Limpl_Pair_impl_Pair n_slices_Concat_Limpl_Pair_impl_Pair rfl (rvs := [.tmp 2]) rfl rfl ?_
  intro w0 ok0 lent ρ0
  refine LWP.seq_k fun N1 hN1 => ?_
  refine LWP.region (l := [_]) ?_
  refine LWo.assign _ rfl (hn := ?_)
  refine LWo.ownNil 2 1002 2 rfl rfl rfl ?_
  refine LWo.known 2 (.own 1002 0 ([] : (List S_impl_Pair)).length) rfl ?_
  refine LWo.nil (hN1 _ ?_)
  refine LWP.seq_k fun N2 hN2 => ?_
  refine LWP.region (l := [_]) ?_
  refine LWo.assign (e_int (0 : Int)) rfl (hn := ?_)
  refine LWo.nil (hN2 _ ?_)
  refine LWP.join (α := (List (List S_impl_Pair)) × Int) (fun z : (List (List S_impl_Pair)) × Int => [(0, (e_LLimpl_Pair z.1)), (3, (e_int z.2))]) (fun z : (List (List S_impl_Pair)) × Int => []) (fun z : (List (List S_impl_Pair)) × Int => m_slices_Concat_Limpl_Pair_impl_Pair_j1  z.1 z.2) r (fun _ => by simp [hkeys]) ?_ ?_
  ·rintro ⟨t0, t3⟩ h
   replace h : m_slices_Concat_Limpl_Pair_impl_Pair_j1  t0 t3 = some _ := h
   refine LWP.seq_k fun N18 hN18 => ?_
   refine LWP.region (l := [_,_,_]) ?_
   refine LWo.move (e_int t3) rfl (hn := ?_)
   refine bk h fun x19 e19 h => ?_
   refine LWo.ncall (e := e_impl_Pair) 1024 rfl rfl (c_slices_Grow_Limpl_Pair_impl_Pair _ _ e19) (.same (.same (.nil))) rfl (hn := ?_)
   refine LWo.assign (.own 1024 0 (x19).length) rfl (hn := ?_)
   refine LWo.nil (hN18 _ ?_)
   refine LWP.join (α := (List S_impl_Pair)) (fun z : (List S_impl_Pair) => [(6, (.own 1024 0 (z).length))]) (fun z : (List S_impl_Pair) => [(1024, (lob 2 e_impl_Pair z))]) (fun z : (List S_impl_Pair) => m_slices_Concat_Limpl_Pair_impl_Pair_j2  z) r (fun _ => by simp [hkeys]) ?_ ?_
   ·rintro o1024 h
    replace h : m_slices_Concat_Limpl_Pair_impl_Pair_j2  o1024 = some _ := h
    refine LWP.seq_k fun N32 hN32 => ?_
    refine LWP.region (l := [_,_]) ?_
    refine LWo.move (.own 1024 0 (o1024).length) rfl (hn := ?_)
    refine LWo.assign (.own 1024 0 (o1024).length) rfl (hn := ?_)
    refine LWo.nil (hN32 _ ?_)
    obtain rfl := Option.some.inj h
    refine LWP.ret (QG.mk (.inr rfl) (.cons (.tmp (x := (.own 1024 0 (o1024).length)) rfl) (.nil)) (RetOK.one0 (.nwM rfl rfl) (by decide)) rfl rfl)
   ·intro N20 hN20
    refine LWP.seq_k fun N21 hN21 => ?_
    refine LWP.region (l := [_,_,_]) ?_
    refine LWo.move (e_LLimpl_Pair t0) rfl (hn := ?_)
    refine LWo.lenM (f := e_Limpl_Pair) (l := t0) u_LLimpl_Pair rfl (hn := ?_)
    refine LWo.move (e_int (0 : Int)) rfl (hn := ?_)
    refine LWo.nil (hN21 _ ?_)
    refine LWP.block ?_
    refine LWP.loopM (α := (List (List S_impl_Pair)) × Int × Int × (List S_impl_Pair)) (fun z : (List (List S_impl_Pair)) × Int × Int × (List S_impl_Pair) => [(6, (.own 1024 0 (z.2.2.2).length)), (25, (e_LLimpl_Pair z.1)), (26, (e_int z.2.1)), (27, (e_int z.2.2.1))]) (fun z : (List (List S_impl_Pair)) × Int × Int × (List S_impl_Pair) => [(1024, (lob 2 e_impl_Pair z.2.2.2))]) (fun n2 (z : (List (List S_impl_Pair)) × Int × Int × (List S_impl_Pair)) => m_slices_Concat_Limpl_Pair_impl_Pair_l2  n2 z.1 z.2.1 z.2.2.1 z.2.2.2) r _ (t0, (t0.length : Int), (0 : Int), x19) h (fun _ => rfl) (fun _ => by simp [hkeys]) ⟨rfl, rfl, rfl, rfl, trivial⟩ ⟨rfl, trivial⟩ ?_
    rintro n2 ⟨t25, t26, t27, o1024⟩ h N22 hN22
    replace h : m_slices_Concat_Limpl_Pair_impl_Pair_l2  (n2 + 1) t25 t26 t27 o1024 = some _ := h
    refine LWP.seq_k fun N24 hN24 => ?_
    refine LWP.region (l := [_]) ?_
    refine LWo.int _ rfl rfl rfl (hn := ?_)
    refine LWo.nil (hN24 _ ?_)
    refine LWP.seq_k fun N25 hN25 => ?_
    refine LWP.cond_split rfl (fun h26 => ?_) (fun h26 => ?_)
    ·have h := bT h26 h
     refine LWP.skip (hN25 _ ?_)
     refine LWP.seq_k fun N27 hN27 => ?_
     refine LWP.block ?_
     refine LWP.seq_k fun N28 hN28 => ?_
     refine LWP.region (l := [_,_,_]) ?_
     refine bk h fun x29 e29 h => ?_
     refine LWo.indexM (f := e_Limpl_Pair) e29 u_LLimpl_Pair s_Limpl_Pair rfl rfl (hn := ?_)
     refine LWo.load1 (c := (e_Limpl_Pair x29)) g_Limpl_Pair rfl (hn := ?_)
     refine LWo.assign (e_Limpl_Pair x29) rfl (hn := ?_)
     refine LWo.nil (hN28 _ ?_)
     refine LWP.region (l := [_,_,_,_]) ?_
     refine LWo.move (.own 1024 0 (o1024).length) rfl (hn := ?_)
     refine LWo.move (e_Limpl_Pair x29) rfl (hn := ?_)
     refine bk h fun x30 e30 h => ?_
     refine LWo.appendM (f := e_impl_Pair) e30 rfl u_Limpl_Pair u_Limpl_Pair (fun _ h => by cases h) s_impl_Pair i_impl_Pair rfl rfl rfl (.sl rfl) rfl rfl (hn := ?_)
     refine LWo.assign (.own 1024 0 (x30).length) rfl (hn := ?_)
     refine LWo.nil (hN27 _ ?_)
     refine LWP.region (l := [_,_]) ?_
     refine bk h fun x31 e31 h => ?_
     refine LWo.int _ rfl rfl (add_ck e31) (hn := ?_)
     refine LWo.move (e_int x31) rfl (hn := ?_)
     refine LWo.nil (hN22 (t25, t26, x31, x30) _ ⟨rfl, rfl, rfl, rfl, trivial⟩ ⟨rfl, trivial⟩ h)
    ·have h := bF h26 h
     refine LWP.exit (hN20 o1024 _ ⟨rfl, trivial⟩ ⟨rfl, trivial⟩ h)
  ·intro N3 hN3
   refine LWP.seq_k fun N4 hN4 => ?_
   refine LWP.region (l := [_,_,_]) ?_
   refine LWo.move (e_LLimpl_Pair a0) rfl (hn := ?_)
   refine LWo.lenM (f := e_Limpl_Pair) (l := a0) u_LLimpl_Pair rfl (hn := ?_)
   refine LWo.move (e_int (0 : Int)) rfl (hn := ?_)
   refine LWo.nil (hN4 _ ?_)
   refine LWP.block ?_
   refine LWP.loopM (α := (List (List S_impl_Pair)) × Int × (List (List S_impl_Pair)) × Int × Int) (fun z : (List (List S_impl_Pair)) × Int × (List (List S_impl_Pair)) × Int × Int => [(0, (e_LLimpl_Pair z.1)), (3, (e_int z.2.1)), (9, (e_LLimpl_Pair z.2.2.1)), (10, (e_int z.2.2.2.1)), (11, (e_int z.2.2.2.2))]) (fun z : (List (List S_impl_Pair)) × Int × (List (List S_impl_Pair)) × Int × Int => []) (fun n1 (z : (List (List S_impl_Pair)) × Int × (List (List S_impl_Pair)) × Int × Int) => m_slices_Concat_Limpl_Pair_impl_Pair_l1  n1 z.1 z.2.1 z.2.2.1 z.2.2.2.1 z.2.2.2.2) r _ (a0, (0 : Int), a0, (a0.length : Int), (0 : Int)) h (fun _ => rfl) (fun _ => by simp [hkeys]) ⟨rfl, rfl, rfl, rfl, rfl, trivial⟩ trivial ?_
   rintro n1 ⟨t0, t3, t9, t10, t11⟩ h N5 hN5
   replace h : m_slices_Concat_Limpl_Pair_impl_Pair_l1  (n1 + 1) t0 t3 t9 t10 t11 = some _ := h
   refine LWP.seq_k fun N7 hN7 => ?_
   refine LWP.region (l := [_]) ?_
   refine LWo.int _ rfl rfl rfl (hn := ?_)
   refine LWo.nil (hN7 _ ?_)
   refine LWP.seq_k fun N8 hN8 => ?_
   refine LWP.cond_split rfl (fun h9 => ?_) (fun h9 => ?_)
   ·have h := bT h9 h
    refine LWP.skip (hN8 _ ?_)
    refine LWP.seq_k fun N10 hN10 => ?_
    refine LWP.block ?_
    refine LWP.seq_k fun N11 hN11 => ?_
    refine LWP.region (l := [_,_,_]) ?_
    refine bk h fun x12 e12 h => ?_
    refine LWo.indexM (f := e_Limpl_Pair) e12 u_LLimpl_Pair s_Limpl_Pair rfl rfl (hn := ?_)
    refine LWo.load1 (c := (e_Limpl_Pair x12)) g_Limpl_Pair rfl (hn := ?_)
    refine LWo.assign (e_Limpl_Pair x12) rfl (hn := ?_)
    refine LWo.nil (hN11 _ ?_)
    refine LWP.seq_k fun N13 hN13 => ?_
    refine LWP.region (l := [_,_,_,_,_]) ?_
    refine LWo.move (e_int t3) rfl (hn := ?_)
    refine LWo.move (e_Limpl_Pair x12) rfl (hn := ?_)
    refine LWo.lenM (f := e_impl_Pair) (l := x12) u_Limpl_Pair rfl (hn := ?_)
    refine bk h fun x14 e14 h => ?_
    refine LWo.int _ rfl rfl (add_ck e14) (hn := ?_)
    refine LWo.assign (e_int x14) rfl (hn := ?_)
    refine LWo.nil (hN13 _ ?_)
    refine LWP.seq_k fun N15 hN15 => ?_
    refine LWP.region (l := [_,_]) ?_
    refine LWo.move (e_int x14) rfl (hn := ?_)
    refine LWo.int _ rfl rfl rfl (hn := ?_)
    refine LWo.nil (hN15 _ ?_)
    refine LWP.cond_split rfl (fun h16 => ?_) (fun h16 => ?_)
    ·have h := bT h16 h
     refine LWP.region (l := [_,_]) ?_
     exact no h
    ·have h := bF h16 h
     refine LWP.skip (hN10 _ ?_)
     refine LWP.region (l := [_,_]) ?_
     refine bk h fun x17 e17 h => ?_
     refine LWo.int _ rfl rfl (add_ck e17) (hn := ?_)
     refine LWo.move (e_int x17) rfl (hn := ?_)
     refine LWo.nil (hN5 (t0, x14, t9, t10, x17) _ ⟨rfl, rfl, rfl, rfl, rfl, trivial⟩ trivial h)
   ·have h := bF h9 h
    refine LWP.exit (hN3 (t0, t3) _ ⟨rfl, rfl, trivial⟩ trivial h)

def m_impl_closure_l1 : Nat → (List S_impl_Pair) → (List S_impl_Pair) → Option (List S_impl_Pair)
  | 0, _, _ => none
  | n1 + 1, t0, o1006 =>
    (m_impl_joined o1006 t0).bind fun x7 =>
    (m_slices_Concat_Limpl_Pair_impl_Pair ([o1006, x7] : (List (List S_impl_Pair)))).bind fun x8 =>
    (m_impl_pairs x8).bind fun x9 =>
    bif ((x9.length : Int) == (o1006.length : Int)) then (some x9)
    else ((m_impl_closure_l1  n1) t0 x9)
def m_impl_closure (a0 : (List S_impl_Pair)) : Option (List S_impl_Pair) :=
  (m_impl_clone_impl_Pair a0).bind fun x3 =>
  m_impl_closure_l1  (1000000000) a0 x3
theorem c_impl_closure (a0 : (List S_impl_Pair)) (r : (List S_impl_Pair)) (h : m_impl_closure a0 = some r) : Ret Try.prog f_impl_closure [e_Limpl_Pair a0] (.nw 2 (r.map e_impl_Pair) false) := by
  refine Does.goG [] F_impl_closure rfl e_impl_closure n_impl_closure rfl (rvs := [.tmp 2]) rfl rfl ?_
  intro w0 ok0 lent ρ0
  refine LWP.seq_k fun N1 hN1 => ?_
  refine LWP.region (l := [_]) ?_
  refine LWo.assign _ rfl (hn := ?_)
  refine LWo.ownNil 2 1002 2 rfl rfl rfl ?_
  refine LWo.known 2 (.own 1002 0 ([] : (List S_impl_Pair)).length) rfl ?_
  refine LWo.nil (hN1 _ ?_)
  refine LWP.seq_k fun N2 hN2 => ?_
  refine LWP.region (l := [_,_,_]) ?_
  refine LWo.move (e_Limpl_Pair a0) rfl (hn := ?_)
  refine bk h fun x3 e3 h => ?_
  refine LWo.ncall (e := e_impl_Pair) 1006 rfl rfl (c_impl_clone_impl_Pair _ _ e3) (.same (.nil)) rfl (hn := ?_)
  refine LWo.assign (.own 1006 0 (x3).length) rfl (hn := ?_)
  refine LWo.nil (hN2 _ ?_)
  refine LWP.block ?_
  refine LWP.loopM (α := (List S_impl_Pair) × (List S_impl_Pair)) (fun z : (List S_impl_Pair) × (List S_impl_Pair) => [(0, (e_Limpl_Pair z.1)), (3, (.own 1006 0 (z.2).length))]) (fun z : (List S_impl_Pair) × (List S_impl_Pair) => [(1006, (lob 2 e_impl_Pair z.2))]) (fun n1 (z : (List S_impl_Pair) × (List S_impl_Pair)) => m_impl_closure_l1  n1 z.1 z.2) r _ (a0, x3) h (fun _ => rfl) (fun _ => by simp [hkeys]) ⟨rfl, rfl, trivial⟩ ⟨rfl, trivial⟩ ?_
  rintro n1 ⟨t0, o1006⟩ h N4 hN4
  replace h : m_impl_closure_l1  (n1 + 1) t0 o1006 = some _ := h
  refine LWP.block ?_
  refine LWP.seq_k fun N6 hN6 => ?_
  refine LWP.region (l := [_,_,_,_,_,_,_,_]) ?_
  refine LWo.move (.own 1006 0 (o1006).length) rfl (hn := ?_)
  refine LWo.move (.own 1006 0 (o1006).length) rfl (hn := ?_)
  refine LWo.move (e_Limpl_Pair t0) rfl (hn := ?_)
  refine bk h fun x7 e7 h => ?_
  refine LWo.frzL (f := e_impl_Pair) (l := o1006) [3, 7, 8] 1006 rfl rfl ⟨rfl, rfl, rfl, trivial⟩ ?_
  refine LWo.vcall rfl rfl (c_impl_joined _ _ _ e7) (.same (.same (.nil))) (hn := ?_)
  refine LWo.lit (ops := [_, _]) [(e_Limpl_Pair o1006), (e_Limpl_Pair x7)] u_LLimpl_Pair s_Limpl_Pair z_Limpl_Pair rfl rfl rfl rfl rfl rfl (hn := ?_)
  refine bk h fun x8 e8 h => ?_
  refine LWo.ncall (e := e_impl_Pair) 1012 rfl rfl (c_slices_Concat_Limpl_Pair_impl_Pair _ _ e8) (.same (.nil)) rfl (hn := ?_)
  refine bk h fun x9 e9 h => ?_
  refine LWo.tcallN (e := e_impl_Pair) (e' := e_impl_Pair) 1013 rfl rfl (c_impl_pairs _ _ e9) (fun _ => rfl) rfl rfl rfl rfl (hn := ?_)
  refine LWo.assign (.own 1013 0 (x9).length) rfl (hn := ?_)
  refine LWo.nil (hN6 _ ?_)
  refine LWP.seq_k fun N10 hN10 => ?_
  refine LWP.seq_k fun N11 hN11 => ?_
  refine LWP.region (l := [_,_,_,_,_]) ?_
  refine LWo.move (.own 1013 0 (x9).length) rfl (hn := ?_)
  refine LWo.lenO u_Limpl_Pair rfl (hn := ?_)
  refine LWo.move (e_Limpl_Pair o1006) rfl (hn := ?_)
  refine LWo.lenM (f := e_impl_Pair) (l := o1006) u_Limpl_Pair rfl (hn := ?_)
  refine LWo.int _ rfl rfl rfl (hn := ?_)
  refine LWo.nil (hN11 _ ?_)
  refine LWP.cond_split rfl (fun h12 => ?_) (fun h12 => ?_)
  ·have h := bT h12 h
   refine LWP.seq_k fun N13 hN13 => ?_
   refine LWP.region (l := [_,_]) ?_
   refine LWo.move (.own 1013 0 (x9).length) rfl (hn := ?_)
   refine LWo.assign (.own 1013 0 (x9).length) rfl (hn := ?_)
   refine LWo.nil (hN13 _ ?_)
   obtain rfl := Option.some.inj h
   refine LWP.ret (QG.mk (.inr rfl) (.cons (.tmp (x := (.own 1013 0 (x9).length)) rfl) (.nil)) (RetOK.one0 (.nwM rfl rfl) (by decide)) rfl rfl)
  ·have h := bF h12 h
   refine LWP.skip (hN10 _ ?_)
   refine LWP.region (l := [_,_]) ?_
   refine LWo.move (.own 1013 0 (x9).length) rfl (hn := ?_)
   refine LWo.assign (.own 1013 0 (x9).length) rfl (hn := ?_)
   refine LWo.rekey 3 1013 1006 rfl rfl rfl rfl rfl rfl ?_
   refine LWo.nil (hN4 (t0, x9) _ ⟨rfl, rfl, trivial⟩ ⟨rfl, trivial⟩ h)

def m_slices_Equal_Limpl_Pair_impl_Pair_j1  : Option Bool :=
  some true
def m_slices_Equal_Limpl_Pair_impl_Pair_l1 : Nat → (List S_impl_Pair) → (List S_impl_Pair) → Int → Int → Option Bool
  | 0, _, _, _, _ => none
  | n1 + 1, t0, t1, t12, t13 =>
    bif decide (t13 < t12) then ((at? t0 t13).bind fun x16 =>
    (at? t1 t13).bind fun x17 =>
    bif (!(decide (x16 = x17))) then (some false)
    else ((ckI (t13 + (1 : Int))).bind fun x20 =>
    (m_slices_Equal_Limpl_Pair_impl_Pair_l1  n1) t0 t1 t12 x20))
    else (m_slices_Equal_Limpl_Pair_impl_Pair_j1  )
def m_slices_Equal_Limpl_Pair_impl_Pair (a0 : (List S_impl_Pair)) (a1 : (List S_impl_Pair)) : Option Bool :=
  bif ((a0.length : Int) != (a1.length : Int)) then (some false)
  else (m_slices_Equal_Limpl_Pair_impl_Pair_l1  (((a0.length : Int) - (0 : Int)).toNat + 1) a0 a1 (a0.length : Int) (0 : Int))
theorem c_slices_Equal_Limpl_Pair_impl_Pair (a0 : (List S_impl_Pair)) (a1 : (List S_impl_Pair)) (r : Bool) (h : m_slices_Equal_Limpl_Pair_impl_Pair a0 a1 = some r) : Ret Try.prog f_slices_Equal_Limpl_Pair_impl_Pair [e_Limpl_Pair a0, e_Limpl_Pair a1] (e_bool r) := by
  refine Does.goG [] F_slices_Equal_Limpl_Pair_impl_Pair rfl e_slices_Equal_Limpl_Pair_impl_Pair n_slices_Equal_Limpl_Pair_impl_Pair rfl (rvs := [.tmp 4]) rfl rfl ?_
  intro w0 ok0 lent ρ0
  refine LWP.seq_k fun N1 hN1 => ?_
  refine LWP.region (l := [_]) ?_
  refine LWo.assign (e_bool false) rfl (hn := ?_)
  refine LWo.nil (hN1 _ ?_)
  refine LWP.seq_k fun N2 hN2 => ?_
  refine LWP.seq_k fun N3 hN3 => ?_
  refine LWP.region (l := [_,_,_,_,_]) ?_
  refine LWo.move (e_Limpl_Pair a0) rfl (hn := ?_)
  refine LWo.lenM (f := e_impl_Pair) (l := a0) u_Limpl_Pair rfl (hn := ?_)
  refine LWo.move (e_Limpl_Pair a1) rfl (hn := ?_)
  refine LWo.lenM (f := e_impl_Pair) (l := a1) u_Limpl_Pair rfl (hn := ?_)
  refine LWo.int _ rfl rfl rfl (hn := ?_)
  refine LWo.nil (hN3 _ ?_)
  refine LWP.cond_split rfl (fun h4 => ?_) (fun h4 => ?_)
  ·have h := bT h4 h
   refine LWP.seq_k fun N5 hN5 => ?_
   refine LWP.region (l := [_]) ?_
   refine LWo.assign (e_bool false) rfl (hn := ?_)
   refine LWo.nil (hN5 _ ?_)
   obtain rfl := Option.some.inj h
   refine LWP.ret (QG.mk (.inr rfl) (.cons (.tmp (x := (e_bool false)) rfl) (.nil)) (RetOK.one0 (.pure rfl) (by decide)) rfl rfl)
  ·have h := bF h4 h
   refine LWP.skip (hN2 _ ?_)
   refine LWP.join (α := Unit) (fun z : Unit => []) (fun z : Unit => []) (fun z : Unit => m_slices_Equal_Limpl_Pair_impl_Pair_j1  ) r (fun _ => by simp [hkeys]) ?_ ?_
   ·rintro _ h
    replace h : m_slices_Equal_Limpl_Pair_impl_Pair_j1   = some _ := h
    refine LWP.seq_k fun N21 hN21 => ?_
    refine LWP.region (l := [_]) ?_
    refine LWo.assign (e_bool true) rfl (hn := ?_)
    refine LWo.nil (hN21 _ ?_)
    obtain rfl := Option.some.inj h
    refine LWP.ret (QG.mk (.inr rfl) (.cons (.tmp (x := (e_bool true)) rfl) (.nil)) (RetOK.one0 (.pure rfl) (by decide)) rfl rfl)
   ·intro N6 hN6
    refine LWP.seq_k fun N7 hN7 => ?_
    refine LWP.region (l := [_,_,_]) ?_
    refine LWo.move (e_Limpl_Pair a0) rfl (hn := ?_)
    refine LWo.lenM (f := e_impl_Pair) (l := a0) u_Limpl_Pair rfl (hn := ?_)
    refine LWo.move (e_int (0 : Int)) rfl (hn := ?_)
    refine LWo.nil (hN7 _ ?_)
    refine LWP.block ?_
    refine LWP.loopM (α := (List S_impl_Pair) × (List S_impl_Pair) × Int × Int) (fun z : (List S_impl_Pair) × (List S_impl_Pair) × Int × Int => [(0, (e_Limpl_Pair z.1)), (1, (e_Limpl_Pair z.2.1)), (12, (e_int z.2.2.1)), (13, (e_int z.2.2.2))]) (fun z : (List S_impl_Pair) × (List S_impl_Pair) × Int × Int => []) (fun n1 (z : (List S_impl_Pair) × (List S_impl_Pair) × Int × Int) => m_slices_Equal_Limpl_Pair_impl_Pair_l1  n1 z.1 z.2.1 z.2.2.1 z.2.2.2) r _ (a0, a1, (a0.length : Int), (0 : Int)) h (fun _ => rfl) (fun _ => by simp [hkeys]) ⟨rfl, rfl, rfl, rfl, trivial⟩ trivial ?_
    rintro n1 ⟨t0, t1, t12, t13⟩ h N8 hN8
    replace h : m_slices_Equal_Limpl_Pair_impl_Pair_l1  (n1 + 1) t0 t1 t12 t13 = some _ := h
    refine LWP.seq_k fun N10 hN10 => ?_
    refine LWP.region (l := [_]) ?_
    refine LWo.int _ rfl rfl rfl (hn := ?_)
    refine LWo.nil (hN10 _ ?_)
    refine LWP.seq_k fun N11 hN11 => ?_
    refine LWP.cond_split rfl (fun h12 => ?_) (fun h12 => ?_)
    ·have h := bT h12 h
     refine LWP.skip (hN11 _ ?_)
     refine LWP.seq_k fun N13 hN13 => ?_
     refine LWP.block ?_
     refine LWP.seq_k fun N14 hN14 => ?_
     refine LWP.region (l := [_,_]) ?_
     refine LWo.move (e_int t13) rfl (hn := ?_)
     refine LWo.assign (e_int t13) rfl (hn := ?_)
     refine LWo.nil (hN14 _ ?_)
     refine LWP.seq_k fun N15 hN15 => ?_
     refine bk h fun x16 e16 h => ?_
     refine bk h fun x17 e17 h => ?_
     refine LWP.drawF (l := [_,_,_,_,_,_,_,_,_]) [] [0, 1, 5, 12, 13] [([0], []), ([5], []), ([16, 17], []), ([18], []), ([1], []), ([5], []), ([20, 21], []), ([22], []), ([19, 23], [])] [0, 1, 12, 13, 24] [] mixed (by kernel_rfl) rfl (by decide) ?_
     refine dq 16 rfl (fun _ g u h => LWo.move (e_Limpl_Pair t0) u.1 (hn := .nil (zn g))) ?_
     refine dq 17 rfl (fun _ g u h => LWo.move (e_int t13) u.1 (hn := .nil (zn g))) ?_
     refine dq 18 rfl (fun _ g u h => LWo.indexM (f := e_impl_Pair) e16 u_Limpl_Pair s_impl_Pair u.1 u.2.1 (hn := .nil (zn g))) ?_
     refine dq 19 rfl (fun _ g u h => LWo.loadN ((e_impl_Pair x16)).cells g_impl_Pair s_impl_Pair u.1 (Nat.le_of_ble_eq_true rfl) rfl (hn := .nil (zn g))) ?_
     refine dq 20 rfl (fun _ g u h => LWo.move (e_Limpl_Pair t1) u.1 (hn := .nil (zn g))) ?_
     refine dq 21 rfl (fun _ g u h => LWo.move (e_int t13) u.1 (hn := .nil (zn g))) ?_
     refine dq 22 rfl (fun _ g u h => LWo.indexM (f := e_impl_Pair) e17 u_Limpl_Pair s_impl_Pair u.1 u.2.1 (hn := .nil (zn g))) ?_
     refine dq 23 rfl (fun _ g u h => LWo.loadN ((e_impl_Pair x17)).cells g_impl_Pair s_impl_Pair u.1 (Nat.le_of_ble_eq_true rfl) rfl (hn := .nil (zn g))) ?_
     refine dq 24 rfl (fun _ g u h => LWo.ne_impl_Pair _ _ u.1 u.2.1 (hn := .nil (zn g))) ?_
     refine ⟨rfl, by kernel_rfl, hN15 _ ?_⟩
     refine LWP.cond_split rfl (fun h18 => ?_) (fun h18 => ?_)
     ·have h := bT h18 h
      refine LWP.seq_k fun N19 hN19 => ?_
      refine LWP.region (l := [_]) ?_
      refine LWo.assign (e_bool false) rfl (hn := ?_)
      refine LWo.nil (hN19 _ ?_)
      obtain rfl := Option.some.inj h
      refine LWP.ret (QG.mk (.inr rfl) (.cons (.tmp (x := (e_bool false)) rfl) (.nil)) (RetOK.one0 (.pure rfl) (by decide)) rfl rfl)
     ·have h := bF h18 h
      refine LWP.skip (hN13 _ ?_)
      refine LWP.region (l := [_,_]) ?_
      refine bk h fun x20 e20 h => ?_
      refine LWo.int _ rfl rfl (add_ck e20) (hn := ?_)
      refine LWo.move (e_int x20) rfl (hn := ?_)
      refine LWo.nil (hN8 (t0, t1, t12, x20) _ ⟨rfl, rfl, rfl, rfl, trivial⟩ trivial h)
    ·have h := bF h12 h
     refine LWP.exit (hN6 () _ trivial trivial h)

def m_slices_Clone_Limpl_Pair_impl_Pair (a0 : (List S_impl_Pair)) : Option (List S_impl_Pair) :=
  nilM a0 fun b4 =>
  bif b4 then (some ([] : (List S_impl_Pair)))
  else ((app? ([] : (List S_impl_Pair)) a0).bind fun x8 =>
  some x8)
theorem c_slices_Clone_Limpl_Pair_impl_Pair (a0 : (List S_impl_Pair)) (r : (List S_impl_Pair)) (h : m_slices_Clone_Limpl_Pair_impl_Pair a0 = some r) : Ret Try.prog f_slices_Clone_Limpl_Pair_impl_Pair [e_Limpl_Pair a0] (.nw 2 (r.map e_impl_Pair) false) := by
  refine Does.goG [] F_slices_Clone_Limpl_Pair_impl_Pair rfl e_slices_Clone_Limpl_Pair_impl_Pair n_slices_Clone_Limpl_Pair_impl_Pair rfl (rvs := [.tmp 2]) rfl rfl ?_
  intro w0 ok0 lent ρ0
  refine LWP.seq_k fun N1 hN1 => ?_
  refine LWP.region (l := [_]) ?_
  refine LWo.assign _ rfl (hn := ?_)
  refine LWo.ownNil 2 1002 2 rfl rfl rfl ?_
  refine LWo.known 2 (.own 1002 0 ([] : (List S_impl_Pair)).length) rfl ?_
  refine LWo.nil (hN1 _ ?_)
  refine LWP.seq_k fun N2 hN2 => ?_
  refine LWP.seq_k fun N3 hN3 => ?_
  refine LWP.region (l := [_,_]) ?_
  refine LWo.move (e_Limpl_Pair a0) rfl (hn := ?_)
  refine LWo.nilEq (f := e_impl_Pair) u_Limpl_Pair rfl rfl (hn := fun b4 e4 => nkb h b4 e4 fun h => ?_)
  refine LWo.nil (hN3 _ ?_)
  refine LWP.cond_split rfl (fun h5 => ?_) (fun h5 => ?_)
  ·have h := bT h5 h
   refine LWP.seq_k fun N6 hN6 => ?_
   refine LWP.region (l := [_]) ?_
   refine LWo.assign _ rfl (hn := ?_)
   refine LWo.ownNil 2 1002 2 rfl rfl rfl ?_
   refine LWo.known 2 (.own 1002 0 ([] : (List S_impl_Pair)).length) rfl ?_
   refine LWo.nil (hN6 _ ?_)
   obtain rfl := Option.some.inj h
   refine LWP.ret (QG.mk (.inr rfl) (.cons (.tmp (x := (.own 1002 0 (([] : (List S_impl_Pair))).length)) rfl) (.nil)) (RetOK.one0 (.nwM rfl rfl) (by decide)) rfl rfl)
  ·have h := bF h5 h
   refine LWP.skip (hN2 _ ?_)
   refine LWP.seq_k fun N7 hN7 => ?_
   refine LWP.region (l := [_,_,_,_]) ?_
   refine LWo.lit0 1005 u_Limpl_Pair s_impl_Pair z_impl_Pair (hn := ?_)
   refine LWo.known 5 (.own 1005 0 ([] : (List S_impl_Pair)).length) rfl ?_
   refine LWo.move (e_Limpl_Pair a0) rfl (hn := ?_)
   refine bk h fun x8 e8 h => ?_
   refine LWo.appendM (f := e_impl_Pair) e8 rfl u_Limpl_Pair u_Limpl_Pair (fun _ h => by cases h) s_impl_Pair i_impl_Pair rfl rfl rfl (.sl rfl) rfl rfl (hn := ?_)
   refine LWo.assign (.own 1005 0 (x8).length) rfl (hn := ?_)
   refine LWo.nil (hN7 _ ?_)
   obtain rfl := Option.some.inj h
   refine LWP.ret (QG.mk (.inr rfl) (.cons (.tmp (x := (.own 1005 0 (x8).length)) rfl) (.nil)) (RetOK.one0 (.nwM rfl rfl) (by decide)) rfl rfl)

def m_impl_ClosureMore_j6 (o1063 : (List S_impl_Pair)) : Option (List S_impl_Pair) :=
  (m_impl_pairs o1063).bind fun x59 =>
  some x59
def m_impl_ClosureMore_j5 (k2 : Int → Int → (List Int) → (List Int) → (List S_impl_Pair) → Option (List S_impl_Pair)) (t65 : Int) (t66 : Int) (o1031 : (List Int)) (o1034 : (List Int)) (o1063 : (List S_impl_Pair)) : Option (List S_impl_Pair) :=
  (ckI (t66 + (1 : Int))).bind fun x57 =>
  k2 t65 x57 o1031 o1034 o1063
def m_impl_ClosureMore_l3 (k2 : Int → Int → (List Int) → (List Int) → (List S_impl_Pair) → Option (List S_impl_Pair)) : Nat → Int → Int → Int → Int → Int → (List Int) → (List Int) → (List S_impl_Pair) → Option (List S_impl_Pair)
  | 0, _, _, _, _, _, _, _, _ => none
  | n3 + 1, t11, t65, t66, t71, t72, o1031, o1034, o1063 =>
    bif decide (t72 < t71) then ((at? o1034 t72).bind fun x53 =>
    (at? o1034 t72).bind fun x54 =>
    (app? o1063 ([(⟨t11, x54⟩ : S_impl_Pair)] : (List S_impl_Pair))).bind fun x55 =>
    (ckI (t72 + (1 : Int))).bind fun x56 =>
    (m_impl_ClosureMore_l3  k2 n3) t11 t65 t66 t71 x56 o1031 o1034 x55)
    else (m_impl_ClosureMore_j5  k2 t65 t66 o1031 o1034 o1063)
def m_impl_ClosureMore_l2 : Nat → Int → Int → (List Int) → (List Int) → (List S_impl_Pair) → Option (List S_impl_Pair)
  | 0, _, _, _, _, _ => none
  | n2 + 1, t65, t66, o1031, o1034, o1063 =>
    bif decide (t66 < t65) then ((at? o1031 t66).bind fun x43 =>
    (at? o1031 t66).bind fun x44 =>
    m_impl_ClosureMore_l3  (m_impl_ClosureMore_l2  n2) (((o1034.length : Int) - (0 : Int)).toNat + 1) x44 t65 t66 (o1034.length : Int) (0 : Int) o1031 o1034 o1063)
    else (m_impl_ClosureMore_j6  o1063)
def m_impl_ClosureMore_j4 (t0 : (List S_impl_Pair)) (o1031 : (List Int)) (o1034 : (List Int)) : Option (List S_impl_Pair) :=
  (m_slices_Clone_Limpl_Pair_impl_Pair t0).bind fun x33 =>
  m_impl_ClosureMore_l2  (((o1031.length : Int) - (0 : Int)).toNat + 1) (o1031.length : Int) (0 : Int) o1031 o1034 x33
def m_impl_ClosureMore_j3 (k1 : (List S_impl_Pair) → S_impl_Pair → (List S_impl_Pair) → Int → Int → (List Int) → (List Int) → Option (List S_impl_Pair)) (t0 : (List S_impl_Pair)) (t3 : S_impl_Pair) (t35 : (List S_impl_Pair)) (t36 : Int) (t37 : Int) (o1031 : (List Int)) (o1034 : (List Int)) : Option (List S_impl_Pair) :=
  (ckI (t37 + (1 : Int))).bind fun x31 =>
  k1 t0 t3 t35 t36 x31 o1031 o1034
def m_impl_ClosureMore_j2 (k1 : (List S_impl_Pair) → S_impl_Pair → (List S_impl_Pair) → Int → Int → (List Int) → (List Int) → Option (List S_impl_Pair)) (t0 : (List S_impl_Pair)) (t3 : S_impl_Pair) (t35 : (List S_impl_Pair)) (t36 : Int) (t37 : Int) (o8 : S_impl_Pair) (o1031 : (List Int)) (o1034 : (List Int)) : Option (List S_impl_Pair) :=
  bif (o8.From == t3.To) then ((app? o1034 ([o8.To] : (List Int))).bind fun x30 =>
    m_impl_ClosureMore_j3  k1 t0 t3 t35 t36 t37 o1031 x30)
  else (m_impl_ClosureMore_j3  k1 t0 t3 t35 t36 t37 o1031 o1034)
def m_impl_ClosureMore_l1 : Nat → (List S_impl_Pair) → S_impl_Pair → (List S_impl_Pair) → Int → Int → (List Int) → (List Int) → Option (List S_impl_Pair)
  | 0, _, _, _, _, _, _, _ => none
  | n1 + 1, t0, t3, t35, t36, t37, o1031, o1034 =>
    bif decide (t37 < t36) then ((at? t35 t37).bind fun x22 =>
    lt (x22) fun y23 =>
    bif (y23.To == t3.From) then ((app? o1031 ([y23.From] : (List Int))).bind fun x27 =>
      m_impl_ClosureMore_j2  (m_impl_ClosureMore_l1  n1) t0 t3 t35 t36 t37 y23 x27 o1034)
    else (m_impl_ClosureMore_j2  (m_impl_ClosureMore_l1  n1) t0 t3 t35 t36 t37 y23 o1031 o1034))
    else (m_impl_ClosureMore_j4  t0 o1031 o1034)
def m_impl_ClosureMore_j1 (t0 : (List S_impl_Pair)) (t3 : S_impl_Pair) (t28 : Bool) : Option (List S_impl_Pair) :=
  bif t28 then (some ([] : (List S_impl_Pair)))
  else (m_impl_ClosureMore_l1  (((t0.length : Int) - (0 : Int)).toNat + 1) t0 t3 t0 (t0.length : Int) (0 : Int) ([t3.From] : (List Int)) ([t3.To] : (List Int)))
def m_impl_ClosureMore (a0 : (List S_impl_Pair)) (a1 : S_impl_Pair) : Option (List S_impl_Pair) :=
  (m_impl_PairsOk a0).bind fun x4 =>
  bif (!x4) then (m_impl_ClosureMore_j1  a0 a1 true)
  else ((m_impl_Pair_ok a1).bind fun x6 =>
    bif (!x6) then (m_impl_ClosureMore_j1  a0 a1 true)
    else ((m_impl_closure a0).bind fun x8 =>
      (m_slices_Equal_Limpl_Pair_impl_Pair x8 a0).bind fun x9 =>
      m_impl_ClosureMore_j1  a0 a1 (!x9)))
theorem c_impl_ClosureMore (a0 : (List S_impl_Pair)) (a1 : S_impl_Pair) (r : (List S_impl_Pair)) (h : m_impl_ClosureMore a0 a1 = some r) : Ret Try.prog f_impl_ClosureMore [e_Limpl_Pair a0, e_impl_Pair a1] (.nw 2 (r.map e_impl_Pair) false) := by
  refine Does.goG [] F_impl_ClosureMore rfl e_impl_ClosureMore n_impl_ClosureMore rfl (rvs := [.tmp 4]) rfl rfl ?_
  intro w0 ok0 lent ρ0
  refine LWP.seq_k fun N1 hN1 => ?_
  refine LWP.region (l := [_,_]) ?_
  refine LWo.boxF (e_impl_Pair a1) rfl rfl rfl (hn := ?_)
  refine LWo.assign _ rfl (hn := ?_)
  refine LWo.ownNil 4 1004 2 rfl rfl rfl ?_
  refine LWo.known 4 (.own 1004 0 ([] : (List S_impl_Pair)).length) rfl ?_
  refine LWo.nil (hN1 _ ?_)
  refine LWP.seq_k fun N2 hN2 => ?_
  refine LWP.join (α := (List S_impl_Pair) × S_impl_Pair × Bool) (fun z : (List S_impl_Pair) × S_impl_Pair × Bool => [(0, (e_Limpl_Pair z.1)), (3, (.fp (e_impl_Pair z.2.1).cells)), (28, (e_bool z.2.2))]) (fun z : (List S_impl_Pair) × S_impl_Pair × Bool => []) (fun z : (List S_impl_Pair) × S_impl_Pair × Bool => m_impl_ClosureMore_j1  z.1 z.2.1 z.2.2) r (fun _ => by simp [hkeys]) ?_ ?_
  ·rintro ⟨t0, t3, t28⟩ h
   replace h : m_impl_ClosureMore_j1  t0 t3 t28 = some _ := h
   refine LWP.cond_split rfl (fun h10 => ?_) (fun h10 => ?_)
   ·have h := bT h10 h
    refine LWP.seq_k fun N11 hN11 => ?_
    refine LWP.region (l := [_]) ?_
    refine LWo.assign _ rfl (hn := ?_)
    refine LWo.ownNil 4 1004 2 rfl rfl rfl ?_
    refine LWo.known 4 (.own 1004 0 ([] : (List S_impl_Pair)).length) rfl ?_
    refine LWo.nil (hN11 _ ?_)
    obtain rfl := Option.some.inj h
    refine LWP.ret (QG.mk (.inr rfl) (.cons (.tmp (x := (.own 1004 0 (([] : (List S_impl_Pair))).length)) rfl) (.nil)) (RetOK.one0 (.nwM rfl rfl) (by decide)) rfl rfl)
   ·have h := bF h10 h
    refine LWP.skip (hN2 _ ?_)
    refine LWP.seq_k fun N12 hN12 => ?_
    refine LWP.drawF (l := [_,_,_,_,_,_,_,_]) [(1031, 1031), (1034, 1034)] [0, 3] [([3], []), ([29], []), ([30], []), ([3], []), ([32], []), ([33], []), ([31], []), ([34], [])] [0, 3, 5, 6] [1031, 1034] mixed (by kernel_rfl) rfl (by decide) ?_
    refine dq 29 rfl (fun _ g u h => LWo.fieldAddr _ u_impl_Pair rfl s_int u.1 rfl (hn := .nil (zn g))) ?_
    refine dq 30 rfl (fun _ g u h => LWo.load1 (c := (e_int t3.From)) g_int u.1 (hn := .nil (zn g))) ?_
    refine ⟨rfl, .make 31 _ 1031 _, (by exact (goodC rfl (goodC rfl goodN))), fun _ g u h => LWo.litO (ops := [_]) (f := e_int) (l := ([t3.From] : (List Int))) 1031 u_Lint s_int z_int (lv1 u.1) rfl rfl rfl rfl (lone_of g rfl) (hn := LWo.nil ⟨rfl, .inl rfl, Ef.good_ok (e := .make 31 _ 1031 _) (by exact (goodC rfl (goodC rfl goodN))) g⟩), ?_⟩
    refine dq 32 rfl (fun _ g u h => LWo.fieldAddr _ u_impl_Pair rfl s_int u.1 rfl (hn := .nil (zn g))) ?_
    refine dq 33 rfl (fun _ g u h => LWo.load1 (c := (e_int t3.To)) g_int u.1 (hn := .nil (zn g))) ?_
    refine ⟨rfl, .make 34 _ 1034 _, (by exact (goodC rfl (goodC rfl goodN))), fun _ g u h => LWo.litO (ops := [_]) (f := e_int) (l := ([t3.To] : (List Int))) 1034 u_Lint s_int z_int (lv1 u.1) rfl rfl rfl rfl (lone_of g rfl) (hn := LWo.nil ⟨rfl, .inl rfl, Ef.good_ok (e := .make 34 _ 1034 _) (by exact (goodC rfl (goodC rfl goodN))) g⟩), ?_⟩
    refine dq 5 rfl (fun _ g u h => LWo.assign (.own 1031 0 (([t3.From] : (List Int))).length) u.1 (hn := .nil (zn g))) ?_
    refine dq 6 rfl (fun _ g u h => LWo.assign (.own 1034 0 (([t3.To] : (List Int))).length) u.1 (hn := .nil (zn g))) ?_
    refine ⟨rfl, by kernel_rfl, hN12 _ ?_⟩
    refine LWP.join (α := (List S_impl_Pair) × (List Int) × (List Int)) (fun z : (List S_impl_Pair) × (List Int) × (List Int) => [(0, (e_Limpl_Pair z.1)), (5, (.own 1031 0 (z.2.1).length)), (6, (.own 1034 0 (z.2.2).length))]) (fun z : (List S_impl_Pair) × (List Int) × (List Int) => [(1031, (lob 1 e_int z.2.1)), (1034, (lob 1 e_int z.2.2))]) (fun z : (List S_impl_Pair) × (List Int) × (List Int) => m_impl_ClosureMore_j4  z.1 z.2.1 z.2.2) r (fun _ => by simp [hkeys]) ?_ ?_
    ·rintro ⟨t0, o1031, o1034⟩ h
     replace h : m_impl_ClosureMore_j4  t0 o1031 o1034 = some _ := h
     refine LWP.seq_k fun N32 hN32 => ?_
     refine LWP.region (l := [_,_,_]) ?_
     refine LWo.move (e_Limpl_Pair t0) rfl (hn := ?_)
     refine bk h fun x33 e33 h => ?_
     refine LWo.ncall (e := e_impl_Pair) 1063 rfl rfl (c_slices_Clone_Limpl_Pair_impl_Pair _ _ e33) (.same (.nil)) rfl (hn := ?_)
     refine LWo.assign (.own 1063 0 (x33).length) rfl (hn := ?_)
     refine LWo.nil (hN32 _ ?_)
     refine LWP.join (α := (List S_impl_Pair)) (fun z : (List S_impl_Pair) => [(9, (.own 1063 0 (z).length))]) (fun z : (List S_impl_Pair) => [(1063, (lob 2 e_impl_Pair z))]) (fun z : (List S_impl_Pair) => m_impl_ClosureMore_j6  z) r (fun _ => by simp [hkeys]) ?_ ?_
     ·rintro o1063 h
      replace h : m_impl_ClosureMore_j6  o1063 = some _ := h
      refine LWP.seq_k fun N58 hN58 => ?_
      refine LWP.region (l := [_,_,_]) ?_
      refine LWo.move (.own 1063 0 (o1063).length) rfl (hn := ?_)
      refine bk h fun x59 e59 h => ?_
      refine LWo.tcallN (e := e_impl_Pair) (e' := e_impl_Pair) 1085 rfl rfl (c_impl_pairs _ _ e59) (fun _ => rfl) rfl rfl rfl rfl (hn := ?_)
      refine LWo.assign (.own 1085 0 (x59).length) rfl (hn := ?_)
      refine LWo.nil (hN58 _ ?_)
      obtain rfl := Option.some.inj h
      refine LWP.ret (QG.mk (.inr rfl) (.cons (.tmp (x := (.own 1085 0 (x59).length)) rfl) (.nil)) (RetOK.one0 (.nwM rfl rfl) (by decide)) rfl rfl)
     ·intro N34 hN34
      refine LWP.seq_k fun N35 hN35 => ?_
      refine LWP.region (l := [_,_,_]) ?_
      refine LWo.move (.own 1031 0 (o1031).length) rfl (hn := ?_)
      refine LWo.lenO u_Lint rfl (hn := ?_)
      refine LWo.move (e_int (0 : Int)) rfl (hn := ?_)
      refine LWo.nil (hN35 _ ?_)
      refine LWP.block ?_
      refine LWP.loopM (α := Int × Int × (List Int) × (List Int) × (List S_impl_Pair)) (fun z : Int × Int × (List Int) × (List Int) × (List S_impl_Pair) => [(6, (.own 1034 0 (z.2.2.2.1).length)), (9, (.own 1063 0 (z.2.2.2.2).length)), (64, (.own 1031 0 (z.2.2.1).length)), (65, (e_int z.1)), (66, (e_int z.2.1))]) (fun z : Int × Int × (List Int) × (List Int) × (List S_impl_Pair) => [(1031, (lob 1 e_int z.2.2.1)), (1034, (lob 1 e_int z.2.2.2.1)), (1063, (lob 2 e_impl_Pair z.2.2.2.2))]) (fun n2 (z : Int × Int × (List Int) × (List Int) × (List S_impl_Pair)) => m_impl_ClosureMore_l2  n2 z.1 z.2.1 z.2.2.1 z.2.2.2.1 z.2.2.2.2) r _ ((o1031.length : Int), (0 : Int), o1031, o1034, x33) h (fun _ => rfl) (fun _ => by simp [hkeys]) ⟨rfl, rfl, rfl, rfl, rfl, trivial⟩ ⟨rfl, rfl, rfl, trivial⟩ ?_
      rintro n2 ⟨t65, t66, o1031, o1034, o1063⟩ h N36 hN36
      replace h : m_impl_ClosureMore_l2  (n2 + 1) t65 t66 o1031 o1034 o1063 = some _ := h
      refine LWP.seq_k fun N38 hN38 => ?_
      refine LWP.region (l := [_]) ?_
      refine LWo.int _ rfl rfl rfl (hn := ?_)
      refine LWo.nil (hN38 _ ?_)
      refine LWP.seq_k fun N39 hN39 => ?_
      refine LWP.cond_split rfl (fun h40 => ?_) (fun h40 => ?_)
      ·have h := bT h40 h
       refine LWP.skip (hN39 _ ?_)
       refine LWP.join (α := Int × Int × (List Int) × (List Int) × (List S_impl_Pair)) (fun z : Int × Int × (List Int) × (List Int) × (List S_impl_Pair) => [(6, (.own 1034 0 (z.2.2.2.1).length)), (9, (.own 1063 0 (z.2.2.2.2).length)), (64, (.own 1031 0 (z.2.2.1).length)), (65, (e_int z.1)), (66, (e_int z.2.1))]) (fun z : Int × Int × (List Int) × (List Int) × (List S_impl_Pair) => [(1031, (lob 1 e_int z.2.2.1)), (1034, (lob 1 e_int z.2.2.2.1)), (1063, (lob 2 e_impl_Pair z.2.2.2.2))]) (fun z : Int × Int × (List Int) × (List Int) × (List S_impl_Pair) => m_impl_ClosureMore_j5  (m_impl_ClosureMore_l2  n2) z.1 z.2.1 z.2.2.1 z.2.2.2.1 z.2.2.2.2) r (fun _ => by simp [hkeys]) ?_ ?_
       ·rintro ⟨t65, t66, o1031, o1034, o1063⟩ h
        replace h : m_impl_ClosureMore_j5  (m_impl_ClosureMore_l2  n2) t65 t66 o1031 o1034 o1063 = some _ := h
        refine LWP.region (l := [_,_]) ?_
        refine bk h fun x57 e57 h => ?_
        refine LWo.int _ rfl rfl (add_ck e57) (hn := ?_)
        refine LWo.move (e_int x57) rfl (hn := ?_)
        refine LWo.nil (hN36 (t65, x57, o1031, o1034, o1063) _ ⟨rfl, rfl, rfl, rfl, rfl, trivial⟩ ⟨rfl, rfl, rfl, trivial⟩ h)
       ·intro N41 hN41
        refine LWP.block ?_
        refine LWP.seq_k fun N42 hN42 => ?_
        refine LWP.region (l := [_,_,_]) ?_
        refine bk h fun x43 e43 h => ?_
        refine LWo.indexO e43 rfl u_Lint s_int rfl rfl rfl (hn := ?_)
        refine bk h fun x44 e44 h => ?_
        refine LWo.loadO1 (e_int x44) e44 g_int rfl rfl rfl (hn := ?_)
        refine LWo.assign (e_int x44) rfl (hn := ?_)
        refine LWo.nil (hN42 _ ?_)
        refine LWP.seq_k fun N45 hN45 => ?_
        refine LWP.region (l := [_,_,_]) ?_
        refine LWo.move (.own 1034 0 (o1034).length) rfl (hn := ?_)
        refine LWo.lenO u_Lint rfl (hn := ?_)
        refine LWo.move (e_int (0 : Int)) rfl (hn := ?_)
        refine LWo.nil (hN45 _ ?_)
        refine LWP.block ?_
        refine LWP.loopM (α := Int × Int × Int × Int × Int × (List Int) × (List Int) × (List S_impl_Pair)) (fun z : Int × Int × Int × Int × Int × (List Int) × (List Int) × (List S_impl_Pair) => [(6, (.own 1034 0 (z.2.2.2.2.2.2.1).length)), (9, (.own 1063 0 (z.2.2.2.2.2.2.2).length)), (11, (e_int z.1)), (64, (.own 1031 0 (z.2.2.2.2.2.1).length)), (65, (e_int z.2.1)), (66, (e_int z.2.2.1)), (70, (.own 1034 0 (z.2.2.2.2.2.2.1).length)), (71, (e_int z.2.2.2.1)), (72, (e_int z.2.2.2.2.1))]) (fun z : Int × Int × Int × Int × Int × (List Int) × (List Int) × (List S_impl_Pair) => [(1031, (lob 1 e_int z.2.2.2.2.2.1)), (1034, (lob 1 e_int z.2.2.2.2.2.2.1)), (1063, (lob 2 e_impl_Pair z.2.2.2.2.2.2.2))]) (fun n3 (z : Int × Int × Int × Int × Int × (List Int) × (List Int) × (List S_impl_Pair)) => m_impl_ClosureMore_l3  (m_impl_ClosureMore_l2  n2) n3 z.1 z.2.1 z.2.2.1 z.2.2.2.1 z.2.2.2.2.1 z.2.2.2.2.2.1 z.2.2.2.2.2.2.1 z.2.2.2.2.2.2.2) r _ (x44, t65, t66, (o1034.length : Int), (0 : Int), o1031, o1034, o1063) h (fun _ => rfl) (fun _ => by simp [hkeys]) ⟨rfl, rfl, rfl, rfl, rfl, rfl, rfl, rfl, rfl, trivial⟩ ⟨rfl, rfl, rfl, trivial⟩ ?_
        rintro n3 ⟨t11, t65, t66, t71, t72, o1031, o1034, o1063⟩ h N46 hN46
        replace h : m_impl_ClosureMore_l3  (m_impl_ClosureMore_l2  n2) (n3 + 1) t11 t65 t66 t71 t72 o1031 o1034 o1063 = some _ := h
        refine LWP.seq_k fun N48 hN48 => ?_
        refine LWP.region (l := [_]) ?_
        refine LWo.int _ rfl rfl rfl (hn := ?_)
        refine LWo.nil (hN48 _ ?_)
        refine LWP.seq_k fun N49 hN49 => ?_
        refine LWP.cond_split rfl (fun h50 => ?_) (fun h50 => ?_)
        ·have h := bT h50 h
         refine LWP.skip (hN49 _ ?_)
         refine LWP.seq_k fun N51 hN51 => ?_
         refine LWP.block ?_
         refine LWP.seq_k fun N52 hN52 => ?_
         refine LWP.region (l := [_,_,_]) ?_
         refine bk h fun x53 e53 h => ?_
         refine LWo.indexO e53 rfl u_Lint s_int rfl rfl rfl (hn := ?_)
         refine bk h fun x54 e54 h => ?_
         refine LWo.loadO1 (e_int x54) e54 g_int rfl rfl rfl (hn := ?_)
         refine LWo.assign (e_int x54) rfl (hn := ?_)
         refine LWo.nil (hN52 _ ?_)
         refine LWP.region (l := [_,_,_,_,_,_,_]) ?_
         refine LWo.move (.own 1063 0 (o1063).length) rfl (hn := ?_)
         refine LWo.move (e_int t11) rfl (hn := ?_)
         refine LWo.move (e_int x54) rfl (hn := ?_)
         refine LWo.build_impl_Pair (parts := [_, _]) (⟨t11, x54⟩ : S_impl_Pair) rfl rfl rfl .refl (hn := ?_)
         refine LWo.lit (ops := [_]) [(e_impl_Pair (⟨t11, x54⟩ : S_impl_Pair))] u_Limpl_Pair s_impl_Pair z_impl_Pair rfl rfl rfl rfl rfl rfl (hn := ?_)
         refine bk h fun x55 e55 h => ?_
         refine LWo.appendM (f := e_impl_Pair) e55 rfl u_Limpl_Pair u_Limpl_Pair (fun _ h => by cases h) s_impl_Pair i_impl_Pair rfl rfl rfl (.sl rfl) rfl rfl (hn := ?_)
         refine LWo.assign (.own 1063 0 (x55).length) rfl (hn := ?_)
         refine LWo.nil (hN51 _ ?_)
         refine LWP.region (l := [_,_]) ?_
         refine bk h fun x56 e56 h => ?_
         refine LWo.int _ rfl rfl (add_ck e56) (hn := ?_)
         refine LWo.move (e_int x56) rfl (hn := ?_)
         refine LWo.nil (hN46 (t11, t65, t66, t71, x56, o1031, o1034, x55) _ ⟨rfl, rfl, rfl, rfl, rfl, rfl, rfl, rfl, rfl, trivial⟩ ⟨rfl, rfl, rfl, trivial⟩ h)
        ·have h := bF h50 h
         refine LWP.exit (hN41 (t65, t66, o1031, o1034, o1063) _ ⟨rfl, rfl, rfl, rfl, rfl, trivial⟩ ⟨rfl, rfl, rfl, trivial⟩ h)
      ·have h := bF h40 h
       refine LWP.exit (hN34 o1063 _ ⟨rfl, trivial⟩ ⟨rfl, trivial⟩ h)
    ·intro N13 hN13
     refine LWP.seq_k fun N14 hN14 => ?_
     refine LWP.region (l := [_,_,_]) ?_
     refine LWo.move (e_Limpl_Pair t0) rfl (hn := ?_)
     refine LWo.lenM (f := e_impl_Pair) (l := t0) u_Limpl_Pair rfl (hn := ?_)
     refine LWo.move (e_int (0 : Int)) rfl (hn := ?_)
     refine LWo.nil (hN14 _ ?_)
     refine LWP.block ?_
     refine LWP.loopM (α := (List S_impl_Pair) × S_impl_Pair × (List S_impl_Pair) × Int × Int × (List Int) × (List Int)) (fun z : (List S_impl_Pair) × S_impl_Pair × (List S_impl_Pair) × Int × Int × (List Int) × (List Int) => [(0, (e_Limpl_Pair z.1)), (3, (.fp (e_impl_Pair z.2.1).cells)), (5, (.own 1031 0 (z.2.2.2.2.2.1).length)), (6, (.own 1034 0 (z.2.2.2.2.2.2).length)), (35, (e_Limpl_Pair z.2.2.1)), (36, (e_int z.2.2.2.1)), (37, (e_int z.2.2.2.2.1))]) (fun z : (List S_impl_Pair) × S_impl_Pair × (List S_impl_Pair) × Int × Int × (List Int) × (List Int) => [(1031, (lob 1 e_int z.2.2.2.2.2.1)), (1034, (lob 1 e_int z.2.2.2.2.2.2))]) (fun n1 (z : (List S_impl_Pair) × S_impl_Pair × (List S_impl_Pair) × Int × Int × (List Int) × (List Int)) => m_impl_ClosureMore_l1  n1 z.1 z.2.1 z.2.2.1 z.2.2.2.1 z.2.2.2.2.1 z.2.2.2.2.2.1 z.2.2.2.2.2.2) r _ (t0, t3, t0, (t0.length : Int), (0 : Int), ([t3.From] : (List Int)), ([t3.To] : (List Int))) h (fun _ => rfl) (fun _ => by simp [hkeys]) ⟨rfl, rfl, rfl, rfl, rfl, rfl, rfl, trivial⟩ ⟨rfl, rfl, trivial⟩ ?_
     rintro n1 ⟨t0, t3, t35, t36, t37, o1031, o1034⟩ h N15 hN15
     replace h : m_impl_ClosureMore_l1  (n1 + 1) t0 t3 t35 t36 t37 o1031 o1034 = some _ := h
     refine LWP.seq_k fun N17 hN17 => ?_
     refine LWP.region (l := [_]) ?_
     refine LWo.int _ rfl rfl rfl (hn := ?_)
     refine LWo.nil (hN17 _ ?_)
     refine LWP.seq_k fun N18 hN18 => ?_
     refine LWP.cond_split rfl (fun h19 => ?_) (fun h19 => ?_)
     ·have h := bT h19 h
      refine LWP.skip (hN18 _ ?_)
      refine LWP.join (α := (List S_impl_Pair) × S_impl_Pair × (List S_impl_Pair) × Int × Int × (List Int) × (List Int)) (fun z : (List S_impl_Pair) × S_impl_Pair × (List S_impl_Pair) × Int × Int × (List Int) × (List Int) => [(0, (e_Limpl_Pair z.1)), (3, (.fp (e_impl_Pair z.2.1).cells)), (5, (.own 1031 0 (z.2.2.2.2.2.1).length)), (6, (.own 1034 0 (z.2.2.2.2.2.2).length)), (35, (e_Limpl_Pair z.2.2.1)), (36, (e_int z.2.2.2.1)), (37, (e_int z.2.2.2.2.1))]) (fun z : (List S_impl_Pair) × S_impl_Pair × (List S_impl_Pair) × Int × Int × (List Int) × (List Int) => [(1031, (lob 1 e_int z.2.2.2.2.2.1)), (1034, (lob 1 e_int z.2.2.2.2.2.2))]) (fun z : (List S_impl_Pair) × S_impl_Pair × (List S_impl_Pair) × Int × Int × (List Int) × (List Int) => m_impl_ClosureMore_j3  (m_impl_ClosureMore_l1  n1) z.1 z.2.1 z.2.2.1 z.2.2.2.1 z.2.2.2.2.1 z.2.2.2.2.2.1 z.2.2.2.2.2.2) r (fun _ => by simp [hkeys]) ?_ ?_
      ·rintro ⟨t0, t3, t35, t36, t37, o1031, o1034⟩ h
       replace h : m_impl_ClosureMore_j3  (m_impl_ClosureMore_l1  n1) t0 t3 t35 t36 t37 o1031 o1034 = some _ := h
       refine LWP.region (l := [_,_]) ?_
       refine bk h fun x31 e31 h => ?_
       refine LWo.int _ rfl rfl (add_ck e31) (hn := ?_)
       refine LWo.move (e_int x31) rfl (hn := ?_)
       refine LWo.nil (hN15 (t0, t3, t35, t36, x31, o1031, o1034) _ ⟨rfl, rfl, rfl, rfl, rfl, rfl, rfl, trivial⟩ ⟨rfl, rfl, trivial⟩ h)
      ·intro N20 hN20
       refine LWP.block ?_
       refine LWP.seq_k fun N21 hN21 => ?_
       refine LWP.region (l := [_,_,_,_]) ?_
       refine bk h fun x22 e22 h => ?_
       refine LWo.indexM (f := e_impl_Pair) e22 u_Limpl_Pair s_impl_Pair rfl rfl (hn := ?_)
       refine LWo.loadN ((e_impl_Pair x22)).cells g_impl_Pair s_impl_Pair rfl (Nat.le_of_ble_eq_true rfl) rfl (hn := ?_)
       refine LWo.alloc_impl_Pair 8 rfl (hn := ?_)
       refine lk h fun y23 e23 h => ?_
       refine LWo.storeW (y := (⟨(0 : Int), (0 : Int)⟩ : S_impl_Pair)) y23 s_impl_Pair rfl rfl rfl rfl rfl rfl (by rw [e23]; exact .refl) rfl (hn := ?_)
       refine LWo.nil (hN21 _ ?_)
       refine LWP.join (α := (List S_impl_Pair) × S_impl_Pair × (List S_impl_Pair) × Int × Int × S_impl_Pair × (List Int) × (List Int)) (fun z : (List S_impl_Pair) × S_impl_Pair × (List S_impl_Pair) × Int × Int × S_impl_Pair × (List Int) × (List Int) => [(0, (e_Limpl_Pair z.1)), (3, (.fp (e_impl_Pair z.2.1).cells)), (5, (.own 1031 0 (z.2.2.2.2.2.2.1).length)), (6, (.own 1034 0 (z.2.2.2.2.2.2.2).length)), (8, (.ptr 8 0 0)), (35, (e_Limpl_Pair z.2.2.1)), (36, (e_int z.2.2.2.1)), (37, (e_int z.2.2.2.2.1))]) (fun z : (List S_impl_Pair) × S_impl_Pair × (List S_impl_Pair) × Int × Int × S_impl_Pair × (List Int) × (List Int) => [(8, (vob 2 e_impl_Pair z.2.2.2.2.2.1)), (1031, (lob 1 e_int z.2.2.2.2.2.2.1)), (1034, (lob 1 e_int z.2.2.2.2.2.2.2))]) (fun z : (List S_impl_Pair) × S_impl_Pair × (List S_impl_Pair) × Int × Int × S_impl_Pair × (List Int) × (List Int) => m_impl_ClosureMore_j2  (m_impl_ClosureMore_l1  n1) z.1 z.2.1 z.2.2.1 z.2.2.2.1 z.2.2.2.2.1 z.2.2.2.2.2.1 z.2.2.2.2.2.2.1 z.2.2.2.2.2.2.2) r (fun _ => by simp [hkeys]) ?_ ?_
       ·rintro ⟨t0, t3, t35, t36, t37, o8, o1031, o1034⟩ h
        replace h : m_impl_ClosureMore_j2  (m_impl_ClosureMore_l1  n1) t0 t3 t35 t36 t37 o8 o1031 o1034 = some _ := h
        refine LWP.seq_k fun N28 hN28 => ?_
        refine LWP.region (l := [_,_,_,_,_]) ?_
        refine LWo.fieldPtr u_impl_Pair rfl s_int rfl rfl (hn := ?_)
        refine LWo.loadV1 (e_int o8.From)  g_int rfl rfl rfl (hn := ?_)
        refine LWo.fieldAddr _ u_impl_Pair rfl s_int rfl rfl (hn := ?_)
        refine LWo.load1 (c := (e_int t3.To)) g_int rfl (hn := ?_)
        refine LWo.int _ rfl rfl rfl (hn := ?_)
        refine LWo.nil (hN28 _ ?_)
        refine LWP.cond_split rfl (fun h29 => ?_) (fun h29 => ?_)
        ·have h := bT h29 h
         refine LWP.region (l := [_,_,_,_,_,_]) ?_
         refine LWo.move (.own 1034 0 (o1034).length) rfl (hn := ?_)
         refine LWo.fieldPtr u_impl_Pair rfl s_int rfl rfl (hn := ?_)
         refine LWo.loadV1 (e_int o8.To)  g_int rfl rfl rfl (hn := ?_)
         refine LWo.lit (ops := [_]) [(e_int o8.To)] u_Lint s_int z_int rfl rfl rfl rfl rfl rfl (hn := ?_)
         refine bk h fun x30 e30 h => ?_
         refine LWo.appendM (f := e_int) e30 rfl u_Lint u_Lint (fun _ h => by cases h) s_int i_int rfl rfl rfl (.sl rfl) rfl rfl (hn := ?_)
         refine LWo.assign (.own 1034 0 (x30).length) rfl (hn := ?_)
         refine LWo.nil (hN20 (t0, t3, t35, t36, t37, o1031, x30) _ ⟨rfl, rfl, rfl, rfl, rfl, rfl, rfl, trivial⟩ ⟨rfl, rfl, trivial⟩ h)
        ·have h := bF h29 h
         refine LWP.skip (hN20 (t0, t3, t35, t36, t37, o1031, o1034) _ ⟨rfl, rfl, rfl, rfl, rfl, rfl, rfl, trivial⟩ ⟨rfl, rfl, trivial⟩ h)
       ·intro N24 hN24
        refine LWP.seq_k fun N25 hN25 => ?_
        refine LWP.region (l := [_,_,_,_,_]) ?_
        refine LWo.fieldPtr u_impl_Pair rfl s_int rfl rfl (hn := ?_)
        refine LWo.loadV1 (e_int y23.To)  g_int rfl rfl rfl (hn := ?_)
        refine LWo.fieldAddr _ u_impl_Pair rfl s_int rfl rfl (hn := ?_)
        refine LWo.load1 (c := (e_int t3.From)) g_int rfl (hn := ?_)
        refine LWo.int _ rfl rfl rfl (hn := ?_)
        refine LWo.nil (hN25 _ ?_)
        refine LWP.cond_split rfl (fun h26 => ?_) (fun h26 => ?_)
        ·have h := bT h26 h
         refine LWP.region (l := [_,_,_,_,_,_]) ?_
         refine LWo.move (.own 1031 0 (o1031).length) rfl (hn := ?_)
         refine LWo.fieldPtr u_impl_Pair rfl s_int rfl rfl (hn := ?_)
         refine LWo.loadV1 (e_int y23.From)  g_int rfl rfl rfl (hn := ?_)
         refine LWo.lit (ops := [_]) [(e_int y23.From)] u_Lint s_int z_int rfl rfl rfl rfl rfl rfl (hn := ?_)
         refine bk h fun x27 e27 h => ?_
         refine LWo.appendM (f := e_int) e27 rfl u_Lint u_Lint (fun _ h => by cases h) s_int i_int rfl rfl rfl (.sl rfl) rfl rfl (hn := ?_)
         refine LWo.assign (.own 1031 0 (x27).length) rfl (hn := ?_)
         refine LWo.nil (hN24 (t0, t3, t35, t36, t37, y23, x27, o1034) _ ⟨rfl, rfl, rfl, rfl, rfl, rfl, rfl, rfl, trivial⟩ ⟨rfl, rfl, rfl, trivial⟩ h)
        ·have h := bF h26 h
         refine LWP.skip (hN24 (t0, t3, t35, t36, t37, y23, o1031, o1034) _ ⟨rfl, rfl, rfl, rfl, rfl, rfl, rfl, rfl, trivial⟩ ⟨rfl, rfl, rfl, trivial⟩ h)
     ·have h := bF h19 h
      refine LWP.exit (hN13 (t0, o1031, o1034) _ ⟨rfl, rfl, rfl, trivial⟩ ⟨rfl, rfl, trivial⟩ h)
  ·intro N3 hN3
   refine LWP.region (l := [_,_,_,_,_,_,_,_,_,_,_,_,_,_,_]) ?_
   refine LWo.move (e_Limpl_Pair a0) rfl (hn := ?_)
   refine bk h fun x4 e4 h => ?_
   refine LWo.vcall rfl rfl (c_impl_PairsOk _ _ e4) (.same (.nil)) (hn := ?_)
   refine LWo.not rfl (hn := ?_)
   refine LWo.move (e_bool (!x4)) rfl (hn := ?_)
   refine LWo.byCases (t := 17) _ rfl (fun h5 => ?_) (fun h5 => ?_)
   ·have h := bT h5 h
    refine LWo.guardNU (t := 17) rfl h5 rfl rfl rfl rfl rfl ?_
    refine LWo.guardNU (t := 17) rfl h5 rfl rfl rfl rfl rfl ?_
    refine LWo.guardNU (t := 17) rfl h5 rfl rfl rfl rfl rfl ?_
    refine LWo.pickTM (e_bool true) rfl h5 rfl (hn := ?_)
    refine LWo.move (e_bool true) rfl (hn := ?_)
    refine LWo.guardNU (t := 22) rfl rfl rfl rfl rfl rfl rfl ?_
    refine LWo.guardNU (t := 22) rfl rfl rfl rfl rfl rfl rfl ?_
    refine LWo.guardNU (t := 22) rfl rfl rfl rfl rfl rfl rfl ?_
    refine LWo.guardNU (t := 22) rfl rfl rfl rfl rfl rfl rfl ?_
    refine LWo.guardNU (t := 22) rfl rfl rfl rfl rfl rfl rfl ?_
    refine LWo.pickTM (e_bool true) rfl rfl rfl (hn := ?_)
    refine LWo.nil (hN3 (a0, a1, true) _ ⟨rfl, rfl, rfl, trivial⟩ trivial h)
   ·have h := bF h5 h
    refine LWo.guardY (t := 17) rfl h5 rfl rfl ?_
    refine LWo.loadN ((e_impl_Pair a1)).cells g_impl_Pair s_impl_Pair rfl (Nat.le_of_ble_eq_true rfl) rfl (hn := ?_)
    refine bk h fun x6 e6 h => ?_
    refine LWo.guardY (t := 17) rfl h5 rfl rfl ?_
    refine LWo.vcall rfl rfl (c_impl_Pair_ok _ _ e6) (.same (.nil)) (hn := ?_)
    refine LWo.guardY (t := 17) rfl h5 rfl rfl ?_
    refine LWo.not rfl (hn := ?_)
    refine LWo.pickFM (e_bool (!x6)) rfl h5 rfl (hn := ?_)
    refine LWo.move (e_bool (!x6)) rfl (hn := ?_)
    refine LWo.byCases (t := 22) _ rfl (fun h7 => ?_) (fun h7 => ?_)
    ·have h := bT h7 h
     refine LWo.guardNU (t := 22) rfl h7 rfl rfl rfl rfl rfl ?_
     refine LWo.guardNU (t := 22) rfl h7 rfl rfl rfl rfl rfl ?_
     refine LWo.guardNU (t := 22) rfl h7 rfl rfl rfl rfl rfl ?_
     refine LWo.guardNU (t := 22) rfl h7 rfl rfl rfl rfl rfl ?_
     refine LWo.guardNU (t := 22) rfl h7 rfl rfl rfl rfl rfl ?_
     refine LWo.pickTM (e_bool true) rfl h7 rfl (hn := ?_)
     refine LWo.nil (hN3 (a0, a1, true) _ ⟨rfl, rfl, rfl, trivial⟩ trivial h)
    ·have h := bF h7 h
     refine LWo.guardY (t := 22) rfl h7 rfl rfl ?_
     refine LWo.move (e_Limpl_Pair a0) rfl (hn := ?_)
     refine bk h fun x8 e8 h => ?_
     refine LWo.guardY (t := 22) rfl h7 rfl rfl ?_
     refine LWo.vcall rfl rfl (c_impl_closure _ _ e8) (.same (.nil)) (hn := ?_)
     refine LWo.guardY (t := 22) rfl h7 rfl rfl ?_
     refine LWo.move (e_Limpl_Pair a0) rfl (hn := ?_)
     refine bk h fun x9 e9 h => ?_
     refine LWo.guardY (t := 22) rfl h7 rfl rfl ?_
     refine LWo.vcall rfl rfl (c_slices_Equal_Limpl_Pair_impl_Pair _ _ _ e9) (.same (.same (.nil))) (hn := ?_)
     refine LWo.guardY (t := 22) rfl h7 rfl rfl ?_
     refine LWo.not rfl (hn := ?_)
     refine LWo.pickFM (e_bool (!x9)) rfl h7 rfl (hn := ?_)
     refine LWo.nil (hN3 (a0, a1, (!x9)) _ ⟨rfl, rfl, rfl, trivial⟩ trivial h)
end Go.Proofs.Ytkgmomocjkmipaa
