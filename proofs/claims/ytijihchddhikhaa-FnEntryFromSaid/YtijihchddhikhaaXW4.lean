/- Mirrors of functions, and that the functions return what the mirrors say. -/
import Derived.Test.YtijihchddhikhaaXW3
set_option linter.unusedVariables false
set_option linter.unusedSimpArgs false
set_option linter.unnecessarySimpa false
namespace Go.Proofs.Ytijihchddhikhaa
open Go.Proofs Go.Lift Go.RowKit
def m_impl_LogOk_j2 (t0 : (List S_impl_Entry)) : Option Bool :=
  some (decide ((t0.length : Int) ≤ (12 : Int)))
def m_impl_LogOk_j1 (k1 : (List S_impl_Entry) → (List S_impl_Entry) → Int → Int → Option Bool) (t0 : (List S_impl_Entry)) (t5 : (List S_impl_Entry)) (t6 : Int) (t7 : Int) (t36 : Bool) : Option Bool :=
  bif t36 then (some false)
  else ((ckI (t7 + (1 : Int))).bind fun x24 =>
  k1 t0 t5 t6 x24)
def m_impl_LogOk_l1 : Nat → (List S_impl_Entry) → (List S_impl_Entry) → Int → Int → Option Bool
  | 0, _, _, _, _ => none
  | n1 + 1, t0, t5, t6, t7 =>
    bif decide (t7 < t6) then ((at? t5 t7).bind fun x11 =>
    lt (x11) fun y12 =>
    (m_impl_between y12.Time (1 : Int) (40 : Int)).bind fun x14 =>
    bif (!x14) then (m_impl_LogOk_j1  (m_impl_LogOk_l1  n1) t0 t5 t6 t7 true)
    else (bif decide (t7 > (0 : Int)) then ((ckI (t7 - (1 : Int))).bind fun x17 =>
        (at? t0 x17).bind fun x18 =>
        bif decide (x18.Time ≥ y12.Time) then (m_impl_LogOk_j1  (m_impl_LogOk_l1  n1) t0 t5 t6 t7 true)
        else ((m_impl_WritesOk y12.Writes).bind fun x20 =>
          m_impl_LogOk_j1  (m_impl_LogOk_l1  n1) t0 t5 t6 t7 (!x20)))
      else ((m_impl_WritesOk y12.Writes).bind fun x21 =>
        m_impl_LogOk_j1  (m_impl_LogOk_l1  n1) t0 t5 t6 t7 (!x21))))
    else (m_impl_LogOk_j2  t0)
def m_impl_LogOk (a0 : (List S_impl_Entry)) : Option Bool :=
  m_impl_LogOk_l1  (((a0.length : Int) - (0 : Int)).toNat + 1) a0 a0 (a0.length : Int) (0 : Int)
theorem c_impl_LogOk (a0 : (List S_impl_Entry)) (r : Bool) (h : m_impl_LogOk a0 = some r) : Ret Try.prog f_impl_LogOk [e_Limpl_Entry a0] (e_bool r) := by
  refine Does.goG [] F_impl_LogOk rfl e_impl_LogOk n_impl_LogOk rfl (rvs := [.tmp 2]) rfl rfl ?_
  intro w0 ok0 lent ρ0
  refine LWP.seq_k fun N1 hN1 => ?_
  refine LWP.region (l := [_]) ?_
  refine LWo.assign (e_bool false) rfl (hn := ?_)
  refine LWo.nil (hN1 _ ?_)
  refine LWP.join (α := (List S_impl_Entry)) (fun z : (List S_impl_Entry) => [(0, (e_Limpl_Entry z))]) (fun z : (List S_impl_Entry) => []) (fun z : (List S_impl_Entry) => m_impl_LogOk_j2  z) r (fun _ => by simp [hkeys]) ?_ ?_
  ·rintro t0 h
   replace h : m_impl_LogOk_j2  t0 = some _ := h
   refine LWP.seq_k fun N25 hN25 => ?_
   refine LWP.region (l := [_,_,_,_]) ?_
   refine LWo.move (e_Limpl_Entry t0) rfl (hn := ?_)
   refine LWo.lenM (f := e_impl_Entry) (l := t0) u_Limpl_Entry rfl (hn := ?_)
   refine LWo.int _ rfl rfl rfl (hn := ?_)
   refine LWo.assign (e_bool (decide ((t0.length : Int) ≤ (12 : Int)))) rfl (hn := ?_)
   refine LWo.nil (hN25 _ ?_)
   obtain rfl := Option.some.inj h
   refine LWP.ret (QG.mk (.inr rfl) (.cons (.tmp (x := (e_bool (decide ((t0.length : Int) ≤ (12 : Int))))) rfl) (.nil)) (RetOK.one0 (.pure rfl) (by decide)) rfl rfl)
  ·intro N2 hN2
   refine LWP.seq_k fun N3 hN3 => ?_
   refine LWP.region (l := [_,_,_]) ?_
   refine LWo.move (e_Limpl_Entry a0) rfl (hn := ?_)
   refine LWo.lenM (f := e_impl_Entry) (l := a0) u_Limpl_Entry rfl (hn := ?_)
   refine LWo.move (e_int (0 : Int)) rfl (hn := ?_)
   refine LWo.nil (hN3 _ ?_)
   refine LWP.block ?_
   refine LWP.loopM (α := (List S_impl_Entry) × (List S_impl_Entry) × Int × Int) (fun z : (List S_impl_Entry) × (List S_impl_Entry) × Int × Int => [(0, (e_Limpl_Entry z.1)), (5, (e_Limpl_Entry z.2.1)), (6, (e_int z.2.2.1)), (7, (e_int z.2.2.2))]) (fun z : (List S_impl_Entry) × (List S_impl_Entry) × Int × Int => []) (fun n1 (z : (List S_impl_Entry) × (List S_impl_Entry) × Int × Int) => m_impl_LogOk_l1  n1 z.1 z.2.1 z.2.2.1 z.2.2.2) r _ (a0, a0, (a0.length : Int), (0 : Int)) h (fun _ => rfl) (fun _ => by simp [hkeys]) ⟨rfl, rfl, rfl, rfl, trivial⟩ trivial ?_
   rintro n1 ⟨t0, t5, t6, t7⟩ h N4 hN4
   replace h : m_impl_LogOk_l1  (n1 + 1) t0 t5 t6 t7 = some _ := h
   refine LWP.seq_k fun N6 hN6 => ?_
   refine LWP.region (l := [_]) ?_
   refine LWo.int _ rfl rfl rfl (hn := ?_)
   refine LWo.nil (hN6 _ ?_)
   refine LWP.seq_k fun N7 hN7 => ?_
   refine LWP.cond_split rfl (fun h8 => ?_) (fun h8 => ?_)
   ·have h := bT h8 h
    refine LWP.skip (hN7 _ ?_)
    refine LWP.seq_k fun N9 hN9 => ?_
    refine LWP.block ?_
    refine LWP.seq_k fun N10 hN10 => ?_
    refine LWP.region (l := [_,_,_,_,_,_]) ?_
    refine LWo.move (e_int t7) rfl (hn := ?_)
    refine bk h fun x11 e11 h => ?_
    refine LWo.indexM (f := e_impl_Entry) e11 u_Limpl_Entry s_impl_Entry rfl rfl (hn := ?_)
    refine LWo.loadN ((e_impl_Entry x11)).cells g_impl_Entry s_impl_Entry rfl (Nat.le_of_ble_eq_true rfl) rfl (hn := ?_)
    refine LWo.alloc_impl_Entry 4 rfl (hn := ?_)
    refine LWo.assign (e_int t7) rfl (hn := ?_)
    refine lk h fun y12 e12 h => ?_
    refine LWo.storeW (y := (⟨(0 : Int), []⟩ : S_impl_Entry)) y12 s_impl_Entry rfl rfl rfl rfl rfl rfl (by rw [e12]; exact .refl) rfl (hn := ?_)
    refine LWo.nil (hN10 _ ?_)
    refine LWP.join (α := (List S_impl_Entry) × (List S_impl_Entry) × Int × Int × Bool) (fun z : (List S_impl_Entry) × (List S_impl_Entry) × Int × Int × Bool => [(0, (e_Limpl_Entry z.1)), (5, (e_Limpl_Entry z.2.1)), (6, (e_int z.2.2.1)), (7, (e_int z.2.2.2.1)), (36, (e_bool z.2.2.2.2))]) (fun z : (List S_impl_Entry) × (List S_impl_Entry) × Int × Int × Bool => []) (fun z : (List S_impl_Entry) × (List S_impl_Entry) × Int × Int × Bool => m_impl_LogOk_j1  (m_impl_LogOk_l1  n1) z.1 z.2.1 z.2.2.1 z.2.2.2.1 z.2.2.2.2) r (fun _ => by simp [hkeys]) ?_ ?_
    ·rintro ⟨t0, t5, t6, t7, t36⟩ h
     replace h : m_impl_LogOk_j1  (m_impl_LogOk_l1  n1) t0 t5 t6 t7 t36 = some _ := h
     refine LWP.cond_split rfl (fun h22 => ?_) (fun h22 => ?_)
     ·have h := bT h22 h
      refine LWP.seq_k fun N23 hN23 => ?_
      refine LWP.region (l := [_]) ?_
      refine LWo.assign (e_bool false) rfl (hn := ?_)
      refine LWo.nil (hN23 _ ?_)
      obtain rfl := Option.some.inj h
      refine LWP.ret (QG.mk (.inr rfl) (.cons (.tmp (x := (e_bool false)) rfl) (.nil)) (RetOK.one0 (.pure rfl) (by decide)) rfl rfl)
     ·have h := bF h22 h
      refine LWP.skip (hN9 _ ?_)
      refine LWP.region (l := [_,_]) ?_
      refine bk h fun x24 e24 h => ?_
      refine LWo.int _ rfl rfl (add_ck e24) (hn := ?_)
      refine LWo.move (e_int x24) rfl (hn := ?_)
      refine LWo.nil (hN4 (t0, t5, t6, x24) _ ⟨rfl, rfl, rfl, rfl, trivial⟩ trivial h)
    ·intro N13 hN13
     refine bk h fun x14 e14 h => ?_
     refine bS ((!x14)) (fun h15 => ?_) (fun h15 => ?_)
     ·have h := bT h15 h
      refine LWP.drawF (l := [_,_,_,_,_,_,_,_,_,_,_,_,_,_,_,_,_,_,_,_,_,_,_,_,_]) [] [0, 3, 4, 5, 6, 7] [([4], []), ([12], [4]), ([13], []), ([14], []), ([15], []), ([3, 16], []), ([16, 17], []), ([16, 18], []), ([0, 19], []), ([3, 19], []), ([19, 21], []), ([19, 20, 22], []), ([19, 23], []), ([19, 24], []), ([4, 19], []), ([19, 26], []), ([19, 25, 27], []), ([16, 19, 28], []), ([16, 29], []), ([30], []), ([4, 31], []), ([31, 32], []), ([31, 33], []), ([31, 34], []), ([31, 35], [])] [0, 5, 6, 7, 36] [] mixed (by kernel_rfl) rfl (by decide) ?_
      refine dq 12 rfl (fun _ g u h => LWo.fieldPtr u_impl_Entry rfl s_int u.1 rfl (hn := .nil (zn g))) ?_
      refine dq 13 rfl (fun _ g u h => LWo.loadV1 (e_int y12.Time)  g_int u.1 h.1 rfl (hn := .nil (zn g))) ?_
      refine dq 14 rfl (fun _ g u h => LWo.vcall rfl (av3 u.1 rfl rfl) (c_impl_between _ _ _ _ e14) (.same (.same (.same (.nil)))) (hn := .nil (zn g))) ?_
      refine dq 15 rfl (fun _ g u h => LWo.not u.1 (hn := .nil (zn g))) ?_
      refine dq 16 rfl (fun _ g u h => LWo.move (e_bool (!x14)) u.1 (hn := .nil (zn g))) ?_
      refine dq 17 rfl (fun _ g u h => LWo.guardNU (t := 16) u.2.1 h15 rfl rfl rfl rfl rfl (.nil (zn g))) ?_
      refine dq 18 rfl (fun _ g u h => LWo.guardNU (t := 16) u.1 h15 rfl rfl rfl rfl rfl (.nil (zn g))) ?_
      refine dq 19 rfl (fun _ g u h => LWo.guardNU (t := 16) u.1 h15 rfl rfl rfl rfl rfl (.nil (zn g))) ?_
      refine dq 20 rfl (fun _ g u h => LWo.guardU (t := 19) u.2.1 rfl rfl rfl rfl (.nil (zn g))) ?_
      refine dq 21 rfl (fun _ g u h => LWo.guardU (t := 19) u.2.1 rfl rfl rfl rfl (.nil (zn g))) ?_
      refine dq 22 rfl (fun _ g u h => LWo.guardU (t := 19) u.1 rfl rfl rfl rfl (.nil (zn g))) ?_
      refine dq 23 rfl (fun _ g u h => LWo.guardU (t := 19) u.1 rfl rfl rfl rfl (.nil (zn g))) ?_
      refine dq 24 rfl (fun _ g u h => LWo.guardU (t := 19) u.1 rfl rfl rfl rfl (.nil (zn g))) ?_
      refine dq 25 rfl (fun _ g u h => LWo.guardU (t := 19) u.1 rfl rfl rfl rfl (.nil (zn g))) ?_
      refine dq 26 rfl (fun _ g u h => LWo.guardU (t := 19) u.2.1 rfl rfl rfl rfl (.nil (zn g))) ?_
      refine dq 27 rfl (fun _ g u h => LWo.guardU (t := 19) u.1 rfl rfl rfl rfl (.nil (zn g))) ?_
      refine dq 28 rfl (fun _ g u h => LWo.guardU (t := 19) u.1 rfl rfl rfl rfl (.nil (zn g))) ?_
      refine dq 29 rfl (fun _ g u h => LWo.guardNU (t := 16) u.1 h15 rfl rfl rfl rfl rfl (.nil (zn g))) ?_
      refine dq 30 rfl (fun _ g u h => LWo.pickTM (e_bool true) u.1 h15 rfl (hn := .nil (zn g))) ?_
      refine dq 31 rfl (fun _ g u h => LWo.move (e_bool true) u.1 (hn := .nil (zn g))) ?_
      refine dq 32 rfl (fun _ g u h => LWo.guardNU (t := 31) u.2.1 rfl rfl rfl rfl rfl rfl (.nil (zn g))) ?_
      refine dq 33 rfl (fun _ g u h => LWo.guardNU (t := 31) u.1 rfl rfl rfl rfl rfl rfl (.nil (zn g))) ?_
      refine dq 34 rfl (fun _ g u h => LWo.guardNU (t := 31) u.1 rfl rfl rfl rfl rfl rfl (.nil (zn g))) ?_
      refine dq 35 rfl (fun _ g u h => LWo.guardNU (t := 31) u.1 rfl rfl rfl rfl rfl rfl (.nil (zn g))) ?_
      refine dq 36 rfl (fun _ g u h => LWo.pickTM (e_bool true) u.1 rfl rfl (hn := .nil (zn g))) ?_
      refine ⟨rfl, by kernel_rfl, hN13 (t0, t5, t6, t7, true) _ ⟨rfl, rfl, rfl, rfl, rfl, trivial⟩ trivial h⟩
     ·have h := bF h15 h
      refine bS (decide (t7 > (0 : Int))) (fun h16 => ?_) (fun h16 => ?_)
      ·have h := bT h16 h
       refine bk h fun x17 e17 h => ?_
       refine bk h fun x18 e18 h => ?_
       refine bS (decide (x18.Time ≥ y12.Time)) (fun h19 => ?_) (fun h19 => ?_)
       ·have h := bT h19 h
        refine LWP.drawF (l := [_,_,_,_,_,_,_,_,_,_,_,_,_,_,_,_,_,_,_,_,_,_,_,_,_]) [] [0, 3, 4, 5, 6, 7] [([4], []), ([12], [4]), ([13], []), ([14], []), ([15], []), ([3, 16], []), ([16, 17], []), ([16, 18], []), ([0, 19], []), ([3, 19], []), ([19, 21], []), ([19, 20, 22], []), ([19, 23], []), ([19, 24], []), ([4, 19], []), ([19, 26], [4]), ([19, 25, 27], []), ([16, 19, 28], []), ([16, 29], []), ([30], []), ([4, 31], []), ([31, 32], []), ([31, 33], []), ([31, 34], []), ([31, 35], [])] [0, 5, 6, 7, 36] [] mixed (by kernel_rfl) rfl (by decide) ?_
        refine dq 12 rfl (fun _ g u h => LWo.fieldPtr u_impl_Entry rfl s_int u.1 rfl (hn := .nil (zn g))) ?_
        refine dq 13 rfl (fun _ g u h => LWo.loadV1 (e_int y12.Time)  g_int u.1 h.1 rfl (hn := .nil (zn g))) ?_
        refine dq 14 rfl (fun _ g u h => LWo.vcall rfl (av3 u.1 rfl rfl) (c_impl_between _ _ _ _ e14) (.same (.same (.same (.nil)))) (hn := .nil (zn g))) ?_
        refine dq 15 rfl (fun _ g u h => LWo.not u.1 (hn := .nil (zn g))) ?_
        refine dq 16 rfl (fun _ g u h => LWo.move (e_bool (!x14)) u.1 (hn := .nil (zn g))) ?_
        refine dq 17 rfl (fun _ g u h => LWo.guardY (t := 16) u.2.1 h15 rfl rfl (LWo.move (e_int t7) u.1 (hn := .nil (zn g)))) ?_
        refine dq 18 rfl (fun _ g u h => LWo.guardY (t := 16) u.1 h15 rfl rfl (LWo.int _ u.2.1 rfl rfl (hn := .nil (zn g)))) ?_
        refine dq 19 rfl (fun _ g u h => LWo.guardY (t := 16) u.1 h15 rfl rfl (LWo.move (e_bool (decide (t7 > (0 : Int)))) u.2.1 (hn := .nil (zn g)))) ?_
        refine dq 20 rfl (fun _ g u h => LWo.guardY (t := 19) u.2.1 h16 rfl rfl (LWo.move (e_Limpl_Entry t0) u.1 (hn := .nil (zn g)))) ?_
        refine dq 21 rfl (fun _ g u h => LWo.guardY (t := 19) u.2.1 h16 rfl rfl (LWo.move (e_int t7) u.1 (hn := .nil (zn g)))) ?_
        refine dq 22 rfl (fun _ g u h => LWo.guardY (t := 19) u.1 h16 rfl rfl (LWo.int _ u.2.1 rfl (sub_ck e17) (hn := .nil (zn g)))) ?_
        refine dq 23 rfl (fun _ g u h => LWo.guardY (t := 19) u.1 h16 rfl rfl (LWo.indexM (f := e_impl_Entry) e18 u_Limpl_Entry s_impl_Entry u.2.1 u.2.2.1 (hn := .nil (zn g)))) ?_
        refine dq 24 rfl (fun _ g u h => LWo.guardY (t := 19) u.1 h16 rfl rfl (LWo.fieldAddr _ u_impl_Entry rfl s_int u.2.1 rfl (hn := .nil (zn g)))) ?_
        refine dq 25 rfl (fun _ g u h => LWo.guardY (t := 19) u.1 h16 rfl rfl (LWo.load1 (c := (e_int x18.Time)) g_int u.2.1 (hn := .nil (zn g)))) ?_
        refine dq 26 rfl (fun _ g u h => LWo.guardY (t := 19) u.2.1 h16 rfl rfl (LWo.fieldPtr u_impl_Entry rfl s_int u.1 rfl (hn := .nil (zn g)))) ?_
        refine dq 27 rfl (fun _ g u h => LWo.guardY (t := 19) u.1 h16 rfl rfl (LWo.loadV1 (e_int y12.Time)  g_int u.2.1 h.1 rfl (hn := .nil (zn g)))) ?_
        refine dq 28 rfl (fun _ g u h => LWo.guardY (t := 19) u.1 h16 rfl rfl (LWo.int _ u.2.1 u.2.2.1 rfl (hn := .nil (zn g)))) ?_
        refine dq 29 rfl (fun _ g u h => LWo.guardY (t := 16) u.1 h15 rfl rfl (LWo.pickTM (e_bool (decide (x18.Time ≥ y12.Time))) u.2.1 h16 u.2.2.1 (hn := .nil (zn g)))) ?_
        refine dq 30 rfl (fun _ g u h => LWo.pickFM (e_bool (decide (x18.Time ≥ y12.Time))) u.1 h15 u.2.1 (hn := .nil (zn g))) ?_
        refine dq 31 rfl (fun _ g u h => LWo.move (e_bool (decide (x18.Time ≥ y12.Time))) u.1 (hn := .nil (zn g))) ?_
        refine dq 32 rfl (fun _ g u h => LWo.guardNU (t := 31) u.2.1 h19 rfl rfl rfl rfl rfl (.nil (zn g))) ?_
        refine dq 33 rfl (fun _ g u h => LWo.guardNU (t := 31) u.1 h19 rfl rfl rfl rfl rfl (.nil (zn g))) ?_
        refine dq 34 rfl (fun _ g u h => LWo.guardNU (t := 31) u.1 h19 rfl rfl rfl rfl rfl (.nil (zn g))) ?_
        refine dq 35 rfl (fun _ g u h => LWo.guardNU (t := 31) u.1 h19 rfl rfl rfl rfl rfl (.nil (zn g))) ?_
        refine dq 36 rfl (fun _ g u h => LWo.pickTM (e_bool true) u.1 h19 rfl (hn := .nil (zn g))) ?_
        refine ⟨rfl, by kernel_rfl, hN13 (t0, t5, t6, t7, true) _ ⟨rfl, rfl, rfl, rfl, rfl, trivial⟩ trivial h⟩
       ·have h := bF h19 h
        refine bk h fun x20 e20 h => ?_
        refine LWP.drawF (l := [_,_,_,_,_,_,_,_,_,_,_,_,_,_,_,_,_,_,_,_,_,_,_,_,_]) [] [0, 3, 4, 5, 6, 7] [([4], []), ([12], [4]), ([13], []), ([14], []), ([15], []), ([3, 16], []), ([16, 17], []), ([16, 18], []), ([0, 19], []), ([3, 19], []), ([19, 21], []), ([19, 20, 22], []), ([19, 23], []), ([19, 24], []), ([4, 19], []), ([19, 26], [4]), ([19, 25, 27], []), ([16, 19, 28], []), ([16, 29], []), ([30], []), ([4, 31], []), ([31, 32], [4]), ([31, 33], []), ([31, 34], []), ([31, 35], [])] [0, 5, 6, 7, 36] [] mixed (by kernel_rfl) rfl (by decide) ?_
        refine dq 12 rfl (fun _ g u h => LWo.fieldPtr u_impl_Entry rfl s_int u.1 rfl (hn := .nil (zn g))) ?_
        refine dq 13 rfl (fun _ g u h => LWo.loadV1 (e_int y12.Time)  g_int u.1 h.1 rfl (hn := .nil (zn g))) ?_
        refine dq 14 rfl (fun _ g u h => LWo.vcall rfl (av3 u.1 rfl rfl) (c_impl_between _ _ _ _ e14) (.same (.same (.same (.nil)))) (hn := .nil (zn g))) ?_
        refine dq 15 rfl (fun _ g u h => LWo.not u.1 (hn := .nil (zn g))) ?_
        refine dq 16 rfl (fun _ g u h => LWo.move (e_bool (!x14)) u.1 (hn := .nil (zn g))) ?_
        refine dq 17 rfl (fun _ g u h => LWo.guardY (t := 16) u.2.1 h15 rfl rfl (LWo.move (e_int t7) u.1 (hn := .nil (zn g)))) ?_
        refine dq 18 rfl (fun _ g u h => LWo.guardY (t := 16) u.1 h15 rfl rfl (LWo.int _ u.2.1 rfl rfl (hn := .nil (zn g)))) ?_
        refine dq 19 rfl (fun _ g u h => LWo.guardY (t := 16) u.1 h15 rfl rfl (LWo.move (e_bool (decide (t7 > (0 : Int)))) u.2.1 (hn := .nil (zn g)))) ?_
        refine dq 20 rfl (fun _ g u h => LWo.guardY (t := 19) u.2.1 h16 rfl rfl (LWo.move (e_Limpl_Entry t0) u.1 (hn := .nil (zn g)))) ?_
        refine dq 21 rfl (fun _ g u h => LWo.guardY (t := 19) u.2.1 h16 rfl rfl (LWo.move (e_int t7) u.1 (hn := .nil (zn g)))) ?_
        refine dq 22 rfl (fun _ g u h => LWo.guardY (t := 19) u.1 h16 rfl rfl (LWo.int _ u.2.1 rfl (sub_ck e17) (hn := .nil (zn g)))) ?_
        refine dq 23 rfl (fun _ g u h => LWo.guardY (t := 19) u.1 h16 rfl rfl (LWo.indexM (f := e_impl_Entry) e18 u_Limpl_Entry s_impl_Entry u.2.1 u.2.2.1 (hn := .nil (zn g)))) ?_
        refine dq 24 rfl (fun _ g u h => LWo.guardY (t := 19) u.1 h16 rfl rfl (LWo.fieldAddr _ u_impl_Entry rfl s_int u.2.1 rfl (hn := .nil (zn g)))) ?_
        refine dq 25 rfl (fun _ g u h => LWo.guardY (t := 19) u.1 h16 rfl rfl (LWo.load1 (c := (e_int x18.Time)) g_int u.2.1 (hn := .nil (zn g)))) ?_
        refine dq 26 rfl (fun _ g u h => LWo.guardY (t := 19) u.2.1 h16 rfl rfl (LWo.fieldPtr u_impl_Entry rfl s_int u.1 rfl (hn := .nil (zn g)))) ?_
        refine dq 27 rfl (fun _ g u h => LWo.guardY (t := 19) u.1 h16 rfl rfl (LWo.loadV1 (e_int y12.Time)  g_int u.2.1 h.1 rfl (hn := .nil (zn g)))) ?_
        refine dq 28 rfl (fun _ g u h => LWo.guardY (t := 19) u.1 h16 rfl rfl (LWo.int _ u.2.1 u.2.2.1 rfl (hn := .nil (zn g)))) ?_
        refine dq 29 rfl (fun _ g u h => LWo.guardY (t := 16) u.1 h15 rfl rfl (LWo.pickTM (e_bool (decide (x18.Time ≥ y12.Time))) u.2.1 h16 u.2.2.1 (hn := .nil (zn g)))) ?_
        refine dq 30 rfl (fun _ g u h => LWo.pickFM (e_bool (decide (x18.Time ≥ y12.Time))) u.1 h15 u.2.1 (hn := .nil (zn g))) ?_
        refine dq 31 rfl (fun _ g u h => LWo.move (e_bool (decide (x18.Time ≥ y12.Time))) u.1 (hn := .nil (zn g))) ?_
        refine dq 32 rfl (fun _ g u h => LWo.guardY (t := 31) u.2.1 h19 rfl rfl (LWo.fieldPtr u_impl_Entry rfl s_Limpl_Write u.1 rfl (hn := .nil (zn g)))) ?_
        refine dq 33 rfl (fun _ g u h => LWo.guardY (t := 31) u.1 h19 rfl rfl (LWo.loadV1 (e_Limpl_Write y12.Writes)  g_Limpl_Write u.2.1 h.1 rfl (hn := .nil (zn g)))) ?_
        refine dq 34 rfl (fun _ g u h => LWo.guardY (t := 31) u.1 h19 rfl rfl (LWo.vcall rfl (av1 u.2.1) (c_impl_WritesOk _ _ e20) (.same (.nil)) (hn := .nil (zn g)))) ?_
        refine dq 35 rfl (fun _ g u h => LWo.guardY (t := 31) u.1 h19 rfl rfl (LWo.not u.2.1 (hn := .nil (zn g)))) ?_
        refine dq 36 rfl (fun _ g u h => LWo.pickFM (e_bool (!x20)) u.1 h19 u.2.1 (hn := .nil (zn g))) ?_
        refine ⟨rfl, by kernel_rfl, hN13 (t0, t5, t6, t7, (!x20)) _ ⟨rfl, rfl, rfl, rfl, rfl, trivial⟩ trivial h⟩
      ·have h := bF h16 h
       refine bk h fun x21 e21 h => ?_
       refine LWP.drawF (l := [_,_,_,_,_,_,_,_,_,_,_,_,_,_,_,_,_,_,_,_,_,_,_,_,_]) [] [0, 3, 4, 5, 6, 7] [([4], []), ([12], [4]), ([13], []), ([14], []), ([15], []), ([3, 16], []), ([16, 17], []), ([16, 18], []), ([0, 19], []), ([3, 19], []), ([19, 21], []), ([19, 20, 22], []), ([19, 23], []), ([19, 24], []), ([4, 19], []), ([19, 26], []), ([19, 25, 27], []), ([16, 19, 28], []), ([16, 29], []), ([30], []), ([4, 31], []), ([31, 32], [4]), ([31, 33], []), ([31, 34], []), ([31, 35], [])] [0, 5, 6, 7, 36] [] mixed (by kernel_rfl) rfl (by decide) ?_
       refine dq 12 rfl (fun _ g u h => LWo.fieldPtr u_impl_Entry rfl s_int u.1 rfl (hn := .nil (zn g))) ?_
       refine dq 13 rfl (fun _ g u h => LWo.loadV1 (e_int y12.Time)  g_int u.1 h.1 rfl (hn := .nil (zn g))) ?_
       refine dq 14 rfl (fun _ g u h => LWo.vcall rfl (av3 u.1 rfl rfl) (c_impl_between _ _ _ _ e14) (.same (.same (.same (.nil)))) (hn := .nil (zn g))) ?_
       refine dq 15 rfl (fun _ g u h => LWo.not u.1 (hn := .nil (zn g))) ?_
       refine dq 16 rfl (fun _ g u h => LWo.move (e_bool (!x14)) u.1 (hn := .nil (zn g))) ?_
       refine dq 17 rfl (fun _ g u h => LWo.guardY (t := 16) u.2.1 h15 rfl rfl (LWo.move (e_int t7) u.1 (hn := .nil (zn g)))) ?_
       refine dq 18 rfl (fun _ g u h => LWo.guardY (t := 16) u.1 h15 rfl rfl (LWo.int _ u.2.1 rfl rfl (hn := .nil (zn g)))) ?_
       refine dq 19 rfl (fun _ g u h => LWo.guardY (t := 16) u.1 h15 rfl rfl (LWo.move (e_bool (decide (t7 > (0 : Int)))) u.2.1 (hn := .nil (zn g)))) ?_
       refine dq 20 rfl (fun _ g u h => LWo.guardNU (t := 19) u.2.1 h16 rfl rfl rfl rfl rfl (.nil (zn g))) ?_
       refine dq 21 rfl (fun _ g u h => LWo.guardNU (t := 19) u.2.1 h16 rfl rfl rfl rfl rfl (.nil (zn g))) ?_
       refine dq 22 rfl (fun _ g u h => LWo.guardNU (t := 19) u.1 h16 rfl rfl rfl rfl rfl (.nil (zn g))) ?_
       refine dq 23 rfl (fun _ g u h => LWo.guardNU (t := 19) u.1 h16 rfl rfl rfl rfl rfl (.nil (zn g))) ?_
       refine dq 24 rfl (fun _ g u h => LWo.guardNU (t := 19) u.1 h16 rfl rfl rfl rfl rfl (.nil (zn g))) ?_
       refine dq 25 rfl (fun _ g u h => LWo.guardNU (t := 19) u.1 h16 rfl rfl rfl rfl rfl (.nil (zn g))) ?_
       refine dq 26 rfl (fun _ g u h => LWo.guardNU (t := 19) u.2.1 h16 rfl rfl rfl rfl rfl (.nil (zn g))) ?_
       refine dq 27 rfl (fun _ g u h => LWo.guardNU (t := 19) u.1 h16 rfl rfl rfl rfl rfl (.nil (zn g))) ?_
       refine dq 28 rfl (fun _ g u h => LWo.guardNU (t := 19) u.1 h16 rfl rfl rfl rfl rfl (.nil (zn g))) ?_
       refine dq 29 rfl (fun _ g u h => LWo.guardY (t := 16) u.1 h15 rfl rfl (LWo.pickFM (e_bool false) u.2.1 h16 rfl (hn := .nil (zn g)))) ?_
       refine dq 30 rfl (fun _ g u h => LWo.pickFM (e_bool false) u.1 h15 u.2.1 (hn := .nil (zn g))) ?_
       refine dq 31 rfl (fun _ g u h => LWo.move (e_bool false) u.1 (hn := .nil (zn g))) ?_
       refine dq 32 rfl (fun _ g u h => LWo.guardY (t := 31) u.2.1 rfl rfl rfl (LWo.fieldPtr u_impl_Entry rfl s_Limpl_Write u.1 rfl (hn := .nil (zn g)))) ?_
       refine dq 33 rfl (fun _ g u h => LWo.guardY (t := 31) u.1 rfl rfl rfl (LWo.loadV1 (e_Limpl_Write y12.Writes)  g_Limpl_Write u.2.1 h.1 rfl (hn := .nil (zn g)))) ?_
       refine dq 34 rfl (fun _ g u h => LWo.guardY (t := 31) u.1 rfl rfl rfl (LWo.vcall rfl (av1 u.2.1) (c_impl_WritesOk _ _ e21) (.same (.nil)) (hn := .nil (zn g)))) ?_
       refine dq 35 rfl (fun _ g u h => LWo.guardY (t := 31) u.1 rfl rfl rfl (LWo.not u.2.1 (hn := .nil (zn g)))) ?_
       refine dq 36 rfl (fun _ g u h => LWo.pickFM (e_bool (!x21)) u.1 rfl u.2.1 (hn := .nil (zn g))) ?_
       refine ⟨rfl, by kernel_rfl, hN13 (t0, t5, t6, t7, (!x21)) _ ⟨rfl, rfl, rfl, rfl, rfl, trivial⟩ trivial h⟩
   ·have h := bF h8 h
    refine LWP.exit (hN2 t0 _ ⟨rfl, trivial⟩ trivial h)

def m_impl_truthIf (a0 : Bool) : Option Int :=
  bif a0 then (some (1 : Int))
  else (some (0 : Int))
theorem c_impl_truthIf (a0 : Bool) (r : Int) (h : m_impl_truthIf a0 = some r) : Ret Try.prog f_impl_truthIf [e_bool a0] (e_int r) := by
  refine Does.goG [] F_impl_truthIf rfl e_impl_truthIf n_impl_truthIf rfl (rvs := [.tmp 2]) rfl rfl ?_
  intro w0 ok0 lent ρ0
  refine LWP.seq_k fun N1 hN1 => ?_
  refine LWP.region (l := [_]) ?_
  refine LWo.assign (e_int (0 : Int)) rfl (hn := ?_)
  refine LWo.nil (hN1 _ ?_)
  refine LWP.seq_k fun N2 hN2 => ?_
  refine LWP.seq_k fun N3 hN3 => ?_
  refine LWP.region (l := [_]) ?_
  refine LWo.move (e_bool a0) rfl (hn := ?_)
  refine LWo.nil (hN3 _ ?_)
  refine LWP.cond_split rfl (fun h4 => ?_) (fun h4 => ?_)
  ·have h := bT h4 h
   refine LWP.seq_k fun N5 hN5 => ?_
   refine LWP.region (l := [_]) ?_
   refine LWo.assign (e_int (1 : Int)) rfl (hn := ?_)
   refine LWo.nil (hN5 _ ?_)
   obtain rfl := Option.some.inj h
   refine LWP.ret (QG.mk (.inr rfl) (.cons (.tmp (x := (e_int (1 : Int))) rfl) (.nil)) (RetOK.one0 (.pure rfl) (by decide)) rfl rfl)
  ·have h := bF h4 h
   refine LWP.skip (hN2 _ ?_)
   refine LWP.seq_k fun N6 hN6 => ?_
   refine LWP.region (l := [_]) ?_
   refine LWo.assign (e_int (0 : Int)) rfl (hn := ?_)
   refine LWo.nil (hN6 _ ?_)
   obtain rfl := Option.some.inj h
   refine LWP.ret (QG.mk (.inr rfl) (.cons (.tmp (x := (e_int (0 : Int))) rfl) (.nil)) (RetOK.one0 (.pure rfl) (by decide)) rfl rfl)

def m_impl_Value_bytes_j1 (o1008 : (List UInt8)) : Option (List UInt8) :=
  some o1008
def m_impl_Value_bytes (a0 : S_impl_Value) : Option (List UInt8) :=
  lt (([(Lift.byteOf a0.Kind)] : (List UInt8))) fun y3 =>
  bif (a0.Kind == (1 : Int)) then ((ckI (a0.N + (10000 : Int))).bind fun x9 =>
    (shrI x9 (8 : Int)).bind fun x10 =>
    (app? y3 ([(Lift.byteOf x10), (Lift.byteOf x9)] : (List UInt8))).bind fun x11 =>
    m_impl_Value_bytes_j1  x11)
  else (bif (a0.Kind == (2 : Int)) then ((app? y3 ([(Lift.byteOf (a0.S.size : Int))] : (List UInt8))).bind fun x14 =>
      (app? x14 (a0.S.data.toList)).bind fun x15 =>
      m_impl_Value_bytes_j1  x15)
    else (bif (a0.Kind == (3 : Int)) then ((app? y3 ([(Lift.byteOf a0.N)] : (List UInt8))).bind fun x18 =>
        m_impl_Value_bytes_j1  x18)
      else (m_impl_Value_bytes_j1  y3)))
theorem c_impl_Value_bytes (a0 : S_impl_Value) (r : (List UInt8)) (h : m_impl_Value_bytes a0 = some r) : Ret Try.prog f_impl_Value_bytes [e_impl_Value a0] (.nw 1 (r.map e_uint8) false) := by
  refine Does.goG [] F_impl_Value_bytes rfl e_impl_Value_bytes n_impl_Value_bytes rfl (rvs := [.tmp 2]) rfl rfl ?_
  intro w0 ok0 lent ρ0
  refine LWP.seq_k fun N1 hN1 => ?_
  refine LWP.region (l := [_,_]) ?_
  refine LWo.boxF (e_impl_Value a0) rfl rfl rfl (hn := ?_)
  refine LWo.assign _ rfl (hn := ?_)
  refine LWo.ownNil 2 1002 1 rfl rfl rfl ?_
  refine LWo.known 2 (.own 1002 0 ([] : (List UInt8)).length) rfl ?_
  refine LWo.nil (hN1 _ ?_)
  refine LWP.seq_k fun N2 hN2 => ?_
  refine LWP.region (l := [_,_,_,_,_]) ?_
  refine LWo.fieldAddr _ u_impl_Value rfl s_int rfl rfl (hn := ?_)
  refine LWo.load1 (c := (e_int a0.Kind)) g_int rfl (hn := ?_)
  refine LWo.convU8 u_int u_uint8 rfl (hn := ?_)
  refine lk h fun y3 e3 h => ?_
  refine LWo.litO (ops := [_]) (f := e_uint8) (l := y3) 1008 u_Luint8 s_uint8 z_uint8 (by rw [e3]; rfl) (by rw [e3]; rfl) rfl rfl rfl rfl (hn := ?_)
  refine LWo.assign (.own 1008 0 (y3).length) rfl (hn := ?_)
  refine LWo.nil (hN2 _ ?_)
  refine LWP.join (α := (List UInt8)) (fun z : (List UInt8) => [(3, (.own 1008 0 (z).length))]) (fun z : (List UInt8) => [(1008, (lob 1 e_uint8 z))]) (fun z : (List UInt8) => m_impl_Value_bytes_j1  z) r (fun _ => by simp [hkeys]) ?_ ?_
  ·rintro o1008 h
   replace h : m_impl_Value_bytes_j1  o1008 = some _ := h
   refine LWP.seq_k fun N19 hN19 => ?_
   refine LWP.region (l := [_,_]) ?_
   refine LWo.move (.own 1008 0 (o1008).length) rfl (hn := ?_)
   refine LWo.assign (.own 1008 0 (o1008).length) rfl (hn := ?_)
   refine LWo.nil (hN19 _ ?_)
   obtain rfl := Option.some.inj h
   refine LWP.ret (QG.mk (.inr rfl) (.cons (.tmp (x := (.own 1008 0 (o1008).length)) rfl) (.nil)) (RetOK.one0 (.nwM rfl rfl) (by decide)) rfl rfl)
  ·intro N4 hN4
   refine LWP.seq_k fun N5 hN5 => ?_
   refine LWP.region (l := [_,_]) ?_
   refine LWo.fieldAddr _ u_impl_Value rfl s_int rfl rfl (hn := ?_)
   refine LWo.load1 (c := (e_int a0.Kind)) g_int rfl (hn := ?_)
   refine LWo.nil (hN5 _ ?_)
   refine LWP.block ?_
   refine LWP.seq_k fun N6 hN6 => ?_
   refine LWP.region (l := [_,_]) ?_
   refine LWo.int _ rfl rfl rfl (hn := ?_)
   refine LWo.assign (e_bool (a0.Kind == (1 : Int))) rfl (hn := ?_)
   refine LWo.nil (hN6 _ ?_)
   refine LWP.cond_split rfl (fun h7 => ?_) (fun h7 => ?_)
   ·have h := bT h7 h
    refine LWP.seq_k fun N8 hN8 => ?_
    refine LWP.region (l := [_,_,_,_]) ?_
    refine LWo.fieldAddr _ u_impl_Value rfl s_int rfl rfl (hn := ?_)
    refine LWo.load1 (c := (e_int a0.N)) g_int rfl (hn := ?_)
    refine bk h fun x9 e9 h => ?_
    refine LWo.int _ rfl rfl (add_ck e9) (hn := ?_)
    refine LWo.assign (e_int x9) rfl (hn := ?_)
    refine LWo.nil (hN8 _ ?_)
    refine LWP.region (l := [_,_,_,_,_,_,_,_,_]) ?_
    refine LWo.move (.own 1008 0 (y3).length) rfl (hn := ?_)
    refine LWo.move (e_int x9) rfl (hn := ?_)
    refine bk h fun x10 e10 h => ?_
    refine LWo.shrM e10 rfl rfl (hn := ?_)
    refine LWo.convU8 u_int u_uint8 rfl (hn := ?_)
    refine LWo.move (e_int x9) rfl (hn := ?_)
    refine LWo.convU8 u_int u_uint8 rfl (hn := ?_)
    refine LWo.lit (ops := [_, _]) [(e_uint8 (Lift.byteOf x10)), (e_uint8 (Lift.byteOf x9))] u_Luint8 s_uint8 z_uint8 rfl rfl rfl rfl rfl rfl (hn := ?_)
    refine bk h fun x11 e11 h => ?_
    refine LWo.appendM (f := e_uint8) e11 rfl u_Luint8 u_Luint8 (fun _ h => by cases h) s_uint8 i_uint8 rfl rfl rfl (.sl rfl) rfl rfl (hn := ?_)
    refine LWo.assign (.own 1008 0 (x11).length) rfl (hn := ?_)
    refine LWo.nil (hN4 x11 _ ⟨rfl, trivial⟩ ⟨rfl, trivial⟩ h)
   ·have h := bF h7 h
    refine LWP.seq_k fun N12 hN12 => ?_
    refine LWP.region (l := [_,_]) ?_
    refine LWo.int _ rfl rfl rfl (hn := ?_)
    refine LWo.assign (e_bool (a0.Kind == (2 : Int))) rfl (hn := ?_)
    refine LWo.nil (hN12 _ ?_)
    refine LWP.cond_split rfl (fun h13 => ?_) (fun h13 => ?_)
    ·have h := bT h13 h
     refine bk h fun x14 e14 h => ?_
     refine bk h fun x15 e15 h => ?_
     refine LWP.drawF (l := [_,_,_,_,_,_,_,_,_,_,_]) [(1008, 1008)] [1, 3] [([3], []), ([1], []), ([27], []), ([28], []), ([29], []), ([30], []), ([26, 31], [1008]), ([1], []), ([33], []), ([32, 34], [1008]), ([35], [])] [3] [1008] mixed (by kernel_rfl) rfl (by decide) ?_
     refine dq 26 rfl (fun _ g u h => LWo.move (.own 1008 0 (y3).length) u.1 (hn := .nil (zn g))) ?_
     refine dq 27 rfl (fun _ g u h => LWo.fieldAddr _ u_impl_Value rfl s_string u.1 rfl (hn := .nil (zn g))) ?_
     refine dq 28 rfl (fun _ g u h => LWo.load1 (c := (e_string a0.S)) g_string u.1 (hn := .nil (zn g))) ?_
     refine dq 29 rfl (fun _ g u h => LWo.lenS u_string u.1 (hn := .nil (zn g))) ?_
     refine dq 30 rfl (fun _ g u h => LWo.convU8 u_int u_uint8 u.1 (hn := .nil (zn g))) ?_
     refine dq 31 rfl (fun _ g u h => LWo.lit (ops := [_]) [(e_uint8 (Lift.byteOf (a0.S.size : Int)))] u_Luint8 s_uint8 z_uint8 (lv1 u.1) rfl rfl rfl rfl rfl (hn := .nil (zn g))) ?_
     refine ⟨rfl, .make 32 _ 1008 _, (by exact (goodC rfl goodN)), fun _ g u h => LWo.appendM (f := e_uint8) e14 rfl u_Luint8 u_Luint8 (fun _ h => by cases h) s_uint8 i_uint8 rfl u.1 h.1 (.sl u.2.1) (lone_of g rfl) rfl (hn := LWo.nil ⟨rfl, .inl rfl, Ef.good_ok (e := .make 32 _ 1008 _) (by exact (goodC rfl goodN)) g⟩), ?_⟩
     refine dq 33 rfl (fun _ g u h => LWo.fieldAddr _ u_impl_Value rfl s_string u.1 rfl (hn := .nil (zn g))) ?_
     refine dq 34 rfl (fun _ g u h => LWo.load1 (c := (e_string a0.S)) g_string u.1 (hn := .nil (zn g))) ?_
     refine ⟨rfl, .make 35 _ 1008 _, (by exact (goodC rfl goodN)), fun _ g u h => LWo.appendM (f := e_uint8) e15 rfl u_Luint8 u_string (fun _ h => by cases h) s_uint8 i_uint8 rfl u.1 h.1 (.str u.2.1 rfl rfl) (lone_of g rfl) rfl (hn := LWo.nil ⟨rfl, .inl rfl, Ef.good_ok (e := .make 35 _ 1008 _) (by exact (goodC rfl goodN)) g⟩), ?_⟩
     refine dq 3 rfl (fun _ g u h => LWo.assign (.own 1008 0 (x15).length) u.1 (hn := .nil (zn g))) ?_
     refine ⟨rfl, by kernel_rfl, hN4 x15 _ ⟨rfl, trivial⟩ ⟨rfl, trivial⟩ h⟩
    ·have h := bF h13 h
     refine LWP.seq_k fun N16 hN16 => ?_
     refine LWP.region (l := [_,_]) ?_
     refine LWo.int _ rfl rfl rfl (hn := ?_)
     refine LWo.assign (e_bool (a0.Kind == (3 : Int))) rfl (hn := ?_)
     refine LWo.nil (hN16 _ ?_)
     refine LWP.cond_split rfl (fun h17 => ?_) (fun h17 => ?_)
     ·have h := bT h17 h
      refine LWP.region (l := [_,_,_,_,_,_,_]) ?_
      refine LWo.move (.own 1008 0 (y3).length) rfl (hn := ?_)
      refine LWo.fieldAddr _ u_impl_Value rfl s_int rfl rfl (hn := ?_)
      refine LWo.load1 (c := (e_int a0.N)) g_int rfl (hn := ?_)
      refine LWo.convU8 u_int u_uint8 rfl (hn := ?_)
      refine LWo.lit (ops := [_]) [(e_uint8 (Lift.byteOf a0.N))] u_Luint8 s_uint8 z_uint8 rfl rfl rfl rfl rfl rfl (hn := ?_)
      refine bk h fun x18 e18 h => ?_
      refine LWo.appendM (f := e_uint8) e18 rfl u_Luint8 u_Luint8 (fun _ h => by cases h) s_uint8 i_uint8 rfl rfl rfl (.sl rfl) rfl rfl (hn := ?_)
      refine LWo.assign (.own 1008 0 (x18).length) rfl (hn := ?_)
      refine LWo.nil (hN4 x18 _ ⟨rfl, trivial⟩ ⟨rfl, trivial⟩ h)
     ·have h := bF h17 h
      refine LWP.skip (hN4 y3 _ ⟨rfl, trivial⟩ ⟨rfl, trivial⟩ h)

theorem cc_slices_Clip_Lbyte_byte (xs : List LV) : Does Try.prog f_slices_Clip_Lbyte_byte [.own 0 0 xs.length] [(0, { kind := .fro, sz := 1, elems := xs })] (fun r h => r = .nw 1 xs false ∧ h = []) := by
  refine Does.go [0] F_slices_Clip_Lbyte_byte rfl e_slices_Clip_Lbyte_byte n_slices_Clip_Lbyte_byte rfl (ts := [2]) rfl rfl rfl ?_
  intro w0 ok0 lent ρ0
  refine LWP.seq_k fun N1 hN1 => ?_
  refine LWP.region (l := [_]) ?_
  refine LWo.assign _ rfl (hn := ?_)
  refine LWo.nil (hN1 _ ?_)
  refine LWP.seq_k fun N2 hN2 => ?_
  refine LWP.region (l := [_,_,_,_,_,_,_]) ?_
  refine LWo.move _ rfl (hn := ?_)
  refine LWo.move _ rfl (hn := ?_)
  refine LWo.len u_Luint8 rfl (hn := ?_)
  refine LWo.move _ rfl (hn := ?_)
  refine LWo.len u_Luint8 rfl (hn := ?_)
  refine LWo.cutOwn (l := 0) (h := xs.length) u_Luint8 s_uint8 rfl rfl rfl rfl ⟨_, rfl⟩ ⟨_, _, rfl, Nat.le_refl _, Nat.le_refl _⟩ (.inr (by simp)) (Nat.zero_le _) (Nat.le_refl _) rfl rfl (hn := ?_)
  refine LWo.assign _ rfl (hn := ?_)
  refine LWo.nil (hN2 _ ?_)
  refine LWP.ret (QRet.own1 (.inr rfl) rfl rfl rfl rfl (by simp) ⟨?_, rfl⟩)
  clear hN1 hN2
  exact congrArg (fun l => LV.nw 1 l false) (by simp)
def m_slices_Clip_Lbyte_byte_o (o0 : List UInt8) : Option (List UInt8) := some o0
theorem c_slices_Clip_Lbyte_byte_o (o0 : List UInt8) (r : List UInt8) (h : m_slices_Clip_Lbyte_byte_o o0 = some r) : Does Try.prog f_slices_Clip_Lbyte_byte [.own 0 0 o0.length] [(0, lob 1 e_uint8 o0)] (fun x hh => x = .nw 1 (r.map e_uint8) false ∧ hh = []) := by
  cases h
  have := cc_slices_Clip_Lbyte_byte (o0.map e_uint8)
  rw [List.length_map] at this
  exact this



def m_slices_Clip_Lbyte_byte (a0 : (List UInt8)) : Option (List UInt8) :=
  (cut3? a0 (0 : Int) (a0.length : Int) (a0.length : Int)).bind fun x3 =>
  some x3
theorem c_slices_Clip_Lbyte_byte (a0 : (List UInt8)) (r : (List UInt8)) (h : m_slices_Clip_Lbyte_byte a0 = some r) : Ret Try.prog f_slices_Clip_Lbyte_byte [e_Luint8 a0] (e_Luint8 r) := by
  refine Does.goG [] F_slices_Clip_Lbyte_byte rfl e_slices_Clip_Lbyte_byte n_slices_Clip_Lbyte_byte rfl (rvs := [.tmp 2]) rfl rfl ?_
  intro w0 ok0 lent ρ0
  refine LWP.seq_k fun N1 hN1 => ?_
  refine LWP.region (l := [_]) ?_
  refine LWo.assign _ rfl (hn := ?_)
  refine LWo.weakT 2 (e_Luint8 ([] : (List UInt8))) rfl .nil ?_
  refine LWo.nil (hN1 _ ?_)
  refine LWP.seq_k fun N2 hN2 => ?_
  refine LWP.region (l := [_,_,_,_,_,_,_]) ?_
  refine LWo.move (e_Luint8 a0) rfl (hn := ?_)
  refine LWo.move (e_Luint8 a0) rfl (hn := ?_)
  refine LWo.lenM (f := e_uint8) (l := a0) u_Luint8 rfl (hn := ?_)
  refine LWo.move (e_Luint8 a0) rfl (hn := ?_)
  refine LWo.lenM (f := e_uint8) (l := a0) u_Luint8 rfl (hn := ?_)
  refine bk h fun x3 e3 h => ?_
  refine LWo.cutM3 (f := e_uint8) e3 u_Luint8 s_uint8 rfl rfl ⟨_, rfl⟩ ⟨_, rfl⟩ (hn := ?_)
  refine LWo.assign (e_Luint8 x3) rfl (hn := ?_)
  refine LWo.nil (hN2 _ ?_)
  obtain rfl := Option.some.inj h
  refine LWP.ret (QG.mk (.inr rfl) (.cons (.tmp (x := (e_Luint8 x3)) rfl) (.nil)) (RetOK.one0 (.pure rfl) (by decide)) rfl rfl)

def m_impl_RowBytes_j1 (o1012 : (List UInt8)) : Option (List UInt8) :=
  (m_slices_Clip_Lbyte_byte_o o1012).bind fun x24 =>
  some x24
def m_impl_RowBytes_l1 : Nat → (List S_impl_Value) → Int → Int → (List UInt8) → Option (List UInt8)
  | 0, _, _, _, _ => none
  | n1 + 1, t13, t14, t15, o1012 =>
    bif decide (t15 < t14) then ((at? t13 t15).bind fun x18 =>
    lt (x18) fun y19 =>
    (m_impl_Value_bytes y19).bind fun x20 =>
    (app? o1012 x20).bind fun x21 =>
    (ckI (t15 + (1 : Int))).bind fun x22 =>
    (m_impl_RowBytes_l1  n1) t13 t14 x22 x21)
    else (m_impl_RowBytes_j1  o1012)
def m_impl_RowBytes (a0 : (List S_impl_Value)) : Option (List UInt8) :=
  (m_impl_RowOk a0).bind fun x4 =>
  bif (!x4) then (some ([] : (List UInt8)))
  else (lt (([(Lift.byteOf (a0.length : Int))] : (List UInt8))) fun y8 =>
  m_impl_RowBytes_l1  (((a0.length : Int) - (0 : Int)).toNat + 1) a0 (a0.length : Int) (0 : Int) y8)
theorem c_impl_RowBytes (a0 : (List S_impl_Value)) (r : (List UInt8)) (h : m_impl_RowBytes a0 = some r) : Ret Try.prog f_impl_RowBytes [e_Limpl_Value a0] (.nw 1 (r.map e_uint8) false) := by
  refine Does.goG [] F_impl_RowBytes rfl e_impl_RowBytes n_impl_RowBytes rfl (rvs := [.tmp 2]) rfl rfl ?_
  intro w0 ok0 lent ρ0
  refine LWP.seq_k fun N1 hN1 => ?_
  refine LWP.region (l := [_]) ?_
  refine LWo.assign _ rfl (hn := ?_)
  refine LWo.ownNil 2 1002 1 rfl rfl rfl ?_
  refine LWo.known 2 (.own 1002 0 ([] : (List UInt8)).length) rfl ?_
  refine LWo.nil (hN1 _ ?_)
  refine LWP.seq_k fun N2 hN2 => ?_
  refine LWP.seq_k fun N3 hN3 => ?_
  refine LWP.region (l := [_,_,_]) ?_
  refine LWo.move (e_Limpl_Value a0) rfl (hn := ?_)
  refine bk h fun x4 e4 h => ?_
  refine LWo.vcall rfl rfl (c_impl_RowOk _ _ e4) (.same (.nil)) (hn := ?_)
  refine LWo.not rfl (hn := ?_)
  refine LWo.nil (hN3 _ ?_)
  refine LWP.cond_split rfl (fun h5 => ?_) (fun h5 => ?_)
  ·have h := bT h5 h
   refine LWP.seq_k fun N6 hN6 => ?_
   refine LWP.region (l := [_]) ?_
   refine LWo.assign _ rfl (hn := ?_)
   refine LWo.ownNil 2 1002 1 rfl rfl rfl ?_
   refine LWo.known 2 (.own 1002 0 ([] : (List UInt8)).length) rfl ?_
   refine LWo.nil (hN6 _ ?_)
   obtain rfl := Option.some.inj h
   refine LWP.ret (QG.mk (.inr rfl) (.cons (.tmp (x := (.own 1002 0 (([] : (List UInt8))).length)) rfl) (.nil)) (RetOK.one0 (.nwM rfl rfl) (by decide)) rfl rfl)
  ·have h := bF h5 h
   refine LWP.skip (hN2 _ ?_)
   refine LWP.seq_k fun N7 hN7 => ?_
   refine LWP.region (l := [_,_,_,_,_]) ?_
   refine LWo.move (e_Limpl_Value a0) rfl (hn := ?_)
   refine LWo.lenM (f := e_impl_Value) (l := a0) u_Limpl_Value rfl (hn := ?_)
   refine LWo.convU8 u_int u_uint8 rfl (hn := ?_)
   refine lk h fun y8 e8 h => ?_
   refine LWo.litO (ops := [_]) (f := e_uint8) (l := y8) 1012 u_Luint8 s_uint8 z_uint8 (by rw [e8]; rfl) (by rw [e8]; rfl) rfl rfl rfl rfl (hn := ?_)
   refine LWo.assign (.own 1012 0 (y8).length) rfl (hn := ?_)
   refine LWo.nil (hN7 _ ?_)
   refine LWP.join (α := (List UInt8)) (fun z : (List UInt8) => [(3, (.own 1012 0 (z).length))]) (fun z : (List UInt8) => [(1012, (lob 1 e_uint8 z))]) (fun z : (List UInt8) => m_impl_RowBytes_j1  z) r (fun _ => by simp [hkeys]) ?_ ?_
   ·rintro o1012 h
    replace h : m_impl_RowBytes_j1  o1012 = some _ := h
    refine LWP.seq_k fun N23 hN23 => ?_
    refine LWP.region (l := [_,_,_]) ?_
    refine LWo.move (.own 1012 0 (o1012).length) rfl (hn := ?_)
    refine bk h fun x24 e24 h => ?_
    refine LWo.tcallN (e := e_uint8) (e' := e_uint8) 1025 rfl rfl (c_slices_Clip_Lbyte_byte_o _ _ e24) (fun _ => rfl) rfl rfl rfl rfl (hn := ?_)
    refine LWo.assign (.own 1025 0 (x24).length) rfl (hn := ?_)
    refine LWo.nil (hN23 _ ?_)
    obtain rfl := Option.some.inj h
    refine LWP.ret (QG.mk (.inr rfl) (.cons (.tmp (x := (.own 1025 0 (x24).length)) rfl) (.nil)) (RetOK.one0 (.nwM rfl rfl) (by decide)) rfl rfl)
   ·intro N9 hN9
    refine LWP.seq_k fun N10 hN10 => ?_
    refine LWP.region (l := [_,_,_]) ?_
    refine LWo.move (e_Limpl_Value a0) rfl (hn := ?_)
    refine LWo.lenM (f := e_impl_Value) (l := a0) u_Limpl_Value rfl (hn := ?_)
    refine LWo.move (e_int (0 : Int)) rfl (hn := ?_)
    refine LWo.nil (hN10 _ ?_)
    refine LWP.block ?_
    refine LWP.loopM (α := (List S_impl_Value) × Int × Int × (List UInt8)) (fun z : (List S_impl_Value) × Int × Int × (List UInt8) => [(3, (.own 1012 0 (z.2.2.2).length)), (13, (e_Limpl_Value z.1)), (14, (e_int z.2.1)), (15, (e_int z.2.2.1))]) (fun z : (List S_impl_Value) × Int × Int × (List UInt8) => [(1012, (lob 1 e_uint8 z.2.2.2))]) (fun n1 (z : (List S_impl_Value) × Int × Int × (List UInt8)) => m_impl_RowBytes_l1  n1 z.1 z.2.1 z.2.2.1 z.2.2.2) r _ (a0, (a0.length : Int), (0 : Int), y8) h (fun _ => rfl) (fun _ => by simp [hkeys]) ⟨rfl, rfl, rfl, rfl, trivial⟩ ⟨rfl, trivial⟩ ?_
    rintro n1 ⟨t13, t14, t15, o1012⟩ h N11 hN11
    replace h : m_impl_RowBytes_l1  (n1 + 1) t13 t14 t15 o1012 = some _ := h
    refine LWP.seq_k fun N13 hN13 => ?_
    refine LWP.region (l := [_]) ?_
    refine LWo.int _ rfl rfl rfl (hn := ?_)
    refine LWo.nil (hN13 _ ?_)
    refine LWP.seq_k fun N14 hN14 => ?_
    refine LWP.cond_split rfl (fun h15 => ?_) (fun h15 => ?_)
    ·have h := bT h15 h
     refine LWP.skip (hN14 _ ?_)
     refine LWP.seq_k fun N16 hN16 => ?_
     refine LWP.block ?_
     refine LWP.seq_k fun N17 hN17 => ?_
     refine LWP.region (l := [_,_,_,_]) ?_
     refine bk h fun x18 e18 h => ?_
     refine LWo.indexM (f := e_impl_Value) e18 u_Limpl_Value s_impl_Value rfl rfl (hn := ?_)
     refine LWo.loadN ((e_impl_Value x18)).cells g_impl_Value s_impl_Value rfl (Nat.le_of_ble_eq_true rfl) rfl (hn := ?_)
     refine LWo.alloc_impl_Value 5 rfl (hn := ?_)
     refine lk h fun y19 e19 h => ?_
     refine LWo.storeW (y := (⟨(0 : Int), (0 : Int), (⟨#[]⟩ : ByteArray)⟩ : S_impl_Value)) y19 s_impl_Value rfl rfl rfl rfl rfl rfl (by rw [e19]; exact .refl) rfl (hn := ?_)
     refine LWo.nil (hN17 _ ?_)
     refine LWP.region (l := [_,_,_,_,_]) ?_
     refine LWo.move (.own 1012 0 (o1012).length) rfl (hn := ?_)
     refine LWo.loadVN ((e_impl_Value y19)).cells  g_impl_Value s_impl_Value rfl rfl rfl rfl (hn := ?_)
     refine bk h fun x20 e20 h => ?_
     refine LWo.vcall rfl rfl (c_impl_Value_bytes _ _ e20) (.same (.nil)) (hn := ?_)
     refine bk h fun x21 e21 h => ?_
     refine LWo.appendM (f := e_uint8) e21 rfl u_Luint8 u_Luint8 (fun _ h => by cases h) s_uint8 i_uint8 rfl rfl rfl (.sl rfl) rfl rfl (hn := ?_)
     refine LWo.assign (.own 1012 0 (x21).length) rfl (hn := ?_)
     refine LWo.nil (hN16 _ ?_)
     refine LWP.region (l := [_,_]) ?_
     refine bk h fun x22 e22 h => ?_
     refine LWo.int _ rfl rfl (add_ck e22) (hn := ?_)
     refine LWo.move (e_int x22) rfl (hn := ?_)
     refine LWo.nil (hN11 (t13, t14, x22, x21) _ ⟨rfl, rfl, rfl, rfl, trivial⟩ ⟨rfl, trivial⟩ h)
    ·have h := bF h15 h
     refine LWP.exit (hN9 o1012 _ ⟨rfl, trivial⟩ ⟨rfl, trivial⟩ h)

def m_impl_framed (a0 : (List UInt8)) : Option (List UInt8) :=
  (shrI (a0.length : Int) (8 : Int)).bind fun x3 =>
  lt (([(Lift.byteOf x3), (Lift.byteOf (a0.length : Int))] : (List UInt8))) fun y4 =>
  (app? y4 a0).bind fun x5 =>
  (m_impl_sumOf a0).bind fun x6 =>
  (app? x5 ([x6] : (List UInt8))).bind fun x7 =>
  (m_slices_Clip_Lbyte_byte_o x7).bind fun x8 =>
  some x8
theorem c_impl_framed (a0 : (List UInt8)) (r : (List UInt8)) (h : m_impl_framed a0 = some r) : Ret Try.prog f_impl_framed [e_Luint8 a0] (.nw 1 (r.map e_uint8) false) := by
  refine Does.goG [] F_impl_framed rfl e_impl_framed n_impl_framed rfl (rvs := [.tmp 2]) rfl rfl ?_
  intro w0 ok0 lent ρ0
  refine LWP.seq_k fun N1 hN1 => ?_
  refine LWP.region (l := [_]) ?_
  refine LWo.assign _ rfl (hn := ?_)
  refine LWo.ownNil 2 1002 1 rfl rfl rfl ?_
  refine LWo.known 2 (.own 1002 0 ([] : (List UInt8)).length) rfl ?_
  refine LWo.nil (hN1 _ ?_)
  refine LWP.seq_k fun N2 hN2 => ?_
  refine LWP.region (l := [_,_,_,_,_,_,_,_,_,_,_,_,_,_,_,_]) ?_
  refine LWo.move (e_Luint8 a0) rfl (hn := ?_)
  refine LWo.lenM (f := e_uint8) (l := a0) u_Luint8 rfl (hn := ?_)
  refine bk h fun x3 e3 h => ?_
  refine LWo.shrM e3 rfl rfl (hn := ?_)
  refine LWo.convU8 u_int u_uint8 rfl (hn := ?_)
  refine LWo.move (e_Luint8 a0) rfl (hn := ?_)
  refine LWo.lenM (f := e_uint8) (l := a0) u_Luint8 rfl (hn := ?_)
  refine LWo.convU8 u_int u_uint8 rfl (hn := ?_)
  refine lk h fun y4 e4 h => ?_
  refine LWo.litO (ops := [_, _]) (f := e_uint8) (l := y4) 1010 u_Luint8 s_uint8 z_uint8 (by rw [e4]; rfl) (by rw [e4]; rfl) rfl rfl rfl rfl (hn := ?_)
  refine LWo.move (e_Luint8 a0) rfl (hn := ?_)
  refine bk h fun x5 e5 h => ?_
  refine LWo.appendM (f := e_uint8) e5 rfl u_Luint8 u_Luint8 (fun _ h => by cases h) s_uint8 i_uint8 rfl rfl rfl (.sl rfl) rfl rfl (hn := ?_)
  refine LWo.move (e_Luint8 a0) rfl (hn := ?_)
  refine bk h fun x6 e6 h => ?_
  refine LWo.vcall rfl rfl (c_impl_sumOf _ _ e6) (.same (.nil)) (hn := ?_)
  refine LWo.lit (ops := [_]) [(e_uint8 x6)] u_Luint8 s_uint8 z_uint8 rfl rfl rfl rfl rfl rfl (hn := ?_)
  refine bk h fun x7 e7 h => ?_
  refine LWo.appendM (f := e_uint8) e7 rfl u_Luint8 u_Luint8 (fun _ h => by cases h) s_uint8 i_uint8 rfl rfl rfl (.sl rfl) rfl rfl (hn := ?_)
  refine bk h fun x8 e8 h => ?_
  refine LWo.tcallN (e := e_uint8) (e' := e_uint8) 1017 rfl rfl (c_slices_Clip_Lbyte_byte_o _ _ e8) (fun _ => rfl) rfl rfl rfl rfl (hn := ?_)
  refine LWo.assign (.own 1017 0 (x8).length) rfl (hn := ?_)
  refine LWo.nil (hN2 _ ?_)
  obtain rfl := Option.some.inj h
  refine LWP.ret (QG.mk (.inr rfl) (.cons (.tmp (x := (.own 1017 0 (x8).length)) rfl) (.nil)) (RetOK.one0 (.nwM rfl rfl) (by decide)) rfl rfl)

def m_impl_entryBytes_j1 (o1013 : (List UInt8)) : Option (List UInt8) :=
  (m_impl_framed o1013).bind fun x22 =>
  some x22
def m_impl_entryBytes_l1 : Nat → (List S_impl_Write) → Int → Int → (List UInt8) → Option (List UInt8)
  | 0, _, _, _, _ => none
  | n1 + 1, t15, t16, t17, o1013 =>
    bif decide (t17 < t16) then ((at? t15 t17).bind fun x13 =>
    lt (x13) fun y14 =>
    (m_impl_truthIf y14.Gone).bind fun x16 =>
    (app? o1013 ([(Lift.byteOf y14.Key), (Lift.byteOf x16)] : (List UInt8))).bind fun x17 =>
    (m_impl_RowBytes y14.Row).bind fun x18 =>
    (app? x17 x18).bind fun x19 =>
    (ckI (t17 + (1 : Int))).bind fun x20 =>
    (m_impl_entryBytes_l1  n1) t15 t16 x20 x19)
    else (m_impl_entryBytes_j1  o1013)
def m_impl_entryBytes (a0 : S_impl_Entry) : Option (List UInt8) :=
  lt (([(Lift.byteOf a0.Time), (Lift.byteOf (a0.Writes.length : Int))] : (List UInt8))) fun y3 =>
  m_impl_entryBytes_l1  (((a0.Writes.length : Int) - (0 : Int)).toNat + 1) a0.Writes (a0.Writes.length : Int) (0 : Int) y3
theorem c_impl_entryBytes (a0 : S_impl_Entry) (r : (List UInt8)) (h : m_impl_entryBytes a0 = some r) : Ret Try.prog f_impl_entryBytes [e_impl_Entry a0] (.nw 1 (r.map e_uint8) false) := by
  refine Does.goG [] F_impl_entryBytes rfl e_impl_entryBytes n_impl_entryBytes rfl (rvs := [.tmp 2]) rfl rfl ?_
  intro w0 ok0 lent ρ0
  refine LWP.seq_k fun N1 hN1 => ?_
  refine LWP.region (l := [_,_]) ?_
  refine LWo.boxF (e_impl_Entry a0) rfl rfl rfl (hn := ?_)
  refine LWo.assign _ rfl (hn := ?_)
  refine LWo.ownNil 2 1002 1 rfl rfl rfl ?_
  refine LWo.known 2 (.own 1002 0 ([] : (List UInt8)).length) rfl ?_
  refine LWo.nil (hN1 _ ?_)
  refine LWP.seq_k fun N2 hN2 => ?_
  refine LWP.region (l := [_,_,_,_,_,_,_,_,_]) ?_
  refine LWo.fieldAddr _ u_impl_Entry rfl s_int rfl rfl (hn := ?_)
  refine LWo.load1 (c := (e_int a0.Time)) g_int rfl (hn := ?_)
  refine LWo.convU8 u_int u_uint8 rfl (hn := ?_)
  refine LWo.fieldAddr _ u_impl_Entry rfl s_Limpl_Write rfl rfl (hn := ?_)
  refine LWo.load1 (c := (e_Limpl_Write a0.Writes)) g_Limpl_Write rfl (hn := ?_)
  refine LWo.lenM (f := e_impl_Write) (l := a0.Writes) u_Limpl_Write rfl (hn := ?_)
  refine LWo.convU8 u_int u_uint8 rfl (hn := ?_)
  refine lk h fun y3 e3 h => ?_
  refine LWo.litO (ops := [_, _]) (f := e_uint8) (l := y3) 1013 u_Luint8 s_uint8 z_uint8 (by rw [e3]; rfl) (by rw [e3]; rfl) rfl rfl rfl rfl (hn := ?_)
  refine LWo.assign (.own 1013 0 (y3).length) rfl (hn := ?_)
  refine LWo.nil (hN2 _ ?_)
  refine LWP.join (α := (List UInt8)) (fun z : (List UInt8) => [(3, (.own 1013 0 (z).length))]) (fun z : (List UInt8) => [(1013, (lob 1 e_uint8 z))]) (fun z : (List UInt8) => m_impl_entryBytes_j1  z) r (fun _ => by simp [hkeys]) ?_ ?_
  ·rintro o1013 h
   replace h : m_impl_entryBytes_j1  o1013 = some _ := h
   refine LWP.seq_k fun N21 hN21 => ?_
   refine LWP.region (l := [_,_,_]) ?_
   refine LWo.move (.own 1013 0 (o1013).length) rfl (hn := ?_)
   refine bk h fun x22 e22 h => ?_
   refine LWo.frzL (f := e_uint8) (l := o1013) [3, 37] 1013 rfl rfl ⟨rfl, rfl, trivial⟩ ?_
   refine LWo.ncall (e := e_uint8) 1038 rfl rfl (c_impl_framed _ _ e22) (.same (.nil)) rfl (hn := ?_)
   refine LWo.assign (.own 1038 0 (x22).length) rfl (hn := ?_)
   refine LWo.nil (hN21 _ ?_)
   obtain rfl := Option.some.inj h
   refine LWP.ret (QG.mk (.inr rfl) (.cons (.tmp (x := (.own 1038 0 (x22).length)) rfl) (.nil)) (RetOK.one0 (.nwM rfl rfl) (by decide)) rfl rfl)
  ·intro N4 hN4
   refine LWP.seq_k fun N5 hN5 => ?_
   refine LWP.region (l := [_,_,_,_]) ?_
   refine LWo.fieldAddr _ u_impl_Entry rfl s_Limpl_Write rfl rfl (hn := ?_)
   refine LWo.load1 (c := (e_Limpl_Write a0.Writes)) g_Limpl_Write rfl (hn := ?_)
   refine LWo.lenM (f := e_impl_Write) (l := a0.Writes) u_Limpl_Write rfl (hn := ?_)
   refine LWo.move (e_int (0 : Int)) rfl (hn := ?_)
   refine LWo.nil (hN5 _ ?_)
   refine LWP.block ?_
   refine LWP.loopM (α := (List S_impl_Write) × Int × Int × (List UInt8)) (fun z : (List S_impl_Write) × Int × Int × (List UInt8) => [(3, (.own 1013 0 (z.2.2.2).length)), (15, (e_Limpl_Write z.1)), (16, (e_int z.2.1)), (17, (e_int z.2.2.1))]) (fun z : (List S_impl_Write) × Int × Int × (List UInt8) => [(1013, (lob 1 e_uint8 z.2.2.2))]) (fun n1 (z : (List S_impl_Write) × Int × Int × (List UInt8)) => m_impl_entryBytes_l1  n1 z.1 z.2.1 z.2.2.1 z.2.2.2) r _ (a0.Writes, (a0.Writes.length : Int), (0 : Int), y3) h (fun _ => rfl) (fun _ => by simp [hkeys]) ⟨rfl, rfl, rfl, rfl, trivial⟩ ⟨rfl, trivial⟩ ?_
   rintro n1 ⟨t15, t16, t17, o1013⟩ h N6 hN6
   replace h : m_impl_entryBytes_l1  (n1 + 1) t15 t16 t17 o1013 = some _ := h
   refine LWP.seq_k fun N8 hN8 => ?_
   refine LWP.region (l := [_]) ?_
   refine LWo.int _ rfl rfl rfl (hn := ?_)
   refine LWo.nil (hN8 _ ?_)
   refine LWP.seq_k fun N9 hN9 => ?_
   refine LWP.cond_split rfl (fun h10 => ?_) (fun h10 => ?_)
   ·have h := bT h10 h
    refine LWP.skip (hN9 _ ?_)
    refine LWP.seq_k fun N11 hN11 => ?_
    refine LWP.block ?_
    refine LWP.seq_k fun N12 hN12 => ?_
    refine LWP.region (l := [_,_,_,_]) ?_
    refine bk h fun x13 e13 h => ?_
    refine LWo.indexM (f := e_impl_Write) e13 u_Limpl_Write s_impl_Write rfl rfl (hn := ?_)
    refine LWo.loadN ((e_impl_Write x13)).cells g_impl_Write s_impl_Write rfl (Nat.le_of_ble_eq_true rfl) rfl (hn := ?_)
    refine LWo.alloc_impl_Write 5 rfl (hn := ?_)
    refine lk h fun y14 e14 h => ?_
    refine LWo.storeW (y := (⟨(0 : Int), [], false⟩ : S_impl_Write)) y14 s_impl_Write rfl rfl rfl rfl rfl rfl (by rw [e14]; exact .refl) rfl (hn := ?_)
    refine LWo.nil (hN12 _ ?_)
    refine LWP.seq_k fun N15 hN15 => ?_
    refine bk h fun x16 e16 h => ?_
    refine bk h fun x17 e17 h => ?_
    refine LWP.drawF (l := [_,_,_,_,_,_,_,_,_,_,_]) [(1013, 1013)] [3, 5, 15, 16, 17] [([3], []), ([5], []), ([22], [5]), ([23], []), ([5], []), ([25], [5]), ([26], []), ([27], []), ([24, 28], []), ([21, 29], [1013]), ([30], [])] [3, 5, 15, 16, 17] [5, 1013] mixed (by kernel_rfl) rfl (by decide) ?_
    refine dq 21 rfl (fun _ g u h => LWo.move (.own 1013 0 (o1013).length) u.1 (hn := .nil (zn g))) ?_
    refine dq 22 rfl (fun _ g u h => LWo.fieldPtr u_impl_Write rfl s_int u.1 rfl (hn := .nil (zn g))) ?_
    refine dq 23 rfl (fun _ g u h => LWo.loadV1 (e_int y14.Key)  g_int u.1 h.1 rfl (hn := .nil (zn g))) ?_
    refine dq 24 rfl (fun _ g u h => LWo.convU8 u_int u_uint8 u.1 (hn := .nil (zn g))) ?_
    refine dq 25 rfl (fun _ g u h => LWo.fieldPtr u_impl_Write rfl s_bool u.1 rfl (hn := .nil (zn g))) ?_
    refine dq 26 rfl (fun _ g u h => LWo.loadV1 (e_bool y14.Gone)  g_bool u.1 h.1 rfl (hn := .nil (zn g))) ?_
    refine dq 27 rfl (fun _ g u h => LWo.vcall rfl (av1 u.1) (c_impl_truthIf _ _ e16) (.same (.nil)) (hn := .nil (zn g))) ?_
    refine dq 28 rfl (fun _ g u h => LWo.convU8 u_int u_uint8 u.1 (hn := .nil (zn g))) ?_
    refine dq 29 rfl (fun _ g u h => LWo.lit (ops := [_, _]) [(e_uint8 (Lift.byteOf y14.Key)), (e_uint8 (Lift.byteOf x16))] u_Luint8 s_uint8 z_uint8 (lv2 u.1 u.2.1) rfl rfl rfl rfl rfl (hn := .nil (zn g))) ?_
    refine ⟨rfl, .make 30 _ 1013 _, (by exact (goodC rfl goodN)), fun _ g u h => LWo.appendM (f := e_uint8) e17 rfl u_Luint8 u_Luint8 (fun _ h => by cases h) s_uint8 i_uint8 rfl u.1 h.1 (.sl u.2.1) (lone_of g rfl) rfl (hn := LWo.nil ⟨rfl, .inl rfl, Ef.good_ok (e := .make 30 _ 1013 _) (by exact (goodC rfl goodN)) g⟩), ?_⟩
    refine dq 3 rfl (fun _ g u h => LWo.assign (.own 1013 0 (x17).length) u.1 (hn := .nil (zn g))) ?_
    refine ⟨rfl, by kernel_rfl, hN15 _ ?_⟩
    refine LWP.region (l := [_,_,_,_,_,_]) ?_
    refine LWo.move (.own 1013 0 (x17).length) rfl (hn := ?_)
    refine LWo.fieldPtr u_impl_Write rfl s_Limpl_Value rfl rfl (hn := ?_)
    refine LWo.loadV1 (e_Limpl_Value y14.Row)  g_Limpl_Value rfl rfl rfl (hn := ?_)
    refine bk h fun x18 e18 h => ?_
    refine LWo.vcall rfl rfl (c_impl_RowBytes _ _ e18) (.same (.nil)) (hn := ?_)
    refine bk h fun x19 e19 h => ?_
    refine LWo.appendM (f := e_uint8) e19 rfl u_Luint8 u_Luint8 (fun _ h => by cases h) s_uint8 i_uint8 rfl rfl rfl (.sl rfl) rfl rfl (hn := ?_)
    refine LWo.assign (.own 1013 0 (x19).length) rfl (hn := ?_)
    refine LWo.nil (hN11 _ ?_)
    refine LWP.region (l := [_,_]) ?_
    refine bk h fun x20 e20 h => ?_
    refine LWo.int _ rfl rfl (add_ck e20) (hn := ?_)
    refine LWo.move (e_int x20) rfl (hn := ?_)
    refine LWo.nil (hN6 (t15, t16, x20, x19) _ ⟨rfl, rfl, rfl, rfl, trivial⟩ ⟨rfl, trivial⟩ h)
   ·have h := bF h10 h
    refine LWP.exit (hN4 o1013 _ ⟨rfl, trivial⟩ ⟨rfl, trivial⟩ h)

def m_impl_EntryBytes (a0 : S_impl_Entry) : Option (List UInt8) :=
  (m_impl_LogOk ([a0] : (List S_impl_Entry))).bind fun x4 =>
  bif (!x4) then (some ([] : (List UInt8)))
  else ((m_impl_entryBytes a0).bind fun x8 =>
  some x8)
theorem c_impl_EntryBytes (a0 : S_impl_Entry) (r : (List UInt8)) (h : m_impl_EntryBytes a0 = some r) : Ret Try.prog f_impl_EntryBytes [e_impl_Entry a0] (.nw 1 (r.map e_uint8) false) := by
  refine Does.goG [] F_impl_EntryBytes rfl e_impl_EntryBytes n_impl_EntryBytes rfl (rvs := [.tmp 2]) rfl rfl ?_
  intro w0 ok0 lent ρ0
  refine LWP.seq_k fun N1 hN1 => ?_
  refine LWP.region (l := [_,_]) ?_
  refine LWo.boxF (e_impl_Entry a0) rfl rfl rfl (hn := ?_)
  refine LWo.assign _ rfl (hn := ?_)
  refine LWo.ownNil 2 1002 1 rfl rfl rfl ?_
  refine LWo.known 2 (.own 1002 0 ([] : (List UInt8)).length) rfl ?_
  refine LWo.nil (hN1 _ ?_)
  refine LWP.seq_k fun N2 hN2 => ?_
  refine LWP.seq_k fun N3 hN3 => ?_
  refine LWP.region (l := [_,_,_,_]) ?_
  refine LWo.loadN ((e_impl_Entry a0)).cells g_impl_Entry s_impl_Entry rfl (Nat.le_of_ble_eq_true rfl) rfl (hn := ?_)
  refine LWo.lit (ops := [_]) [(e_impl_Entry a0)] u_Limpl_Entry s_impl_Entry z_impl_Entry rfl rfl rfl rfl rfl rfl (hn := ?_)
  refine bk h fun x4 e4 h => ?_
  refine LWo.vcall rfl rfl (c_impl_LogOk _ _ e4) (.same (.nil)) (hn := ?_)
  refine LWo.not rfl (hn := ?_)
  refine LWo.nil (hN3 _ ?_)
  refine LWP.cond_split rfl (fun h5 => ?_) (fun h5 => ?_)
  ·have h := bT h5 h
   refine LWP.seq_k fun N6 hN6 => ?_
   refine LWP.region (l := [_]) ?_
   refine LWo.assign _ rfl (hn := ?_)
   refine LWo.ownNil 2 1002 1 rfl rfl rfl ?_
   refine LWo.known 2 (.own 1002 0 ([] : (List UInt8)).length) rfl ?_
   refine LWo.nil (hN6 _ ?_)
   obtain rfl := Option.some.inj h
   refine LWP.ret (QG.mk (.inr rfl) (.cons (.tmp (x := (.own 1002 0 (([] : (List UInt8))).length)) rfl) (.nil)) (RetOK.one0 (.nwM rfl rfl) (by decide)) rfl rfl)
  ·have h := bF h5 h
   refine LWP.skip (hN2 _ ?_)
   refine LWP.seq_k fun N7 hN7 => ?_
   refine LWP.region (l := [_,_,_]) ?_
   refine LWo.loadN ((e_impl_Entry a0)).cells g_impl_Entry s_impl_Entry rfl (Nat.le_of_ble_eq_true rfl) rfl (hn := ?_)
   refine bk h fun x8 e8 h => ?_
   refine LWo.ncall (e := e_uint8) 1008 rfl rfl (c_impl_entryBytes _ _ e8) (.same (.nil)) rfl (hn := ?_)
   refine LWo.assign (.own 1008 0 (x8).length) rfl (hn := ?_)
   refine LWo.nil (hN7 _ ?_)
   obtain rfl := Option.some.inj h
   refine LWP.ret (QG.mk (.inr rfl) (.cons (.tmp (x := (.own 1008 0 (x8).length)) rfl) (.nil)) (RetOK.one0 (.nwM rfl rfl) (by decide)) rfl rfl)

def m_slices_Equal_Lbyte_byte_j1  : Option Bool :=
  some true
def m_slices_Equal_Lbyte_byte_l1 : Nat → (List UInt8) → (List UInt8) → Int → Int → Option Bool
  | 0, _, _, _, _ => none
  | n1 + 1, t0, t1, t12, t13 =>
    bif decide (t13 < t12) then ((at? t0 t13).bind fun x16 =>
    (at? t1 t13).bind fun x17 =>
    bif ((x16.toNat : Int) != (x17.toNat : Int)) then (some false)
    else ((ckI (t13 + (1 : Int))).bind fun x20 =>
    (m_slices_Equal_Lbyte_byte_l1  n1) t0 t1 t12 x20))
    else (m_slices_Equal_Lbyte_byte_j1  )
def m_slices_Equal_Lbyte_byte (a0 : (List UInt8)) (a1 : (List UInt8)) : Option Bool :=
  bif ((a0.length : Int) != (a1.length : Int)) then (some false)
  else (m_slices_Equal_Lbyte_byte_l1  (((a0.length : Int) - (0 : Int)).toNat + 1) a0 a1 (a0.length : Int) (0 : Int))
theorem c_slices_Equal_Lbyte_byte (a0 : (List UInt8)) (a1 : (List UInt8)) (r : Bool) (h : m_slices_Equal_Lbyte_byte a0 a1 = some r) : Ret Try.prog f_slices_Equal_Lbyte_byte [e_Luint8 a0, e_Luint8 a1] (e_bool r) := by
  refine Does.goG [] F_slices_Equal_Lbyte_byte rfl e_slices_Equal_Lbyte_byte n_slices_Equal_Lbyte_byte rfl (rvs := [.tmp 4]) rfl rfl ?_
  intro w0 ok0 lent ρ0
  refine LWP.seq_k fun N1 hN1 => ?_
  refine LWP.region (l := [_]) ?_
  refine LWo.assign (e_bool false) rfl (hn := ?_)
  refine LWo.nil (hN1 _ ?_)
  refine LWP.seq_k fun N2 hN2 => ?_
  refine LWP.seq_k fun N3 hN3 => ?_
  refine LWP.region (l := [_,_,_,_,_]) ?_
  refine LWo.move (e_Luint8 a0) rfl (hn := ?_)
  refine LWo.lenM (f := e_uint8) (l := a0) u_Luint8 rfl (hn := ?_)
  refine LWo.move (e_Luint8 a1) rfl (hn := ?_)
  refine LWo.lenM (f := e_uint8) (l := a1) u_Luint8 rfl (hn := ?_)
  refine LWo.int _ rfl rfl rfl (hn := ?_)
  refine LWo.nil (hN3 _ ?_)
  refine LWP.cond_split rfl (fun h4 => ?_) (fun h4 => ?_)
  ·have h := bT h4 h
   refine LWP.seq_k fun N5 hN5 => ?_
   refine LWP.region (l := [_]) ?_
   refine LWo.assign (e_bool false) rfl (hn := ?_)
   refine LWo.nil (hN5 _ ?_)
   obtain rfl := Option.some.inj h
   refine LWP.ret (QG.mk (.inr rfl) (.cons (.tmp (x := (e_bool false)) rfl) (.nil)) (RetOK.one0 (.pure rfl) (by decide)) rfl rfl)
  ·have h := bF h4 h
   refine LWP.skip (hN2 _ ?_)
   refine LWP.join (α := Unit) (fun z : Unit => []) (fun z : Unit => []) (fun z : Unit => m_slices_Equal_Lbyte_byte_j1  ) r (fun _ => by simp [hkeys]) ?_ ?_
   ·rintro _ h
    replace h : m_slices_Equal_Lbyte_byte_j1   = some _ := h
    refine LWP.seq_k fun N21 hN21 => ?_
    refine LWP.region (l := [_]) ?_
    refine LWo.assign (e_bool true) rfl (hn := ?_)
    refine LWo.nil (hN21 _ ?_)
    obtain rfl := Option.some.inj h
    refine LWP.ret (QG.mk (.inr rfl) (.cons (.tmp (x := (e_bool true)) rfl) (.nil)) (RetOK.one0 (.pure rfl) (by decide)) rfl rfl)
   ·intro N6 hN6
    refine LWP.seq_k fun N7 hN7 => ?_
    refine LWP.region (l := [_,_,_]) ?_
    refine LWo.move (e_Luint8 a0) rfl (hn := ?_)
    refine LWo.lenM (f := e_uint8) (l := a0) u_Luint8 rfl (hn := ?_)
    refine LWo.move (e_int (0 : Int)) rfl (hn := ?_)
    refine LWo.nil (hN7 _ ?_)
    refine LWP.block ?_
    refine LWP.loopM (α := (List UInt8) × (List UInt8) × Int × Int) (fun z : (List UInt8) × (List UInt8) × Int × Int => [(0, (e_Luint8 z.1)), (1, (e_Luint8 z.2.1)), (12, (e_int z.2.2.1)), (13, (e_int z.2.2.2))]) (fun z : (List UInt8) × (List UInt8) × Int × Int => []) (fun n1 (z : (List UInt8) × (List UInt8) × Int × Int) => m_slices_Equal_Lbyte_byte_l1  n1 z.1 z.2.1 z.2.2.1 z.2.2.2) r _ (a0, a1, (a0.length : Int), (0 : Int)) h (fun _ => rfl) (fun _ => by simp [hkeys]) ⟨rfl, rfl, rfl, rfl, trivial⟩ trivial ?_
    rintro n1 ⟨t0, t1, t12, t13⟩ h N8 hN8
    replace h : m_slices_Equal_Lbyte_byte_l1  (n1 + 1) t0 t1 t12 t13 = some _ := h
    refine LWP.seq_k fun N10 hN10 => ?_
    refine LWP.region (l := [_]) ?_
    refine LWo.int _ rfl rfl rfl (hn := ?_)
    refine LWo.nil (hN10 _ ?_)
    refine LWP.seq_k fun N11 hN11 => ?_
    refine LWP.cond_split rfl (fun h12 => ?_) (fun h12 => ?_)
    ·have h := bT h12 h
     refine LWP.skip (hN11 _ ?_)
     refine LWP.seq_k fun N13 hN13 => ?_
     refine LWP.block ?_
     refine LWP.seq_k fun N14 hN14 => ?_
     refine LWP.region (l := [_,_]) ?_
     refine LWo.move (e_int t13) rfl (hn := ?_)
     refine LWo.assign (e_int t13) rfl (hn := ?_)
     refine LWo.nil (hN14 _ ?_)
     refine LWP.seq_k fun N15 hN15 => ?_
     refine bk h fun x16 e16 h => ?_
     refine bk h fun x17 e17 h => ?_
     refine LWP.drawF (l := [_,_,_,_,_,_,_,_,_]) [] [0, 1, 5, 12, 13] [([0], []), ([5], []), ([16, 17], []), ([18], []), ([1], []), ([5], []), ([20, 21], []), ([22], []), ([19, 23], [])] [0, 1, 12, 13, 24] [] mixed (by kernel_rfl) rfl (by decide) ?_
     refine dq 16 rfl (fun _ g u h => LWo.move (e_Luint8 t0) u.1 (hn := .nil (zn g))) ?_
     refine dq 17 rfl (fun _ g u h => LWo.move (e_int t13) u.1 (hn := .nil (zn g))) ?_
     refine dq 18 rfl (fun _ g u h => LWo.indexM (f := e_uint8) e16 u_Luint8 s_uint8 u.1 u.2.1 (hn := .nil (zn g))) ?_
     refine dq 19 rfl (fun _ g u h => LWo.load1 (c := (e_uint8 x16)) g_uint8 u.1 (hn := .nil (zn g))) ?_
     refine dq 20 rfl (fun _ g u h => LWo.move (e_Luint8 t1) u.1 (hn := .nil (zn g))) ?_
     refine dq 21 rfl (fun _ g u h => LWo.move (e_int t13) u.1 (hn := .nil (zn g))) ?_
     refine dq 22 rfl (fun _ g u h => LWo.indexM (f := e_uint8) e17 u_Luint8 s_uint8 u.1 u.2.1 (hn := .nil (zn g))) ?_
     refine dq 23 rfl (fun _ g u h => LWo.load1 (c := (e_uint8 x17)) g_uint8 u.1 (hn := .nil (zn g))) ?_
     refine dq 24 rfl (fun _ g u h => LWo.int _ u.1 u.2.1 rfl (hn := .nil (zn g))) ?_
     refine ⟨rfl, by kernel_rfl, hN15 _ ?_⟩
     refine LWP.cond_split rfl (fun h18 => ?_) (fun h18 => ?_)
     ·have h := bT h18 h
      refine LWP.seq_k fun N19 hN19 => ?_
      refine LWP.region (l := [_]) ?_
      refine LWo.assign (e_bool false) rfl (hn := ?_)
      refine LWo.nil (hN19 _ ?_)
      obtain rfl := Option.some.inj h
      refine LWP.ret (QG.mk (.inr rfl) (.cons (.tmp (x := (e_bool false)) rfl) (.nil)) (RetOK.one0 (.pure rfl) (by decide)) rfl rfl)
     ·have h := bF h18 h
      refine LWP.skip (hN13 _ ?_)
      refine LWP.region (l := [_,_]) ?_
      refine bk h fun x20 e20 h => ?_
      refine LWo.int _ rfl rfl (add_ck e20) (hn := ?_)
      refine LWo.move (e_int x20) rfl (hn := ?_)
      refine LWo.nil (hN8 (t0, t1, t12, x20) _ ⟨rfl, rfl, rfl, rfl, trivial⟩ trivial h)
    ·have h := bF h12 h
     refine LWP.exit (hN6 () _ trivial trivial h)

theorem cc_slices_Clip_Limpl_Write_impl_Write (xs : List LV) : Does Try.prog f_slices_Clip_Limpl_Write_impl_Write [.own 0 0 xs.length] [(0, { kind := .fro, sz := 3, elems := xs })] (fun r h => r = .nw 3 xs false ∧ h = []) := by
  refine Does.go [0] F_slices_Clip_Limpl_Write_impl_Write rfl e_slices_Clip_Limpl_Write_impl_Write n_slices_Clip_Limpl_Write_impl_Write rfl (ts := [2]) rfl rfl rfl ?_
  intro w0 ok0 lent ρ0
  refine LWP.seq_k fun N1 hN1 => ?_
  refine LWP.region (l := [_]) ?_
  refine LWo.assign _ rfl (hn := ?_)
  refine LWo.nil (hN1 _ ?_)
  refine LWP.seq_k fun N2 hN2 => ?_
  refine LWP.region (l := [_,_,_,_,_,_,_]) ?_
  refine LWo.move _ rfl (hn := ?_)
  refine LWo.move _ rfl (hn := ?_)
  refine LWo.len u_Limpl_Write rfl (hn := ?_)
  refine LWo.move _ rfl (hn := ?_)
  refine LWo.len u_Limpl_Write rfl (hn := ?_)
  refine LWo.cutOwn (l := 0) (h := xs.length) u_Limpl_Write s_impl_Write rfl rfl rfl rfl ⟨_, rfl⟩ ⟨_, _, rfl, Nat.le_refl _, Nat.le_refl _⟩ (.inr (by simp)) (Nat.zero_le _) (Nat.le_refl _) rfl rfl (hn := ?_)
  refine LWo.assign _ rfl (hn := ?_)
  refine LWo.nil (hN2 _ ?_)
  refine LWP.ret (QRet.own1 (.inr rfl) rfl rfl rfl rfl (by simp) ⟨?_, rfl⟩)
  clear hN1 hN2
  exact congrArg (fun l => LV.nw 3 l false) (by simp)
def m_slices_Clip_Limpl_Write_impl_Write_o (o0 : List S_impl_Write) : Option (List S_impl_Write) := some o0
theorem c_slices_Clip_Limpl_Write_impl_Write_o (o0 : List S_impl_Write) (r : List S_impl_Write) (h : m_slices_Clip_Limpl_Write_impl_Write_o o0 = some r) : Does Try.prog f_slices_Clip_Limpl_Write_impl_Write [.own 0 0 o0.length] [(0, lob 3 e_impl_Write o0)] (fun x hh => x = .nw 3 (r.map e_impl_Write) false ∧ hh = []) := by
  cases h
  have := cc_slices_Clip_Limpl_Write_impl_Write (o0.map e_impl_Write)
  rw [List.length_map] at this
  exact this



def m_slices_Clip_Limpl_Write_impl_Write (a0 : (List S_impl_Write)) : Option (List S_impl_Write) :=
  (cut3? a0 (0 : Int) (a0.length : Int) (a0.length : Int)).bind fun x3 =>
  some x3
theorem c_slices_Clip_Limpl_Write_impl_Write (a0 : (List S_impl_Write)) (r : (List S_impl_Write)) (h : m_slices_Clip_Limpl_Write_impl_Write a0 = some r) : Ret Try.prog f_slices_Clip_Limpl_Write_impl_Write [e_Limpl_Write a0] (e_Limpl_Write r) := by
  refine Does.goG [] F_slices_Clip_Limpl_Write_impl_Write rfl e_slices_Clip_Limpl_Write_impl_Write n_slices_Clip_Limpl_Write_impl_Write rfl (rvs := [.tmp 2]) rfl rfl ?_
  intro w0 ok0 lent ρ0
  refine LWP.seq_k fun N1 hN1 => ?_
  refine LWP.region (l := [_]) ?_
  refine LWo.assign _ rfl (hn := ?_)
  refine LWo.weakT 2 (e_Limpl_Write ([] : (List S_impl_Write))) rfl .nil ?_
  refine LWo.nil (hN1 _ ?_)
  refine LWP.seq_k fun N2 hN2 => ?_
  refine LWP.region (l := [_,_,_,_,_,_,_]) ?_
  refine LWo.move (e_Limpl_Write a0) rfl (hn := ?_)
  refine LWo.move (e_Limpl_Write a0) rfl (hn := ?_)
  refine LWo.lenM (f := e_impl_Write) (l := a0) u_Limpl_Write rfl (hn := ?_)
  refine LWo.move (e_Limpl_Write a0) rfl (hn := ?_)
  refine LWo.lenM (f := e_impl_Write) (l := a0) u_Limpl_Write rfl (hn := ?_)
  refine bk h fun x3 e3 h => ?_
  refine LWo.cutM3 (f := e_impl_Write) e3 u_Limpl_Write s_impl_Write rfl rfl ⟨_, rfl⟩ ⟨_, rfl⟩ (hn := ?_)
  refine LWo.assign (e_Limpl_Write x3) rfl (hn := ?_)
  refine LWo.nil (hN2 _ ?_)
  obtain rfl := Option.some.inj h
  refine LWP.ret (QG.mk (.inr rfl) (.cons (.tmp (x := (e_Limpl_Write x3)) rfl) (.nil)) (RetOK.one0 (.pure rfl) (by decide)) rfl rfl)

def m_impl_writesCopy_j1 (o1003 : (List S_impl_Write)) : Option (List S_impl_Write) :=
  (m_slices_Clip_Limpl_Write_impl_Write_o o1003).bind fun x20 =>
  some x20
def m_impl_writesCopy_l1 : Nat → (List S_impl_Write) → Int → Int → (List S_impl_Write) → Option (List S_impl_Write)
  | 0, _, _, _, _ => none
  | n1 + 1, t6, t7, t8, o1003 =>
    bif decide (t8 < t7) then ((at? t6 t8).bind fun x12 =>
    lt (x12) fun y13 =>
    (m_impl_clone_impl_Value y13.Row).bind fun x15 =>
    lt ({ y13 with Row := x15 }) fun y16 =>
    (app? o1003 ([y16] : (List S_impl_Write))).bind fun x17 =>
    (ckI (t8 + (1 : Int))).bind fun x18 =>
    (m_impl_writesCopy_l1  n1) t6 t7 x18 x17)
    else (m_impl_writesCopy_j1  o1003)
def m_impl_writesCopy (a0 : (List S_impl_Write)) : Option (List S_impl_Write) :=
  m_impl_writesCopy_l1  (((a0.length : Int) - (0 : Int)).toNat + 1) a0 (a0.length : Int) (0 : Int) ([] : (List S_impl_Write))
theorem c_impl_writesCopy (a0 : (List S_impl_Write)) (r : (List S_impl_Write)) (h : m_impl_writesCopy a0 = some r) : Ret Try.prog f_impl_writesCopy [e_Limpl_Write a0] (.nw 3 (r.map e_impl_Write) false) := by
  refine Does.goG [] F_impl_writesCopy rfl e_impl_writesCopy n_impl_writesCopy rfl (rvs := [.tmp 2]) rfl rfl ?_
  intro w0 ok0 lent ρ0
  refine LWP.seq_k fun N1 hN1 => ?_
  refine LWP.region (l := [_]) ?_
  refine LWo.assign _ rfl (hn := ?_)
  refine LWo.ownNil 2 1002 3 rfl rfl rfl ?_
  refine LWo.known 2 (.own 1002 0 ([] : (List S_impl_Write)).length) rfl ?_
  refine LWo.nil (hN1 _ ?_)
  refine LWP.seq_k fun N2 hN2 => ?_
  refine LWP.region (l := [_]) ?_
  refine LWo.assign _ rfl (hn := ?_)
  refine LWo.ownNil 3 1003 3 rfl rfl rfl ?_
  refine LWo.known 3 (.own 1003 0 ([] : (List S_impl_Write)).length) rfl ?_
  refine LWo.nil (hN2 _ ?_)
  refine LWP.join (α := (List S_impl_Write)) (fun z : (List S_impl_Write) => [(3, (.own 1003 0 (z).length))]) (fun z : (List S_impl_Write) => [(1003, (lob 3 e_impl_Write z))]) (fun z : (List S_impl_Write) => m_impl_writesCopy_j1  z) r (fun _ => by simp [hkeys]) ?_ ?_
  ·rintro o1003 h
   replace h : m_impl_writesCopy_j1  o1003 = some _ := h
   refine LWP.seq_k fun N19 hN19 => ?_
   refine LWP.region (l := [_,_,_]) ?_
   refine LWo.move (.own 1003 0 (o1003).length) rfl (hn := ?_)
   refine bk h fun x20 e20 h => ?_
   refine LWo.tcallN (e := e_impl_Write) (e' := e_impl_Write) 1022 rfl rfl (c_slices_Clip_Limpl_Write_impl_Write_o _ _ e20) (fun _ => rfl) rfl rfl rfl rfl (hn := ?_)
   refine LWo.assign (.own 1022 0 (x20).length) rfl (hn := ?_)
   refine LWo.nil (hN19 _ ?_)
   obtain rfl := Option.some.inj h
   refine LWP.ret (QG.mk (.inr rfl) (.cons (.tmp (x := (.own 1022 0 (x20).length)) rfl) (.nil)) (RetOK.one0 (.nwM rfl rfl) (by decide)) rfl rfl)
  ·intro N3 hN3
   refine LWP.seq_k fun N4 hN4 => ?_
   refine LWP.region (l := [_,_,_]) ?_
   refine LWo.move (e_Limpl_Write a0) rfl (hn := ?_)
   refine LWo.lenM (f := e_impl_Write) (l := a0) u_Limpl_Write rfl (hn := ?_)
   refine LWo.move (e_int (0 : Int)) rfl (hn := ?_)
   refine LWo.nil (hN4 _ ?_)
   refine LWP.block ?_
   refine LWP.loopM (α := (List S_impl_Write) × Int × Int × (List S_impl_Write)) (fun z : (List S_impl_Write) × Int × Int × (List S_impl_Write) => [(3, (.own 1003 0 (z.2.2.2).length)), (6, (e_Limpl_Write z.1)), (7, (e_int z.2.1)), (8, (e_int z.2.2.1))]) (fun z : (List S_impl_Write) × Int × Int × (List S_impl_Write) => [(1003, (lob 3 e_impl_Write z.2.2.2))]) (fun n1 (z : (List S_impl_Write) × Int × Int × (List S_impl_Write)) => m_impl_writesCopy_l1  n1 z.1 z.2.1 z.2.2.1 z.2.2.2) r _ (a0, (a0.length : Int), (0 : Int), ([] : (List S_impl_Write))) h (fun _ => rfl) (fun _ => by simp [hkeys]) ⟨rfl, rfl, rfl, rfl, trivial⟩ ⟨rfl, trivial⟩ ?_
   rintro n1 ⟨t6, t7, t8, o1003⟩ h N5 hN5
   replace h : m_impl_writesCopy_l1  (n1 + 1) t6 t7 t8 o1003 = some _ := h
   refine LWP.seq_k fun N7 hN7 => ?_
   refine LWP.region (l := [_]) ?_
   refine LWo.int _ rfl rfl rfl (hn := ?_)
   refine LWo.nil (hN7 _ ?_)
   refine LWP.seq_k fun N8 hN8 => ?_
   refine LWP.cond_split rfl (fun h9 => ?_) (fun h9 => ?_)
   ·have h := bT h9 h
    refine LWP.skip (hN8 _ ?_)
    refine LWP.seq_k fun N10 hN10 => ?_
    refine LWP.block ?_
    refine LWP.seq_k fun N11 hN11 => ?_
    refine LWP.region (l := [_,_,_,_]) ?_
    refine bk h fun x12 e12 h => ?_
    refine LWo.indexM (f := e_impl_Write) e12 u_Limpl_Write s_impl_Write rfl rfl (hn := ?_)
    refine LWo.loadN ((e_impl_Write x12)).cells g_impl_Write s_impl_Write rfl (Nat.le_of_ble_eq_true rfl) rfl (hn := ?_)
    refine LWo.alloc_impl_Write 5 rfl (hn := ?_)
    refine lk h fun y13 e13 h => ?_
    refine LWo.storeW (y := (⟨(0 : Int), [], false⟩ : S_impl_Write)) y13 s_impl_Write rfl rfl rfl rfl rfl rfl (by rw [e13]; exact .refl) rfl (hn := ?_)
    refine LWo.nil (hN11 _ ?_)
    refine LWP.seq_k fun N14 hN14 => ?_
    refine LWP.region (l := [_,_,_,_,_]) ?_
    refine LWo.fieldPtr u_impl_Write rfl s_Limpl_Value rfl rfl (hn := ?_)
    refine LWo.loadV1 (e_Limpl_Value y13.Row)  g_Limpl_Value rfl rfl rfl (hn := ?_)
    refine bk h fun x15 e15 h => ?_
    refine LWo.vcall rfl rfl (c_impl_clone_impl_Value _ _ e15) (.same (.nil)) (hn := ?_)
    refine LWo.fieldPtr u_impl_Write rfl s_Limpl_Value rfl rfl (hn := ?_)
    refine lk h fun y16 e16 h => ?_
    refine LWo.storeW (y := y13) y16 s_Limpl_Value rfl rfl rfl rfl rfl rfl (by rw [e16]; exact .refl) rfl (hn := ?_)
    refine LWo.nil (hN14 _ ?_)
    refine LWP.region (l := [_,_,_,_,_]) ?_
    refine LWo.move (.own 1003 0 (o1003).length) rfl (hn := ?_)
    refine LWo.loadVN ((e_impl_Write y16)).cells  g_impl_Write s_impl_Write rfl rfl rfl rfl (hn := ?_)
    refine LWo.lit (ops := [_]) [(e_impl_Write y16)] u_Limpl_Write s_impl_Write z_impl_Write rfl rfl rfl rfl rfl rfl (hn := ?_)
    refine bk h fun x17 e17 h => ?_
    refine LWo.appendM (f := e_impl_Write) e17 rfl u_Limpl_Write u_Limpl_Write (fun _ h => by cases h) s_impl_Write i_impl_Write rfl rfl rfl (.sl rfl) rfl rfl (hn := ?_)
    refine LWo.assign (.own 1003 0 (x17).length) rfl (hn := ?_)
    refine LWo.nil (hN10 _ ?_)
    refine LWP.region (l := [_,_]) ?_
    refine bk h fun x18 e18 h => ?_
    refine LWo.int _ rfl rfl (add_ck e18) (hn := ?_)
    refine LWo.move (e_int x18) rfl (hn := ?_)
    refine LWo.nil (hN5 (t6, t7, x18, x17) _ ⟨rfl, rfl, rfl, rfl, trivial⟩ ⟨rfl, trivial⟩ h)
   ·have h := bF h9 h
    refine LWP.exit (hN3 o1003 _ ⟨rfl, trivial⟩ ⟨rfl, trivial⟩ h)

def m_impl_EntryFrom_j2 (t0 : (List UInt8)) (t5 : Int) (o2 : S_impl_Entry) (o100301 : (List S_impl_Write)) (o6 : S_impl_Entry) : Option (S_impl_Entry × Int) :=
  (m_impl_EntryBytes ({ o6 with Writes := o100301 })).bind fun x46 =>
  (cut? t0 (0 : Int) t5).bind fun x47 =>
  (m_slices_Equal_Lbyte_byte x46 x47).bind fun x48 =>
  bif (!x48) then (lt ((⟨(0 : Int), []⟩ : S_impl_Entry)) fun y51 =>
    some (y51, (0 : Int)))
  else ((m_impl_writesCopy (({ o6 with Writes := o100301 }).Writes)).bind fun x53 =>
  lt ({ { o6 with Writes := o100301 } with Writes := x53 }) fun y55 =>
  some (y55, t5))
def m_impl_EntryFrom_l1 : Nat → (List UInt8) → Int → (List UInt8) → Int → Int → S_impl_Entry → (List S_impl_Write) → S_impl_Entry → Option (S_impl_Entry × Int)
  | 0, _, _, _, _, _, _, _, _ => none
  | n1 + 1, t0, t5, t7, t33, t34, o2, o100301, o6 =>
    bif decide (t34 < t33) then (bif decide ((t7.length : Int) < (3 : Int)) then (lt ((⟨(0 : Int), []⟩ : S_impl_Entry)) fun y28 =>
      some (y28, (0 : Int)))
    else ((cut? t7 (2 : Int) (t7.length : Int)).bind fun x30 =>
    (m_impl_RowFrom x30).bind fun x31 =>
    bif (x31.2 == (0 : Int)) then (lt ((⟨(0 : Int), []⟩ : S_impl_Entry)) fun y36 =>
      some (y36, (0 : Int)))
    else ((at? t7 (0 : Int)).bind fun x38 =>
    (at? t7 (1 : Int)).bind fun x39 =>
    (app? o100301 ([(⟨(x38.toNat : Int), x31.1, ((x39.toNat : Int) == ((1 : UInt8).toNat : Int))⟩ : S_impl_Write)] : (List S_impl_Write))).bind fun x40 =>
    (ckI ((2 : Int) + x31.2)).bind fun x41 =>
    (cut? t7 x41 (t7.length : Int)).bind fun x42 =>
    (ckI (t34 + (1 : Int))).bind fun x43 =>
    (m_impl_EntryFrom_l1  n1) t0 t5 x42 t33 x43 o2 x40 o6)))
    else (m_impl_EntryFrom_j2  t0 t5 o2 o100301 o6)
def m_impl_EntryFrom_j1 (t0 : (List UInt8)) (t4 : (List UInt8)) (t5 : Int) (t21 : Bool) (o2 : S_impl_Entry) : Option (S_impl_Entry × Int) :=
  bif t21 then (lt ((⟨(0 : Int), []⟩ : S_impl_Entry)) fun y9 =>
    some (y9, (0 : Int)))
  else ((at? t4 (0 : Int)).bind fun x11 =>
  lt ((⟨(x11.toNat : Int), []⟩ : S_impl_Entry)) fun y12 =>
  (cut? t4 (2 : Int) (t4.length : Int)).bind fun x14 =>
  (at? t4 (1 : Int)).bind fun x17 =>
  m_impl_EntryFrom_l1  (((x17.toNat : Int) - (0 : Int)).toNat + 1) t0 t5 x14 (x17.toNat : Int) (0 : Int) o2 ([] : (List S_impl_Write)) y12)
def m_impl_EntryFrom (a0 : (List UInt8)) : Option (S_impl_Entry × Int) :=
  (m_impl_unframed a0).bind fun x3 =>
  bif (x3.2 == (0 : Int)) then (m_impl_EntryFrom_j1  a0 x3.1 x3.2 true (⟨(0 : Int), []⟩ : S_impl_Entry))
  else (m_impl_EntryFrom_j1  a0 x3.1 x3.2 (decide ((x3.1.length : Int) < (2 : Int))) (⟨(0 : Int), []⟩ : S_impl_Entry))
theorem c_impl_EntryFrom (a0 : (List UInt8)) (r : (S_impl_Entry × Int)) (h : m_impl_EntryFrom a0 = some r) : Ret Try.prog f_impl_EntryFrom [e_Luint8 a0] (.tup [e_impl_Entry r.1, e_int r.2]) := by
  refine Does.goG [] F_impl_EntryFrom rfl e_impl_EntryFrom n_impl_EntryFrom rfl (rvs := [.cell 2 t_impl_Entry, .tmp 3]) rfl rfl ?_
  intro w0 ok0 lent ρ0
  refine LWP.seq_k fun N1 hN1 => ?_
  refine LWP.region (l := [_,_]) ?_
  refine LWo.alloc_impl_Entry 2 rfl (hn := ?_)
  refine LWo.assign (e_int (0 : Int)) rfl (hn := ?_)
  refine LWo.nil (hN1 _ ?_)
  refine LWP.seq_k fun N2 hN2 => ?_
  refine LWP.region (l := [_,_,_,_,_,_,_]) ?_
  refine LWo.move (e_Luint8 a0) rfl (hn := ?_)
  refine bk h fun x3 e3 h => ?_
  refine LWo.vcall rfl rfl (c_impl_unframed _ _ e3) (.same (.nil)) (hn := ?_)
  refine LWo.move (.tup [(e_Luint8 x3.1), (e_int x3.2)]) rfl (hn := ?_)
  refine LWo.extract (e_Luint8 x3.1) rfl rfl (hn := ?_)
  refine LWo.extract (e_int x3.2) rfl rfl (hn := ?_)
  refine LWo.assign (e_Luint8 x3.1) rfl (hn := ?_)
  refine LWo.assign (e_int x3.2) rfl (hn := ?_)
  refine LWo.nil (hN2 _ ?_)
  refine LWP.seq_k fun N4 hN4 => ?_
  refine LWP.join (α := (List UInt8) × (List UInt8) × Int × Bool × S_impl_Entry) (fun z : (List UInt8) × (List UInt8) × Int × Bool × S_impl_Entry => [(0, (e_Luint8 z.1)), (2, (.ptr 2 0 0)), (4, (e_Luint8 z.2.1)), (5, (e_int z.2.2.1)), (21, (e_bool z.2.2.2.1))]) (fun z : (List UInt8) × (List UInt8) × Int × Bool × S_impl_Entry => [(2, (vob 2 e_impl_Entry z.2.2.2.2))]) (fun z : (List UInt8) × (List UInt8) × Int × Bool × S_impl_Entry => m_impl_EntryFrom_j1  z.1 z.2.1 z.2.2.1 z.2.2.2.1 z.2.2.2.2) r (fun _ => by simp [hkeys]) ?_ ?_
  ·rintro ⟨t0, t4, t5, t21, o2⟩ h
   replace h : m_impl_EntryFrom_j1  t0 t4 t5 t21 o2 = some _ := h
   refine LWP.cond_split rfl (fun h7 => ?_) (fun h7 => ?_)
   ·have h := bT h7 h
    refine LWP.seq_k fun N8 hN8 => ?_
    refine LWP.region (l := [_,_,_]) ?_
    refine LWo.build_impl_Entry (parts := []) (⟨(0 : Int), []⟩ : S_impl_Entry) rfl rfl rfl (.agg (.cons .refl (.cons .nil .nil))) (hn := ?_)
    refine lk h fun y9 e9 h => ?_
    refine LWo.storeW (y := o2) y9 s_impl_Entry rfl rfl rfl rfl rfl rfl (by rw [e9]; exact .refl) rfl (hn := ?_)
    refine LWo.assign (e_int (0 : Int)) rfl (hn := ?_)
    refine LWo.nil (hN8 _ ?_)
    obtain rfl := Option.some.inj h
    refine LWP.ret (QG.mk (.inr rfl) (.cons (.cellN (ys := (e_impl_Entry y9).cells) g_impl_Entry s_impl_Entry rfl rfl rfl rfl rfl (fun _ _ => rfl)) (.cons (.tmp (x := (e_int (0 : Int))) rfl) (.nil))) (RetOK.many0 (.cons (.pure rfl) (.cons (.pure rfl) (.nil))) (by simp) (by decide)) rfl rfl)
   ·have h := bF h7 h
    refine LWP.skip (hN4 _ ?_)
    refine LWP.seq_k fun N10 hN10 => ?_
    refine LWP.region (l := [_,_,_,_,_,_,_]) ?_
    refine LWo.move (e_Luint8 t4) rfl (hn := ?_)
    refine bk h fun x11 e11 h => ?_
    refine LWo.indexM (f := e_uint8) e11 u_Luint8 s_uint8 rfl rfl (hn := ?_)
    refine LWo.load1 (c := (e_uint8 x11)) g_uint8 rfl (hn := ?_)
    refine LWo.convByte _ u_uint8 u_int rfl (hn := ?_)
    refine LWo.buildR_impl_Entry (parts := [_]) (ovr (e_impl_Entry (⟨(x11.toNat : Int), []⟩ : S_impl_Entry)).cells [(1, .imm (.slice none 0 0))]) rfl rfl rfl (hn := ?_)
    refine LWo.allocX_impl_Entry [(1, .imm (.slice none 0 0))] 6 rfl rfl (hn := ?_)
    refine LWo.nilX 6 100301 1 3 [(1, .own 100301 0 (([] : (List S_impl_Write))).length)] rfl rfl rfl rfl rfl rfl ?_
    refine lk h fun y12 e12 h => ?_
    refine LWo.storeX (f := e_impl_Entry) (y := (⟨(0 : Int), []⟩ : S_impl_Entry)) y12 [(1, .imm (.slice none 0 0))] s_impl_Entry rfl rfl rfl rfl rfl rfl (by rw [e12]; rfl) (hn := ?_)
    refine LWo.nilX 6 100301 1 3 [(1, .own 100301 0 (([] : (List S_impl_Write))).length)] rfl rfl rfl rfl rfl rfl ?_
    refine LWo.nil (hN10 _ ?_)
    refine LWP.seq_k fun N13 hN13 => ?_
    refine LWP.region (l := [_,_,_]) ?_
    refine LWo.move (e_Luint8 t4) rfl (hn := ?_)
    refine bk h fun x14 e14 h => ?_
    refine LWo.cutM (f := e_uint8) e14 u_Luint8 s_uint8 rfl ⟨_, rfl⟩ rfl (hn := ?_)
    refine LWo.assign (e_Luint8 x14) rfl (hn := ?_)
    refine LWo.nil (hN13 _ ?_)
    refine LWP.join (α := (List UInt8) × Int × S_impl_Entry × (List S_impl_Write) × S_impl_Entry) (fun z : (List UInt8) × Int × S_impl_Entry × (List S_impl_Write) × S_impl_Entry => [(0, (e_Luint8 z.1)), (2, (.ptr 2 0 0)), (5, (e_int z.2.1)), (6, (.ptr 6 0 0))]) (fun z : (List UInt8) × Int × S_impl_Entry × (List S_impl_Write) × S_impl_Entry => [(2, (vob 2 e_impl_Entry z.2.2.1)), (100301, (lob 3 e_impl_Write z.2.2.2.1)), (6, (xob 2 e_impl_Entry z.2.2.2.2 [(1, .own 100301 0 (z.2.2.2.1).length)]))]) (fun z : (List UInt8) × Int × S_impl_Entry × (List S_impl_Write) × S_impl_Entry => m_impl_EntryFrom_j2  z.1 z.2.1 z.2.2.1 z.2.2.2.1 z.2.2.2.2) r (fun _ => by simp [hkeys]) ?_ ?_
    ·rintro ⟨t0, t5, o2, o100301, o6⟩ h
     replace h : m_impl_EntryFrom_j2  t0 t5 o2 o100301 o6 = some _ := h
     refine LWP.seq_k fun N44 hN44 => ?_
     refine LWP.seq_k fun N45 hN45 => ?_
     refine LWP.frzX (f := e_impl_Entry) (g := e_impl_Write) (l := o100301) [] 6 100301 1 ({ o6 with Writes := o100301 }) [] rfl rfl rfl rfl rfl trivial rfl ?_
     refine bk h fun x46 e46 h => ?_
     refine bk h fun x47 e47 h => ?_
     refine bk h fun x48 e48 h => ?_
     refine LWP.drawF (l := [_,_,_,_,_,_,_]) [] [0, 2, 5, 6] [([6], [6]), ([69], []), ([0], []), ([5], []), ([71, 72], []), ([70, 73], []), ([74], [])] [2, 5, 6, 75] [2, 6] mixed (by kernel_rfl) rfl (by decide) ?_
     refine dq 69 rfl (fun _ g u h => LWo.loadPtrN ((e_impl_Entry ({ o6 with Writes := o100301 }))).cells g_impl_Entry s_impl_Entry u.1 h.1 rfl rfl rfl (fun _ _ => rfl) (hn := .nil (zn g))) ?_
     refine dq 70 rfl (fun _ g u h => LWo.vcall rfl (av1 u.1) (c_impl_EntryBytes _ _ e46) (.same (.nil)) (hn := .nil (zn g))) ?_
     refine dq 71 rfl (fun _ g u h => LWo.move (e_Luint8 t0) u.1 (hn := .nil (zn g))) ?_
     refine dq 72 rfl (fun _ g u h => LWo.move (e_int t5) u.1 (hn := .nil (zn g))) ?_
     refine dq 73 rfl (fun _ g u h => LWo.cutM (f := e_uint8) e47 u_Luint8 s_uint8 u.1 rfl ⟨_, u.2.1⟩ (hn := .nil (zn g))) ?_
     refine dq 74 rfl (fun _ g u h => LWo.vcall rfl (av2 u.1 u.2.1) (c_slices_Equal_Lbyte_byte _ _ _ e48) (.same (.same (.nil))) (hn := .nil (zn g))) ?_
     refine dq 75 rfl (fun _ g u h => LWo.not u.1 (hn := .nil (zn g))) ?_
     refine ⟨rfl, by kernel_rfl, hN45 _ ?_⟩
     refine LWP.cond_split rfl (fun h49 => ?_) (fun h49 => ?_)
     ·have h := bT h49 h
      refine LWP.seq_k fun N50 hN50 => ?_
      refine LWP.region (l := [_,_,_]) ?_
      refine LWo.build_impl_Entry (parts := []) (⟨(0 : Int), []⟩ : S_impl_Entry) rfl rfl rfl (.agg (.cons .refl (.cons .nil .nil))) (hn := ?_)
      refine lk h fun y51 e51 h => ?_
      refine LWo.storeW (y := o2) y51 s_impl_Entry rfl rfl rfl rfl rfl rfl (by rw [e51]; exact .refl) rfl (hn := ?_)
      refine LWo.assign (e_int (0 : Int)) rfl (hn := ?_)
      refine LWo.nil (hN50 _ ?_)
      obtain rfl := Option.some.inj h
      refine LWP.ret (QG.mk (.inr rfl) (.cons (.cellN (ys := (e_impl_Entry y51).cells) g_impl_Entry s_impl_Entry rfl rfl rfl rfl rfl (fun _ _ => rfl)) (.cons (.tmp (x := (e_int (0 : Int))) rfl) (.nil))) (RetOK.many0 (.cons (.pure rfl) (.cons (.pure rfl) (.nil))) (by simp) (by decide)) rfl rfl)
     ·have h := bF h49 h
      refine LWP.skip (hN44 _ ?_)
      refine LWP.seq_k fun N52 hN52 => ?_
      refine LWP.region (l := [_,_,_,_,_]) ?_
      refine LWo.fieldPtr u_impl_Entry rfl s_Limpl_Write rfl rfl (hn := ?_)
      refine LWo.loadPtr1 (e_Limpl_Write (({ o6 with Writes := o100301 }).Writes)) g_Limpl_Write rfl rfl rfl rfl rfl (hn := ?_)
      refine bk h fun x53 e53 h => ?_
      refine LWo.ncall (e := e_impl_Write) 100301 rfl rfl (c_impl_writesCopy _ _ e53) (.same (.nil)) rfl (hn := ?_)
      refine LWo.fieldPtr u_impl_Entry rfl s_Limpl_Write rfl rfl (hn := ?_)
      refine LWo.storeX (f := e_impl_Entry) (y := { o6 with Writes := o100301 }) ({ o6 with Writes := o100301 }) [(1, .own 100301 0 (x53).length)] s_Limpl_Write rfl rfl rfl rfl rfl rfl rfl (hn := ?_)
      refine LWo.nil (hN52 _ ?_)
      refine LWP.seq_k fun N54 hN54 => ?_
      refine LWP.region (l := [_,_,_,_]) ?_
      refine LWo.frzX (f := e_impl_Entry) (g := e_impl_Write) (l := x53) [79] 6 100301 1 ({ { o6 with Writes := o100301 } with Writes := x53 }) [] rfl rfl rfl rfl rfl ⟨rfl, trivial⟩ rfl ?_
      refine LWo.loadPtrN ((e_impl_Entry ({ { o6 with Writes := o100301 } with Writes := x53 }))).cells g_impl_Entry s_impl_Entry rfl rfl rfl rfl rfl (fun _ _ => rfl) (hn := ?_)
      refine LWo.move (e_int t5) rfl (hn := ?_)
      refine lk h fun y55 e55 h => ?_
      refine LWo.storeW (y := o2) y55 s_impl_Entry rfl rfl rfl rfl rfl rfl (by rw [e55]; exact .refl) rfl (hn := ?_)
      refine LWo.assign (e_int t5) rfl (hn := ?_)
      refine LWo.nil (hN54 _ ?_)
      obtain rfl := Option.some.inj h
      refine LWP.ret (QG.mk (.inr rfl) (.cons (.cellN (ys := (e_impl_Entry y55).cells) g_impl_Entry s_impl_Entry rfl rfl rfl rfl rfl (fun _ _ => rfl)) (.cons (.tmp (x := (e_int t5)) rfl) (.nil))) (RetOK.many0 (.cons (.pure rfl) (.cons (.pure rfl) (.nil))) (by simp) (by decide)) rfl rfl)
    ·intro N15 hN15
     refine LWP.seq_k fun N16 hN16 => ?_
     refine LWP.region (l := [_,_,_,_,_]) ?_
     refine LWo.move (e_Luint8 t4) rfl (hn := ?_)
     refine bk h fun x17 e17 h => ?_
     refine LWo.indexM (f := e_uint8) e17 u_Luint8 s_uint8 rfl rfl (hn := ?_)
     refine LWo.load1 (c := (e_uint8 x17)) g_uint8 rfl (hn := ?_)
     refine LWo.convByte _ u_uint8 u_int rfl (hn := ?_)
     refine LWo.move (e_int (0 : Int)) rfl (hn := ?_)
     refine LWo.nil (hN16 _ ?_)
     refine LWP.block ?_
     refine LWP.loopM (α := (List UInt8) × Int × (List UInt8) × Int × Int × S_impl_Entry × (List S_impl_Write) × S_impl_Entry) (fun z : (List UInt8) × Int × (List UInt8) × Int × Int × S_impl_Entry × (List S_impl_Write) × S_impl_Entry => [(0, (e_Luint8 z.1)), (2, (.ptr 2 0 0)), (5, (e_int z.2.1)), (6, (.ptr 6 0 0)), (7, (e_Luint8 z.2.2.1)), (33, (e_int z.2.2.2.1)), (34, (e_int z.2.2.2.2.1))]) (fun z : (List UInt8) × Int × (List UInt8) × Int × Int × S_impl_Entry × (List S_impl_Write) × S_impl_Entry => [(2, (vob 2 e_impl_Entry z.2.2.2.2.2.1)), (100301, (lob 3 e_impl_Write z.2.2.2.2.2.2.1)), (6, (xob 2 e_impl_Entry z.2.2.2.2.2.2.2 [(1, .own 100301 0 (z.2.2.2.2.2.2.1).length)]))]) (fun n1 (z : (List UInt8) × Int × (List UInt8) × Int × Int × S_impl_Entry × (List S_impl_Write) × S_impl_Entry) => m_impl_EntryFrom_l1  n1 z.1 z.2.1 z.2.2.1 z.2.2.2.1 z.2.2.2.2.1 z.2.2.2.2.2.1 z.2.2.2.2.2.2.1 z.2.2.2.2.2.2.2) r _ (t0, t5, x14, (x17.toNat : Int), (0 : Int), o2, ([] : (List S_impl_Write)), y12) h (fun _ => rfl) (fun _ => by simp [hkeys]) ⟨rfl, rfl, rfl, rfl, rfl, rfl, rfl, trivial⟩ ⟨rfl, rfl, rfl, trivial⟩ ?_
     rintro n1 ⟨t0, t5, t7, t33, t34, o2, o100301, o6⟩ h N18 hN18
     replace h : m_impl_EntryFrom_l1  (n1 + 1) t0 t5 t7 t33 t34 o2 o100301 o6 = some _ := h
     refine LWP.seq_k fun N20 hN20 => ?_
     refine LWP.region (l := [_]) ?_
     refine LWo.int _ rfl rfl rfl (hn := ?_)
     refine LWo.nil (hN20 _ ?_)
     refine LWP.seq_k fun N21 hN21 => ?_
     refine LWP.cond_split rfl (fun h22 => ?_) (fun h22 => ?_)
     ·have h := bT h22 h
      refine LWP.skip (hN21 _ ?_)
      refine LWP.seq_k fun N23 hN23 => ?_
      refine LWP.block ?_
      refine LWP.seq_k fun N24 hN24 => ?_
      refine LWP.seq_k fun N25 hN25 => ?_
      refine LWP.region (l := [_,_,_]) ?_
      refine LWo.move (e_Luint8 t7) rfl (hn := ?_)
      refine LWo.lenM (f := e_uint8) (l := t7) u_Luint8 rfl (hn := ?_)
      refine LWo.int _ rfl rfl rfl (hn := ?_)
      refine LWo.nil (hN25 _ ?_)
      refine LWP.cond_split rfl (fun h26 => ?_) (fun h26 => ?_)
      ·have h := bT h26 h
       refine LWP.seq_k fun N27 hN27 => ?_
       refine LWP.region (l := [_,_,_]) ?_
       refine LWo.build_impl_Entry (parts := []) (⟨(0 : Int), []⟩ : S_impl_Entry) rfl rfl rfl (.agg (.cons .refl (.cons .nil .nil))) (hn := ?_)
       refine lk h fun y28 e28 h => ?_
       refine LWo.storeW (y := o2) y28 s_impl_Entry rfl rfl rfl rfl rfl rfl (by rw [e28]; exact .refl) rfl (hn := ?_)
       refine LWo.assign (e_int (0 : Int)) rfl (hn := ?_)
       refine LWo.nil (hN27 _ ?_)
       obtain rfl := Option.some.inj h
       refine LWP.ret (QG.mk (.inr rfl) (.cons (.cellN (ys := (e_impl_Entry y28).cells) g_impl_Entry s_impl_Entry rfl rfl rfl rfl rfl (fun _ _ => rfl)) (.cons (.tmp (x := (e_int (0 : Int))) rfl) (.nil))) (RetOK.many0 (.cons (.pure rfl) (.cons (.pure rfl) (.nil))) (by simp) (by decide)) rfl rfl)
      ·have h := bF h26 h
       refine LWP.skip (hN24 _ ?_)
       refine LWP.seq_k fun N29 hN29 => ?_
       refine LWP.region (l := [_,_,_,_,_,_,_,_]) ?_
       refine LWo.move (e_Luint8 t7) rfl (hn := ?_)
       refine bk h fun x30 e30 h => ?_
       refine LWo.cutM (f := e_uint8) e30 u_Luint8 s_uint8 rfl ⟨_, rfl⟩ rfl (hn := ?_)
       refine bk h fun x31 e31 h => ?_
       refine LWo.vcall rfl rfl (c_impl_RowFrom _ _ e31) (.same (.nil)) (hn := ?_)
       refine LWo.move (.tup [(e_Limpl_Value x31.1), (e_int x31.2)]) rfl (hn := ?_)
       refine LWo.extract (e_Limpl_Value x31.1) rfl rfl (hn := ?_)
       refine LWo.extract (e_int x31.2) rfl rfl (hn := ?_)
       refine LWo.assign (e_Limpl_Value x31.1) rfl (hn := ?_)
       refine LWo.assign (e_int x31.2) rfl (hn := ?_)
       refine LWo.nil (hN29 _ ?_)
       refine LWP.seq_k fun N32 hN32 => ?_
       refine LWP.seq_k fun N33 hN33 => ?_
       refine LWP.region (l := [_,_]) ?_
       refine LWo.move (e_int x31.2) rfl (hn := ?_)
       refine LWo.int _ rfl rfl rfl (hn := ?_)
       refine LWo.nil (hN33 _ ?_)
       refine LWP.cond_split rfl (fun h34 => ?_) (fun h34 => ?_)
       ·have h := bT h34 h
        refine LWP.seq_k fun N35 hN35 => ?_
        refine LWP.region (l := [_,_,_]) ?_
        refine LWo.build_impl_Entry (parts := []) (⟨(0 : Int), []⟩ : S_impl_Entry) rfl rfl rfl (.agg (.cons .refl (.cons .nil .nil))) (hn := ?_)
        refine lk h fun y36 e36 h => ?_
        refine LWo.storeW (y := o2) y36 s_impl_Entry rfl rfl rfl rfl rfl rfl (by rw [e36]; exact .refl) rfl (hn := ?_)
        refine LWo.assign (e_int (0 : Int)) rfl (hn := ?_)
        refine LWo.nil (hN35 _ ?_)
        obtain rfl := Option.some.inj h
        refine LWP.ret (QG.mk (.inr rfl) (.cons (.cellN (ys := (e_impl_Entry y36).cells) g_impl_Entry s_impl_Entry rfl rfl rfl rfl rfl (fun _ _ => rfl)) (.cons (.tmp (x := (e_int (0 : Int))) rfl) (.nil))) (RetOK.many0 (.cons (.pure rfl) (.cons (.pure rfl) (.nil))) (by simp) (by decide)) rfl rfl)
       ·have h := bF h34 h
        refine LWP.skip (hN32 _ ?_)
        refine LWP.seq_k fun N37 hN37 => ?_
        refine bk h fun x38 e38 h => ?_
        refine bk h fun x39 e39 h => ?_
        refine bk h fun x40 e40 h => ?_
        refine LWP.drawF (l := [_,_,_,_,_,_,_,_,_,_,_,_,_,_,_,_]) [(100301, 6)] [0, 2, 5, 6, 7, 8, 9, 33, 34] [([6], []), ([49], [6]), ([7], []), ([51], []), ([52], []), ([53], []), ([8], []), ([7], []), ([56], []), ([57], []), ([58], []), ([54, 55, 59], []), ([60], []), ([50, 61], [100301, 6]), ([6], []), ([62, 63], [6])] [0, 2, 5, 6, 7, 9, 33, 34] [2, 6, 100301] mixed (by kernel_rfl) rfl (by decide) ?_
        refine dq 49 rfl (fun _ g u h => LWo.fieldPtr u_impl_Entry rfl s_Limpl_Write u.1 rfl (hn := .nil (zn g))) ?_
        refine ⟨rfl, .upd (some 50) _ 6 _, (by exact (goodC rfl goodN)), fun _ g u h => LWo.takeX (f := e_impl_Entry) (y := o6) (.own 100301 0 (o100301).length) [(1, .junk)] g_Limpl_Write u.1 h.1 rfl rfl (hn := LWo.nil ⟨rfl, .inl rfl, Ef.good_ok (e := .upd (some 50) _ 6 _) (by exact (goodC rfl goodN)) g⟩), ?_⟩
        refine dq 51 rfl (fun _ g u h => LWo.move (e_Luint8 t7) u.1 (hn := .nil (zn g))) ?_
        refine dq 52 rfl (fun _ g u h => LWo.indexM (f := e_uint8) e38 u_Luint8 s_uint8 u.1 rfl (hn := .nil (zn g))) ?_
        refine dq 53 rfl (fun _ g u h => LWo.load1 (c := (e_uint8 x38)) g_uint8 u.1 (hn := .nil (zn g))) ?_
        refine dq 54 rfl (fun _ g u h => LWo.convByte _ u_uint8 u_int u.1 (hn := .nil (zn g))) ?_
        refine dq 55 rfl (fun _ g u h => LWo.move (e_Limpl_Value x31.1) u.1 (hn := .nil (zn g))) ?_
        refine dq 56 rfl (fun _ g u h => LWo.move (e_Luint8 t7) u.1 (hn := .nil (zn g))) ?_
        refine dq 57 rfl (fun _ g u h => LWo.indexM (f := e_uint8) e39 u_Luint8 s_uint8 u.1 rfl (hn := .nil (zn g))) ?_
        refine dq 58 rfl (fun _ g u h => LWo.load1 (c := (e_uint8 x39)) g_uint8 u.1 (hn := .nil (zn g))) ?_
        refine dq 59 rfl (fun _ g u h => LWo.int _ u.1 rfl rfl (hn := .nil (zn g))) ?_
        refine dq 60 rfl (fun _ g u h => LWo.build_impl_Write (parts := [_, _, _]) (⟨(x38.toNat : Int), x31.1, ((x39.toNat : Int) == ((1 : UInt8).toNat : Int))⟩ : S_impl_Write) (pv3 u.1 u.2.1 u.2.2.1) rfl rfl .refl (hn := .nil (zn g))) ?_
        refine dq 61 rfl (fun _ g u h => LWo.lit (ops := [_]) [(e_impl_Write (⟨(x38.toNat : Int), x31.1, ((x39.toNat : Int) == ((1 : UInt8).toNat : Int))⟩ : S_impl_Write))] u_Limpl_Write s_impl_Write z_impl_Write (lv1 u.1) rfl rfl rfl rfl rfl (hn := .nil (zn g))) ?_
        refine ⟨rfl, .make 62 _ 100301 _, (by exact (goodC rfl goodN)), fun _ g u h => LWo.nd fun hnd => LWo.appendM (f := e_impl_Write) e40 rfl u_Limpl_Write u_Limpl_Write (fun _ h => by cases h) s_impl_Write i_impl_Write rfl u.1 h.1 (.sl u.2.1) (lone_x g rfl hnd h.2.1 rfl) rfl (hn := LWo.nil ⟨rfl, .inl rfl, Ef.good_ok (e := .make 62 _ 100301 _) (by exact (goodC rfl goodN)) g⟩), ?_⟩
        refine dq 63 rfl (fun _ g u h => LWo.fieldPtr u_impl_Entry rfl s_Limpl_Write u.1 rfl (hn := .nil (zn g))) ?_
        refine ⟨rfl, .upd none .junk 6 _, (by exact (goodC rfl goodN)), fun _ g u h => LWo.storeX (f := e_impl_Entry) (y := o6) o6 [(1, .own 100301 0 (x40).length)] s_Limpl_Write u.2.1 u.1 rfl rfl h.1 rfl rfl (hn := LWo.nil ⟨rfl, .inl rfl, Ef.good_ok (e := .upd none .junk 6 _) (by exact (goodC rfl goodN)) g⟩), ?_⟩
        refine ⟨rfl, by kernel_rfl, hN37 _ ?_⟩
        refine LWP.region (l := [_,_,_,_,_]) ?_
        refine LWo.move (e_Luint8 t7) rfl (hn := ?_)
        refine LWo.move (e_int x31.2) rfl (hn := ?_)
        refine bk h fun x41 e41 h => ?_
        refine LWo.int _ rfl rfl (add_ck e41) (hn := ?_)
        refine bk h fun x42 e42 h => ?_
        refine LWo.cutM (f := e_uint8) e42 u_Luint8 s_uint8 rfl ⟨_, rfl⟩ rfl (hn := ?_)
        refine LWo.assign (e_Luint8 x42) rfl (hn := ?_)
        refine LWo.nil (hN23 _ ?_)
        refine LWP.region (l := [_,_]) ?_
        refine bk h fun x43 e43 h => ?_
        refine LWo.int _ rfl rfl (add_ck e43) (hn := ?_)
        refine LWo.move (e_int x43) rfl (hn := ?_)
        refine LWo.nil (hN18 (t0, t5, x42, t33, x43, o2, x40, o6) _ ⟨rfl, rfl, rfl, rfl, rfl, rfl, rfl, trivial⟩ ⟨rfl, rfl, rfl, trivial⟩ h)
     ·have h := bF h22 h
      refine LWP.exit (hN15 (t0, t5, o2, o100301, o6) _ ⟨rfl, rfl, rfl, rfl, trivial⟩ ⟨rfl, rfl, rfl, trivial⟩ h)
  ·intro N5 hN5
   refine LWP.region (l := [_,_,_,_,_,_,_]) ?_
   refine LWo.move (e_int x3.2) rfl (hn := ?_)
   refine LWo.int _ rfl rfl rfl (hn := ?_)
   refine LWo.move (e_bool (x3.2 == (0 : Int))) rfl (hn := ?_)
   refine LWo.byCases (t := 17) _ rfl (fun h6 => ?_) (fun h6 => ?_)
   ·have h := bT h6 h
    refine LWo.guardNU (t := 17) rfl h6 rfl rfl rfl rfl rfl ?_
    refine LWo.guardNU (t := 17) rfl h6 rfl rfl rfl rfl rfl ?_
    refine LWo.guardNU (t := 17) rfl h6 rfl rfl rfl rfl rfl ?_
    refine LWo.pickTM (e_bool true) rfl h6 rfl (hn := ?_)
    refine LWo.nil (hN5 (a0, x3.1, x3.2, true, (⟨(0 : Int), []⟩ : S_impl_Entry)) _ ⟨rfl, rfl, rfl, rfl, rfl, trivial⟩ ⟨rfl, trivial⟩ h)
   ·have h := bF h6 h
    refine LWo.guardY (t := 17) rfl h6 rfl rfl ?_
    refine LWo.move (e_Luint8 x3.1) rfl (hn := ?_)
    refine LWo.guardY (t := 17) rfl h6 rfl rfl ?_
    refine LWo.lenM (f := e_uint8) (l := x3.1) u_Luint8 rfl (hn := ?_)
    refine LWo.guardY (t := 17) rfl h6 rfl rfl ?_
    refine LWo.int _ rfl rfl rfl (hn := ?_)
    refine LWo.pickFM (e_bool (decide ((x3.1.length : Int) < (2 : Int)))) rfl h6 rfl (hn := ?_)
    refine LWo.nil (hN5 (a0, x3.1, x3.2, decide ((x3.1.length : Int) < (2 : Int)), (⟨(0 : Int), []⟩ : S_impl_Entry)) _ ⟨rfl, rfl, rfl, rfl, rfl, trivial⟩ ⟨rfl, trivial⟩ h)

def m_spec_ValueFrom_j5 (t5 : (List UInt8)) (t99 : Bool) (o2 : S_impl_Value) (o4 : S_impl_Value) : Option (S_impl_Value × Int) :=
  bif t99 then (lt ((⟨(0 : Int), (0 : Int), (⟨#[]⟩ : ByteArray)⟩ : S_impl_Value)) fun y44 =>
    some (y44, (0 : Int)))
  else (lt (o4) fun y46 =>
  some (y46, (t5.length : Int)))
def m_spec_ValueFrom_j4 (t0 : (List UInt8)) (o2 : S_impl_Value) (o4 : S_impl_Value) : Option (S_impl_Value × Int) :=
  (m_spec_ValueBytes o4).bind fun x36 =>
  bif ((x36.length : Int) == (0 : Int)) then (m_spec_ValueFrom_j5  x36 true o2 o4)
  else (bif decide ((x36.length : Int) > (t0.length : Int)) then (m_spec_ValueFrom_j5  x36 true o2 o4)
    else ((cut? t0 (0 : Int) (x36.length : Int)).bind fun x41 =>
      m_spec_ValueFrom_j5  x36 (!(sEq (bStr x36) (bStr x41))) o2 o4))
def m_spec_ValueFrom_j3 (t0 : (List UInt8)) (t64 : Bool) (o2 : S_impl_Value) (o4 : S_impl_Value) : Option (S_impl_Value × Int) :=
  bif t64 then ((at? t0 (1 : Int)).bind fun x33 =>
    lt ({ o4 with N := (x33.toNat : Int) }) fun y34 =>
    m_spec_ValueFrom_j4  t0 o2 y34)
  else (m_spec_ValueFrom_j4  t0 o2 o4)
def m_spec_ValueFrom_j2 (t0 : (List UInt8)) (t36 : Bool) (o2 : S_impl_Value) (o4 : S_impl_Value) : Option (S_impl_Value × Int) :=
  bif t36 then ((at? t0 (1 : Int)).bind fun x26 =>
    (ckI ((2 : Int) + (x26.toNat : Int))).bind fun x27 =>
    (cut? t0 (2 : Int) x27).bind fun x28 =>
    lt ({ o4 with S := (bStr x28) }) fun y29 =>
    m_spec_ValueFrom_j4  t0 o2 y29)
  else (bif (o4.Kind == (3 : Int)) then (m_spec_ValueFrom_j3  t0 (decide ((t0.length : Int) > (1 : Int))) o2 o4)
    else (m_spec_ValueFrom_j3  t0 false o2 o4))
def m_spec_ValueFrom_j1 (t0 : (List UInt8)) (t15 : Bool) (o2 : S_impl_Value) (o4 : S_impl_Value) : Option (S_impl_Value × Int) :=
  bif t15 then ((at? t0 (1 : Int)).bind fun x14 =>
    (ckI ((256 : Int) * (x14.toNat : Int))).bind fun x15 =>
    (at? t0 (2 : Int)).bind fun x16 =>
    (ckI (x15 + (x16.toNat : Int))).bind fun x17 =>
    (ckI (x17 - (10000 : Int))).bind fun x18 =>
    lt ({ o4 with N := x18 }) fun y19 =>
    m_spec_ValueFrom_j4  t0 o2 y19)
  else (bif (o4.Kind == (2 : Int)) then (bif decide ((t0.length : Int) > (1 : Int)) then ((at? t0 (1 : Int)).bind fun x23 =>
        (ckI ((2 : Int) + (x23.toNat : Int))).bind fun x24 =>
        m_spec_ValueFrom_j2  t0 (decide ((t0.length : Int) ≥ x24)) o2 o4)
      else (m_spec_ValueFrom_j2  t0 false o2 o4))
    else (m_spec_ValueFrom_j2  t0 false o2 o4))
def m_spec_ValueFrom (a0 : (List UInt8)) : Option (S_impl_Value × Int) :=
  bif ((a0.length : Int) == (0 : Int)) then (lt ((⟨(0 : Int), (0 : Int), (⟨#[]⟩ : ByteArray)⟩ : S_impl_Value)) fun y6 =>
    some (y6, (0 : Int)))
  else ((at? a0 (0 : Int)).bind fun x8 =>
  lt ((⟨(x8.toNat : Int), (0 : Int), (⟨#[]⟩ : ByteArray)⟩ : S_impl_Value)) fun y9 =>
  bif (y9.Kind == (1 : Int)) then (m_spec_ValueFrom_j1  a0 (decide ((a0.length : Int) > (2 : Int))) (⟨(0 : Int), (0 : Int), (⟨#[]⟩ : ByteArray)⟩ : S_impl_Value) y9)
  else (m_spec_ValueFrom_j1  a0 false (⟨(0 : Int), (0 : Int), (⟨#[]⟩ : ByteArray)⟩ : S_impl_Value) y9))
theorem c_spec_ValueFrom (a0 : (List UInt8)) (r : (S_impl_Value × Int)) (h : m_spec_ValueFrom a0 = some r) : Ret Try.prog f_spec_ValueFrom [e_Luint8 a0] (.tup [e_impl_Value r.1, e_int r.2]) := by
  refine Does.goG [] F_spec_ValueFrom rfl e_spec_ValueFrom n_spec_ValueFrom rfl (rvs := [.cell 2 t_impl_Value, .tmp 3]) rfl rfl ?_
  intro w0 ok0 lent ρ0
  refine LWP.seq_k fun N1 hN1 => ?_
  refine LWP.region (l := [_,_]) ?_
  refine LWo.alloc_impl_Value 2 rfl (hn := ?_)
  refine LWo.assign (e_int (0 : Int)) rfl (hn := ?_)
  refine LWo.nil (hN1 _ ?_)
  refine LWP.seq_k fun N2 hN2 => ?_
  refine LWP.seq_k fun N3 hN3 => ?_
  refine LWP.region (l := [_,_,_]) ?_
  refine LWo.move (e_Luint8 a0) rfl (hn := ?_)
  refine LWo.lenM (f := e_uint8) (l := a0) u_Luint8 rfl (hn := ?_)
  refine LWo.int _ rfl rfl rfl (hn := ?_)
  refine LWo.nil (hN3 _ ?_)
  refine LWP.cond_split rfl (fun h4 => ?_) (fun h4 => ?_)
  ·have h := bT h4 h
   refine LWP.seq_k fun N5 hN5 => ?_
   refine LWP.region (l := [_,_,_]) ?_
   refine LWo.build_impl_Value (parts := []) (⟨(0 : Int), (0 : Int), (⟨#[]⟩ : ByteArray)⟩ : S_impl_Value) rfl rfl rfl .refl (hn := ?_)
   refine lk h fun y6 e6 h => ?_
   refine LWo.storeW (y := (⟨(0 : Int), (0 : Int), (⟨#[]⟩ : ByteArray)⟩ : S_impl_Value)) y6 s_impl_Value rfl rfl rfl rfl rfl rfl (by rw [e6]; exact .refl) rfl (hn := ?_)
   refine LWo.assign (e_int (0 : Int)) rfl (hn := ?_)
   refine LWo.nil (hN5 _ ?_)
   obtain rfl := Option.some.inj h
   refine LWP.ret (QG.mk (.inr rfl) (.cons (.cellN (ys := (e_impl_Value y6).cells) g_impl_Value s_impl_Value rfl rfl rfl rfl rfl (fun _ _ => rfl)) (.cons (.tmp (x := (e_int (0 : Int))) rfl) (.nil))) (RetOK.many0 (.cons (.pure rfl) (.cons (.pure rfl) (.nil))) (by simp) (by decide)) rfl rfl)
  ·have h := bF h4 h
   refine LWP.skip (hN2 _ ?_)
   refine LWP.seq_k fun N7 hN7 => ?_
   refine LWP.region (l := [_,_,_,_,_,_,_]) ?_
   refine LWo.move (e_Luint8 a0) rfl (hn := ?_)
   refine bk h fun x8 e8 h => ?_
   refine LWo.indexM (f := e_uint8) e8 u_Luint8 s_uint8 rfl rfl (hn := ?_)
   refine LWo.load1 (c := (e_uint8 x8)) g_uint8 rfl (hn := ?_)
   refine LWo.convByte _ u_uint8 u_int rfl (hn := ?_)
   refine LWo.build_impl_Value (parts := [_]) (⟨(x8.toNat : Int), (0 : Int), (⟨#[]⟩ : ByteArray)⟩ : S_impl_Value) rfl rfl rfl .refl (hn := ?_)
   refine LWo.alloc_impl_Value 4 rfl (hn := ?_)
   refine lk h fun y9 e9 h => ?_
   refine LWo.storeW (y := (⟨(0 : Int), (0 : Int), (⟨#[]⟩ : ByteArray)⟩ : S_impl_Value)) y9 s_impl_Value rfl rfl rfl rfl rfl rfl (by rw [e9]; exact .refl) rfl (hn := ?_)
   refine LWo.nil (hN7 _ ?_)
   refine LWP.join (α := (List UInt8) × S_impl_Value × S_impl_Value) (fun z : (List UInt8) × S_impl_Value × S_impl_Value => [(0, (e_Luint8 z.1)), (2, (.ptr 2 0 0)), (4, (.ptr 4 0 0))]) (fun z : (List UInt8) × S_impl_Value × S_impl_Value => [(2, (vob 3 e_impl_Value z.2.1)), (4, (vob 3 e_impl_Value z.2.2))]) (fun z : (List UInt8) × S_impl_Value × S_impl_Value => m_spec_ValueFrom_j4  z.1 z.2.1 z.2.2) r (fun _ => by simp [hkeys]) ?_ ?_
   ·rintro ⟨t0, o2, o4⟩ h
    replace h : m_spec_ValueFrom_j4  t0 o2 o4 = some _ := h
    refine LWP.seq_k fun N35 hN35 => ?_
    refine LWP.region (l := [_,_,_]) ?_
    refine LWo.loadVN ((e_impl_Value o4)).cells  g_impl_Value s_impl_Value rfl rfl rfl rfl (hn := ?_)
    refine bk h fun x36 e36 h => ?_
    refine LWo.vcall rfl rfl (c_spec_ValueBytes _ _ e36) (.same (.nil)) (hn := ?_)
    refine LWo.assign (e_Luint8 x36) rfl (hn := ?_)
    refine LWo.nil (hN35 _ ?_)
    refine LWP.seq_k fun N37 hN37 => ?_
    refine LWP.join (α := (List UInt8) × Bool × S_impl_Value × S_impl_Value) (fun z : (List UInt8) × Bool × S_impl_Value × S_impl_Value => [(2, (.ptr 2 0 0)), (4, (.ptr 4 0 0)), (5, (e_Luint8 z.1)), (99, (e_bool z.2.1))]) (fun z : (List UInt8) × Bool × S_impl_Value × S_impl_Value => [(2, (vob 3 e_impl_Value z.2.2.1)), (4, (vob 3 e_impl_Value z.2.2.2))]) (fun z : (List UInt8) × Bool × S_impl_Value × S_impl_Value => m_spec_ValueFrom_j5  z.1 z.2.1 z.2.2.1 z.2.2.2) r (fun _ => by simp [hkeys]) ?_ ?_
    ·rintro ⟨t5, t99, o2, o4⟩ h
     replace h : m_spec_ValueFrom_j5  t5 t99 o2 o4 = some _ := h
     refine LWP.cond_split rfl (fun h42 => ?_) (fun h42 => ?_)
     ·have h := bT h42 h
      refine LWP.seq_k fun N43 hN43 => ?_
      refine LWP.region (l := [_,_,_]) ?_
      refine LWo.build_impl_Value (parts := []) (⟨(0 : Int), (0 : Int), (⟨#[]⟩ : ByteArray)⟩ : S_impl_Value) rfl rfl rfl .refl (hn := ?_)
      refine lk h fun y44 e44 h => ?_
      refine LWo.storeW (y := o2) y44 s_impl_Value rfl rfl rfl rfl rfl rfl (by rw [e44]; exact .refl) rfl (hn := ?_)
      refine LWo.assign (e_int (0 : Int)) rfl (hn := ?_)
      refine LWo.nil (hN43 _ ?_)
      obtain rfl := Option.some.inj h
      refine LWP.ret (QG.mk (.inr rfl) (.cons (.cellN (ys := (e_impl_Value y44).cells) g_impl_Value s_impl_Value rfl rfl rfl rfl rfl (fun _ _ => rfl)) (.cons (.tmp (x := (e_int (0 : Int))) rfl) (.nil))) (RetOK.many0 (.cons (.pure rfl) (.cons (.pure rfl) (.nil))) (by simp) (by decide)) rfl rfl)
     ·have h := bF h42 h
      refine LWP.skip (hN37 _ ?_)
      refine LWP.seq_k fun N45 hN45 => ?_
      refine LWP.region (l := [_,_,_,_,_]) ?_
      refine LWo.loadVN ((e_impl_Value o4)).cells  g_impl_Value s_impl_Value rfl rfl rfl rfl (hn := ?_)
      refine LWo.move (e_Luint8 t5) rfl (hn := ?_)
      refine LWo.lenM (f := e_uint8) (l := t5) u_Luint8 rfl (hn := ?_)
      refine lk h fun y46 e46 h => ?_
      refine LWo.storeW (y := o2) y46 s_impl_Value rfl rfl rfl rfl rfl rfl (by rw [e46]; exact .refl) rfl (hn := ?_)
      refine LWo.assign (e_int (t5.length : Int)) rfl (hn := ?_)
      refine LWo.nil (hN45 _ ?_)
      obtain rfl := Option.some.inj h
      refine LWP.ret (QG.mk (.inr rfl) (.cons (.cellN (ys := (e_impl_Value y46).cells) g_impl_Value s_impl_Value rfl rfl rfl rfl rfl (fun _ _ => rfl)) (.cons (.tmp (x := (e_int (t5.length : Int))) rfl) (.nil))) (RetOK.many0 (.cons (.pure rfl) (.cons (.pure rfl) (.nil))) (by simp) (by decide)) rfl rfl)
    ·intro N38 hN38
     refine bS (((x36.length : Int) == (0 : Int))) (fun h39 => ?_) (fun h39 => ?_)
     ·have h := bT h39 h
      refine LWP.drawF (l := [_,_,_,_,_,_,_,_,_,_,_,_,_,_,_,_,_,_,_,_]) [] [0, 2, 4, 5] [([5], []), ([80], []), ([81], []), ([82], []), ([5, 83], []), ([83, 84], []), ([0, 83], []), ([83, 86], []), ([83, 85, 87], []), ([83, 88], []), ([89], []), ([5, 90], []), ([90, 91], []), ([0, 90], []), ([5, 90], []), ([90, 94], []), ([90, 93, 95], []), ([90, 96], []), ([90, 92, 97], []), ([90, 98], [])] [2, 4, 5, 99] [2, 4] mixed (by kernel_rfl) rfl (by decide) ?_
      refine dq 80 rfl (fun _ g u h => LWo.move (e_Luint8 x36) u.1 (hn := .nil (zn g))) ?_
      refine dq 81 rfl (fun _ g u h => LWo.lenM (f := e_uint8) (l := x36) u_Luint8 u.1 (hn := .nil (zn g))) ?_
      refine dq 82 rfl (fun _ g u h => LWo.int _ u.1 rfl rfl (hn := .nil (zn g))) ?_
      refine dq 83 rfl (fun _ g u h => LWo.move (e_bool ((x36.length : Int) == (0 : Int))) u.1 (hn := .nil (zn g))) ?_
      refine dq 84 rfl (fun _ g u h => LWo.guardNU (t := 83) u.2.1 h39 rfl rfl rfl rfl rfl (.nil (zn g))) ?_
      refine dq 85 rfl (fun _ g u h => LWo.guardNU (t := 83) u.1 h39 rfl rfl rfl rfl rfl (.nil (zn g))) ?_
      refine dq 86 rfl (fun _ g u h => LWo.guardNU (t := 83) u.2.1 h39 rfl rfl rfl rfl rfl (.nil (zn g))) ?_
      refine dq 87 rfl (fun _ g u h => LWo.guardNU (t := 83) u.1 h39 rfl rfl rfl rfl rfl (.nil (zn g))) ?_
      refine dq 88 rfl (fun _ g u h => LWo.guardNU (t := 83) u.1 h39 rfl rfl rfl rfl rfl (.nil (zn g))) ?_
      refine dq 89 rfl (fun _ g u h => LWo.pickTM (e_bool true) u.1 h39 rfl (hn := .nil (zn g))) ?_
      refine dq 90 rfl (fun _ g u h => LWo.move (e_bool true) u.1 (hn := .nil (zn g))) ?_
      refine dq 91 rfl (fun _ g u h => LWo.guardNU (t := 90) u.2.1 rfl rfl rfl rfl rfl rfl (.nil (zn g))) ?_
      refine dq 92 rfl (fun _ g u h => LWo.guardNU (t := 90) u.1 rfl rfl rfl rfl rfl rfl (.nil (zn g))) ?_
      refine dq 93 rfl (fun _ g u h => LWo.guardNU (t := 90) u.2.1 rfl rfl rfl rfl rfl rfl (.nil (zn g))) ?_
      refine dq 94 rfl (fun _ g u h => LWo.guardNU (t := 90) u.2.1 rfl rfl rfl rfl rfl rfl (.nil (zn g))) ?_
      refine dq 95 rfl (fun _ g u h => LWo.guardNU (t := 90) u.1 rfl rfl rfl rfl rfl rfl (.nil (zn g))) ?_
      refine dq 96 rfl (fun _ g u h => LWo.guardNU (t := 90) u.1 rfl rfl rfl rfl rfl rfl (.nil (zn g))) ?_
      refine dq 97 rfl (fun _ g u h => LWo.guardNU (t := 90) u.1 rfl rfl rfl rfl rfl rfl (.nil (zn g))) ?_
      refine dq 98 rfl (fun _ g u h => LWo.guardNU (t := 90) u.1 rfl rfl rfl rfl rfl rfl (.nil (zn g))) ?_
      refine dq 99 rfl (fun _ g u h => LWo.pickTM (e_bool true) u.1 rfl rfl (hn := .nil (zn g))) ?_
      refine ⟨rfl, by kernel_rfl, hN38 (x36, true, o2, o4) _ ⟨rfl, rfl, rfl, rfl, trivial⟩ ⟨rfl, rfl, trivial⟩ h⟩
     ·have h := bF h39 h
      refine bS (decide ((x36.length : Int) > (t0.length : Int))) (fun h40 => ?_) (fun h40 => ?_)
      ·have h := bT h40 h
       refine LWP.drawF (l := [_,_,_,_,_,_,_,_,_,_,_,_,_,_,_,_,_,_,_,_]) [] [0, 2, 4, 5] [([5], []), ([80], []), ([81], []), ([82], []), ([5, 83], []), ([83, 84], []), ([0, 83], []), ([83, 86], []), ([83, 85, 87], []), ([83, 88], []), ([89], []), ([5, 90], []), ([90, 91], []), ([0, 90], []), ([5, 90], []), ([90, 94], []), ([90, 93, 95], []), ([90, 96], []), ([90, 92, 97], []), ([90, 98], [])] [2, 4, 5, 99] [2, 4] mixed (by kernel_rfl) rfl (by decide) ?_
       refine dq 80 rfl (fun _ g u h => LWo.move (e_Luint8 x36) u.1 (hn := .nil (zn g))) ?_
       refine dq 81 rfl (fun _ g u h => LWo.lenM (f := e_uint8) (l := x36) u_Luint8 u.1 (hn := .nil (zn g))) ?_
       refine dq 82 rfl (fun _ g u h => LWo.int _ u.1 rfl rfl (hn := .nil (zn g))) ?_
       refine dq 83 rfl (fun _ g u h => LWo.move (e_bool ((x36.length : Int) == (0 : Int))) u.1 (hn := .nil (zn g))) ?_
       refine dq 84 rfl (fun _ g u h => LWo.guardY (t := 83) u.2.1 h39 rfl rfl (LWo.move (e_Luint8 x36) u.1 (hn := .nil (zn g)))) ?_
       refine dq 85 rfl (fun _ g u h => LWo.guardY (t := 83) u.1 h39 rfl rfl (LWo.lenM (f := e_uint8) (l := x36) u_Luint8 u.2.1 (hn := .nil (zn g)))) ?_
       refine dq 86 rfl (fun _ g u h => LWo.guardY (t := 83) u.2.1 h39 rfl rfl (LWo.move (e_Luint8 t0) u.1 (hn := .nil (zn g)))) ?_
       refine dq 87 rfl (fun _ g u h => LWo.guardY (t := 83) u.1 h39 rfl rfl (LWo.lenM (f := e_uint8) (l := t0) u_Luint8 u.2.1 (hn := .nil (zn g)))) ?_
       refine dq 88 rfl (fun _ g u h => LWo.guardY (t := 83) u.1 h39 rfl rfl (LWo.int _ u.2.1 u.2.2.1 rfl (hn := .nil (zn g)))) ?_
       refine dq 89 rfl (fun _ g u h => LWo.pickFM (e_bool (decide ((x36.length : Int) > (t0.length : Int)))) u.1 h39 u.2.1 (hn := .nil (zn g))) ?_
       refine dq 90 rfl (fun _ g u h => LWo.move (e_bool (decide ((x36.length : Int) > (t0.length : Int)))) u.1 (hn := .nil (zn g))) ?_
       refine dq 91 rfl (fun _ g u h => LWo.guardNU (t := 90) u.2.1 h40 rfl rfl rfl rfl rfl (.nil (zn g))) ?_
       refine dq 92 rfl (fun _ g u h => LWo.guardNU (t := 90) u.1 h40 rfl rfl rfl rfl rfl (.nil (zn g))) ?_
       refine dq 93 rfl (fun _ g u h => LWo.guardNU (t := 90) u.2.1 h40 rfl rfl rfl rfl rfl (.nil (zn g))) ?_
       refine dq 94 rfl (fun _ g u h => LWo.guardNU (t := 90) u.2.1 h40 rfl rfl rfl rfl rfl (.nil (zn g))) ?_
       refine dq 95 rfl (fun _ g u h => LWo.guardNU (t := 90) u.1 h40 rfl rfl rfl rfl rfl (.nil (zn g))) ?_
       refine dq 96 rfl (fun _ g u h => LWo.guardNU (t := 90) u.1 h40 rfl rfl rfl rfl rfl (.nil (zn g))) ?_
       refine dq 97 rfl (fun _ g u h => LWo.guardNU (t := 90) u.1 h40 rfl rfl rfl rfl rfl (.nil (zn g))) ?_
       refine dq 98 rfl (fun _ g u h => LWo.guardNU (t := 90) u.1 h40 rfl rfl rfl rfl rfl (.nil (zn g))) ?_
       refine dq 99 rfl (fun _ g u h => LWo.pickTM (e_bool true) u.1 h40 rfl (hn := .nil (zn g))) ?_
       refine ⟨rfl, by kernel_rfl, hN38 (x36, true, o2, o4) _ ⟨rfl, rfl, rfl, rfl, trivial⟩ ⟨rfl, rfl, trivial⟩ h⟩
      ·have h := bF h40 h
       refine bk h fun x41 e41 h => ?_
       refine LWP.drawF (l := [_,_,_,_,_,_,_,_,_,_,_,_,_,_,_,_,_,_,_,_]) [] [0, 2, 4, 5] [([5], []), ([80], []), ([81], []), ([82], []), ([5, 83], []), ([83, 84], []), ([0, 83], []), ([83, 86], []), ([83, 85, 87], []), ([83, 88], []), ([89], []), ([5, 90], []), ([90, 91], []), ([0, 90], []), ([5, 90], []), ([90, 94], []), ([90, 93, 95], []), ([90, 96], []), ([90, 92, 97], []), ([90, 98], [])] [2, 4, 5, 99] [2, 4] mixed (by kernel_rfl) rfl (by decide) ?_
       refine dq 80 rfl (fun _ g u h => LWo.move (e_Luint8 x36) u.1 (hn := .nil (zn g))) ?_
       refine dq 81 rfl (fun _ g u h => LWo.lenM (f := e_uint8) (l := x36) u_Luint8 u.1 (hn := .nil (zn g))) ?_
       refine dq 82 rfl (fun _ g u h => LWo.int _ u.1 rfl rfl (hn := .nil (zn g))) ?_
       refine dq 83 rfl (fun _ g u h => LWo.move (e_bool ((x36.length : Int) == (0 : Int))) u.1 (hn := .nil (zn g))) ?_
       refine dq 84 rfl (fun _ g u h => LWo.guardY (t := 83) u.2.1 h39 rfl rfl (LWo.move (e_Luint8 x36) u.1 (hn := .nil (zn g)))) ?_
       refine dq 85 rfl (fun _ g u h => LWo.guardY (t := 83) u.1 h39 rfl rfl (LWo.lenM (f := e_uint8) (l := x36) u_Luint8 u.2.1 (hn := .nil (zn g)))) ?_
       refine dq 86 rfl (fun _ g u h => LWo.guardY (t := 83) u.2.1 h39 rfl rfl (LWo.move (e_Luint8 t0) u.1 (hn := .nil (zn g)))) ?_
       refine dq 87 rfl (fun _ g u h => LWo.guardY (t := 83) u.1 h39 rfl rfl (LWo.lenM (f := e_uint8) (l := t0) u_Luint8 u.2.1 (hn := .nil (zn g)))) ?_
       refine dq 88 rfl (fun _ g u h => LWo.guardY (t := 83) u.1 h39 rfl rfl (LWo.int _ u.2.1 u.2.2.1 rfl (hn := .nil (zn g)))) ?_
       refine dq 89 rfl (fun _ g u h => LWo.pickFM (e_bool (decide ((x36.length : Int) > (t0.length : Int)))) u.1 h39 u.2.1 (hn := .nil (zn g))) ?_
       refine dq 90 rfl (fun _ g u h => LWo.move (e_bool (decide ((x36.length : Int) > (t0.length : Int)))) u.1 (hn := .nil (zn g))) ?_
       refine dq 91 rfl (fun _ g u h => LWo.guardY (t := 90) u.2.1 h40 rfl rfl (LWo.move (e_Luint8 x36) u.1 (hn := .nil (zn g)))) ?_
       refine dq 92 rfl (fun _ g u h => LWo.guardY (t := 90) u.1 h40 rfl rfl (LWo.strM (l := x36) u_Luint8 u_string u_uint8 u.2.1 (hn := .nil (zn g)))) ?_
       refine dq 93 rfl (fun _ g u h => LWo.guardY (t := 90) u.2.1 h40 rfl rfl (LWo.move (e_Luint8 t0) u.1 (hn := .nil (zn g)))) ?_
       refine dq 94 rfl (fun _ g u h => LWo.guardY (t := 90) u.2.1 h40 rfl rfl (LWo.move (e_Luint8 x36) u.1 (hn := .nil (zn g)))) ?_
       refine dq 95 rfl (fun _ g u h => LWo.guardY (t := 90) u.1 h40 rfl rfl (LWo.lenM (f := e_uint8) (l := x36) u_Luint8 u.2.1 (hn := .nil (zn g)))) ?_
       refine dq 96 rfl (fun _ g u h => LWo.guardY (t := 90) u.1 h40 rfl rfl (LWo.cutM (f := e_uint8) e41 u_Luint8 s_uint8 u.2.1 rfl ⟨_, u.2.2.1⟩ (hn := .nil (zn g)))) ?_
       refine dq 97 rfl (fun _ g u h => LWo.guardY (t := 90) u.1 h40 rfl rfl (LWo.strM (l := x41) u_Luint8 u_string u_uint8 u.2.1 (hn := .nil (zn g)))) ?_
       refine dq 98 rfl (fun _ g u h => LWo.guardY (t := 90) u.1 h40 rfl rfl (LWo.str _ u.2.1 u.2.2.1 rfl (hn := .nil (zn g)))) ?_
       refine dq 99 rfl (fun _ g u h => LWo.pickFM (e_bool (!(sEq (bStr x36) (bStr x41)))) u.1 h40 u.2.1 (hn := .nil (zn g))) ?_
       refine ⟨rfl, by kernel_rfl, hN38 (x36, (!(sEq (bStr x36) (bStr x41))), o2, o4) _ ⟨rfl, rfl, rfl, rfl, trivial⟩ ⟨rfl, rfl, trivial⟩ h⟩
   ·intro N10 hN10
    refine LWP.block ?_
    refine LWP.join (α := (List UInt8) × Bool × S_impl_Value × S_impl_Value) (fun z : (List UInt8) × Bool × S_impl_Value × S_impl_Value => [(0, (e_Luint8 z.1)), (2, (.ptr 2 0 0)), (4, (.ptr 4 0 0)), (15, (e_bool z.2.1))]) (fun z : (List UInt8) × Bool × S_impl_Value × S_impl_Value => [(2, (vob 3 e_impl_Value z.2.2.1)), (4, (vob 3 e_impl_Value z.2.2.2))]) (fun z : (List UInt8) × Bool × S_impl_Value × S_impl_Value => m_spec_ValueFrom_j1  z.1 z.2.1 z.2.2.1 z.2.2.2) r (fun _ => by simp [hkeys]) ?_ ?_
    ·rintro ⟨t0, t15, o2, o4⟩ h
     replace h : m_spec_ValueFrom_j1  t0 t15 o2 o4 = some _ := h
     refine LWP.cond_split rfl (fun h13 => ?_) (fun h13 => ?_)
     ·have h := bT h13 h
      refine bk h fun x14 e14 h => ?_
      refine bk h fun x15 e15 h => ?_
      refine bk h fun x16 e16 h => ?_
      refine bk h fun x17 e17 h => ?_
      refine bk h fun x18 e18 h => ?_
      refine lk h fun y19 e19 h => ?_
      refine LWP.drawF (l := [_,_,_,_,_,_,_,_,_,_,_,_,_]) [] [0, 2, 4] [([0], []), ([24], []), ([25], []), ([26], []), ([27], []), ([0], []), ([29], []), ([30], []), ([31], []), ([28, 32], []), ([33], []), ([4], []), ([34, 35], [4])] [0, 2, 4] [2, 4] mixed (by kernel_rfl) rfl (by decide) ?_
      refine dq 24 rfl (fun _ g u h => LWo.move (e_Luint8 t0) u.1 (hn := .nil (zn g))) ?_
      refine dq 25 rfl (fun _ g u h => LWo.indexM (f := e_uint8) e14 u_Luint8 s_uint8 u.1 rfl (hn := .nil (zn g))) ?_
      refine dq 26 rfl (fun _ g u h => LWo.load1 (c := (e_uint8 x14)) g_uint8 u.1 (hn := .nil (zn g))) ?_
      refine dq 27 rfl (fun _ g u h => LWo.convByte _ u_uint8 u_int u.1 (hn := .nil (zn g))) ?_
      refine dq 28 rfl (fun _ g u h => LWo.int _ rfl u.1 (mul_ck e15) (hn := .nil (zn g))) ?_
      refine dq 29 rfl (fun _ g u h => LWo.move (e_Luint8 t0) u.1 (hn := .nil (zn g))) ?_
      refine dq 30 rfl (fun _ g u h => LWo.indexM (f := e_uint8) e16 u_Luint8 s_uint8 u.1 rfl (hn := .nil (zn g))) ?_
      refine dq 31 rfl (fun _ g u h => LWo.load1 (c := (e_uint8 x16)) g_uint8 u.1 (hn := .nil (zn g))) ?_
      refine dq 32 rfl (fun _ g u h => LWo.convByte _ u_uint8 u_int u.1 (hn := .nil (zn g))) ?_
      refine dq 33 rfl (fun _ g u h => LWo.int _ u.1 u.2.1 (add_ck e17) (hn := .nil (zn g))) ?_
      refine dq 34 rfl (fun _ g u h => LWo.int _ u.1 rfl (sub_ck e18) (hn := .nil (zn g))) ?_
      refine dq 35 rfl (fun _ g u h => LWo.fieldPtr u_impl_Value rfl s_int u.1 rfl (hn := .nil (zn g))) ?_
      refine ⟨rfl, .upd none .junk 4 _, (fun _ h => by cases h), fun _ g u h => LWo.storeW (y := o4) y19 s_int u.2.1 u.1 rfl rfl h.1 rfl (by rw [e19]; exact .refl) rfl (hn := LWo.nil ⟨rfl, .inl rfl, Ef.good_ok (e := .upd none .junk 4 _) (fun _ h => by cases h) g⟩), ?_⟩
      refine ⟨rfl, by kernel_rfl, hN10 (t0, o2, y19) _ ⟨rfl, rfl, rfl, trivial⟩ ⟨rfl, rfl, trivial⟩ h⟩
     ·have h := bF h13 h
      refine LWP.join (α := (List UInt8) × Bool × S_impl_Value × S_impl_Value) (fun z : (List UInt8) × Bool × S_impl_Value × S_impl_Value => [(0, (e_Luint8 z.1)), (2, (.ptr 2 0 0)), (4, (.ptr 4 0 0)), (36, (e_bool z.2.1))]) (fun z : (List UInt8) × Bool × S_impl_Value × S_impl_Value => [(2, (vob 3 e_impl_Value z.2.2.1)), (4, (vob 3 e_impl_Value z.2.2.2))]) (fun z : (List UInt8) × Bool × S_impl_Value × S_impl_Value => m_spec_ValueFrom_j2  z.1 z.2.1 z.2.2.1 z.2.2.2) r (fun _ => by simp [hkeys]) ?_ ?_
      ·rintro ⟨t0, t36, o2, o4⟩ h
       replace h : m_spec_ValueFrom_j2  t0 t36 o2 o4 = some _ := h
       refine LWP.cond_split rfl (fun h25 => ?_) (fun h25 => ?_)
       ·have h := bT h25 h
        refine LWP.region (l := [_,_,_,_,_,_,_,_,_,_]) ?_
        refine LWo.move (e_Luint8 t0) rfl (hn := ?_)
        refine LWo.move (e_Luint8 t0) rfl (hn := ?_)
        refine bk h fun x26 e26 h => ?_
        refine LWo.indexM (f := e_uint8) e26 u_Luint8 s_uint8 rfl rfl (hn := ?_)
        refine LWo.load1 (c := (e_uint8 x26)) g_uint8 rfl (hn := ?_)
        refine LWo.convByte _ u_uint8 u_int rfl (hn := ?_)
        refine bk h fun x27 e27 h => ?_
        refine LWo.int _ rfl rfl (add_ck e27) (hn := ?_)
        refine bk h fun x28 e28 h => ?_
        refine LWo.cutM (f := e_uint8) e28 u_Luint8 s_uint8 rfl ⟨_, rfl⟩ ⟨_, rfl⟩ (hn := ?_)
        refine LWo.strM (l := x28) u_Luint8 u_string u_uint8 rfl (hn := ?_)
        refine LWo.fieldPtr u_impl_Value rfl s_string rfl rfl (hn := ?_)
        refine lk h fun y29 e29 h => ?_
        refine LWo.storeW (y := o4) y29 s_string rfl rfl rfl rfl rfl rfl (by rw [e29]; exact .refl) rfl (hn := ?_)
        refine LWo.nil (hN10 (t0, o2, y29) _ ⟨rfl, rfl, rfl, trivial⟩ ⟨rfl, rfl, trivial⟩ h)
       ·have h := bF h25 h
        refine LWP.join (α := (List UInt8) × Bool × S_impl_Value × S_impl_Value) (fun z : (List UInt8) × Bool × S_impl_Value × S_impl_Value => [(0, (e_Luint8 z.1)), (2, (.ptr 2 0 0)), (4, (.ptr 4 0 0)), (64, (e_bool z.2.1))]) (fun z : (List UInt8) × Bool × S_impl_Value × S_impl_Value => [(2, (vob 3 e_impl_Value z.2.2.1)), (4, (vob 3 e_impl_Value z.2.2.2))]) (fun z : (List UInt8) × Bool × S_impl_Value × S_impl_Value => m_spec_ValueFrom_j3  z.1 z.2.1 z.2.2.1 z.2.2.2) r (fun _ => by simp [hkeys]) ?_ ?_
        ·rintro ⟨t0, t64, o2, o4⟩ h
         replace h : m_spec_ValueFrom_j3  t0 t64 o2 o4 = some _ := h
         refine LWP.cond_split rfl (fun h32 => ?_) (fun h32 => ?_)
         ·have h := bT h32 h
          refine LWP.region (l := [_,_,_,_,_,_]) ?_
          refine LWo.move (e_Luint8 t0) rfl (hn := ?_)
          refine bk h fun x33 e33 h => ?_
          refine LWo.indexM (f := e_uint8) e33 u_Luint8 s_uint8 rfl rfl (hn := ?_)
          refine LWo.load1 (c := (e_uint8 x33)) g_uint8 rfl (hn := ?_)
          refine LWo.convByte _ u_uint8 u_int rfl (hn := ?_)
          refine LWo.fieldPtr u_impl_Value rfl s_int rfl rfl (hn := ?_)
          refine lk h fun y34 e34 h => ?_
          refine LWo.storeW (y := o4) y34 s_int rfl rfl rfl rfl rfl rfl (by rw [e34]; exact .refl) rfl (hn := ?_)
          refine LWo.nil (hN10 (t0, o2, y34) _ ⟨rfl, rfl, rfl, trivial⟩ ⟨rfl, rfl, trivial⟩ h)
         ·have h := bF h32 h
          refine LWP.skip (hN10 (t0, o2, o4) _ ⟨rfl, rfl, rfl, trivial⟩ ⟨rfl, rfl, trivial⟩ h)
        ·intro N30 hN30
         refine LWP.region (l := [_,_,_,_,_,_,_,_,_]) ?_
         refine LWo.fieldPtr u_impl_Value rfl s_int rfl rfl (hn := ?_)
         refine LWo.loadV1 (e_int o4.Kind)  g_int rfl rfl rfl (hn := ?_)
         refine LWo.int _ rfl rfl rfl (hn := ?_)
         refine LWo.move (e_bool (o4.Kind == (3 : Int))) rfl (hn := ?_)
         refine LWo.byCases (t := 68) _ rfl (fun h31 => ?_) (fun h31 => ?_)
         ·have h := bT h31 h
          refine LWo.guardY (t := 68) rfl h31 rfl rfl ?_
          refine LWo.move (e_Luint8 t0) rfl (hn := ?_)
          refine LWo.guardY (t := 68) rfl h31 rfl rfl ?_
          refine LWo.lenM (f := e_uint8) (l := t0) u_Luint8 rfl (hn := ?_)
          refine LWo.guardY (t := 68) rfl h31 rfl rfl ?_
          refine LWo.int _ rfl rfl rfl (hn := ?_)
          refine LWo.pickTM (e_bool (decide ((t0.length : Int) > (1 : Int)))) rfl h31 rfl (hn := ?_)
          refine LWo.assign (e_bool (decide ((t0.length : Int) > (1 : Int)))) rfl (hn := ?_)
          refine LWo.nil (hN30 (t0, decide ((t0.length : Int) > (1 : Int)), o2, o4) _ ⟨rfl, rfl, rfl, rfl, trivial⟩ ⟨rfl, rfl, trivial⟩ h)
         ·have h := bF h31 h
          refine LWo.guardNU (t := 68) rfl h31 rfl rfl rfl rfl rfl ?_
          refine LWo.guardNU (t := 68) rfl h31 rfl rfl rfl rfl rfl ?_
          refine LWo.guardNU (t := 68) rfl h31 rfl rfl rfl rfl rfl ?_
          refine LWo.pickFM (e_bool false) rfl h31 rfl (hn := ?_)
          refine LWo.assign (e_bool false) rfl (hn := ?_)
          refine LWo.nil (hN30 (t0, false, o2, o4) _ ⟨rfl, rfl, rfl, rfl, trivial⟩ ⟨rfl, rfl, trivial⟩ h)
      ·intro N20 hN20
       refine LWP.region (l := [_,_,_,_,_,_,_,_,_,_,_,_,_,_,_,_,_,_,_]) ?_
       refine LWo.fieldPtr u_impl_Value rfl s_int rfl rfl (hn := ?_)
       refine LWo.loadV1 (e_int o4.Kind)  g_int rfl rfl rfl (hn := ?_)
       refine LWo.int _ rfl rfl rfl (hn := ?_)
       refine LWo.move (e_bool (o4.Kind == (2 : Int))) rfl (hn := ?_)
       refine LWo.byCases (t := 40) _ rfl (fun h21 => ?_) (fun h21 => ?_)
       ·have h := bT h21 h
        refine LWo.guardY (t := 40) rfl h21 rfl rfl ?_
        refine LWo.move (e_Luint8 t0) rfl (hn := ?_)
        refine LWo.guardY (t := 40) rfl h21 rfl rfl ?_
        refine LWo.lenM (f := e_uint8) (l := t0) u_Luint8 rfl (hn := ?_)
        refine LWo.guardY (t := 40) rfl h21 rfl rfl ?_
        refine LWo.int _ rfl rfl rfl (hn := ?_)
        refine LWo.pickTM (e_bool (decide ((t0.length : Int) > (1 : Int)))) rfl h21 rfl (hn := ?_)
        refine LWo.move (e_bool (decide ((t0.length : Int) > (1 : Int)))) rfl (hn := ?_)
        refine LWo.byCases (t := 45) _ rfl (fun h22 => ?_) (fun h22 => ?_)
        ·have h := bT h22 h
         refine LWo.guardY (t := 45) rfl h22 rfl rfl ?_
         refine LWo.move (e_Luint8 t0) rfl (hn := ?_)
         refine LWo.guardY (t := 45) rfl h22 rfl rfl ?_
         refine LWo.lenM (f := e_uint8) (l := t0) u_Luint8 rfl (hn := ?_)
         refine LWo.guardY (t := 45) rfl h22 rfl rfl ?_
         refine LWo.move (e_Luint8 t0) rfl (hn := ?_)
         refine bk h fun x23 e23 h => ?_
         refine LWo.guardY (t := 45) rfl h22 rfl rfl ?_
         refine LWo.indexM (f := e_uint8) e23 u_Luint8 s_uint8 rfl rfl (hn := ?_)
         refine LWo.guardY (t := 45) rfl h22 rfl rfl ?_
         refine LWo.load1 (c := (e_uint8 x23)) g_uint8 rfl (hn := ?_)
         refine LWo.guardY (t := 45) rfl h22 rfl rfl ?_
         refine LWo.convByte _ u_uint8 u_int rfl (hn := ?_)
         refine bk h fun x24 e24 h => ?_
         refine LWo.guardY (t := 45) rfl h22 rfl rfl ?_
         refine LWo.int _ rfl rfl (add_ck e24) (hn := ?_)
         refine LWo.guardY (t := 45) rfl h22 rfl rfl ?_
         refine LWo.int _ rfl rfl rfl (hn := ?_)
         refine LWo.pickTM (e_bool (decide ((t0.length : Int) ≥ x24))) rfl h22 rfl (hn := ?_)
         refine LWo.assign (e_bool (decide ((t0.length : Int) ≥ x24))) rfl (hn := ?_)
         refine LWo.nil (hN20 (t0, decide ((t0.length : Int) ≥ x24), o2, o4) _ ⟨rfl, rfl, rfl, rfl, trivial⟩ ⟨rfl, rfl, trivial⟩ h)
        ·have h := bF h22 h
         refine LWo.guardNU (t := 45) rfl h22 rfl rfl rfl rfl rfl ?_
         refine LWo.guardNU (t := 45) rfl h22 rfl rfl rfl rfl rfl ?_
         refine LWo.guardNU (t := 45) rfl h22 rfl rfl rfl rfl rfl ?_
         refine LWo.guardNU (t := 45) rfl h22 rfl rfl rfl rfl rfl ?_
         refine LWo.guardNU (t := 45) rfl h22 rfl rfl rfl rfl rfl ?_
         refine LWo.guardNU (t := 45) rfl h22 rfl rfl rfl rfl rfl ?_
         refine LWo.guardNU (t := 45) rfl h22 rfl rfl rfl rfl rfl ?_
         refine LWo.guardNU (t := 45) rfl h22 rfl rfl rfl rfl rfl ?_
         refine LWo.pickFM (e_bool false) rfl h22 rfl (hn := ?_)
         refine LWo.assign (e_bool false) rfl (hn := ?_)
         refine LWo.nil (hN20 (t0, false, o2, o4) _ ⟨rfl, rfl, rfl, rfl, trivial⟩ ⟨rfl, rfl, trivial⟩ h)
       ·have h := bF h21 h
        refine LWo.guardNU (t := 40) rfl h21 rfl rfl rfl rfl rfl ?_
        refine LWo.guardNU (t := 40) rfl h21 rfl rfl rfl rfl rfl ?_
        refine LWo.guardNU (t := 40) rfl h21 rfl rfl rfl rfl rfl ?_
        refine LWo.pickFM (e_bool false) rfl h21 rfl (hn := ?_)
        refine LWo.move (e_bool false) rfl (hn := ?_)
        refine LWo.guardNU (t := 45) rfl rfl rfl rfl rfl rfl rfl ?_
        refine LWo.guardNU (t := 45) rfl rfl rfl rfl rfl rfl rfl ?_
        refine LWo.guardNU (t := 45) rfl rfl rfl rfl rfl rfl rfl ?_
        refine LWo.guardNU (t := 45) rfl rfl rfl rfl rfl rfl rfl ?_
        refine LWo.guardNU (t := 45) rfl rfl rfl rfl rfl rfl rfl ?_
        refine LWo.guardNU (t := 45) rfl rfl rfl rfl rfl rfl rfl ?_
        refine LWo.guardNU (t := 45) rfl rfl rfl rfl rfl rfl rfl ?_
        refine LWo.guardNU (t := 45) rfl rfl rfl rfl rfl rfl rfl ?_
        refine LWo.pickFM (e_bool false) rfl rfl rfl (hn := ?_)
        refine LWo.assign (e_bool false) rfl (hn := ?_)
        refine LWo.nil (hN20 (t0, false, o2, o4) _ ⟨rfl, rfl, rfl, rfl, trivial⟩ ⟨rfl, rfl, trivial⟩ h)
    ·intro N11 hN11
     refine LWP.region (l := [_,_,_,_,_,_,_,_,_]) ?_
     refine LWo.fieldPtr u_impl_Value rfl s_int rfl rfl (hn := ?_)
     refine LWo.loadV1 (e_int y9.Kind)  g_int rfl rfl rfl (hn := ?_)
     refine LWo.int _ rfl rfl rfl (hn := ?_)
     refine LWo.move (e_bool (y9.Kind == (1 : Int))) rfl (hn := ?_)
     refine LWo.byCases (t := 19) _ rfl (fun h12 => ?_) (fun h12 => ?_)
     ·have h := bT h12 h
      refine LWo.guardY (t := 19) rfl h12 rfl rfl ?_
      refine LWo.move (e_Luint8 a0) rfl (hn := ?_)
      refine LWo.guardY (t := 19) rfl h12 rfl rfl ?_
      refine LWo.lenM (f := e_uint8) (l := a0) u_Luint8 rfl (hn := ?_)
      refine LWo.guardY (t := 19) rfl h12 rfl rfl ?_
      refine LWo.int _ rfl rfl rfl (hn := ?_)
      refine LWo.pickTM (e_bool (decide ((a0.length : Int) > (2 : Int)))) rfl h12 rfl (hn := ?_)
      refine LWo.assign (e_bool (decide ((a0.length : Int) > (2 : Int)))) rfl (hn := ?_)
      refine LWo.nil (hN11 (a0, decide ((a0.length : Int) > (2 : Int)), (⟨(0 : Int), (0 : Int), (⟨#[]⟩ : ByteArray)⟩ : S_impl_Value), y9) _ ⟨rfl, rfl, rfl, rfl, trivial⟩ ⟨rfl, rfl, trivial⟩ h)
     ·have h := bF h12 h
      refine LWo.guardNU (t := 19) rfl h12 rfl rfl rfl rfl rfl ?_
      refine LWo.guardNU (t := 19) rfl h12 rfl rfl rfl rfl rfl ?_
      refine LWo.guardNU (t := 19) rfl h12 rfl rfl rfl rfl rfl ?_
      refine LWo.pickFM (e_bool false) rfl h12 rfl (hn := ?_)
      refine LWo.assign (e_bool false) rfl (hn := ?_)
      refine LWo.nil (hN11 (a0, false, (⟨(0 : Int), (0 : Int), (⟨#[]⟩ : ByteArray)⟩ : S_impl_Value), y9) _ ⟨rfl, rfl, rfl, rfl, trivial⟩ ⟨rfl, rfl, trivial⟩ h)
end Go.Proofs.Ytijihchddhikhaa
