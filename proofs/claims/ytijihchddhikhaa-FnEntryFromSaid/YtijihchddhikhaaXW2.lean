/- Mirrors of functions, and that the functions return what the mirrors say. -/
import Derived.Test.YtijihchddhikhaaXW1
set_option linter.unusedVariables false
set_option linter.unusedSimpArgs false
set_option linter.unnecessarySimpa false
namespace Go.Proofs.Ytijihchddhikhaa
open Go.Proofs Go.Lift Go.RowKit
def m_spec_RowOk_j1 (t0 : (List S_impl_Value)) : Option Bool :=
  some (decide ((t0.length : Int) ≤ (4 : Int)))
def m_spec_RowOk_l1 : Nat → (List S_impl_Value) → Int → Option Bool
  | 0, _, _ => none
  | n1 + 1, t0, t3 =>
    bif decide (t3 < (t0.length : Int)) then ((at? t0 t3).bind fun x11 =>
    (m_spec_ValueOk x11).bind fun x12 =>
    bif (!x12) then (some false)
    else ((ckI (t3 + (1 : Int))).bind fun x15 =>
    (m_spec_RowOk_l1  n1) t0 x15))
    else (m_spec_RowOk_j1  t0)
def m_spec_RowOk (a0 : (List S_impl_Value)) : Option Bool :=
  m_spec_RowOk_l1  (((a0.length : Int) - (0 : Int)).toNat + 1) a0 (0 : Int)
theorem c_spec_RowOk (a0 : (List S_impl_Value)) (r : Bool) (h : m_spec_RowOk a0 = some r) : Ret Try.prog f_spec_RowOk [e_Limpl_Value a0] (e_bool r) := by
  refine Does.goG [] F_spec_RowOk rfl e_spec_RowOk n_spec_RowOk rfl (rvs := [.tmp 2]) rfl rfl ?_
  intro w0 ok0 lent ρ0
  refine LWP.seq_k fun N1 hN1 => ?_
  refine LWP.region (l := [_]) ?_
  refine LWo.assign (e_bool false) rfl (hn := ?_)
  refine LWo.nil (hN1 _ ?_)
  refine LWP.join (α := (List S_impl_Value)) (fun z : (List S_impl_Value) => [(0, (e_Limpl_Value z))]) (fun z : (List S_impl_Value) => []) (fun z : (List S_impl_Value) => m_spec_RowOk_j1  z) r (fun _ => by simp [hkeys]) ?_ ?_
  ·rintro t0 h
   replace h : m_spec_RowOk_j1  t0 = some _ := h
   refine LWP.seq_k fun N16 hN16 => ?_
   refine LWP.region (l := [_,_,_,_]) ?_
   refine LWo.move (e_Limpl_Value t0) rfl (hn := ?_)
   refine LWo.lenM (f := e_impl_Value) (l := t0) u_Limpl_Value rfl (hn := ?_)
   refine LWo.int _ rfl rfl rfl (hn := ?_)
   refine LWo.assign (e_bool (decide ((t0.length : Int) ≤ (4 : Int)))) rfl (hn := ?_)
   refine LWo.nil (hN16 _ ?_)
   obtain rfl := Option.some.inj h
   refine LWP.ret (QG.mk (.inr rfl) (.cons (.tmp (x := (e_bool (decide ((t0.length : Int) ≤ (4 : Int))))) rfl) (.nil)) (RetOK.one0 (.pure rfl) (by decide)) rfl rfl)
  ·intro N2 hN2
   refine LWP.seq_k fun N3 hN3 => ?_
   refine LWP.region (l := [_]) ?_
   refine LWo.assign (e_int (0 : Int)) rfl (hn := ?_)
   refine LWo.nil (hN3 _ ?_)
   refine LWP.block ?_
   refine LWP.loopM (α := (List S_impl_Value) × Int) (fun z : (List S_impl_Value) × Int => [(0, (e_Limpl_Value z.1)), (3, (e_int z.2))]) (fun z : (List S_impl_Value) × Int => []) (fun n1 (z : (List S_impl_Value) × Int) => m_spec_RowOk_l1  n1 z.1 z.2) r _ (a0, (0 : Int)) h (fun _ => rfl) (fun _ => by simp [hkeys]) ⟨rfl, rfl, trivial⟩ trivial ?_
   rintro n1 ⟨t0, t3⟩ h N4 hN4
   replace h : m_spec_RowOk_l1  (n1 + 1) t0 t3 = some _ := h
   refine LWP.seq_k fun N6 hN6 => ?_
   refine LWP.seq_k fun N7 hN7 => ?_
   refine LWP.region (l := [_,_,_,_]) ?_
   refine LWo.move (e_int t3) rfl (hn := ?_)
   refine LWo.move (e_Limpl_Value t0) rfl (hn := ?_)
   refine LWo.lenM (f := e_impl_Value) (l := t0) u_Limpl_Value rfl (hn := ?_)
   refine LWo.int _ rfl rfl rfl (hn := ?_)
   refine LWo.nil (hN7 _ ?_)
   refine LWP.cond_split rfl (fun h8 => ?_) (fun h8 => ?_)
   ·have h := bT h8 h
    refine LWP.skip (hN6 _ ?_)
    refine LWP.seq_k fun N9 hN9 => ?_
    refine LWP.block ?_
    refine LWP.seq_k fun N10 hN10 => ?_
    refine LWP.region (l := [_,_,_,_,_,_]) ?_
    refine LWo.move (e_Limpl_Value t0) rfl (hn := ?_)
    refine LWo.move (e_int t3) rfl (hn := ?_)
    refine bk h fun x11 e11 h => ?_
    refine LWo.indexM (f := e_impl_Value) e11 u_Limpl_Value s_impl_Value rfl rfl (hn := ?_)
    refine LWo.loadN ((e_impl_Value x11)).cells g_impl_Value s_impl_Value rfl (Nat.le_of_ble_eq_true rfl) rfl (hn := ?_)
    refine bk h fun x12 e12 h => ?_
    refine LWo.vcall rfl rfl (c_spec_ValueOk _ _ e12) (.same (.nil)) (hn := ?_)
    refine LWo.not rfl (hn := ?_)
    refine LWo.nil (hN10 _ ?_)
    refine LWP.cond_split rfl (fun h13 => ?_) (fun h13 => ?_)
    ·have h := bT h13 h
     refine LWP.seq_k fun N14 hN14 => ?_
     refine LWP.region (l := [_]) ?_
     refine LWo.assign (e_bool false) rfl (hn := ?_)
     refine LWo.nil (hN14 _ ?_)
     obtain rfl := Option.some.inj h
     refine LWP.ret (QG.mk (.inr rfl) (.cons (.tmp (x := (e_bool false)) rfl) (.nil)) (RetOK.one0 (.pure rfl) (by decide)) rfl rfl)
    ·have h := bF h13 h
     refine LWP.skip (hN9 _ ?_)
     refine LWP.region (l := [_,_,_]) ?_
     refine LWo.move (e_int t3) rfl (hn := ?_)
     refine bk h fun x15 e15 h => ?_
     refine LWo.int _ rfl rfl (add_ck e15) (hn := ?_)
     refine LWo.assign (e_int x15) rfl (hn := ?_)
     refine LWo.nil (hN4 (t0, x15) _ ⟨rfl, rfl, trivial⟩ trivial h)
   ·have h := bF h8 h
    refine LWP.exit (hN2 t0 _ ⟨rfl, trivial⟩ trivial h)

def m_spec_WritesOk_j2  : Option Bool :=
  some true
def m_spec_WritesOk_j1 (k1 : (List S_impl_Write) → Int → Option Bool) (t0 : (List S_impl_Write)) (t3 : Int) (t49 : Bool) : Option Bool :=
  bif t49 then (some false)
  else ((ckI (t3 + (1 : Int))).bind fun x28 =>
  k1 t0 x28)
def m_spec_WritesOk_l1 : Nat → (List S_impl_Write) → Int → Option Bool
  | 0, _, _ => none
  | n1 + 1, t0, t3 =>
    bif decide (t3 < (t0.length : Int)) then ((at? t0 t3).bind fun x11 =>
    lt (x11) fun y12 =>
    (m_spec_l1In y12.Key (0 : Int) (4 : Int)).bind fun x14 =>
    bif (!x14) then (m_spec_WritesOk_j1  (m_spec_WritesOk_l1  n1) t0 t3 true)
    else ((m_spec_RowOk y12.Row).bind fun x16 =>
      bif (!x16) then (m_spec_WritesOk_j1  (m_spec_WritesOk_l1  n1) t0 t3 true)
      else (bif y12.Gone then (bif decide ((y12.Row.length : Int) > (0 : Int)) then (m_spec_WritesOk_j1  (m_spec_WritesOk_l1  n1) t0 t3 true)
          else (bif decide (t3 > (0 : Int)) then ((ckI (t3 - (1 : Int))).bind fun x21 =>
              (at? t0 x21).bind fun x22 =>
              m_spec_WritesOk_j1  (m_spec_WritesOk_l1  n1) t0 t3 (decide (x22.Key ≥ y12.Key)))
            else (m_spec_WritesOk_j1  (m_spec_WritesOk_l1  n1) t0 t3 false)))
        else (bif decide (t3 > (0 : Int)) then ((ckI (t3 - (1 : Int))).bind fun x24 =>
            (at? t0 x24).bind fun x25 =>
            m_spec_WritesOk_j1  (m_spec_WritesOk_l1  n1) t0 t3 (decide (x25.Key ≥ y12.Key)))
          else (m_spec_WritesOk_j1  (m_spec_WritesOk_l1  n1) t0 t3 false)))))
    else (m_spec_WritesOk_j2  )
def m_spec_WritesOk (a0 : (List S_impl_Write)) : Option Bool :=
  m_spec_WritesOk_l1  (((a0.length : Int) - (0 : Int)).toNat + 1) a0 (0 : Int)
theorem c_spec_WritesOk (a0 : (List S_impl_Write)) (r : Bool) (h : m_spec_WritesOk a0 = some r) : Ret Try.prog f_spec_WritesOk [e_Limpl_Write a0] (e_bool r) := by
  refine Does.goG [] F_spec_WritesOk rfl e_spec_WritesOk n_spec_WritesOk rfl (rvs := [.tmp 2]) rfl rfl ?_
  intro w0 ok0 lent ρ0
  refine LWP.seq_k fun N1 hN1 => ?_
  refine LWP.region (l := [_]) ?_
  refine LWo.assign (e_bool false) rfl (hn := ?_)
  refine LWo.nil (hN1 _ ?_)
  refine LWP.join (α := Unit) (fun z : Unit => []) (fun z : Unit => []) (fun z : Unit => m_spec_WritesOk_j2  ) r (fun _ => by simp [hkeys]) ?_ ?_
  ·rintro _ h
   replace h : m_spec_WritesOk_j2   = some _ := h
   refine LWP.seq_k fun N29 hN29 => ?_
   refine LWP.region (l := [_]) ?_
   refine LWo.assign (e_bool true) rfl (hn := ?_)
   refine LWo.nil (hN29 _ ?_)
   obtain rfl := Option.some.inj h
   refine LWP.ret (QG.mk (.inr rfl) (.cons (.tmp (x := (e_bool true)) rfl) (.nil)) (RetOK.one0 (.pure rfl) (by decide)) rfl rfl)
  ·intro N2 hN2
   refine LWP.seq_k fun N3 hN3 => ?_
   refine LWP.region (l := [_]) ?_
   refine LWo.assign (e_int (0 : Int)) rfl (hn := ?_)
   refine LWo.nil (hN3 _ ?_)
   refine LWP.block ?_
   refine LWP.loopM (α := (List S_impl_Write) × Int) (fun z : (List S_impl_Write) × Int => [(0, (e_Limpl_Write z.1)), (3, (e_int z.2))]) (fun z : (List S_impl_Write) × Int => []) (fun n1 (z : (List S_impl_Write) × Int) => m_spec_WritesOk_l1  n1 z.1 z.2) r _ (a0, (0 : Int)) h (fun _ => rfl) (fun _ => by simp [hkeys]) ⟨rfl, rfl, trivial⟩ trivial ?_
   rintro n1 ⟨t0, t3⟩ h N4 hN4
   replace h : m_spec_WritesOk_l1  (n1 + 1) t0 t3 = some _ := h
   refine LWP.seq_k fun N6 hN6 => ?_
   refine LWP.seq_k fun N7 hN7 => ?_
   refine LWP.region (l := [_,_,_,_]) ?_
   refine LWo.move (e_int t3) rfl (hn := ?_)
   refine LWo.move (e_Limpl_Write t0) rfl (hn := ?_)
   refine LWo.lenM (f := e_impl_Write) (l := t0) u_Limpl_Write rfl (hn := ?_)
   refine LWo.int _ rfl rfl rfl (hn := ?_)
   refine LWo.nil (hN7 _ ?_)
   refine LWP.cond_split rfl (fun h8 => ?_) (fun h8 => ?_)
   ·have h := bT h8 h
    refine LWP.skip (hN6 _ ?_)
    refine LWP.seq_k fun N9 hN9 => ?_
    refine LWP.block ?_
    refine LWP.seq_k fun N10 hN10 => ?_
    refine LWP.region (l := [_,_,_,_,_,_]) ?_
    refine LWo.move (e_Limpl_Write t0) rfl (hn := ?_)
    refine LWo.move (e_int t3) rfl (hn := ?_)
    refine bk h fun x11 e11 h => ?_
    refine LWo.indexM (f := e_impl_Write) e11 u_Limpl_Write s_impl_Write rfl rfl (hn := ?_)
    refine LWo.loadN ((e_impl_Write x11)).cells g_impl_Write s_impl_Write rfl (Nat.le_of_ble_eq_true rfl) rfl (hn := ?_)
    refine LWo.alloc_impl_Write 4 rfl (hn := ?_)
    refine lk h fun y12 e12 h => ?_
    refine LWo.storeW (y := (⟨(0 : Int), [], false⟩ : S_impl_Write)) y12 s_impl_Write rfl rfl rfl rfl rfl rfl (by rw [e12]; exact .refl) rfl (hn := ?_)
    refine LWo.nil (hN10 _ ?_)
    refine LWP.join (α := (List S_impl_Write) × Int × Bool) (fun z : (List S_impl_Write) × Int × Bool => [(0, (e_Limpl_Write z.1)), (3, (e_int z.2.1)), (49, (e_bool z.2.2))]) (fun z : (List S_impl_Write) × Int × Bool => []) (fun z : (List S_impl_Write) × Int × Bool => m_spec_WritesOk_j1  (m_spec_WritesOk_l1  n1) z.1 z.2.1 z.2.2) r (fun _ => by simp [hkeys]) ?_ ?_
    ·rintro ⟨t0, t3, t49⟩ h
     replace h : m_spec_WritesOk_j1  (m_spec_WritesOk_l1  n1) t0 t3 t49 = some _ := h
     refine LWP.cond_split rfl (fun h26 => ?_) (fun h26 => ?_)
     ·have h := bT h26 h
      refine LWP.seq_k fun N27 hN27 => ?_
      refine LWP.region (l := [_]) ?_
      refine LWo.assign (e_bool false) rfl (hn := ?_)
      refine LWo.nil (hN27 _ ?_)
      obtain rfl := Option.some.inj h
      refine LWP.ret (QG.mk (.inr rfl) (.cons (.tmp (x := (e_bool false)) rfl) (.nil)) (RetOK.one0 (.pure rfl) (by decide)) rfl rfl)
     ·have h := bF h26 h
      refine LWP.skip (hN9 _ ?_)
      refine LWP.region (l := [_,_,_]) ?_
      refine LWo.move (e_int t3) rfl (hn := ?_)
      refine bk h fun x28 e28 h => ?_
      refine LWo.int _ rfl rfl (add_ck e28) (hn := ?_)
      refine LWo.assign (e_int x28) rfl (hn := ?_)
      refine LWo.nil (hN4 (t0, x28) _ ⟨rfl, rfl, trivial⟩ trivial h)
    ·intro N13 hN13
     refine bk h fun x14 e14 h => ?_
     refine bS ((!x14)) (fun h15 => ?_) (fun h15 => ?_)
     ·have h := bT h15 h
      refine LWP.drawF (l := [_,_,_,_,_,_,_,_,_,_,_,_,_,_,_,_,_,_,_,_,_,_,_,_,_,_,_,_,_,_,_,_,_,_,_]) [] [0, 3, 4] [([4], []), ([15], [4]), ([16], []), ([17], []), ([18], []), ([4, 19], []), ([19, 20], []), ([19, 21], []), ([19, 22], []), ([19, 23], []), ([24], []), ([4, 25], []), ([25, 26], []), ([25, 27], []), ([4, 28], []), ([28, 29], []), ([28, 30], []), ([28, 31], []), ([25, 28, 32], []), ([25, 33], []), ([34], []), ([3, 35], []), ([35, 36], []), ([35, 37], []), ([0, 38], []), ([3, 38], []), ([38, 40], []), ([38, 39, 41], []), ([38, 42], []), ([38, 43], []), ([4, 38], []), ([38, 45], []), ([38, 44, 46], []), ([35, 38, 47], []), ([35, 48], [])] [0, 3, 49] [] mixed (by kernel_rfl) rfl (by decide) ?_
      refine dq 15 rfl (fun _ g u h => LWo.fieldPtr u_impl_Write rfl s_int u.1 rfl (hn := .nil (zn g))) ?_
      refine dq 16 rfl (fun _ g u h => LWo.loadV1 (e_int y12.Key)  g_int u.1 h.1 rfl (hn := .nil (zn g))) ?_
      refine dq 17 rfl (fun _ g u h => LWo.vcall rfl (av3 u.1 rfl rfl) (c_spec_l1In _ _ _ _ e14) (.same (.same (.same (.nil)))) (hn := .nil (zn g))) ?_
      refine dq 18 rfl (fun _ g u h => LWo.not u.1 (hn := .nil (zn g))) ?_
      refine dq 19 rfl (fun _ g u h => LWo.move (e_bool (!x14)) u.1 (hn := .nil (zn g))) ?_
      refine dq 20 rfl (fun _ g u h => LWo.guardNU (t := 19) u.2.1 h15 rfl rfl rfl rfl rfl (.nil (zn g))) ?_
      refine dq 21 rfl (fun _ g u h => LWo.guardNU (t := 19) u.1 h15 rfl rfl rfl rfl rfl (.nil (zn g))) ?_
      refine dq 22 rfl (fun _ g u h => LWo.guardNU (t := 19) u.1 h15 rfl rfl rfl rfl rfl (.nil (zn g))) ?_
      refine dq 23 rfl (fun _ g u h => LWo.guardNU (t := 19) u.1 h15 rfl rfl rfl rfl rfl (.nil (zn g))) ?_
      refine dq 24 rfl (fun _ g u h => LWo.pickTM (e_bool true) u.1 h15 rfl (hn := .nil (zn g))) ?_
      refine dq 25 rfl (fun _ g u h => LWo.move (e_bool true) u.1 (hn := .nil (zn g))) ?_
      refine dq 26 rfl (fun _ g u h => LWo.guardNU (t := 25) u.2.1 rfl rfl rfl rfl rfl rfl (.nil (zn g))) ?_
      refine dq 27 rfl (fun _ g u h => LWo.guardNU (t := 25) u.1 rfl rfl rfl rfl rfl rfl (.nil (zn g))) ?_
      refine dq 28 rfl (fun _ g u h => LWo.guardNU (t := 25) u.1 rfl rfl rfl rfl rfl rfl (.nil (zn g))) ?_
      refine dq 29 rfl (fun _ g u h => LWo.guardU (t := 28) u.2.1 rfl rfl rfl rfl (.nil (zn g))) ?_
      refine dq 30 rfl (fun _ g u h => LWo.guardU (t := 28) u.1 rfl rfl rfl rfl (.nil (zn g))) ?_
      refine dq 31 rfl (fun _ g u h => LWo.guardU (t := 28) u.1 rfl rfl rfl rfl (.nil (zn g))) ?_
      refine dq 32 rfl (fun _ g u h => LWo.guardU (t := 28) u.1 rfl rfl rfl rfl (.nil (zn g))) ?_
      refine dq 33 rfl (fun _ g u h => LWo.guardNU (t := 25) u.1 rfl rfl rfl rfl rfl rfl (.nil (zn g))) ?_
      refine dq 34 rfl (fun _ g u h => LWo.pickTM (e_bool true) u.1 rfl rfl (hn := .nil (zn g))) ?_
      refine dq 35 rfl (fun _ g u h => LWo.move (e_bool true) u.1 (hn := .nil (zn g))) ?_
      refine dq 36 rfl (fun _ g u h => LWo.guardNU (t := 35) u.2.1 rfl rfl rfl rfl rfl rfl (.nil (zn g))) ?_
      refine dq 37 rfl (fun _ g u h => LWo.guardNU (t := 35) u.1 rfl rfl rfl rfl rfl rfl (.nil (zn g))) ?_
      refine dq 38 rfl (fun _ g u h => LWo.guardNU (t := 35) u.1 rfl rfl rfl rfl rfl rfl (.nil (zn g))) ?_
      refine dq 39 rfl (fun _ g u h => LWo.guardU (t := 38) u.2.1 rfl rfl rfl rfl (.nil (zn g))) ?_
      refine dq 40 rfl (fun _ g u h => LWo.guardU (t := 38) u.2.1 rfl rfl rfl rfl (.nil (zn g))) ?_
      refine dq 41 rfl (fun _ g u h => LWo.guardU (t := 38) u.1 rfl rfl rfl rfl (.nil (zn g))) ?_
      refine dq 42 rfl (fun _ g u h => LWo.guardU (t := 38) u.1 rfl rfl rfl rfl (.nil (zn g))) ?_
      refine dq 43 rfl (fun _ g u h => LWo.guardU (t := 38) u.1 rfl rfl rfl rfl (.nil (zn g))) ?_
      refine dq 44 rfl (fun _ g u h => LWo.guardU (t := 38) u.1 rfl rfl rfl rfl (.nil (zn g))) ?_
      refine dq 45 rfl (fun _ g u h => LWo.guardU (t := 38) u.2.1 rfl rfl rfl rfl (.nil (zn g))) ?_
      refine dq 46 rfl (fun _ g u h => LWo.guardU (t := 38) u.1 rfl rfl rfl rfl (.nil (zn g))) ?_
      refine dq 47 rfl (fun _ g u h => LWo.guardU (t := 38) u.1 rfl rfl rfl rfl (.nil (zn g))) ?_
      refine dq 48 rfl (fun _ g u h => LWo.guardNU (t := 35) u.1 rfl rfl rfl rfl rfl rfl (.nil (zn g))) ?_
      refine dq 49 rfl (fun _ g u h => LWo.pickTM (e_bool true) u.1 rfl rfl (hn := .nil (zn g))) ?_
      refine ⟨rfl, by kernel_rfl, hN13 (t0, t3, true) _ ⟨rfl, rfl, rfl, trivial⟩ trivial h⟩
     ·have h := bF h15 h
      refine bk h fun x16 e16 h => ?_
      refine bS ((!x16)) (fun h17 => ?_) (fun h17 => ?_)
      ·have h := bT h17 h
       refine LWP.drawF (l := [_,_,_,_,_,_,_,_,_,_,_,_,_,_,_,_,_,_,_,_,_,_,_,_,_,_,_,_,_,_,_,_,_,_,_]) [] [0, 3, 4] [([4], []), ([15], [4]), ([16], []), ([17], []), ([18], []), ([4, 19], []), ([19, 20], [4]), ([19, 21], []), ([19, 22], []), ([19, 23], []), ([24], []), ([4, 25], []), ([25, 26], []), ([25, 27], []), ([4, 28], []), ([28, 29], []), ([28, 30], []), ([28, 31], []), ([25, 28, 32], []), ([25, 33], []), ([34], []), ([3, 35], []), ([35, 36], []), ([35, 37], []), ([0, 38], []), ([3, 38], []), ([38, 40], []), ([38, 39, 41], []), ([38, 42], []), ([38, 43], []), ([4, 38], []), ([38, 45], []), ([38, 44, 46], []), ([35, 38, 47], []), ([35, 48], [])] [0, 3, 49] [] mixed (by kernel_rfl) rfl (by decide) ?_
       refine dq 15 rfl (fun _ g u h => LWo.fieldPtr u_impl_Write rfl s_int u.1 rfl (hn := .nil (zn g))) ?_
       refine dq 16 rfl (fun _ g u h => LWo.loadV1 (e_int y12.Key)  g_int u.1 h.1 rfl (hn := .nil (zn g))) ?_
       refine dq 17 rfl (fun _ g u h => LWo.vcall rfl (av3 u.1 rfl rfl) (c_spec_l1In _ _ _ _ e14) (.same (.same (.same (.nil)))) (hn := .nil (zn g))) ?_
       refine dq 18 rfl (fun _ g u h => LWo.not u.1 (hn := .nil (zn g))) ?_
       refine dq 19 rfl (fun _ g u h => LWo.move (e_bool (!x14)) u.1 (hn := .nil (zn g))) ?_
       refine dq 20 rfl (fun _ g u h => LWo.guardY (t := 19) u.2.1 h15 rfl rfl (LWo.fieldPtr u_impl_Write rfl s_Limpl_Value u.1 rfl (hn := .nil (zn g)))) ?_
       refine dq 21 rfl (fun _ g u h => LWo.guardY (t := 19) u.1 h15 rfl rfl (LWo.loadV1 (e_Limpl_Value y12.Row)  g_Limpl_Value u.2.1 h.1 rfl (hn := .nil (zn g)))) ?_
       refine dq 22 rfl (fun _ g u h => LWo.guardY (t := 19) u.1 h15 rfl rfl (LWo.vcall rfl (av1 u.2.1) (c_spec_RowOk _ _ e16) (.same (.nil)) (hn := .nil (zn g)))) ?_
       refine dq 23 rfl (fun _ g u h => LWo.guardY (t := 19) u.1 h15 rfl rfl (LWo.not u.2.1 (hn := .nil (zn g)))) ?_
       refine dq 24 rfl (fun _ g u h => LWo.pickFM (e_bool (!x16)) u.1 h15 u.2.1 (hn := .nil (zn g))) ?_
       refine dq 25 rfl (fun _ g u h => LWo.move (e_bool (!x16)) u.1 (hn := .nil (zn g))) ?_
       refine dq 26 rfl (fun _ g u h => LWo.guardNU (t := 25) u.2.1 h17 rfl rfl rfl rfl rfl (.nil (zn g))) ?_
       refine dq 27 rfl (fun _ g u h => LWo.guardNU (t := 25) u.1 h17 rfl rfl rfl rfl rfl (.nil (zn g))) ?_
       refine dq 28 rfl (fun _ g u h => LWo.guardNU (t := 25) u.1 h17 rfl rfl rfl rfl rfl (.nil (zn g))) ?_
       refine dq 29 rfl (fun _ g u h => LWo.guardU (t := 28) u.2.1 rfl rfl rfl rfl (.nil (zn g))) ?_
       refine dq 30 rfl (fun _ g u h => LWo.guardU (t := 28) u.1 rfl rfl rfl rfl (.nil (zn g))) ?_
       refine dq 31 rfl (fun _ g u h => LWo.guardU (t := 28) u.1 rfl rfl rfl rfl (.nil (zn g))) ?_
       refine dq 32 rfl (fun _ g u h => LWo.guardU (t := 28) u.1 rfl rfl rfl rfl (.nil (zn g))) ?_
       refine dq 33 rfl (fun _ g u h => LWo.guardNU (t := 25) u.1 h17 rfl rfl rfl rfl rfl (.nil (zn g))) ?_
       refine dq 34 rfl (fun _ g u h => LWo.pickTM (e_bool true) u.1 h17 rfl (hn := .nil (zn g))) ?_
       refine dq 35 rfl (fun _ g u h => LWo.move (e_bool true) u.1 (hn := .nil (zn g))) ?_
       refine dq 36 rfl (fun _ g u h => LWo.guardNU (t := 35) u.2.1 rfl rfl rfl rfl rfl rfl (.nil (zn g))) ?_
       refine dq 37 rfl (fun _ g u h => LWo.guardNU (t := 35) u.1 rfl rfl rfl rfl rfl rfl (.nil (zn g))) ?_
       refine dq 38 rfl (fun _ g u h => LWo.guardNU (t := 35) u.1 rfl rfl rfl rfl rfl rfl (.nil (zn g))) ?_
       refine dq 39 rfl (fun _ g u h => LWo.guardU (t := 38) u.2.1 rfl rfl rfl rfl (.nil (zn g))) ?_
       refine dq 40 rfl (fun _ g u h => LWo.guardU (t := 38) u.2.1 rfl rfl rfl rfl (.nil (zn g))) ?_
       refine dq 41 rfl (fun _ g u h => LWo.guardU (t := 38) u.1 rfl rfl rfl rfl (.nil (zn g))) ?_
       refine dq 42 rfl (fun _ g u h => LWo.guardU (t := 38) u.1 rfl rfl rfl rfl (.nil (zn g))) ?_
       refine dq 43 rfl (fun _ g u h => LWo.guardU (t := 38) u.1 rfl rfl rfl rfl (.nil (zn g))) ?_
       refine dq 44 rfl (fun _ g u h => LWo.guardU (t := 38) u.1 rfl rfl rfl rfl (.nil (zn g))) ?_
       refine dq 45 rfl (fun _ g u h => LWo.guardU (t := 38) u.2.1 rfl rfl rfl rfl (.nil (zn g))) ?_
       refine dq 46 rfl (fun _ g u h => LWo.guardU (t := 38) u.1 rfl rfl rfl rfl (.nil (zn g))) ?_
       refine dq 47 rfl (fun _ g u h => LWo.guardU (t := 38) u.1 rfl rfl rfl rfl (.nil (zn g))) ?_
       refine dq 48 rfl (fun _ g u h => LWo.guardNU (t := 35) u.1 rfl rfl rfl rfl rfl rfl (.nil (zn g))) ?_
       refine dq 49 rfl (fun _ g u h => LWo.pickTM (e_bool true) u.1 rfl rfl (hn := .nil (zn g))) ?_
       refine ⟨rfl, by kernel_rfl, hN13 (t0, t3, true) _ ⟨rfl, rfl, rfl, trivial⟩ trivial h⟩
      ·have h := bF h17 h
       refine bS (y12.Gone) (fun h18 => ?_) (fun h18 => ?_)
       ·have h := bT h18 h
        refine bS (decide ((y12.Row.length : Int) > (0 : Int))) (fun h19 => ?_) (fun h19 => ?_)
        ·have h := bT h19 h
         refine LWP.drawF (l := [_,_,_,_,_,_,_,_,_,_,_,_,_,_,_,_,_,_,_,_,_,_,_,_,_,_,_,_,_,_,_,_,_,_,_]) [] [0, 3, 4] [([4], []), ([15], [4]), ([16], []), ([17], []), ([18], []), ([4, 19], []), ([19, 20], [4]), ([19, 21], []), ([19, 22], []), ([19, 23], []), ([24], []), ([4, 25], []), ([25, 26], [4]), ([25, 27], []), ([4, 28], []), ([28, 29], [4]), ([28, 30], []), ([28, 31], []), ([25, 28, 32], []), ([25, 33], []), ([34], []), ([3, 35], []), ([35, 36], []), ([35, 37], []), ([0, 38], []), ([3, 38], []), ([38, 40], []), ([38, 39, 41], []), ([38, 42], []), ([38, 43], []), ([4, 38], []), ([38, 45], []), ([38, 44, 46], []), ([35, 38, 47], []), ([35, 48], [])] [0, 3, 49] [] mixed (by kernel_rfl) rfl (by decide) ?_
         refine dq 15 rfl (fun _ g u h => LWo.fieldPtr u_impl_Write rfl s_int u.1 rfl (hn := .nil (zn g))) ?_
         refine dq 16 rfl (fun _ g u h => LWo.loadV1 (e_int y12.Key)  g_int u.1 h.1 rfl (hn := .nil (zn g))) ?_
         refine dq 17 rfl (fun _ g u h => LWo.vcall rfl (av3 u.1 rfl rfl) (c_spec_l1In _ _ _ _ e14) (.same (.same (.same (.nil)))) (hn := .nil (zn g))) ?_
         refine dq 18 rfl (fun _ g u h => LWo.not u.1 (hn := .nil (zn g))) ?_
         refine dq 19 rfl (fun _ g u h => LWo.move (e_bool (!x14)) u.1 (hn := .nil (zn g))) ?_
         refine dq 20 rfl (fun _ g u h => LWo.guardY (t := 19) u.2.1 h15 rfl rfl (LWo.fieldPtr u_impl_Write rfl s_Limpl_Value u.1 rfl (hn := .nil (zn g)))) ?_
         refine dq 21 rfl (fun _ g u h => LWo.guardY (t := 19) u.1 h15 rfl rfl (LWo.loadV1 (e_Limpl_Value y12.Row)  g_Limpl_Value u.2.1 h.1 rfl (hn := .nil (zn g)))) ?_
         refine dq 22 rfl (fun _ g u h => LWo.guardY (t := 19) u.1 h15 rfl rfl (LWo.vcall rfl (av1 u.2.1) (c_spec_RowOk _ _ e16) (.same (.nil)) (hn := .nil (zn g)))) ?_
         refine dq 23 rfl (fun _ g u h => LWo.guardY (t := 19) u.1 h15 rfl rfl (LWo.not u.2.1 (hn := .nil (zn g)))) ?_
         refine dq 24 rfl (fun _ g u h => LWo.pickFM (e_bool (!x16)) u.1 h15 u.2.1 (hn := .nil (zn g))) ?_
         refine dq 25 rfl (fun _ g u h => LWo.move (e_bool (!x16)) u.1 (hn := .nil (zn g))) ?_
         refine dq 26 rfl (fun _ g u h => LWo.guardY (t := 25) u.2.1 h17 rfl rfl (LWo.fieldPtr u_impl_Write rfl s_bool u.1 rfl (hn := .nil (zn g)))) ?_
         refine dq 27 rfl (fun _ g u h => LWo.guardY (t := 25) u.1 h17 rfl rfl (LWo.loadV1 (e_bool y12.Gone)  g_bool u.2.1 h.1 rfl (hn := .nil (zn g)))) ?_
         refine dq 28 rfl (fun _ g u h => LWo.guardY (t := 25) u.1 h17 rfl rfl (LWo.move (e_bool y12.Gone) u.2.1 (hn := .nil (zn g)))) ?_
         refine dq 29 rfl (fun _ g u h => LWo.guardY (t := 28) u.2.1 h18 rfl rfl (LWo.fieldPtr u_impl_Write rfl s_Limpl_Value u.1 rfl (hn := .nil (zn g)))) ?_
         refine dq 30 rfl (fun _ g u h => LWo.guardY (t := 28) u.1 h18 rfl rfl (LWo.loadV1 (e_Limpl_Value y12.Row)  g_Limpl_Value u.2.1 h.1 rfl (hn := .nil (zn g)))) ?_
         refine dq 31 rfl (fun _ g u h => LWo.guardY (t := 28) u.1 h18 rfl rfl (LWo.lenM (f := e_impl_Value) (l := y12.Row) u_Limpl_Value u.2.1 (hn := .nil (zn g)))) ?_
         refine dq 32 rfl (fun _ g u h => LWo.guardY (t := 28) u.1 h18 rfl rfl (LWo.int _ u.2.1 rfl rfl (hn := .nil (zn g)))) ?_
         refine dq 33 rfl (fun _ g u h => LWo.guardY (t := 25) u.1 h17 rfl rfl (LWo.pickTM (e_bool (decide ((y12.Row.length : Int) > (0 : Int)))) u.2.1 h18 u.2.2.1 (hn := .nil (zn g)))) ?_
         refine dq 34 rfl (fun _ g u h => LWo.pickFM (e_bool (decide ((y12.Row.length : Int) > (0 : Int)))) u.1 h17 u.2.1 (hn := .nil (zn g))) ?_
         refine dq 35 rfl (fun _ g u h => LWo.move (e_bool (decide ((y12.Row.length : Int) > (0 : Int)))) u.1 (hn := .nil (zn g))) ?_
         refine dq 36 rfl (fun _ g u h => LWo.guardNU (t := 35) u.2.1 h19 rfl rfl rfl rfl rfl (.nil (zn g))) ?_
         refine dq 37 rfl (fun _ g u h => LWo.guardNU (t := 35) u.1 h19 rfl rfl rfl rfl rfl (.nil (zn g))) ?_
         refine dq 38 rfl (fun _ g u h => LWo.guardNU (t := 35) u.1 h19 rfl rfl rfl rfl rfl (.nil (zn g))) ?_
         refine dq 39 rfl (fun _ g u h => LWo.guardU (t := 38) u.2.1 rfl rfl rfl rfl (.nil (zn g))) ?_
         refine dq 40 rfl (fun _ g u h => LWo.guardU (t := 38) u.2.1 rfl rfl rfl rfl (.nil (zn g))) ?_
         refine dq 41 rfl (fun _ g u h => LWo.guardU (t := 38) u.1 rfl rfl rfl rfl (.nil (zn g))) ?_
         refine dq 42 rfl (fun _ g u h => LWo.guardU (t := 38) u.1 rfl rfl rfl rfl (.nil (zn g))) ?_
         refine dq 43 rfl (fun _ g u h => LWo.guardU (t := 38) u.1 rfl rfl rfl rfl (.nil (zn g))) ?_
         refine dq 44 rfl (fun _ g u h => LWo.guardU (t := 38) u.1 rfl rfl rfl rfl (.nil (zn g))) ?_
         refine dq 45 rfl (fun _ g u h => LWo.guardU (t := 38) u.2.1 rfl rfl rfl rfl (.nil (zn g))) ?_
         refine dq 46 rfl (fun _ g u h => LWo.guardU (t := 38) u.1 rfl rfl rfl rfl (.nil (zn g))) ?_
         refine dq 47 rfl (fun _ g u h => LWo.guardU (t := 38) u.1 rfl rfl rfl rfl (.nil (zn g))) ?_
         refine dq 48 rfl (fun _ g u h => LWo.guardNU (t := 35) u.1 h19 rfl rfl rfl rfl rfl (.nil (zn g))) ?_
         refine dq 49 rfl (fun _ g u h => LWo.pickTM (e_bool true) u.1 h19 rfl (hn := .nil (zn g))) ?_
         refine ⟨rfl, by kernel_rfl, hN13 (t0, t3, true) _ ⟨rfl, rfl, rfl, trivial⟩ trivial h⟩
        ·have h := bF h19 h
         refine bS (decide (t3 > (0 : Int))) (fun h20 => ?_) (fun h20 => ?_)
         ·have h := bT h20 h
          refine bk h fun x21 e21 h => ?_
          refine bk h fun x22 e22 h => ?_
          refine LWP.drawF (l := [_,_,_,_,_,_,_,_,_,_,_,_,_,_,_,_,_,_,_,_,_,_,_,_,_,_,_,_,_,_,_,_,_,_,_]) [] [0, 3, 4] [([4], []), ([15], [4]), ([16], []), ([17], []), ([18], []), ([4, 19], []), ([19, 20], [4]), ([19, 21], []), ([19, 22], []), ([19, 23], []), ([24], []), ([4, 25], []), ([25, 26], [4]), ([25, 27], []), ([4, 28], []), ([28, 29], [4]), ([28, 30], []), ([28, 31], []), ([25, 28, 32], []), ([25, 33], []), ([34], []), ([3, 35], []), ([35, 36], []), ([35, 37], []), ([0, 38], []), ([3, 38], []), ([38, 40], []), ([38, 39, 41], []), ([38, 42], []), ([38, 43], []), ([4, 38], []), ([38, 45], [4]), ([38, 44, 46], []), ([35, 38, 47], []), ([35, 48], [])] [0, 3, 49] [] mixed (by kernel_rfl) rfl (by decide) ?_
          refine dq 15 rfl (fun _ g u h => LWo.fieldPtr u_impl_Write rfl s_int u.1 rfl (hn := .nil (zn g))) ?_
          refine dq 16 rfl (fun _ g u h => LWo.loadV1 (e_int y12.Key)  g_int u.1 h.1 rfl (hn := .nil (zn g))) ?_
          refine dq 17 rfl (fun _ g u h => LWo.vcall rfl (av3 u.1 rfl rfl) (c_spec_l1In _ _ _ _ e14) (.same (.same (.same (.nil)))) (hn := .nil (zn g))) ?_
          refine dq 18 rfl (fun _ g u h => LWo.not u.1 (hn := .nil (zn g))) ?_
          refine dq 19 rfl (fun _ g u h => LWo.move (e_bool (!x14)) u.1 (hn := .nil (zn g))) ?_
          refine dq 20 rfl (fun _ g u h => LWo.guardY (t := 19) u.2.1 h15 rfl rfl (LWo.fieldPtr u_impl_Write rfl s_Limpl_Value u.1 rfl (hn := .nil (zn g)))) ?_
          refine dq 21 rfl (fun _ g u h => LWo.guardY (t := 19) u.1 h15 rfl rfl (LWo.loadV1 (e_Limpl_Value y12.Row)  g_Limpl_Value u.2.1 h.1 rfl (hn := .nil (zn g)))) ?_
          refine dq 22 rfl (fun _ g u h => LWo.guardY (t := 19) u.1 h15 rfl rfl (LWo.vcall rfl (av1 u.2.1) (c_spec_RowOk _ _ e16) (.same (.nil)) (hn := .nil (zn g)))) ?_
          refine dq 23 rfl (fun _ g u h => LWo.guardY (t := 19) u.1 h15 rfl rfl (LWo.not u.2.1 (hn := .nil (zn g)))) ?_
          refine dq 24 rfl (fun _ g u h => LWo.pickFM (e_bool (!x16)) u.1 h15 u.2.1 (hn := .nil (zn g))) ?_
          refine dq 25 rfl (fun _ g u h => LWo.move (e_bool (!x16)) u.1 (hn := .nil (zn g))) ?_
          refine dq 26 rfl (fun _ g u h => LWo.guardY (t := 25) u.2.1 h17 rfl rfl (LWo.fieldPtr u_impl_Write rfl s_bool u.1 rfl (hn := .nil (zn g)))) ?_
          refine dq 27 rfl (fun _ g u h => LWo.guardY (t := 25) u.1 h17 rfl rfl (LWo.loadV1 (e_bool y12.Gone)  g_bool u.2.1 h.1 rfl (hn := .nil (zn g)))) ?_
          refine dq 28 rfl (fun _ g u h => LWo.guardY (t := 25) u.1 h17 rfl rfl (LWo.move (e_bool y12.Gone) u.2.1 (hn := .nil (zn g)))) ?_
          refine dq 29 rfl (fun _ g u h => LWo.guardY (t := 28) u.2.1 h18 rfl rfl (LWo.fieldPtr u_impl_Write rfl s_Limpl_Value u.1 rfl (hn := .nil (zn g)))) ?_
          refine dq 30 rfl (fun _ g u h => LWo.guardY (t := 28) u.1 h18 rfl rfl (LWo.loadV1 (e_Limpl_Value y12.Row)  g_Limpl_Value u.2.1 h.1 rfl (hn := .nil (zn g)))) ?_
          refine dq 31 rfl (fun _ g u h => LWo.guardY (t := 28) u.1 h18 rfl rfl (LWo.lenM (f := e_impl_Value) (l := y12.Row) u_Limpl_Value u.2.1 (hn := .nil (zn g)))) ?_
          refine dq 32 rfl (fun _ g u h => LWo.guardY (t := 28) u.1 h18 rfl rfl (LWo.int _ u.2.1 rfl rfl (hn := .nil (zn g)))) ?_
          refine dq 33 rfl (fun _ g u h => LWo.guardY (t := 25) u.1 h17 rfl rfl (LWo.pickTM (e_bool (decide ((y12.Row.length : Int) > (0 : Int)))) u.2.1 h18 u.2.2.1 (hn := .nil (zn g)))) ?_
          refine dq 34 rfl (fun _ g u h => LWo.pickFM (e_bool (decide ((y12.Row.length : Int) > (0 : Int)))) u.1 h17 u.2.1 (hn := .nil (zn g))) ?_
          refine dq 35 rfl (fun _ g u h => LWo.move (e_bool (decide ((y12.Row.length : Int) > (0 : Int)))) u.1 (hn := .nil (zn g))) ?_
          refine dq 36 rfl (fun _ g u h => LWo.guardY (t := 35) u.2.1 h19 rfl rfl (LWo.move (e_int t3) u.1 (hn := .nil (zn g)))) ?_
          refine dq 37 rfl (fun _ g u h => LWo.guardY (t := 35) u.1 h19 rfl rfl (LWo.int _ u.2.1 rfl rfl (hn := .nil (zn g)))) ?_
          refine dq 38 rfl (fun _ g u h => LWo.guardY (t := 35) u.1 h19 rfl rfl (LWo.move (e_bool (decide (t3 > (0 : Int)))) u.2.1 (hn := .nil (zn g)))) ?_
          refine dq 39 rfl (fun _ g u h => LWo.guardY (t := 38) u.2.1 h20 rfl rfl (LWo.move (e_Limpl_Write t0) u.1 (hn := .nil (zn g)))) ?_
          refine dq 40 rfl (fun _ g u h => LWo.guardY (t := 38) u.2.1 h20 rfl rfl (LWo.move (e_int t3) u.1 (hn := .nil (zn g)))) ?_
          refine dq 41 rfl (fun _ g u h => LWo.guardY (t := 38) u.1 h20 rfl rfl (LWo.int _ u.2.1 rfl (sub_ck e21) (hn := .nil (zn g)))) ?_
          refine dq 42 rfl (fun _ g u h => LWo.guardY (t := 38) u.1 h20 rfl rfl (LWo.indexM (f := e_impl_Write) e22 u_Limpl_Write s_impl_Write u.2.1 u.2.2.1 (hn := .nil (zn g)))) ?_
          refine dq 43 rfl (fun _ g u h => LWo.guardY (t := 38) u.1 h20 rfl rfl (LWo.fieldAddr _ u_impl_Write rfl s_int u.2.1 rfl (hn := .nil (zn g)))) ?_
          refine dq 44 rfl (fun _ g u h => LWo.guardY (t := 38) u.1 h20 rfl rfl (LWo.load1 (c := (e_int x22.Key)) g_int u.2.1 (hn := .nil (zn g)))) ?_
          refine dq 45 rfl (fun _ g u h => LWo.guardY (t := 38) u.2.1 h20 rfl rfl (LWo.fieldPtr u_impl_Write rfl s_int u.1 rfl (hn := .nil (zn g)))) ?_
          refine dq 46 rfl (fun _ g u h => LWo.guardY (t := 38) u.1 h20 rfl rfl (LWo.loadV1 (e_int y12.Key)  g_int u.2.1 h.1 rfl (hn := .nil (zn g)))) ?_
          refine dq 47 rfl (fun _ g u h => LWo.guardY (t := 38) u.1 h20 rfl rfl (LWo.int _ u.2.1 u.2.2.1 rfl (hn := .nil (zn g)))) ?_
          refine dq 48 rfl (fun _ g u h => LWo.guardY (t := 35) u.1 h19 rfl rfl (LWo.pickTM (e_bool (decide (x22.Key ≥ y12.Key))) u.2.1 h20 u.2.2.1 (hn := .nil (zn g)))) ?_
          refine dq 49 rfl (fun _ g u h => LWo.pickFM (e_bool (decide (x22.Key ≥ y12.Key))) u.1 h19 u.2.1 (hn := .nil (zn g))) ?_
          refine ⟨rfl, by kernel_rfl, hN13 (t0, t3, decide (x22.Key ≥ y12.Key)) _ ⟨rfl, rfl, rfl, trivial⟩ trivial h⟩
         ·have h := bF h20 h
          refine LWP.drawF (l := [_,_,_,_,_,_,_,_,_,_,_,_,_,_,_,_,_,_,_,_,_,_,_,_,_,_,_,_,_,_,_,_,_,_,_]) [] [0, 3, 4] [([4], []), ([15], [4]), ([16], []), ([17], []), ([18], []), ([4, 19], []), ([19, 20], [4]), ([19, 21], []), ([19, 22], []), ([19, 23], []), ([24], []), ([4, 25], []), ([25, 26], [4]), ([25, 27], []), ([4, 28], []), ([28, 29], [4]), ([28, 30], []), ([28, 31], []), ([25, 28, 32], []), ([25, 33], []), ([34], []), ([3, 35], []), ([35, 36], []), ([35, 37], []), ([0, 38], []), ([3, 38], []), ([38, 40], []), ([38, 39, 41], []), ([38, 42], []), ([38, 43], []), ([4, 38], []), ([38, 45], []), ([38, 44, 46], []), ([35, 38, 47], []), ([35, 48], [])] [0, 3, 49] [] mixed (by kernel_rfl) rfl (by decide) ?_
          refine dq 15 rfl (fun _ g u h => LWo.fieldPtr u_impl_Write rfl s_int u.1 rfl (hn := .nil (zn g))) ?_
          refine dq 16 rfl (fun _ g u h => LWo.loadV1 (e_int y12.Key)  g_int u.1 h.1 rfl (hn := .nil (zn g))) ?_
          refine dq 17 rfl (fun _ g u h => LWo.vcall rfl (av3 u.1 rfl rfl) (c_spec_l1In _ _ _ _ e14) (.same (.same (.same (.nil)))) (hn := .nil (zn g))) ?_
          refine dq 18 rfl (fun _ g u h => LWo.not u.1 (hn := .nil (zn g))) ?_
          refine dq 19 rfl (fun _ g u h => LWo.move (e_bool (!x14)) u.1 (hn := .nil (zn g))) ?_
          refine dq 20 rfl (fun _ g u h => LWo.guardY (t := 19) u.2.1 h15 rfl rfl (LWo.fieldPtr u_impl_Write rfl s_Limpl_Value u.1 rfl (hn := .nil (zn g)))) ?_
          refine dq 21 rfl (fun _ g u h => LWo.guardY (t := 19) u.1 h15 rfl rfl (LWo.loadV1 (e_Limpl_Value y12.Row)  g_Limpl_Value u.2.1 h.1 rfl (hn := .nil (zn g)))) ?_
          refine dq 22 rfl (fun _ g u h => LWo.guardY (t := 19) u.1 h15 rfl rfl (LWo.vcall rfl (av1 u.2.1) (c_spec_RowOk _ _ e16) (.same (.nil)) (hn := .nil (zn g)))) ?_
          refine dq 23 rfl (fun _ g u h => LWo.guardY (t := 19) u.1 h15 rfl rfl (LWo.not u.2.1 (hn := .nil (zn g)))) ?_
          refine dq 24 rfl (fun _ g u h => LWo.pickFM (e_bool (!x16)) u.1 h15 u.2.1 (hn := .nil (zn g))) ?_
          refine dq 25 rfl (fun _ g u h => LWo.move (e_bool (!x16)) u.1 (hn := .nil (zn g))) ?_
          refine dq 26 rfl (fun _ g u h => LWo.guardY (t := 25) u.2.1 h17 rfl rfl (LWo.fieldPtr u_impl_Write rfl s_bool u.1 rfl (hn := .nil (zn g)))) ?_
          refine dq 27 rfl (fun _ g u h => LWo.guardY (t := 25) u.1 h17 rfl rfl (LWo.loadV1 (e_bool y12.Gone)  g_bool u.2.1 h.1 rfl (hn := .nil (zn g)))) ?_
          refine dq 28 rfl (fun _ g u h => LWo.guardY (t := 25) u.1 h17 rfl rfl (LWo.move (e_bool y12.Gone) u.2.1 (hn := .nil (zn g)))) ?_
          refine dq 29 rfl (fun _ g u h => LWo.guardY (t := 28) u.2.1 h18 rfl rfl (LWo.fieldPtr u_impl_Write rfl s_Limpl_Value u.1 rfl (hn := .nil (zn g)))) ?_
          refine dq 30 rfl (fun _ g u h => LWo.guardY (t := 28) u.1 h18 rfl rfl (LWo.loadV1 (e_Limpl_Value y12.Row)  g_Limpl_Value u.2.1 h.1 rfl (hn := .nil (zn g)))) ?_
          refine dq 31 rfl (fun _ g u h => LWo.guardY (t := 28) u.1 h18 rfl rfl (LWo.lenM (f := e_impl_Value) (l := y12.Row) u_Limpl_Value u.2.1 (hn := .nil (zn g)))) ?_
          refine dq 32 rfl (fun _ g u h => LWo.guardY (t := 28) u.1 h18 rfl rfl (LWo.int _ u.2.1 rfl rfl (hn := .nil (zn g)))) ?_
          refine dq 33 rfl (fun _ g u h => LWo.guardY (t := 25) u.1 h17 rfl rfl (LWo.pickTM (e_bool (decide ((y12.Row.length : Int) > (0 : Int)))) u.2.1 h18 u.2.2.1 (hn := .nil (zn g)))) ?_
          refine dq 34 rfl (fun _ g u h => LWo.pickFM (e_bool (decide ((y12.Row.length : Int) > (0 : Int)))) u.1 h17 u.2.1 (hn := .nil (zn g))) ?_
          refine dq 35 rfl (fun _ g u h => LWo.move (e_bool (decide ((y12.Row.length : Int) > (0 : Int)))) u.1 (hn := .nil (zn g))) ?_
          refine dq 36 rfl (fun _ g u h => LWo.guardY (t := 35) u.2.1 h19 rfl rfl (LWo.move (e_int t3) u.1 (hn := .nil (zn g)))) ?_
          refine dq 37 rfl (fun _ g u h => LWo.guardY (t := 35) u.1 h19 rfl rfl (LWo.int _ u.2.1 rfl rfl (hn := .nil (zn g)))) ?_
          refine dq 38 rfl (fun _ g u h => LWo.guardY (t := 35) u.1 h19 rfl rfl (LWo.move (e_bool (decide (t3 > (0 : Int)))) u.2.1 (hn := .nil (zn g)))) ?_
          refine dq 39 rfl (fun _ g u h => LWo.guardNU (t := 38) u.2.1 h20 rfl rfl rfl rfl rfl (.nil (zn g))) ?_
          refine dq 40 rfl (fun _ g u h => LWo.guardNU (t := 38) u.2.1 h20 rfl rfl rfl rfl rfl (.nil (zn g))) ?_
          refine dq 41 rfl (fun _ g u h => LWo.guardNU (t := 38) u.1 h20 rfl rfl rfl rfl rfl (.nil (zn g))) ?_
          refine dq 42 rfl (fun _ g u h => LWo.guardNU (t := 38) u.1 h20 rfl rfl rfl rfl rfl (.nil (zn g))) ?_
          refine dq 43 rfl (fun _ g u h => LWo.guardNU (t := 38) u.1 h20 rfl rfl rfl rfl rfl (.nil (zn g))) ?_
          refine dq 44 rfl (fun _ g u h => LWo.guardNU (t := 38) u.1 h20 rfl rfl rfl rfl rfl (.nil (zn g))) ?_
          refine dq 45 rfl (fun _ g u h => LWo.guardNU (t := 38) u.2.1 h20 rfl rfl rfl rfl rfl (.nil (zn g))) ?_
          refine dq 46 rfl (fun _ g u h => LWo.guardNU (t := 38) u.1 h20 rfl rfl rfl rfl rfl (.nil (zn g))) ?_
          refine dq 47 rfl (fun _ g u h => LWo.guardNU (t := 38) u.1 h20 rfl rfl rfl rfl rfl (.nil (zn g))) ?_
          refine dq 48 rfl (fun _ g u h => LWo.guardY (t := 35) u.1 h19 rfl rfl (LWo.pickFM (e_bool false) u.2.1 h20 rfl (hn := .nil (zn g)))) ?_
          refine dq 49 rfl (fun _ g u h => LWo.pickFM (e_bool false) u.1 h19 u.2.1 (hn := .nil (zn g))) ?_
          refine ⟨rfl, by kernel_rfl, hN13 (t0, t3, false) _ ⟨rfl, rfl, rfl, trivial⟩ trivial h⟩
       ·have h := bF h18 h
        refine bS (decide (t3 > (0 : Int))) (fun h23 => ?_) (fun h23 => ?_)
        ·have h := bT h23 h
         refine bk h fun x24 e24 h => ?_
         refine bk h fun x25 e25 h => ?_
         refine LWP.drawF (l := [_,_,_,_,_,_,_,_,_,_,_,_,_,_,_,_,_,_,_,_,_,_,_,_,_,_,_,_,_,_,_,_,_,_,_]) [] [0, 3, 4] [([4], []), ([15], [4]), ([16], []), ([17], []), ([18], []), ([4, 19], []), ([19, 20], [4]), ([19, 21], []), ([19, 22], []), ([19, 23], []), ([24], []), ([4, 25], []), ([25, 26], [4]), ([25, 27], []), ([4, 28], []), ([28, 29], []), ([28, 30], []), ([28, 31], []), ([25, 28, 32], []), ([25, 33], []), ([34], []), ([3, 35], []), ([35, 36], []), ([35, 37], []), ([0, 38], []), ([3, 38], []), ([38, 40], []), ([38, 39, 41], []), ([38, 42], []), ([38, 43], []), ([4, 38], []), ([38, 45], [4]), ([38, 44, 46], []), ([35, 38, 47], []), ([35, 48], [])] [0, 3, 49] [] mixed (by kernel_rfl) rfl (by decide) ?_
         refine dq 15 rfl (fun _ g u h => LWo.fieldPtr u_impl_Write rfl s_int u.1 rfl (hn := .nil (zn g))) ?_
         refine dq 16 rfl (fun _ g u h => LWo.loadV1 (e_int y12.Key)  g_int u.1 h.1 rfl (hn := .nil (zn g))) ?_
         refine dq 17 rfl (fun _ g u h => LWo.vcall rfl (av3 u.1 rfl rfl) (c_spec_l1In _ _ _ _ e14) (.same (.same (.same (.nil)))) (hn := .nil (zn g))) ?_
         refine dq 18 rfl (fun _ g u h => LWo.not u.1 (hn := .nil (zn g))) ?_
         refine dq 19 rfl (fun _ g u h => LWo.move (e_bool (!x14)) u.1 (hn := .nil (zn g))) ?_
         refine dq 20 rfl (fun _ g u h => LWo.guardY (t := 19) u.2.1 h15 rfl rfl (LWo.fieldPtr u_impl_Write rfl s_Limpl_Value u.1 rfl (hn := .nil (zn g)))) ?_
         refine dq 21 rfl (fun _ g u h => LWo.guardY (t := 19) u.1 h15 rfl rfl (LWo.loadV1 (e_Limpl_Value y12.Row)  g_Limpl_Value u.2.1 h.1 rfl (hn := .nil (zn g)))) ?_
         refine dq 22 rfl (fun _ g u h => LWo.guardY (t := 19) u.1 h15 rfl rfl (LWo.vcall rfl (av1 u.2.1) (c_spec_RowOk _ _ e16) (.same (.nil)) (hn := .nil (zn g)))) ?_
         refine dq 23 rfl (fun _ g u h => LWo.guardY (t := 19) u.1 h15 rfl rfl (LWo.not u.2.1 (hn := .nil (zn g)))) ?_
         refine dq 24 rfl (fun _ g u h => LWo.pickFM (e_bool (!x16)) u.1 h15 u.2.1 (hn := .nil (zn g))) ?_
         refine dq 25 rfl (fun _ g u h => LWo.move (e_bool (!x16)) u.1 (hn := .nil (zn g))) ?_
         refine dq 26 rfl (fun _ g u h => LWo.guardY (t := 25) u.2.1 h17 rfl rfl (LWo.fieldPtr u_impl_Write rfl s_bool u.1 rfl (hn := .nil (zn g)))) ?_
         refine dq 27 rfl (fun _ g u h => LWo.guardY (t := 25) u.1 h17 rfl rfl (LWo.loadV1 (e_bool y12.Gone)  g_bool u.2.1 h.1 rfl (hn := .nil (zn g)))) ?_
         refine dq 28 rfl (fun _ g u h => LWo.guardY (t := 25) u.1 h17 rfl rfl (LWo.move (e_bool y12.Gone) u.2.1 (hn := .nil (zn g)))) ?_
         refine dq 29 rfl (fun _ g u h => LWo.guardNU (t := 28) u.2.1 h18 rfl rfl rfl rfl rfl (.nil (zn g))) ?_
         refine dq 30 rfl (fun _ g u h => LWo.guardNU (t := 28) u.1 h18 rfl rfl rfl rfl rfl (.nil (zn g))) ?_
         refine dq 31 rfl (fun _ g u h => LWo.guardNU (t := 28) u.1 h18 rfl rfl rfl rfl rfl (.nil (zn g))) ?_
         refine dq 32 rfl (fun _ g u h => LWo.guardNU (t := 28) u.1 h18 rfl rfl rfl rfl rfl (.nil (zn g))) ?_
         refine dq 33 rfl (fun _ g u h => LWo.guardY (t := 25) u.1 h17 rfl rfl (LWo.pickFM (e_bool false) u.2.1 h18 rfl (hn := .nil (zn g)))) ?_
         refine dq 34 rfl (fun _ g u h => LWo.pickFM (e_bool false) u.1 h17 u.2.1 (hn := .nil (zn g))) ?_
         refine dq 35 rfl (fun _ g u h => LWo.move (e_bool false) u.1 (hn := .nil (zn g))) ?_
         refine dq 36 rfl (fun _ g u h => LWo.guardY (t := 35) u.2.1 rfl rfl rfl (LWo.move (e_int t3) u.1 (hn := .nil (zn g)))) ?_
         refine dq 37 rfl (fun _ g u h => LWo.guardY (t := 35) u.1 rfl rfl rfl (LWo.int _ u.2.1 rfl rfl (hn := .nil (zn g)))) ?_
         refine dq 38 rfl (fun _ g u h => LWo.guardY (t := 35) u.1 rfl rfl rfl (LWo.move (e_bool (decide (t3 > (0 : Int)))) u.2.1 (hn := .nil (zn g)))) ?_
         refine dq 39 rfl (fun _ g u h => LWo.guardY (t := 38) u.2.1 h23 rfl rfl (LWo.move (e_Limpl_Write t0) u.1 (hn := .nil (zn g)))) ?_
         refine dq 40 rfl (fun _ g u h => LWo.guardY (t := 38) u.2.1 h23 rfl rfl (LWo.move (e_int t3) u.1 (hn := .nil (zn g)))) ?_
         refine dq 41 rfl (fun _ g u h => LWo.guardY (t := 38) u.1 h23 rfl rfl (LWo.int _ u.2.1 rfl (sub_ck e24) (hn := .nil (zn g)))) ?_
         refine dq 42 rfl (fun _ g u h => LWo.guardY (t := 38) u.1 h23 rfl rfl (LWo.indexM (f := e_impl_Write) e25 u_Limpl_Write s_impl_Write u.2.1 u.2.2.1 (hn := .nil (zn g)))) ?_
         refine dq 43 rfl (fun _ g u h => LWo.guardY (t := 38) u.1 h23 rfl rfl (LWo.fieldAddr _ u_impl_Write rfl s_int u.2.1 rfl (hn := .nil (zn g)))) ?_
         refine dq 44 rfl (fun _ g u h => LWo.guardY (t := 38) u.1 h23 rfl rfl (LWo.load1 (c := (e_int x25.Key)) g_int u.2.1 (hn := .nil (zn g)))) ?_
         refine dq 45 rfl (fun _ g u h => LWo.guardY (t := 38) u.2.1 h23 rfl rfl (LWo.fieldPtr u_impl_Write rfl s_int u.1 rfl (hn := .nil (zn g)))) ?_
         refine dq 46 rfl (fun _ g u h => LWo.guardY (t := 38) u.1 h23 rfl rfl (LWo.loadV1 (e_int y12.Key)  g_int u.2.1 h.1 rfl (hn := .nil (zn g)))) ?_
         refine dq 47 rfl (fun _ g u h => LWo.guardY (t := 38) u.1 h23 rfl rfl (LWo.int _ u.2.1 u.2.2.1 rfl (hn := .nil (zn g)))) ?_
         refine dq 48 rfl (fun _ g u h => LWo.guardY (t := 35) u.1 rfl rfl rfl (LWo.pickTM (e_bool (decide (x25.Key ≥ y12.Key))) u.2.1 h23 u.2.2.1 (hn := .nil (zn g)))) ?_
         refine dq 49 rfl (fun _ g u h => LWo.pickFM (e_bool (decide (x25.Key ≥ y12.Key))) u.1 rfl u.2.1 (hn := .nil (zn g))) ?_
         refine ⟨rfl, by kernel_rfl, hN13 (t0, t3, decide (x25.Key ≥ y12.Key)) _ ⟨rfl, rfl, rfl, trivial⟩ trivial h⟩
        ·have h := bF h23 h
         refine LWP.drawF (l := [_,_,_,_,_,_,_,_,_,_,_,_,_,_,_,_,_,_,_,_,_,_,_,_,_,_,_,_,_,_,_,_,_,_,_]) [] [0, 3, 4] [([4], []), ([15], [4]), ([16], []), ([17], []), ([18], []), ([4, 19], []), ([19, 20], [4]), ([19, 21], []), ([19, 22], []), ([19, 23], []), ([24], []), ([4, 25], []), ([25, 26], [4]), ([25, 27], []), ([4, 28], []), ([28, 29], []), ([28, 30], []), ([28, 31], []), ([25, 28, 32], []), ([25, 33], []), ([34], []), ([3, 35], []), ([35, 36], []), ([35, 37], []), ([0, 38], []), ([3, 38], []), ([38, 40], []), ([38, 39, 41], []), ([38, 42], []), ([38, 43], []), ([4, 38], []), ([38, 45], []), ([38, 44, 46], []), ([35, 38, 47], []), ([35, 48], [])] [0, 3, 49] [] mixed (by kernel_rfl) rfl (by decide) ?_
         refine dq 15 rfl (fun _ g u h => LWo.fieldPtr u_impl_Write rfl s_int u.1 rfl (hn := .nil (zn g))) ?_
         refine dq 16 rfl (fun _ g u h => LWo.loadV1 (e_int y12.Key)  g_int u.1 h.1 rfl (hn := .nil (zn g))) ?_
         refine dq 17 rfl (fun _ g u h => LWo.vcall rfl (av3 u.1 rfl rfl) (c_spec_l1In _ _ _ _ e14) (.same (.same (.same (.nil)))) (hn := .nil (zn g))) ?_
         refine dq 18 rfl (fun _ g u h => LWo.not u.1 (hn := .nil (zn g))) ?_
         refine dq 19 rfl (fun _ g u h => LWo.move (e_bool (!x14)) u.1 (hn := .nil (zn g))) ?_
         refine dq 20 rfl (fun _ g u h => LWo.guardY (t := 19) u.2.1 h15 rfl rfl (LWo.fieldPtr u_impl_Write rfl s_Limpl_Value u.1 rfl (hn := .nil (zn g)))) ?_
         refine dq 21 rfl (fun _ g u h => LWo.guardY (t := 19) u.1 h15 rfl rfl (LWo.loadV1 (e_Limpl_Value y12.Row)  g_Limpl_Value u.2.1 h.1 rfl (hn := .nil (zn g)))) ?_
         refine dq 22 rfl (fun _ g u h => LWo.guardY (t := 19) u.1 h15 rfl rfl (LWo.vcall rfl (av1 u.2.1) (c_spec_RowOk _ _ e16) (.same (.nil)) (hn := .nil (zn g)))) ?_
         refine dq 23 rfl (fun _ g u h => LWo.guardY (t := 19) u.1 h15 rfl rfl (LWo.not u.2.1 (hn := .nil (zn g)))) ?_
         refine dq 24 rfl (fun _ g u h => LWo.pickFM (e_bool (!x16)) u.1 h15 u.2.1 (hn := .nil (zn g))) ?_
         refine dq 25 rfl (fun _ g u h => LWo.move (e_bool (!x16)) u.1 (hn := .nil (zn g))) ?_
         refine dq 26 rfl (fun _ g u h => LWo.guardY (t := 25) u.2.1 h17 rfl rfl (LWo.fieldPtr u_impl_Write rfl s_bool u.1 rfl (hn := .nil (zn g)))) ?_
         refine dq 27 rfl (fun _ g u h => LWo.guardY (t := 25) u.1 h17 rfl rfl (LWo.loadV1 (e_bool y12.Gone)  g_bool u.2.1 h.1 rfl (hn := .nil (zn g)))) ?_
         refine dq 28 rfl (fun _ g u h => LWo.guardY (t := 25) u.1 h17 rfl rfl (LWo.move (e_bool y12.Gone) u.2.1 (hn := .nil (zn g)))) ?_
         refine dq 29 rfl (fun _ g u h => LWo.guardNU (t := 28) u.2.1 h18 rfl rfl rfl rfl rfl (.nil (zn g))) ?_
         refine dq 30 rfl (fun _ g u h => LWo.guardNU (t := 28) u.1 h18 rfl rfl rfl rfl rfl (.nil (zn g))) ?_
         refine dq 31 rfl (fun _ g u h => LWo.guardNU (t := 28) u.1 h18 rfl rfl rfl rfl rfl (.nil (zn g))) ?_
         refine dq 32 rfl (fun _ g u h => LWo.guardNU (t := 28) u.1 h18 rfl rfl rfl rfl rfl (.nil (zn g))) ?_
         refine dq 33 rfl (fun _ g u h => LWo.guardY (t := 25) u.1 h17 rfl rfl (LWo.pickFM (e_bool false) u.2.1 h18 rfl (hn := .nil (zn g)))) ?_
         refine dq 34 rfl (fun _ g u h => LWo.pickFM (e_bool false) u.1 h17 u.2.1 (hn := .nil (zn g))) ?_
         refine dq 35 rfl (fun _ g u h => LWo.move (e_bool false) u.1 (hn := .nil (zn g))) ?_
         refine dq 36 rfl (fun _ g u h => LWo.guardY (t := 35) u.2.1 rfl rfl rfl (LWo.move (e_int t3) u.1 (hn := .nil (zn g)))) ?_
         refine dq 37 rfl (fun _ g u h => LWo.guardY (t := 35) u.1 rfl rfl rfl (LWo.int _ u.2.1 rfl rfl (hn := .nil (zn g)))) ?_
         refine dq 38 rfl (fun _ g u h => LWo.guardY (t := 35) u.1 rfl rfl rfl (LWo.move (e_bool (decide (t3 > (0 : Int)))) u.2.1 (hn := .nil (zn g)))) ?_
         refine dq 39 rfl (fun _ g u h => LWo.guardNU (t := 38) u.2.1 h23 rfl rfl rfl rfl rfl (.nil (zn g))) ?_
         refine dq 40 rfl (fun _ g u h => LWo.guardNU (t := 38) u.2.1 h23 rfl rfl rfl rfl rfl (.nil (zn g))) ?_
         refine dq 41 rfl (fun _ g u h => LWo.guardNU (t := 38) u.1 h23 rfl rfl rfl rfl rfl (.nil (zn g))) ?_
         refine dq 42 rfl (fun _ g u h => LWo.guardNU (t := 38) u.1 h23 rfl rfl rfl rfl rfl (.nil (zn g))) ?_
         refine dq 43 rfl (fun _ g u h => LWo.guardNU (t := 38) u.1 h23 rfl rfl rfl rfl rfl (.nil (zn g))) ?_
         refine dq 44 rfl (fun _ g u h => LWo.guardNU (t := 38) u.1 h23 rfl rfl rfl rfl rfl (.nil (zn g))) ?_
         refine dq 45 rfl (fun _ g u h => LWo.guardNU (t := 38) u.2.1 h23 rfl rfl rfl rfl rfl (.nil (zn g))) ?_
         refine dq 46 rfl (fun _ g u h => LWo.guardNU (t := 38) u.1 h23 rfl rfl rfl rfl rfl (.nil (zn g))) ?_
         refine dq 47 rfl (fun _ g u h => LWo.guardNU (t := 38) u.1 h23 rfl rfl rfl rfl rfl (.nil (zn g))) ?_
         refine dq 48 rfl (fun _ g u h => LWo.guardY (t := 35) u.1 rfl rfl rfl (LWo.pickFM (e_bool false) u.2.1 h23 rfl (hn := .nil (zn g)))) ?_
         refine dq 49 rfl (fun _ g u h => LWo.pickFM (e_bool false) u.1 rfl u.2.1 (hn := .nil (zn g))) ?_
         refine ⟨rfl, by kernel_rfl, hN13 (t0, t3, false) _ ⟨rfl, rfl, rfl, trivial⟩ trivial h⟩
   ·have h := bF h8 h
    refine LWP.exit (hN2 () _ trivial trivial h)

def m_spec_LogOk_j2 (t0 : (List S_impl_Entry)) : Option Bool :=
  some (decide ((t0.length : Int) ≤ (12 : Int)))
def m_spec_LogOk_j1 (k1 : (List S_impl_Entry) → Int → Option Bool) (t0 : (List S_impl_Entry)) (t3 : Int) (t43 : Bool) : Option Bool :=
  bif t43 then (some false)
  else ((ckI (t3 + (1 : Int))).bind fun x23 =>
  k1 t0 x23)
def m_spec_LogOk_l1 : Nat → (List S_impl_Entry) → Int → Option Bool
  | 0, _, _ => none
  | n1 + 1, t0, t3 =>
    bif decide (t3 < (t0.length : Int)) then ((at? t0 t3).bind fun x11 =>
    (m_spec_l1In x11.Time (1 : Int) (40 : Int)).bind fun x12 =>
    bif (!x12) then (m_spec_LogOk_j1  (m_spec_LogOk_l1  n1) t0 t3 true)
    else ((at? t0 t3).bind fun x14 =>
      (m_spec_WritesOk x14.Writes).bind fun x15 =>
      bif (!x15) then (m_spec_LogOk_j1  (m_spec_LogOk_l1  n1) t0 t3 true)
      else (bif decide (t3 > (0 : Int)) then ((ckI (t3 - (1 : Int))).bind fun x18 =>
          (at? t0 x18).bind fun x19 =>
          (at? t0 t3).bind fun x20 =>
          m_spec_LogOk_j1  (m_spec_LogOk_l1  n1) t0 t3 (decide (x19.Time ≥ x20.Time)))
        else (m_spec_LogOk_j1  (m_spec_LogOk_l1  n1) t0 t3 false))))
    else (m_spec_LogOk_j2  t0)
def m_spec_LogOk (a0 : (List S_impl_Entry)) : Option Bool :=
  m_spec_LogOk_l1  (((a0.length : Int) - (0 : Int)).toNat + 1) a0 (0 : Int)
theorem c_spec_LogOk (a0 : (List S_impl_Entry)) (r : Bool) (h : m_spec_LogOk a0 = some r) : Ret Try.prog f_spec_LogOk [e_Limpl_Entry a0] (e_bool r) := by
  refine Does.goG [] F_spec_LogOk rfl e_spec_LogOk n_spec_LogOk rfl (rvs := [.tmp 2]) rfl rfl ?_
  intro w0 ok0 lent ρ0
  refine LWP.seq_k fun N1 hN1 => ?_
  refine LWP.region (l := [_]) ?_
  refine LWo.assign (e_bool false) rfl (hn := ?_)
  refine LWo.nil (hN1 _ ?_)
  refine LWP.join (α := (List S_impl_Entry)) (fun z : (List S_impl_Entry) => [(0, (e_Limpl_Entry z))]) (fun z : (List S_impl_Entry) => []) (fun z : (List S_impl_Entry) => m_spec_LogOk_j2  z) r (fun _ => by simp [hkeys]) ?_ ?_
  ·rintro t0 h
   replace h : m_spec_LogOk_j2  t0 = some _ := h
   refine LWP.seq_k fun N24 hN24 => ?_
   refine LWP.region (l := [_,_,_,_]) ?_
   refine LWo.move (e_Limpl_Entry t0) rfl (hn := ?_)
   refine LWo.lenM (f := e_impl_Entry) (l := t0) u_Limpl_Entry rfl (hn := ?_)
   refine LWo.int _ rfl rfl rfl (hn := ?_)
   refine LWo.assign (e_bool (decide ((t0.length : Int) ≤ (12 : Int)))) rfl (hn := ?_)
   refine LWo.nil (hN24 _ ?_)
   obtain rfl := Option.some.inj h
   refine LWP.ret (QG.mk (.inr rfl) (.cons (.tmp (x := (e_bool (decide ((t0.length : Int) ≤ (12 : Int))))) rfl) (.nil)) (RetOK.one0 (.pure rfl) (by decide)) rfl rfl)
  ·intro N2 hN2
   refine LWP.seq_k fun N3 hN3 => ?_
   refine LWP.region (l := [_]) ?_
   refine LWo.assign (e_int (0 : Int)) rfl (hn := ?_)
   refine LWo.nil (hN3 _ ?_)
   refine LWP.block ?_
   refine LWP.loopM (α := (List S_impl_Entry) × Int) (fun z : (List S_impl_Entry) × Int => [(0, (e_Limpl_Entry z.1)), (3, (e_int z.2))]) (fun z : (List S_impl_Entry) × Int => []) (fun n1 (z : (List S_impl_Entry) × Int) => m_spec_LogOk_l1  n1 z.1 z.2) r _ (a0, (0 : Int)) h (fun _ => rfl) (fun _ => by simp [hkeys]) ⟨rfl, rfl, trivial⟩ trivial ?_
   rintro n1 ⟨t0, t3⟩ h N4 hN4
   replace h : m_spec_LogOk_l1  (n1 + 1) t0 t3 = some _ := h
   refine LWP.seq_k fun N6 hN6 => ?_
   refine LWP.seq_k fun N7 hN7 => ?_
   refine LWP.region (l := [_,_,_,_]) ?_
   refine LWo.move (e_int t3) rfl (hn := ?_)
   refine LWo.move (e_Limpl_Entry t0) rfl (hn := ?_)
   refine LWo.lenM (f := e_impl_Entry) (l := t0) u_Limpl_Entry rfl (hn := ?_)
   refine LWo.int _ rfl rfl rfl (hn := ?_)
   refine LWo.nil (hN7 _ ?_)
   refine LWP.cond_split rfl (fun h8 => ?_) (fun h8 => ?_)
   ·have h := bT h8 h
    refine LWP.skip (hN6 _ ?_)
    refine LWP.seq_k fun N9 hN9 => ?_
    refine LWP.block ?_
    refine LWP.join (α := (List S_impl_Entry) × Int × Bool) (fun z : (List S_impl_Entry) × Int × Bool => [(0, (e_Limpl_Entry z.1)), (3, (e_int z.2.1)), (43, (e_bool z.2.2))]) (fun z : (List S_impl_Entry) × Int × Bool => []) (fun z : (List S_impl_Entry) × Int × Bool => m_spec_LogOk_j1  (m_spec_LogOk_l1  n1) z.1 z.2.1 z.2.2) r (fun _ => by simp [hkeys]) ?_ ?_
    ·rintro ⟨t0, t3, t43⟩ h
     replace h : m_spec_LogOk_j1  (m_spec_LogOk_l1  n1) t0 t3 t43 = some _ := h
     refine LWP.cond_split rfl (fun h21 => ?_) (fun h21 => ?_)
     ·have h := bT h21 h
      refine LWP.seq_k fun N22 hN22 => ?_
      refine LWP.region (l := [_]) ?_
      refine LWo.assign (e_bool false) rfl (hn := ?_)
      refine LWo.nil (hN22 _ ?_)
      obtain rfl := Option.some.inj h
      refine LWP.ret (QG.mk (.inr rfl) (.cons (.tmp (x := (e_bool false)) rfl) (.nil)) (RetOK.one0 (.pure rfl) (by decide)) rfl rfl)
     ·have h := bF h21 h
      refine LWP.skip (hN9 _ ?_)
      refine LWP.region (l := [_,_,_]) ?_
      refine LWo.move (e_int t3) rfl (hn := ?_)
      refine bk h fun x23 e23 h => ?_
      refine LWo.int _ rfl rfl (add_ck e23) (hn := ?_)
      refine LWo.assign (e_int x23) rfl (hn := ?_)
      refine LWo.nil (hN4 (t0, x23) _ ⟨rfl, rfl, trivial⟩ trivial h)
    ·intro N10 hN10
     refine bk h fun x11 e11 h => ?_
     refine bk h fun x12 e12 h => ?_
     refine bS ((!x12)) (fun h13 => ?_) (fun h13 => ?_)
     ·have h := bT h13 h
      refine LWP.drawF (l := [_,_,_,_,_,_,_,_,_,_,_,_,_,_,_,_,_,_,_,_,_,_,_,_,_,_,_,_,_,_,_,_,_,_]) [] [0, 3] [([0], []), ([3], []), ([10, 11], []), ([12], []), ([13], []), ([14], []), ([15], []), ([16], []), ([0, 17], []), ([3, 17], []), ([17, 18, 19], []), ([17, 20], []), ([17, 21], []), ([17, 22], []), ([17, 23], []), ([17, 24], []), ([25], []), ([3, 26], []), ([26, 27], []), ([26, 28], []), ([0, 29], []), ([3, 29], []), ([29, 31], []), ([29, 30, 32], []), ([29, 33], []), ([29, 34], []), ([0, 29], []), ([3, 29], []), ([29, 36, 37], []), ([29, 38], []), ([29, 39], []), ([29, 35, 40], []), ([26, 29, 41], []), ([26, 42], [])] [0, 3, 43] [] mixed (by kernel_rfl) rfl (by decide) ?_
      refine dq 10 rfl (fun _ g u h => LWo.move (e_Limpl_Entry t0) u.1 (hn := .nil (zn g))) ?_
      refine dq 11 rfl (fun _ g u h => LWo.move (e_int t3) u.1 (hn := .nil (zn g))) ?_
      refine dq 12 rfl (fun _ g u h => LWo.indexM (f := e_impl_Entry) e11 u_Limpl_Entry s_impl_Entry u.1 u.2.1 (hn := .nil (zn g))) ?_
      refine dq 13 rfl (fun _ g u h => LWo.fieldAddr _ u_impl_Entry rfl s_int u.1 rfl (hn := .nil (zn g))) ?_
      refine dq 14 rfl (fun _ g u h => LWo.load1 (c := (e_int x11.Time)) g_int u.1 (hn := .nil (zn g))) ?_
      refine dq 15 rfl (fun _ g u h => LWo.vcall rfl (av3 u.1 rfl rfl) (c_spec_l1In _ _ _ _ e12) (.same (.same (.same (.nil)))) (hn := .nil (zn g))) ?_
      refine dq 16 rfl (fun _ g u h => LWo.not u.1 (hn := .nil (zn g))) ?_
      refine dq 17 rfl (fun _ g u h => LWo.move (e_bool (!x12)) u.1 (hn := .nil (zn g))) ?_
      refine dq 18 rfl (fun _ g u h => LWo.guardNU (t := 17) u.2.1 h13 rfl rfl rfl rfl rfl (.nil (zn g))) ?_
      refine dq 19 rfl (fun _ g u h => LWo.guardNU (t := 17) u.2.1 h13 rfl rfl rfl rfl rfl (.nil (zn g))) ?_
      refine dq 20 rfl (fun _ g u h => LWo.guardNU (t := 17) u.1 h13 rfl rfl rfl rfl rfl (.nil (zn g))) ?_
      refine dq 21 rfl (fun _ g u h => LWo.guardNU (t := 17) u.1 h13 rfl rfl rfl rfl rfl (.nil (zn g))) ?_
      refine dq 22 rfl (fun _ g u h => LWo.guardNU (t := 17) u.1 h13 rfl rfl rfl rfl rfl (.nil (zn g))) ?_
      refine dq 23 rfl (fun _ g u h => LWo.guardNU (t := 17) u.1 h13 rfl rfl rfl rfl rfl (.nil (zn g))) ?_
      refine dq 24 rfl (fun _ g u h => LWo.guardNU (t := 17) u.1 h13 rfl rfl rfl rfl rfl (.nil (zn g))) ?_
      refine dq 25 rfl (fun _ g u h => LWo.pickTM (e_bool true) u.1 h13 rfl (hn := .nil (zn g))) ?_
      refine dq 26 rfl (fun _ g u h => LWo.move (e_bool true) u.1 (hn := .nil (zn g))) ?_
      refine dq 27 rfl (fun _ g u h => LWo.guardNU (t := 26) u.2.1 rfl rfl rfl rfl rfl rfl (.nil (zn g))) ?_
      refine dq 28 rfl (fun _ g u h => LWo.guardNU (t := 26) u.1 rfl rfl rfl rfl rfl rfl (.nil (zn g))) ?_
      refine dq 29 rfl (fun _ g u h => LWo.guardNU (t := 26) u.1 rfl rfl rfl rfl rfl rfl (.nil (zn g))) ?_
      refine dq 30 rfl (fun _ g u h => LWo.guardU (t := 29) u.2.1 rfl rfl rfl rfl (.nil (zn g))) ?_
      refine dq 31 rfl (fun _ g u h => LWo.guardU (t := 29) u.2.1 rfl rfl rfl rfl (.nil (zn g))) ?_
      refine dq 32 rfl (fun _ g u h => LWo.guardU (t := 29) u.1 rfl rfl rfl rfl (.nil (zn g))) ?_
      refine dq 33 rfl (fun _ g u h => LWo.guardU (t := 29) u.1 rfl rfl rfl rfl (.nil (zn g))) ?_
      refine dq 34 rfl (fun _ g u h => LWo.guardU (t := 29) u.1 rfl rfl rfl rfl (.nil (zn g))) ?_
      refine dq 35 rfl (fun _ g u h => LWo.guardU (t := 29) u.1 rfl rfl rfl rfl (.nil (zn g))) ?_
      refine dq 36 rfl (fun _ g u h => LWo.guardU (t := 29) u.2.1 rfl rfl rfl rfl (.nil (zn g))) ?_
      refine dq 37 rfl (fun _ g u h => LWo.guardU (t := 29) u.2.1 rfl rfl rfl rfl (.nil (zn g))) ?_
      refine dq 38 rfl (fun _ g u h => LWo.guardU (t := 29) u.1 rfl rfl rfl rfl (.nil (zn g))) ?_
      refine dq 39 rfl (fun _ g u h => LWo.guardU (t := 29) u.1 rfl rfl rfl rfl (.nil (zn g))) ?_
      refine dq 40 rfl (fun _ g u h => LWo.guardU (t := 29) u.1 rfl rfl rfl rfl (.nil (zn g))) ?_
      refine dq 41 rfl (fun _ g u h => LWo.guardU (t := 29) u.1 rfl rfl rfl rfl (.nil (zn g))) ?_
      refine dq 42 rfl (fun _ g u h => LWo.guardNU (t := 26) u.1 rfl rfl rfl rfl rfl rfl (.nil (zn g))) ?_
      refine dq 43 rfl (fun _ g u h => LWo.pickTM (e_bool true) u.1 rfl rfl (hn := .nil (zn g))) ?_
      refine ⟨rfl, by kernel_rfl, hN10 (t0, t3, true) _ ⟨rfl, rfl, rfl, trivial⟩ trivial h⟩
     ·have h := bF h13 h
      refine bk h fun x14 e14 h => ?_
      refine bk h fun x15 e15 h => ?_
      refine bS ((!x15)) (fun h16 => ?_) (fun h16 => ?_)
      ·have h := bT h16 h
       refine LWP.drawF (l := [_,_,_,_,_,_,_,_,_,_,_,_,_,_,_,_,_,_,_,_,_,_,_,_,_,_,_,_,_,_,_,_,_,_]) [] [0, 3] [([0], []), ([3], []), ([10, 11], []), ([12], []), ([13], []), ([14], []), ([15], []), ([16], []), ([0, 17], []), ([3, 17], []), ([17, 18, 19], []), ([17, 20], []), ([17, 21], []), ([17, 22], []), ([17, 23], []), ([17, 24], []), ([25], []), ([3, 26], []), ([26, 27], []), ([26, 28], []), ([0, 29], []), ([3, 29], []), ([29, 31], []), ([29, 30, 32], []), ([29, 33], []), ([29, 34], []), ([0, 29], []), ([3, 29], []), ([29, 36, 37], []), ([29, 38], []), ([29, 39], []), ([29, 35, 40], []), ([26, 29, 41], []), ([26, 42], [])] [0, 3, 43] [] mixed (by kernel_rfl) rfl (by decide) ?_
       refine dq 10 rfl (fun _ g u h => LWo.move (e_Limpl_Entry t0) u.1 (hn := .nil (zn g))) ?_
       refine dq 11 rfl (fun _ g u h => LWo.move (e_int t3) u.1 (hn := .nil (zn g))) ?_
       refine dq 12 rfl (fun _ g u h => LWo.indexM (f := e_impl_Entry) e11 u_Limpl_Entry s_impl_Entry u.1 u.2.1 (hn := .nil (zn g))) ?_
       refine dq 13 rfl (fun _ g u h => LWo.fieldAddr _ u_impl_Entry rfl s_int u.1 rfl (hn := .nil (zn g))) ?_
       refine dq 14 rfl (fun _ g u h => LWo.load1 (c := (e_int x11.Time)) g_int u.1 (hn := .nil (zn g))) ?_
       refine dq 15 rfl (fun _ g u h => LWo.vcall rfl (av3 u.1 rfl rfl) (c_spec_l1In _ _ _ _ e12) (.same (.same (.same (.nil)))) (hn := .nil (zn g))) ?_
       refine dq 16 rfl (fun _ g u h => LWo.not u.1 (hn := .nil (zn g))) ?_
       refine dq 17 rfl (fun _ g u h => LWo.move (e_bool (!x12)) u.1 (hn := .nil (zn g))) ?_
       refine dq 18 rfl (fun _ g u h => LWo.guardY (t := 17) u.2.1 h13 rfl rfl (LWo.move (e_Limpl_Entry t0) u.1 (hn := .nil (zn g)))) ?_
       refine dq 19 rfl (fun _ g u h => LWo.guardY (t := 17) u.2.1 h13 rfl rfl (LWo.move (e_int t3) u.1 (hn := .nil (zn g)))) ?_
       refine dq 20 rfl (fun _ g u h => LWo.guardY (t := 17) u.1 h13 rfl rfl (LWo.indexM (f := e_impl_Entry) e14 u_Limpl_Entry s_impl_Entry u.2.1 u.2.2.1 (hn := .nil (zn g)))) ?_
       refine dq 21 rfl (fun _ g u h => LWo.guardY (t := 17) u.1 h13 rfl rfl (LWo.fieldAddr _ u_impl_Entry rfl s_Limpl_Write u.2.1 rfl (hn := .nil (zn g)))) ?_
       refine dq 22 rfl (fun _ g u h => LWo.guardY (t := 17) u.1 h13 rfl rfl (LWo.load1 (c := (e_Limpl_Write x14.Writes)) g_Limpl_Write u.2.1 (hn := .nil (zn g)))) ?_
       refine dq 23 rfl (fun _ g u h => LWo.guardY (t := 17) u.1 h13 rfl rfl (LWo.vcall rfl (av1 u.2.1) (c_spec_WritesOk _ _ e15) (.same (.nil)) (hn := .nil (zn g)))) ?_
       refine dq 24 rfl (fun _ g u h => LWo.guardY (t := 17) u.1 h13 rfl rfl (LWo.not u.2.1 (hn := .nil (zn g)))) ?_
       refine dq 25 rfl (fun _ g u h => LWo.pickFM (e_bool (!x15)) u.1 h13 u.2.1 (hn := .nil (zn g))) ?_
       refine dq 26 rfl (fun _ g u h => LWo.move (e_bool (!x15)) u.1 (hn := .nil (zn g))) ?_
       refine dq 27 rfl (fun _ g u h => LWo.guardNU (t := 26) u.2.1 h16 rfl rfl rfl rfl rfl (.nil (zn g))) ?_
       refine dq 28 rfl (fun _ g u h => LWo.guardNU (t := 26) u.1 h16 rfl rfl rfl rfl rfl (.nil (zn g))) ?_
       refine dq 29 rfl (fun _ g u h => LWo.guardNU (t := 26) u.1 h16 rfl rfl rfl rfl rfl (.nil (zn g))) ?_
       refine dq 30 rfl (fun _ g u h => LWo.guardU (t := 29) u.2.1 rfl rfl rfl rfl (.nil (zn g))) ?_
       refine dq 31 rfl (fun _ g u h => LWo.guardU (t := 29) u.2.1 rfl rfl rfl rfl (.nil (zn g))) ?_
       refine dq 32 rfl (fun _ g u h => LWo.guardU (t := 29) u.1 rfl rfl rfl rfl (.nil (zn g))) ?_
       refine dq 33 rfl (fun _ g u h => LWo.guardU (t := 29) u.1 rfl rfl rfl rfl (.nil (zn g))) ?_
       refine dq 34 rfl (fun _ g u h => LWo.guardU (t := 29) u.1 rfl rfl rfl rfl (.nil (zn g))) ?_
       refine dq 35 rfl (fun _ g u h => LWo.guardU (t := 29) u.1 rfl rfl rfl rfl (.nil (zn g))) ?_
       refine dq 36 rfl (fun _ g u h => LWo.guardU (t := 29) u.2.1 rfl rfl rfl rfl (.nil (zn g))) ?_
       refine dq 37 rfl (fun _ g u h => LWo.guardU (t := 29) u.2.1 rfl rfl rfl rfl (.nil (zn g))) ?_
       refine dq 38 rfl (fun _ g u h => LWo.guardU (t := 29) u.1 rfl rfl rfl rfl (.nil (zn g))) ?_
       refine dq 39 rfl (fun _ g u h => LWo.guardU (t := 29) u.1 rfl rfl rfl rfl (.nil (zn g))) ?_
       refine dq 40 rfl (fun _ g u h => LWo.guardU (t := 29) u.1 rfl rfl rfl rfl (.nil (zn g))) ?_
       refine dq 41 rfl (fun _ g u h => LWo.guardU (t := 29) u.1 rfl rfl rfl rfl (.nil (zn g))) ?_
       refine dq 42 rfl (fun _ g u h => LWo.guardNU (t := 26) u.1 h16 rfl rfl rfl rfl rfl (.nil (zn g))) ?_
       refine dq 43 rfl (fun _ g u h => LWo.pickTM (e_bool true) u.1 h16 rfl (hn := .nil (zn g))) ?_
       refine ⟨rfl, by kernel_rfl, hN10 (t0, t3, true) _ ⟨rfl, rfl, rfl, trivial⟩ trivial h⟩
      ·have h := bF h16 h
       refine bS (decide (t3 > (0 : Int))) (fun h17 => ?_) (fun h17 => ?_)
       ·have h := bT h17 h
        refine bk h fun x18 e18 h => ?_
        refine bk h fun x19 e19 h => ?_
        refine bk h fun x20 e20 h => ?_
        refine LWP.drawF (l := [_,_,_,_,_,_,_,_,_,_,_,_,_,_,_,_,_,_,_,_,_,_,_,_,_,_,_,_,_,_,_,_,_,_]) [] [0, 3] [([0], []), ([3], []), ([10, 11], []), ([12], []), ([13], []), ([14], []), ([15], []), ([16], []), ([0, 17], []), ([3, 17], []), ([17, 18, 19], []), ([17, 20], []), ([17, 21], []), ([17, 22], []), ([17, 23], []), ([17, 24], []), ([25], []), ([3, 26], []), ([26, 27], []), ([26, 28], []), ([0, 29], []), ([3, 29], []), ([29, 31], []), ([29, 30, 32], []), ([29, 33], []), ([29, 34], []), ([0, 29], []), ([3, 29], []), ([29, 36, 37], []), ([29, 38], []), ([29, 39], []), ([29, 35, 40], []), ([26, 29, 41], []), ([26, 42], [])] [0, 3, 43] [] mixed (by kernel_rfl) rfl (by decide) ?_
        refine dq 10 rfl (fun _ g u h => LWo.move (e_Limpl_Entry t0) u.1 (hn := .nil (zn g))) ?_
        refine dq 11 rfl (fun _ g u h => LWo.move (e_int t3) u.1 (hn := .nil (zn g))) ?_
        refine dq 12 rfl (fun _ g u h => LWo.indexM (f := e_impl_Entry) e11 u_Limpl_Entry s_impl_Entry u.1 u.2.1 (hn := .nil (zn g))) ?_
        refine dq 13 rfl (fun _ g u h => LWo.fieldAddr _ u_impl_Entry rfl s_int u.1 rfl (hn := .nil (zn g))) ?_
        refine dq 14 rfl (fun _ g u h => LWo.load1 (c := (e_int x11.Time)) g_int u.1 (hn := .nil (zn g))) ?_
        refine dq 15 rfl (fun _ g u h => LWo.vcall rfl (av3 u.1 rfl rfl) (c_spec_l1In _ _ _ _ e12) (.same (.same (.same (.nil)))) (hn := .nil (zn g))) ?_
        refine dq 16 rfl (fun _ g u h => LWo.not u.1 (hn := .nil (zn g))) ?_
        refine dq 17 rfl (fun _ g u h => LWo.move (e_bool (!x12)) u.1 (hn := .nil (zn g))) ?_
        refine dq 18 rfl (fun _ g u h => LWo.guardY (t := 17) u.2.1 h13 rfl rfl (LWo.move (e_Limpl_Entry t0) u.1 (hn := .nil (zn g)))) ?_
        refine dq 19 rfl (fun _ g u h => LWo.guardY (t := 17) u.2.1 h13 rfl rfl (LWo.move (e_int t3) u.1 (hn := .nil (zn g)))) ?_
        refine dq 20 rfl (fun _ g u h => LWo.guardY (t := 17) u.1 h13 rfl rfl (LWo.indexM (f := e_impl_Entry) e14 u_Limpl_Entry s_impl_Entry u.2.1 u.2.2.1 (hn := .nil (zn g)))) ?_
        refine dq 21 rfl (fun _ g u h => LWo.guardY (t := 17) u.1 h13 rfl rfl (LWo.fieldAddr _ u_impl_Entry rfl s_Limpl_Write u.2.1 rfl (hn := .nil (zn g)))) ?_
        refine dq 22 rfl (fun _ g u h => LWo.guardY (t := 17) u.1 h13 rfl rfl (LWo.load1 (c := (e_Limpl_Write x14.Writes)) g_Limpl_Write u.2.1 (hn := .nil (zn g)))) ?_
        refine dq 23 rfl (fun _ g u h => LWo.guardY (t := 17) u.1 h13 rfl rfl (LWo.vcall rfl (av1 u.2.1) (c_spec_WritesOk _ _ e15) (.same (.nil)) (hn := .nil (zn g)))) ?_
        refine dq 24 rfl (fun _ g u h => LWo.guardY (t := 17) u.1 h13 rfl rfl (LWo.not u.2.1 (hn := .nil (zn g)))) ?_
        refine dq 25 rfl (fun _ g u h => LWo.pickFM (e_bool (!x15)) u.1 h13 u.2.1 (hn := .nil (zn g))) ?_
        refine dq 26 rfl (fun _ g u h => LWo.move (e_bool (!x15)) u.1 (hn := .nil (zn g))) ?_
        refine dq 27 rfl (fun _ g u h => LWo.guardY (t := 26) u.2.1 h16 rfl rfl (LWo.move (e_int t3) u.1 (hn := .nil (zn g)))) ?_
        refine dq 28 rfl (fun _ g u h => LWo.guardY (t := 26) u.1 h16 rfl rfl (LWo.int _ u.2.1 rfl rfl (hn := .nil (zn g)))) ?_
        refine dq 29 rfl (fun _ g u h => LWo.guardY (t := 26) u.1 h16 rfl rfl (LWo.move (e_bool (decide (t3 > (0 : Int)))) u.2.1 (hn := .nil (zn g)))) ?_
        refine dq 30 rfl (fun _ g u h => LWo.guardY (t := 29) u.2.1 h17 rfl rfl (LWo.move (e_Limpl_Entry t0) u.1 (hn := .nil (zn g)))) ?_
        refine dq 31 rfl (fun _ g u h => LWo.guardY (t := 29) u.2.1 h17 rfl rfl (LWo.move (e_int t3) u.1 (hn := .nil (zn g)))) ?_
        refine dq 32 rfl (fun _ g u h => LWo.guardY (t := 29) u.1 h17 rfl rfl (LWo.int _ u.2.1 rfl (sub_ck e18) (hn := .nil (zn g)))) ?_
        refine dq 33 rfl (fun _ g u h => LWo.guardY (t := 29) u.1 h17 rfl rfl (LWo.indexM (f := e_impl_Entry) e19 u_Limpl_Entry s_impl_Entry u.2.1 u.2.2.1 (hn := .nil (zn g)))) ?_
        refine dq 34 rfl (fun _ g u h => LWo.guardY (t := 29) u.1 h17 rfl rfl (LWo.fieldAddr _ u_impl_Entry rfl s_int u.2.1 rfl (hn := .nil (zn g)))) ?_
        refine dq 35 rfl (fun _ g u h => LWo.guardY (t := 29) u.1 h17 rfl rfl (LWo.load1 (c := (e_int x19.Time)) g_int u.2.1 (hn := .nil (zn g)))) ?_
        refine dq 36 rfl (fun _ g u h => LWo.guardY (t := 29) u.2.1 h17 rfl rfl (LWo.move (e_Limpl_Entry t0) u.1 (hn := .nil (zn g)))) ?_
        refine dq 37 rfl (fun _ g u h => LWo.guardY (t := 29) u.2.1 h17 rfl rfl (LWo.move (e_int t3) u.1 (hn := .nil (zn g)))) ?_
        refine dq 38 rfl (fun _ g u h => LWo.guardY (t := 29) u.1 h17 rfl rfl (LWo.indexM (f := e_impl_Entry) e20 u_Limpl_Entry s_impl_Entry u.2.1 u.2.2.1 (hn := .nil (zn g)))) ?_
        refine dq 39 rfl (fun _ g u h => LWo.guardY (t := 29) u.1 h17 rfl rfl (LWo.fieldAddr _ u_impl_Entry rfl s_int u.2.1 rfl (hn := .nil (zn g)))) ?_
        refine dq 40 rfl (fun _ g u h => LWo.guardY (t := 29) u.1 h17 rfl rfl (LWo.load1 (c := (e_int x20.Time)) g_int u.2.1 (hn := .nil (zn g)))) ?_
        refine dq 41 rfl (fun _ g u h => LWo.guardY (t := 29) u.1 h17 rfl rfl (LWo.int _ u.2.1 u.2.2.1 rfl (hn := .nil (zn g)))) ?_
        refine dq 42 rfl (fun _ g u h => LWo.guardY (t := 26) u.1 h16 rfl rfl (LWo.pickTM (e_bool (decide (x19.Time ≥ x20.Time))) u.2.1 h17 u.2.2.1 (hn := .nil (zn g)))) ?_
        refine dq 43 rfl (fun _ g u h => LWo.pickFM (e_bool (decide (x19.Time ≥ x20.Time))) u.1 h16 u.2.1 (hn := .nil (zn g))) ?_
        refine ⟨rfl, by kernel_rfl, hN10 (t0, t3, decide (x19.Time ≥ x20.Time)) _ ⟨rfl, rfl, rfl, trivial⟩ trivial h⟩
       ·have h := bF h17 h
        refine LWP.drawF (l := [_,_,_,_,_,_,_,_,_,_,_,_,_,_,_,_,_,_,_,_,_,_,_,_,_,_,_,_,_,_,_,_,_,_]) [] [0, 3] [([0], []), ([3], []), ([10, 11], []), ([12], []), ([13], []), ([14], []), ([15], []), ([16], []), ([0, 17], []), ([3, 17], []), ([17, 18, 19], []), ([17, 20], []), ([17, 21], []), ([17, 22], []), ([17, 23], []), ([17, 24], []), ([25], []), ([3, 26], []), ([26, 27], []), ([26, 28], []), ([0, 29], []), ([3, 29], []), ([29, 31], []), ([29, 30, 32], []), ([29, 33], []), ([29, 34], []), ([0, 29], []), ([3, 29], []), ([29, 36, 37], []), ([29, 38], []), ([29, 39], []), ([29, 35, 40], []), ([26, 29, 41], []), ([26, 42], [])] [0, 3, 43] [] mixed (by kernel_rfl) rfl (by decide) ?_
        refine dq 10 rfl (fun _ g u h => LWo.move (e_Limpl_Entry t0) u.1 (hn := .nil (zn g))) ?_
        refine dq 11 rfl (fun _ g u h => LWo.move (e_int t3) u.1 (hn := .nil (zn g))) ?_
        refine dq 12 rfl (fun _ g u h => LWo.indexM (f := e_impl_Entry) e11 u_Limpl_Entry s_impl_Entry u.1 u.2.1 (hn := .nil (zn g))) ?_
        refine dq 13 rfl (fun _ g u h => LWo.fieldAddr _ u_impl_Entry rfl s_int u.1 rfl (hn := .nil (zn g))) ?_
        refine dq 14 rfl (fun _ g u h => LWo.load1 (c := (e_int x11.Time)) g_int u.1 (hn := .nil (zn g))) ?_
        refine dq 15 rfl (fun _ g u h => LWo.vcall rfl (av3 u.1 rfl rfl) (c_spec_l1In _ _ _ _ e12) (.same (.same (.same (.nil)))) (hn := .nil (zn g))) ?_
        refine dq 16 rfl (fun _ g u h => LWo.not u.1 (hn := .nil (zn g))) ?_
        refine dq 17 rfl (fun _ g u h => LWo.move (e_bool (!x12)) u.1 (hn := .nil (zn g))) ?_
        refine dq 18 rfl (fun _ g u h => LWo.guardY (t := 17) u.2.1 h13 rfl rfl (LWo.move (e_Limpl_Entry t0) u.1 (hn := .nil (zn g)))) ?_
        refine dq 19 rfl (fun _ g u h => LWo.guardY (t := 17) u.2.1 h13 rfl rfl (LWo.move (e_int t3) u.1 (hn := .nil (zn g)))) ?_
        refine dq 20 rfl (fun _ g u h => LWo.guardY (t := 17) u.1 h13 rfl rfl (LWo.indexM (f := e_impl_Entry) e14 u_Limpl_Entry s_impl_Entry u.2.1 u.2.2.1 (hn := .nil (zn g)))) ?_
        refine dq 21 rfl (fun _ g u h => LWo.guardY (t := 17) u.1 h13 rfl rfl (LWo.fieldAddr _ u_impl_Entry rfl s_Limpl_Write u.2.1 rfl (hn := .nil (zn g)))) ?_
        refine dq 22 rfl (fun _ g u h => LWo.guardY (t := 17) u.1 h13 rfl rfl (LWo.load1 (c := (e_Limpl_Write x14.Writes)) g_Limpl_Write u.2.1 (hn := .nil (zn g)))) ?_
        refine dq 23 rfl (fun _ g u h => LWo.guardY (t := 17) u.1 h13 rfl rfl (LWo.vcall rfl (av1 u.2.1) (c_spec_WritesOk _ _ e15) (.same (.nil)) (hn := .nil (zn g)))) ?_
        refine dq 24 rfl (fun _ g u h => LWo.guardY (t := 17) u.1 h13 rfl rfl (LWo.not u.2.1 (hn := .nil (zn g)))) ?_
        refine dq 25 rfl (fun _ g u h => LWo.pickFM (e_bool (!x15)) u.1 h13 u.2.1 (hn := .nil (zn g))) ?_
        refine dq 26 rfl (fun _ g u h => LWo.move (e_bool (!x15)) u.1 (hn := .nil (zn g))) ?_
        refine dq 27 rfl (fun _ g u h => LWo.guardY (t := 26) u.2.1 h16 rfl rfl (LWo.move (e_int t3) u.1 (hn := .nil (zn g)))) ?_
        refine dq 28 rfl (fun _ g u h => LWo.guardY (t := 26) u.1 h16 rfl rfl (LWo.int _ u.2.1 rfl rfl (hn := .nil (zn g)))) ?_
        refine dq 29 rfl (fun _ g u h => LWo.guardY (t := 26) u.1 h16 rfl rfl (LWo.move (e_bool (decide (t3 > (0 : Int)))) u.2.1 (hn := .nil (zn g)))) ?_
        refine dq 30 rfl (fun _ g u h => LWo.guardNU (t := 29) u.2.1 h17 rfl rfl rfl rfl rfl (.nil (zn g))) ?_
        refine dq 31 rfl (fun _ g u h => LWo.guardNU (t := 29) u.2.1 h17 rfl rfl rfl rfl rfl (.nil (zn g))) ?_
        refine dq 32 rfl (fun _ g u h => LWo.guardNU (t := 29) u.1 h17 rfl rfl rfl rfl rfl (.nil (zn g))) ?_
        refine dq 33 rfl (fun _ g u h => LWo.guardNU (t := 29) u.1 h17 rfl rfl rfl rfl rfl (.nil (zn g))) ?_
        refine dq 34 rfl (fun _ g u h => LWo.guardNU (t := 29) u.1 h17 rfl rfl rfl rfl rfl (.nil (zn g))) ?_
        refine dq 35 rfl (fun _ g u h => LWo.guardNU (t := 29) u.1 h17 rfl rfl rfl rfl rfl (.nil (zn g))) ?_
        refine dq 36 rfl (fun _ g u h => LWo.guardNU (t := 29) u.2.1 h17 rfl rfl rfl rfl rfl (.nil (zn g))) ?_
        refine dq 37 rfl (fun _ g u h => LWo.guardNU (t := 29) u.2.1 h17 rfl rfl rfl rfl rfl (.nil (zn g))) ?_
        refine dq 38 rfl (fun _ g u h => LWo.guardNU (t := 29) u.1 h17 rfl rfl rfl rfl rfl (.nil (zn g))) ?_
        refine dq 39 rfl (fun _ g u h => LWo.guardNU (t := 29) u.1 h17 rfl rfl rfl rfl rfl (.nil (zn g))) ?_
        refine dq 40 rfl (fun _ g u h => LWo.guardNU (t := 29) u.1 h17 rfl rfl rfl rfl rfl (.nil (zn g))) ?_
        refine dq 41 rfl (fun _ g u h => LWo.guardNU (t := 29) u.1 h17 rfl rfl rfl rfl rfl (.nil (zn g))) ?_
        refine dq 42 rfl (fun _ g u h => LWo.guardY (t := 26) u.1 h16 rfl rfl (LWo.pickFM (e_bool false) u.2.1 h17 rfl (hn := .nil (zn g)))) ?_
        refine dq 43 rfl (fun _ g u h => LWo.pickFM (e_bool false) u.1 h16 u.2.1 (hn := .nil (zn g))) ?_
        refine ⟨rfl, by kernel_rfl, hN10 (t0, t3, false) _ ⟨rfl, rfl, rfl, trivial⟩ trivial h⟩
   ·have h := bF h8 h
    refine LWP.exit (hN2 t0 _ ⟨rfl, trivial⟩ trivial h)

def m_spec_l2Bool (a0 : Bool) : Option Int :=
  bif a0 then (some (1 : Int))
  else (some (0 : Int))
theorem c_spec_l2Bool (a0 : Bool) (r : Int) (h : m_spec_l2Bool a0 = some r) : Ret Try.prog f_spec_l2Bool [e_bool a0] (e_int r) := by
  refine Does.goG [] F_spec_l2Bool rfl e_spec_l2Bool n_spec_l2Bool rfl (rvs := [.tmp 2]) rfl rfl ?_
  intro w0 ok0 lent ρ0
  refine LWP.seq_k fun N1 hN1 => ?_
  refine LWP.region (l := [_]) ?_
  refine LWo.assign (e_int (0 : Int)) rfl (hn := ?_)
  refine LWo.nil (hN1 _ ?_)
  refine LWP.seq_k fun N2 hN2 => ?_
  refine LWP.seq_k fun N3 hN3 => ?_
  refine LWP.region (l := [_]) ?_
  refine LWo.move (e_bool a0) rfl (hn := ?_)
  refine LWo.nil (hN3 _ ?_)
  refine LWP.cond_split rfl (fun h4 => ?_) (fun h4 => ?_)
  ·have h := bT h4 h
   refine LWP.seq_k fun N5 hN5 => ?_
   refine LWP.region (l := [_]) ?_
   refine LWo.assign (e_int (1 : Int)) rfl (hn := ?_)
   refine LWo.nil (hN5 _ ?_)
   obtain rfl := Option.some.inj h
   refine LWP.ret (QG.mk (.inr rfl) (.cons (.tmp (x := (e_int (1 : Int))) rfl) (.nil)) (RetOK.one0 (.pure rfl) (by decide)) rfl rfl)
  ·have h := bF h4 h
   refine LWP.skip (hN2 _ ?_)
   refine LWP.seq_k fun N6 hN6 => ?_
   refine LWP.region (l := [_]) ?_
   refine LWo.assign (e_int (0 : Int)) rfl (hn := ?_)
   refine LWo.nil (hN6 _ ?_)
   obtain rfl := Option.some.inj h
   refine LWP.ret (QG.mk (.inr rfl) (.cons (.tmp (x := (e_int (0 : Int))) rfl) (.nil)) (RetOK.one0 (.pure rfl) (by decide)) rfl rfl)

def m_spec_ValueBytes_j1 (o1011 : (List UInt8)) : Option (List UInt8) :=
  some o1011
def m_spec_ValueBytes (a0 : S_impl_Value) : Option (List UInt8) :=
  (m_spec_ValueOk a0).bind fun x4 =>
  bif (!x4) then (some ([] : (List UInt8)))
  else (lt (([(Lift.byteOf a0.Kind)] : (List UInt8))) fun y8 =>
  bif (a0.Kind == (1 : Int)) then ((ckI (a0.N + (10000 : Int))).bind fun x13 =>
    (quoI x13 (256 : Int)).bind fun x14 =>
    (ckI (a0.N + (10000 : Int))).bind fun x15 =>
    (remI x15 (256 : Int)).bind fun x16 =>
    (app? y8 ([(Lift.byteOf x14), (Lift.byteOf x16)] : (List UInt8))).bind fun x17 =>
    m_spec_ValueBytes_j1  x17)
  else (bif (a0.Kind == (2 : Int)) then ((app? y8 ([(Lift.byteOf (a0.S.size : Int))] : (List UInt8))).bind fun x20 =>
      (sBytes? a0.S).bind fun x21 =>
      (app? x20 x21).bind fun x22 =>
      m_spec_ValueBytes_j1  x22)
    else (bif (a0.Kind == (3 : Int)) then ((app? y8 ([(Lift.byteOf a0.N)] : (List UInt8))).bind fun x25 =>
        m_spec_ValueBytes_j1  x25)
      else (m_spec_ValueBytes_j1  y8))))
theorem c_spec_ValueBytes (a0 : S_impl_Value) (r : (List UInt8)) (h : m_spec_ValueBytes a0 = some r) : Ret Try.prog f_spec_ValueBytes [e_impl_Value a0] (.nw 1 (r.map e_uint8) false) := by
  refine Does.goG [] F_spec_ValueBytes rfl e_spec_ValueBytes n_spec_ValueBytes rfl (rvs := [.tmp 2]) rfl rfl ?_
  intro w0 ok0 lent ρ0
  refine LWP.seq_k fun N1 hN1 => ?_
  refine LWP.region (l := [_,_]) ?_
  refine LWo.boxF (e_impl_Value a0) rfl rfl rfl (hn := ?_)
  refine LWo.assign _ rfl (hn := ?_)
  refine LWo.ownNil 2 1002 1 rfl rfl rfl ?_
  refine LWo.known 2 (.own 1002 0 ([] : (List UInt8)).length) rfl ?_
  refine LWo.nil (hN1 _ ?_)
  refine LWP.seq_k fun N2 hN2 => ?_
  refine LWP.seq_k fun N3 hN3 => ?_
  refine LWP.region (l := [_,_,_]) ?_
  refine LWo.loadN ((e_impl_Value a0)).cells g_impl_Value s_impl_Value rfl (Nat.le_of_ble_eq_true rfl) rfl (hn := ?_)
  refine bk h fun x4 e4 h => ?_
  refine LWo.vcall rfl rfl (c_spec_ValueOk _ _ e4) (.same (.nil)) (hn := ?_)
  refine LWo.not rfl (hn := ?_)
  refine LWo.nil (hN3 _ ?_)
  refine LWP.cond_split rfl (fun h5 => ?_) (fun h5 => ?_)
  ·have h := bT h5 h
   refine LWP.seq_k fun N6 hN6 => ?_
   refine LWP.region (l := [_,_]) ?_
   refine LWo.lit0 1007 u_Luint8 s_uint8 z_uint8 (hn := ?_)
   refine LWo.known 7 (.own 1007 0 ([] : (List UInt8)).length) rfl ?_
   refine LWo.assign (.own 1007 0 (([] : (List UInt8))).length) rfl (hn := ?_)
   refine LWo.nil (hN6 _ ?_)
   obtain rfl := Option.some.inj h
   refine LWP.ret (QG.mk (.inr rfl) (.cons (.tmp (x := (.own 1007 0 (([] : (List UInt8))).length)) rfl) (.nil)) (RetOK.one0 (.nwM rfl rfl) (by decide)) rfl rfl)
  ·have h := bF h5 h
   refine LWP.skip (hN2 _ ?_)
   refine LWP.seq_k fun N7 hN7 => ?_
   refine LWP.region (l := [_,_,_,_,_]) ?_
   refine LWo.fieldAddr _ u_impl_Value rfl s_int rfl rfl (hn := ?_)
   refine LWo.load1 (c := (e_int a0.Kind)) g_int rfl (hn := ?_)
   refine LWo.convU8 u_int u_uint8 rfl (hn := ?_)
   refine lk h fun y8 e8 h => ?_
   refine LWo.litO (ops := [_]) (f := e_uint8) (l := y8) 1011 u_Luint8 s_uint8 z_uint8 (by rw [e8]; rfl) (by rw [e8]; rfl) rfl rfl rfl rfl (hn := ?_)
   refine LWo.assign (.own 1011 0 (y8).length) rfl (hn := ?_)
   refine LWo.nil (hN7 _ ?_)
   refine LWP.join (α := (List UInt8)) (fun z : (List UInt8) => [(3, (.own 1011 0 (z).length))]) (fun z : (List UInt8) => [(1011, (lob 1 e_uint8 z))]) (fun z : (List UInt8) => m_spec_ValueBytes_j1  z) r (fun _ => by simp [hkeys]) ?_ ?_
   ·rintro o1011 h
    replace h : m_spec_ValueBytes_j1  o1011 = some _ := h
    refine LWP.seq_k fun N26 hN26 => ?_
    refine LWP.region (l := [_,_]) ?_
    refine LWo.move (.own 1011 0 (o1011).length) rfl (hn := ?_)
    refine LWo.assign (.own 1011 0 (o1011).length) rfl (hn := ?_)
    refine LWo.nil (hN26 _ ?_)
    obtain rfl := Option.some.inj h
    refine LWP.ret (QG.mk (.inr rfl) (.cons (.tmp (x := (.own 1011 0 (o1011).length)) rfl) (.nil)) (RetOK.one0 (.nwM rfl rfl) (by decide)) rfl rfl)
   ·intro N9 hN9
    refine LWP.seq_k fun N10 hN10 => ?_
    refine LWP.region (l := [_,_]) ?_
    refine LWo.fieldAddr _ u_impl_Value rfl s_int rfl rfl (hn := ?_)
    refine LWo.load1 (c := (e_int a0.Kind)) g_int rfl (hn := ?_)
    refine LWo.nil (hN10 _ ?_)
    refine LWP.block ?_
    refine LWP.seq_k fun N11 hN11 => ?_
    refine LWP.region (l := [_,_]) ?_
    refine LWo.int _ rfl rfl rfl (hn := ?_)
    refine LWo.assign (e_bool (a0.Kind == (1 : Int))) rfl (hn := ?_)
    refine LWo.nil (hN11 _ ?_)
    refine LWP.cond_split rfl (fun h12 => ?_) (fun h12 => ?_)
    ·have h := bT h12 h
     refine LWP.region (l := [_,_,_,_,_,_,_,_,_,_,_,_,_,_]) ?_
     refine LWo.move (.own 1011 0 (y8).length) rfl (hn := ?_)
     refine LWo.fieldAddr _ u_impl_Value rfl s_int rfl rfl (hn := ?_)
     refine LWo.load1 (c := (e_int a0.N)) g_int rfl (hn := ?_)
     refine bk h fun x13 e13 h => ?_
     refine LWo.int _ rfl rfl (add_ck e13) (hn := ?_)
     refine bk h fun x14 e14 h => ?_
     refine LWo.int _ rfl rfl (quo_ck e14) (hn := ?_)
     refine LWo.convU8 u_int u_uint8 rfl (hn := ?_)
     refine LWo.fieldAddr _ u_impl_Value rfl s_int rfl rfl (hn := ?_)
     refine LWo.load1 (c := (e_int a0.N)) g_int rfl (hn := ?_)
     refine bk h fun x15 e15 h => ?_
     refine LWo.int _ rfl rfl (add_ck e15) (hn := ?_)
     refine bk h fun x16 e16 h => ?_
     refine LWo.int _ rfl rfl (rem_ck e16) (hn := ?_)
     refine LWo.convU8 u_int u_uint8 rfl (hn := ?_)
     refine LWo.lit (ops := [_, _]) [(e_uint8 (Lift.byteOf x14)), (e_uint8 (Lift.byteOf x16))] u_Luint8 s_uint8 z_uint8 rfl rfl rfl rfl rfl rfl (hn := ?_)
     refine bk h fun x17 e17 h => ?_
     refine LWo.appendM (f := e_uint8) e17 rfl u_Luint8 u_Luint8 (fun _ h => by cases h) s_uint8 i_uint8 rfl rfl rfl (.sl rfl) rfl rfl (hn := ?_)
     refine LWo.assign (.own 1011 0 (x17).length) rfl (hn := ?_)
     refine LWo.nil (hN9 x17 _ ⟨rfl, trivial⟩ ⟨rfl, trivial⟩ h)
    ·have h := bF h12 h
     refine LWP.seq_k fun N18 hN18 => ?_
     refine LWP.region (l := [_,_]) ?_
     refine LWo.int _ rfl rfl rfl (hn := ?_)
     refine LWo.assign (e_bool (a0.Kind == (2 : Int))) rfl (hn := ?_)
     refine LWo.nil (hN18 _ ?_)
     refine LWP.cond_split rfl (fun h19 => ?_) (fun h19 => ?_)
     ·have h := bT h19 h
      refine bk h fun x20 e20 h => ?_
      refine bk h fun x21 e21 h => ?_
      refine bk h fun x22 e22 h => ?_
      refine LWP.drawF (l := [_,_,_,_,_,_,_,_,_,_,_,_]) [(1011, 1011)] [1, 3] [([3], []), ([1], []), ([32], []), ([33], []), ([34], []), ([35], []), ([31, 36], [1011]), ([1], []), ([38], []), ([39], []), ([37, 40], [1011]), ([41], [])] [3] [1011] mixed (by kernel_rfl) rfl (by decide) ?_
      refine dq 31 rfl (fun _ g u h => LWo.move (.own 1011 0 (y8).length) u.1 (hn := .nil (zn g))) ?_
      refine dq 32 rfl (fun _ g u h => LWo.fieldAddr _ u_impl_Value rfl s_string u.1 rfl (hn := .nil (zn g))) ?_
      refine dq 33 rfl (fun _ g u h => LWo.load1 (c := (e_string a0.S)) g_string u.1 (hn := .nil (zn g))) ?_
      refine dq 34 rfl (fun _ g u h => LWo.lenS u_string u.1 (hn := .nil (zn g))) ?_
      refine dq 35 rfl (fun _ g u h => LWo.convU8 u_int u_uint8 u.1 (hn := .nil (zn g))) ?_
      refine dq 36 rfl (fun _ g u h => LWo.lit (ops := [_]) [(e_uint8 (Lift.byteOf (a0.S.size : Int)))] u_Luint8 s_uint8 z_uint8 (lv1 u.1) rfl rfl rfl rfl rfl (hn := .nil (zn g))) ?_
      refine ⟨rfl, .make 37 _ 1011 _, (by exact (goodC rfl goodN)), fun _ g u h => LWo.appendM (f := e_uint8) e20 rfl u_Luint8 u_Luint8 (fun _ h => by cases h) s_uint8 i_uint8 rfl u.1 h.1 (.sl u.2.1) (lone_of g rfl) rfl (hn := LWo.nil ⟨rfl, .inl rfl, Ef.good_ok (e := .make 37 _ 1011 _) (by exact (goodC rfl goodN)) g⟩), ?_⟩
      refine dq 38 rfl (fun _ g u h => LWo.fieldAddr _ u_impl_Value rfl s_string u.1 rfl (hn := .nil (zn g))) ?_
      refine dq 39 rfl (fun _ g u h => LWo.load1 (c := (e_string a0.S)) g_string u.1 (hn := .nil (zn g))) ?_
      refine dq 40 rfl (fun _ g u h => LWo.bytesM e21 u_string u_Luint8 u_uint8 u.1 (hn := .nil (zn g))) ?_
      refine ⟨rfl, .make 41 _ 1011 _, (by exact (goodC rfl goodN)), fun _ g u h => LWo.appendM (f := e_uint8) e22 rfl u_Luint8 u_Luint8 (fun _ h => by cases h) s_uint8 i_uint8 rfl u.1 h.1 (.sl u.2.1) (lone_of g rfl) rfl (hn := LWo.nil ⟨rfl, .inl rfl, Ef.good_ok (e := .make 41 _ 1011 _) (by exact (goodC rfl goodN)) g⟩), ?_⟩
      refine dq 3 rfl (fun _ g u h => LWo.assign (.own 1011 0 (x22).length) u.1 (hn := .nil (zn g))) ?_
      refine ⟨rfl, by kernel_rfl, hN9 x22 _ ⟨rfl, trivial⟩ ⟨rfl, trivial⟩ h⟩
     ·have h := bF h19 h
      refine LWP.seq_k fun N23 hN23 => ?_
      refine LWP.region (l := [_,_]) ?_
      refine LWo.int _ rfl rfl rfl (hn := ?_)
      refine LWo.assign (e_bool (a0.Kind == (3 : Int))) rfl (hn := ?_)
      refine LWo.nil (hN23 _ ?_)
      refine LWP.cond_split rfl (fun h24 => ?_) (fun h24 => ?_)
      ·have h := bT h24 h
       refine LWP.region (l := [_,_,_,_,_,_,_]) ?_
       refine LWo.move (.own 1011 0 (y8).length) rfl (hn := ?_)
       refine LWo.fieldAddr _ u_impl_Value rfl s_int rfl rfl (hn := ?_)
       refine LWo.load1 (c := (e_int a0.N)) g_int rfl (hn := ?_)
       refine LWo.convU8 u_int u_uint8 rfl (hn := ?_)
       refine LWo.lit (ops := [_]) [(e_uint8 (Lift.byteOf a0.N))] u_Luint8 s_uint8 z_uint8 rfl rfl rfl rfl rfl rfl (hn := ?_)
       refine bk h fun x25 e25 h => ?_
       refine LWo.appendM (f := e_uint8) e25 rfl u_Luint8 u_Luint8 (fun _ h => by cases h) s_uint8 i_uint8 rfl rfl rfl (.sl rfl) rfl rfl (hn := ?_)
       refine LWo.assign (.own 1011 0 (x25).length) rfl (hn := ?_)
       refine LWo.nil (hN9 x25 _ ⟨rfl, trivial⟩ ⟨rfl, trivial⟩ h)
      ·have h := bF h24 h
       refine LWP.skip (hN9 y8 _ ⟨rfl, trivial⟩ ⟨rfl, trivial⟩ h)

def m_spec_RowBytes_j1 (o1012 : (List UInt8)) : Option (List UInt8) :=
  some o1012
def m_spec_RowBytes_l1 : Nat → (List S_impl_Value) → Int → (List UInt8) → Option (List UInt8)
  | 0, _, _, _ => none
  | n1 + 1, t0, t4, o1012 =>
    bif decide (t4 < (t0.length : Int)) then ((at? t0 t4).bind fun x17 =>
    (m_spec_ValueBytes x17).bind fun x18 =>
    (app? o1012 x18).bind fun x19 =>
    (ckI (t4 + (1 : Int))).bind fun x20 =>
    (m_spec_RowBytes_l1  n1) t0 x20 x19)
    else (m_spec_RowBytes_j1  o1012)
def m_spec_RowBytes (a0 : (List S_impl_Value)) : Option (List UInt8) :=
  (m_spec_RowOk a0).bind fun x4 =>
  bif (!x4) then (some ([] : (List UInt8)))
  else (lt (([(Lift.byteOf (a0.length : Int))] : (List UInt8))) fun y8 =>
  m_spec_RowBytes_l1  (((a0.length : Int) - (0 : Int)).toNat + 1) a0 (0 : Int) y8)
theorem c_spec_RowBytes (a0 : (List S_impl_Value)) (r : (List UInt8)) (h : m_spec_RowBytes a0 = some r) : Ret Try.prog f_spec_RowBytes [e_Limpl_Value a0] (.nw 1 (r.map e_uint8) false) := by
  refine Does.goG [] F_spec_RowBytes rfl e_spec_RowBytes n_spec_RowBytes rfl (rvs := [.tmp 2]) rfl rfl ?_
  intro w0 ok0 lent ρ0
  refine LWP.seq_k fun N1 hN1 => ?_
  refine LWP.region (l := [_]) ?_
  refine LWo.assign _ rfl (hn := ?_)
  refine LWo.ownNil 2 1002 1 rfl rfl rfl ?_
  refine LWo.known 2 (.own 1002 0 ([] : (List UInt8)).length) rfl ?_
  refine LWo.nil (hN1 _ ?_)
  refine LWP.seq_k fun N2 hN2 => ?_
  refine LWP.seq_k fun N3 hN3 => ?_
  refine LWP.region (l := [_,_,_]) ?_
  refine LWo.move (e_Limpl_Value a0) rfl (hn := ?_)
  refine bk h fun x4 e4 h => ?_
  refine LWo.vcall rfl rfl (c_spec_RowOk _ _ e4) (.same (.nil)) (hn := ?_)
  refine LWo.not rfl (hn := ?_)
  refine LWo.nil (hN3 _ ?_)
  refine LWP.cond_split rfl (fun h5 => ?_) (fun h5 => ?_)
  ·have h := bT h5 h
   refine LWP.seq_k fun N6 hN6 => ?_
   refine LWP.region (l := [_,_]) ?_
   refine LWo.lit0 1008 u_Luint8 s_uint8 z_uint8 (hn := ?_)
   refine LWo.known 8 (.own 1008 0 ([] : (List UInt8)).length) rfl ?_
   refine LWo.assign (.own 1008 0 (([] : (List UInt8))).length) rfl (hn := ?_)
   refine LWo.nil (hN6 _ ?_)
   obtain rfl := Option.some.inj h
   refine LWP.ret (QG.mk (.inr rfl) (.cons (.tmp (x := (.own 1008 0 (([] : (List UInt8))).length)) rfl) (.nil)) (RetOK.one0 (.nwM rfl rfl) (by decide)) rfl rfl)
  ·have h := bF h5 h
   refine LWP.skip (hN2 _ ?_)
   refine LWP.seq_k fun N7 hN7 => ?_
   refine LWP.region (l := [_,_,_,_,_]) ?_
   refine LWo.move (e_Limpl_Value a0) rfl (hn := ?_)
   refine LWo.lenM (f := e_impl_Value) (l := a0) u_Limpl_Value rfl (hn := ?_)
   refine LWo.convU8 u_int u_uint8 rfl (hn := ?_)
   refine lk h fun y8 e8 h => ?_
   refine LWo.litO (ops := [_]) (f := e_uint8) (l := y8) 1012 u_Luint8 s_uint8 z_uint8 (by rw [e8]; rfl) (by rw [e8]; rfl) rfl rfl rfl rfl (hn := ?_)
   refine LWo.assign (.own 1012 0 (y8).length) rfl (hn := ?_)
   refine LWo.nil (hN7 _ ?_)
   refine LWP.join (α := (List UInt8)) (fun z : (List UInt8) => [(3, (.own 1012 0 (z).length))]) (fun z : (List UInt8) => [(1012, (lob 1 e_uint8 z))]) (fun z : (List UInt8) => m_spec_RowBytes_j1  z) r (fun _ => by simp [hkeys]) ?_ ?_
   ·rintro o1012 h
    replace h : m_spec_RowBytes_j1  o1012 = some _ := h
    refine LWP.seq_k fun N21 hN21 => ?_
    refine LWP.region (l := [_,_]) ?_
    refine LWo.move (.own 1012 0 (o1012).length) rfl (hn := ?_)
    refine LWo.assign (.own 1012 0 (o1012).length) rfl (hn := ?_)
    refine LWo.nil (hN21 _ ?_)
    obtain rfl := Option.some.inj h
    refine LWP.ret (QG.mk (.inr rfl) (.cons (.tmp (x := (.own 1012 0 (o1012).length)) rfl) (.nil)) (RetOK.one0 (.nwM rfl rfl) (by decide)) rfl rfl)
   ·intro N9 hN9
    refine LWP.seq_k fun N10 hN10 => ?_
    refine LWP.region (l := [_]) ?_
    refine LWo.assign (e_int (0 : Int)) rfl (hn := ?_)
    refine LWo.nil (hN10 _ ?_)
    refine LWP.block ?_
    refine LWP.loopM (α := (List S_impl_Value) × Int × (List UInt8)) (fun z : (List S_impl_Value) × Int × (List UInt8) => [(0, (e_Limpl_Value z.1)), (3, (.own 1012 0 (z.2.2).length)), (4, (e_int z.2.1))]) (fun z : (List S_impl_Value) × Int × (List UInt8) => [(1012, (lob 1 e_uint8 z.2.2))]) (fun n1 (z : (List S_impl_Value) × Int × (List UInt8)) => m_spec_RowBytes_l1  n1 z.1 z.2.1 z.2.2) r _ (a0, (0 : Int), y8) h (fun _ => rfl) (fun _ => by simp [hkeys]) ⟨rfl, rfl, rfl, trivial⟩ ⟨rfl, trivial⟩ ?_
    rintro n1 ⟨t0, t4, o1012⟩ h N11 hN11
    replace h : m_spec_RowBytes_l1  (n1 + 1) t0 t4 o1012 = some _ := h
    refine LWP.seq_k fun N13 hN13 => ?_
    refine LWP.seq_k fun N14 hN14 => ?_
    refine LWP.region (l := [_,_,_,_]) ?_
    refine LWo.move (e_int t4) rfl (hn := ?_)
    refine LWo.move (e_Limpl_Value t0) rfl (hn := ?_)
    refine LWo.lenM (f := e_impl_Value) (l := t0) u_Limpl_Value rfl (hn := ?_)
    refine LWo.int _ rfl rfl rfl (hn := ?_)
    refine LWo.nil (hN14 _ ?_)
    refine LWP.cond_split rfl (fun h15 => ?_) (fun h15 => ?_)
    ·have h := bT h15 h
     refine LWP.skip (hN13 _ ?_)
     refine LWP.seq_k fun N16 hN16 => ?_
     refine LWP.block ?_
     refine LWP.region (l := [_,_,_,_,_,_,_,_]) ?_
     refine LWo.move (.own 1012 0 (o1012).length) rfl (hn := ?_)
     refine LWo.move (e_Limpl_Value t0) rfl (hn := ?_)
     refine LWo.move (e_int t4) rfl (hn := ?_)
     refine bk h fun x17 e17 h => ?_
     refine LWo.indexM (f := e_impl_Value) e17 u_Limpl_Value s_impl_Value rfl rfl (hn := ?_)
     refine LWo.loadN ((e_impl_Value x17)).cells g_impl_Value s_impl_Value rfl (Nat.le_of_ble_eq_true rfl) rfl (hn := ?_)
     refine bk h fun x18 e18 h => ?_
     refine LWo.vcall rfl rfl (c_spec_ValueBytes _ _ e18) (.same (.nil)) (hn := ?_)
     refine bk h fun x19 e19 h => ?_
     refine LWo.appendM (f := e_uint8) e19 rfl u_Luint8 u_Luint8 (fun _ h => by cases h) s_uint8 i_uint8 rfl rfl rfl (.sl rfl) rfl rfl (hn := ?_)
     refine LWo.assign (.own 1012 0 (x19).length) rfl (hn := ?_)
     refine LWo.nil (hN16 _ ?_)
     refine LWP.region (l := [_,_,_]) ?_
     refine LWo.move (e_int t4) rfl (hn := ?_)
     refine bk h fun x20 e20 h => ?_
     refine LWo.int _ rfl rfl (add_ck e20) (hn := ?_)
     refine LWo.assign (e_int x20) rfl (hn := ?_)
     refine LWo.nil (hN11 (t0, x20, x19) _ ⟨rfl, rfl, rfl, trivial⟩ ⟨rfl, trivial⟩ h)
    ·have h := bF h15 h
     refine LWP.exit (hN9 o1012 _ ⟨rfl, trivial⟩ ⟨rfl, trivial⟩ h)

def m_spec_l18Body_j1 (o1013 : (List UInt8)) : Option (List UInt8) :=
  some o1013
def m_spec_l18Body_l1 : Nat → S_impl_Entry → Int → (List UInt8) → Option (List UInt8)
  | 0, _, _, _ => none
  | n1 + 1, t1, t4, o1013 =>
    bif decide (t4 < (t1.Writes.length : Int)) then ((at? t1.Writes t4).bind fun x13 =>
    lt (x13) fun y14 =>
    (m_spec_l2Bool y14.Gone).bind fun x16 =>
    (app? o1013 ([(Lift.byteOf y14.Key), (Lift.byteOf x16)] : (List UInt8))).bind fun x17 =>
    (m_spec_RowBytes y14.Row).bind fun x18 =>
    (app? x17 x18).bind fun x19 =>
    (ckI (t4 + (1 : Int))).bind fun x20 =>
    (m_spec_l18Body_l1  n1) t1 x20 x19)
    else (m_spec_l18Body_j1  o1013)
def m_spec_l18Body (a0 : S_impl_Entry) : Option (List UInt8) :=
  lt (([(Lift.byteOf a0.Time), (Lift.byteOf (a0.Writes.length : Int))] : (List UInt8))) fun y3 =>
  m_spec_l18Body_l1  (((a0.Writes.length : Int) - (0 : Int)).toNat + 1) a0 (0 : Int) y3
theorem c_spec_l18Body (a0 : S_impl_Entry) (r : (List UInt8)) (h : m_spec_l18Body a0 = some r) : Ret Try.prog f_spec_l18Body [e_impl_Entry a0] (.nw 1 (r.map e_uint8) false) := by
  refine Does.goG [] F_spec_l18Body rfl e_spec_l18Body n_spec_l18Body rfl (rvs := [.tmp 2]) rfl rfl ?_
  intro w0 ok0 lent ρ0
  refine LWP.seq_k fun N1 hN1 => ?_
  refine LWP.region (l := [_,_]) ?_
  refine LWo.boxF (e_impl_Entry a0) rfl rfl rfl (hn := ?_)
  refine LWo.assign _ rfl (hn := ?_)
  refine LWo.ownNil 2 1002 1 rfl rfl rfl ?_
  refine LWo.known 2 (.own 1002 0 ([] : (List UInt8)).length) rfl ?_
  refine LWo.nil (hN1 _ ?_)
  refine LWP.seq_k fun N2 hN2 => ?_
  refine LWP.region (l := [_,_,_,_,_,_,_,_,_]) ?_
  refine LWo.fieldAddr _ u_impl_Entry rfl s_int rfl rfl (hn := ?_)
  refine LWo.load1 (c := (e_int a0.Time)) g_int rfl (hn := ?_)
  refine LWo.convU8 u_int u_uint8 rfl (hn := ?_)
  refine LWo.fieldAddr _ u_impl_Entry rfl s_Limpl_Write rfl rfl (hn := ?_)
  refine LWo.load1 (c := (e_Limpl_Write a0.Writes)) g_Limpl_Write rfl (hn := ?_)
  refine LWo.lenM (f := e_impl_Write) (l := a0.Writes) u_Limpl_Write rfl (hn := ?_)
  refine LWo.convU8 u_int u_uint8 rfl (hn := ?_)
  refine lk h fun y3 e3 h => ?_
  refine LWo.litO (ops := [_, _]) (f := e_uint8) (l := y3) 1013 u_Luint8 s_uint8 z_uint8 (by rw [e3]; rfl) (by rw [e3]; rfl) rfl rfl rfl rfl (hn := ?_)
  refine LWo.assign (.own 1013 0 (y3).length) rfl (hn := ?_)
  refine LWo.nil (hN2 _ ?_)
  refine LWP.join (α := (List UInt8)) (fun z : (List UInt8) => [(3, (.own 1013 0 (z).length))]) (fun z : (List UInt8) => [(1013, (lob 1 e_uint8 z))]) (fun z : (List UInt8) => m_spec_l18Body_j1  z) r (fun _ => by simp [hkeys]) ?_ ?_
  ·rintro o1013 h
   replace h : m_spec_l18Body_j1  o1013 = some _ := h
   refine LWP.seq_k fun N21 hN21 => ?_
   refine LWP.region (l := [_,_]) ?_
   refine LWo.move (.own 1013 0 (o1013).length) rfl (hn := ?_)
   refine LWo.assign (.own 1013 0 (o1013).length) rfl (hn := ?_)
   refine LWo.nil (hN21 _ ?_)
   obtain rfl := Option.some.inj h
   refine LWP.ret (QG.mk (.inr rfl) (.cons (.tmp (x := (.own 1013 0 (o1013).length)) rfl) (.nil)) (RetOK.one0 (.nwM rfl rfl) (by decide)) rfl rfl)
  ·intro N4 hN4
   refine LWP.seq_k fun N5 hN5 => ?_
   refine LWP.region (l := [_]) ?_
   refine LWo.assign (e_int (0 : Int)) rfl (hn := ?_)
   refine LWo.nil (hN5 _ ?_)
   refine LWP.block ?_
   refine LWP.loopM (α := S_impl_Entry × Int × (List UInt8)) (fun z : S_impl_Entry × Int × (List UInt8) => [(1, (.fp (e_impl_Entry z.1).cells)), (3, (.own 1013 0 (z.2.2).length)), (4, (e_int z.2.1))]) (fun z : S_impl_Entry × Int × (List UInt8) => [(1013, (lob 1 e_uint8 z.2.2))]) (fun n1 (z : S_impl_Entry × Int × (List UInt8)) => m_spec_l18Body_l1  n1 z.1 z.2.1 z.2.2) r _ (a0, (0 : Int), y3) h (fun _ => rfl) (fun _ => by simp [hkeys]) ⟨rfl, rfl, rfl, trivial⟩ ⟨rfl, trivial⟩ ?_
   rintro n1 ⟨t1, t4, o1013⟩ h N6 hN6
   replace h : m_spec_l18Body_l1  (n1 + 1) t1 t4 o1013 = some _ := h
   refine LWP.seq_k fun N8 hN8 => ?_
   refine LWP.seq_k fun N9 hN9 => ?_
   refine LWP.region (l := [_,_,_,_,_]) ?_
   refine LWo.move (e_int t4) rfl (hn := ?_)
   refine LWo.fieldAddr _ u_impl_Entry rfl s_Limpl_Write rfl rfl (hn := ?_)
   refine LWo.load1 (c := (e_Limpl_Write t1.Writes)) g_Limpl_Write rfl (hn := ?_)
   refine LWo.lenM (f := e_impl_Write) (l := t1.Writes) u_Limpl_Write rfl (hn := ?_)
   refine LWo.int _ rfl rfl rfl (hn := ?_)
   refine LWo.nil (hN9 _ ?_)
   refine LWP.cond_split rfl (fun h10 => ?_) (fun h10 => ?_)
   ·have h := bT h10 h
    refine LWP.skip (hN8 _ ?_)
    refine LWP.seq_k fun N11 hN11 => ?_
    refine LWP.block ?_
    refine LWP.seq_k fun N12 hN12 => ?_
    refine LWP.region (l := [_,_,_,_,_,_,_]) ?_
    refine LWo.fieldAddr _ u_impl_Entry rfl s_Limpl_Write rfl rfl (hn := ?_)
    refine LWo.load1 (c := (e_Limpl_Write t1.Writes)) g_Limpl_Write rfl (hn := ?_)
    refine LWo.move (e_int t4) rfl (hn := ?_)
    refine bk h fun x13 e13 h => ?_
    refine LWo.indexM (f := e_impl_Write) e13 u_Limpl_Write s_impl_Write rfl rfl (hn := ?_)
    refine LWo.loadN ((e_impl_Write x13)).cells g_impl_Write s_impl_Write rfl (Nat.le_of_ble_eq_true rfl) rfl (hn := ?_)
    refine LWo.alloc_impl_Write 5 rfl (hn := ?_)
    refine lk h fun y14 e14 h => ?_
    refine LWo.storeW (y := (⟨(0 : Int), [], false⟩ : S_impl_Write)) y14 s_impl_Write rfl rfl rfl rfl rfl rfl (by rw [e14]; exact .refl) rfl (hn := ?_)
    refine LWo.nil (hN12 _ ?_)
    refine LWP.seq_k fun N15 hN15 => ?_
    refine bk h fun x16 e16 h => ?_
    refine bk h fun x17 e17 h => ?_
    refine LWP.drawF (l := [_,_,_,_,_,_,_,_,_,_,_]) [(1013, 1013)] [1, 3, 4, 5] [([3], []), ([5], []), ([27], [5]), ([28], []), ([5], []), ([30], [5]), ([31], []), ([32], []), ([29, 33], []), ([26, 34], [1013]), ([35], [])] [1, 3, 4, 5] [5, 1013] mixed (by kernel_rfl) rfl (by decide) ?_
    refine dq 26 rfl (fun _ g u h => LWo.move (.own 1013 0 (o1013).length) u.1 (hn := .nil (zn g))) ?_
    refine dq 27 rfl (fun _ g u h => LWo.fieldPtr u_impl_Write rfl s_int u.1 rfl (hn := .nil (zn g))) ?_
    refine dq 28 rfl (fun _ g u h => LWo.loadV1 (e_int y14.Key)  g_int u.1 h.1 rfl (hn := .nil (zn g))) ?_
    refine dq 29 rfl (fun _ g u h => LWo.convU8 u_int u_uint8 u.1 (hn := .nil (zn g))) ?_
    refine dq 30 rfl (fun _ g u h => LWo.fieldPtr u_impl_Write rfl s_bool u.1 rfl (hn := .nil (zn g))) ?_
    refine dq 31 rfl (fun _ g u h => LWo.loadV1 (e_bool y14.Gone)  g_bool u.1 h.1 rfl (hn := .nil (zn g))) ?_
    refine dq 32 rfl (fun _ g u h => LWo.vcall rfl (av1 u.1) (c_spec_l2Bool _ _ e16) (.same (.nil)) (hn := .nil (zn g))) ?_
    refine dq 33 rfl (fun _ g u h => LWo.convU8 u_int u_uint8 u.1 (hn := .nil (zn g))) ?_
    refine dq 34 rfl (fun _ g u h => LWo.lit (ops := [_, _]) [(e_uint8 (Lift.byteOf y14.Key)), (e_uint8 (Lift.byteOf x16))] u_Luint8 s_uint8 z_uint8 (lv2 u.1 u.2.1) rfl rfl rfl rfl rfl (hn := .nil (zn g))) ?_
    refine ⟨rfl, .make 35 _ 1013 _, (by exact (goodC rfl goodN)), fun _ g u h => LWo.appendM (f := e_uint8) e17 rfl u_Luint8 u_Luint8 (fun _ h => by cases h) s_uint8 i_uint8 rfl u.1 h.1 (.sl u.2.1) (lone_of g rfl) rfl (hn := LWo.nil ⟨rfl, .inl rfl, Ef.good_ok (e := .make 35 _ 1013 _) (by exact (goodC rfl goodN)) g⟩), ?_⟩
    refine dq 3 rfl (fun _ g u h => LWo.assign (.own 1013 0 (x17).length) u.1 (hn := .nil (zn g))) ?_
    refine ⟨rfl, by kernel_rfl, hN15 _ ?_⟩
    refine LWP.region (l := [_,_,_,_,_,_]) ?_
    refine LWo.move (.own 1013 0 (x17).length) rfl (hn := ?_)
    refine LWo.fieldPtr u_impl_Write rfl s_Limpl_Value rfl rfl (hn := ?_)
    refine LWo.loadV1 (e_Limpl_Value y14.Row)  g_Limpl_Value rfl rfl rfl (hn := ?_)
    refine bk h fun x18 e18 h => ?_
    refine LWo.vcall rfl rfl (c_spec_RowBytes _ _ e18) (.same (.nil)) (hn := ?_)
    refine bk h fun x19 e19 h => ?_
    refine LWo.appendM (f := e_uint8) e19 rfl u_Luint8 u_Luint8 (fun _ h => by cases h) s_uint8 i_uint8 rfl rfl rfl (.sl rfl) rfl rfl (hn := ?_)
    refine LWo.assign (.own 1013 0 (x19).length) rfl (hn := ?_)
    refine LWo.nil (hN11 _ ?_)
    refine LWP.region (l := [_,_,_]) ?_
    refine LWo.move (e_int t4) rfl (hn := ?_)
    refine bk h fun x20 e20 h => ?_
    refine LWo.int _ rfl rfl (add_ck e20) (hn := ?_)
    refine LWo.assign (e_int x20) rfl (hn := ?_)
    refine LWo.nil (hN6 (t1, x20, x19) _ ⟨rfl, rfl, rfl, trivial⟩ ⟨rfl, trivial⟩ h)
   ·have h := bF h10 h
    refine LWP.exit (hN4 o1013 _ ⟨rfl, trivial⟩ ⟨rfl, trivial⟩ h)

def m_spec_l18Sum_j1 (t3 : Int) : Option UInt8 :=
  some (Lift.byteOf t3)
def m_spec_l18Sum_l1 : Nat → (List UInt8) → Int → Int → Option UInt8
  | 0, _, _, _ => none
  | n1 + 1, t0, t3, t4 =>
    bif decide (t4 < (t0.length : Int)) then ((at? t0 t4).bind fun x11 =>
    (ckI (t4 + (1 : Int))).bind fun x12 =>
    (ckI ((x11.toNat : Int) * x12)).bind fun x13 =>
    (ckI (t3 + x13)).bind fun x14 =>
    (remI x14 (251 : Int)).bind fun x15 =>
    (ckI (t4 + (1 : Int))).bind fun x16 =>
    (m_spec_l18Sum_l1  n1) t0 x15 x16)
    else (m_spec_l18Sum_j1  t3)
def m_spec_l18Sum (a0 : (List UInt8)) : Option UInt8 :=
  m_spec_l18Sum_l1  (((a0.length : Int) - (0 : Int)).toNat + 1) a0 (0 : Int) (0 : Int)
theorem c_spec_l18Sum (a0 : (List UInt8)) (r : UInt8) (h : m_spec_l18Sum a0 = some r) : Ret Try.prog f_spec_l18Sum [e_Luint8 a0] (e_uint8 r) := by
  refine Does.goG [] F_spec_l18Sum rfl e_spec_l18Sum n_spec_l18Sum rfl (rvs := [.tmp 2]) rfl rfl ?_
  intro w0 ok0 lent ρ0
  refine LWP.seq_k fun N1 hN1 => ?_
  refine LWP.region (l := [_]) ?_
  refine LWo.assign (e_uint8 (0 : UInt8)) rfl (hn := ?_)
  refine LWo.nil (hN1 _ ?_)
  refine LWP.seq_k fun N2 hN2 => ?_
  refine LWP.region (l := [_]) ?_
  refine LWo.assign (e_int (0 : Int)) rfl (hn := ?_)
  refine LWo.nil (hN2 _ ?_)
  refine LWP.join (α := Int) (fun z : Int => [(3, (e_int z))]) (fun z : Int => []) (fun z : Int => m_spec_l18Sum_j1  z) r (fun _ => by simp [hkeys]) ?_ ?_
  ·rintro t3 h
   replace h : m_spec_l18Sum_j1  t3 = some _ := h
   refine LWP.seq_k fun N17 hN17 => ?_
   refine LWP.region (l := [_,_,_]) ?_
   refine LWo.move (e_int t3) rfl (hn := ?_)
   refine LWo.convU8 u_int u_uint8 rfl (hn := ?_)
   refine LWo.assign (e_uint8 (Lift.byteOf t3)) rfl (hn := ?_)
   refine LWo.nil (hN17 _ ?_)
   obtain rfl := Option.some.inj h
   refine LWP.ret (QG.mk (.inr rfl) (.cons (.tmp (x := (e_uint8 (Lift.byteOf t3))) rfl) (.nil)) (RetOK.one0 (.pure rfl) (by decide)) rfl rfl)
  ·intro N3 hN3
   refine LWP.seq_k fun N4 hN4 => ?_
   refine LWP.region (l := [_]) ?_
   refine LWo.assign (e_int (0 : Int)) rfl (hn := ?_)
   refine LWo.nil (hN4 _ ?_)
   refine LWP.block ?_
   refine LWP.loopM (α := (List UInt8) × Int × Int) (fun z : (List UInt8) × Int × Int => [(0, (e_Luint8 z.1)), (3, (e_int z.2.1)), (4, (e_int z.2.2))]) (fun z : (List UInt8) × Int × Int => []) (fun n1 (z : (List UInt8) × Int × Int) => m_spec_l18Sum_l1  n1 z.1 z.2.1 z.2.2) r _ (a0, (0 : Int), (0 : Int)) h (fun _ => rfl) (fun _ => by simp [hkeys]) ⟨rfl, rfl, rfl, trivial⟩ trivial ?_
   rintro n1 ⟨t0, t3, t4⟩ h N5 hN5
   replace h : m_spec_l18Sum_l1  (n1 + 1) t0 t3 t4 = some _ := h
   refine LWP.seq_k fun N7 hN7 => ?_
   refine LWP.seq_k fun N8 hN8 => ?_
   refine LWP.region (l := [_,_,_,_]) ?_
   refine LWo.move (e_int t4) rfl (hn := ?_)
   refine LWo.move (e_Luint8 t0) rfl (hn := ?_)
   refine LWo.lenM (f := e_uint8) (l := t0) u_Luint8 rfl (hn := ?_)
   refine LWo.int _ rfl rfl rfl (hn := ?_)
   refine LWo.nil (hN8 _ ?_)
   refine LWP.cond_split rfl (fun h9 => ?_) (fun h9 => ?_)
   ·have h := bT h9 h
    refine LWP.skip (hN7 _ ?_)
    refine LWP.seq_k fun N10 hN10 => ?_
    refine LWP.block ?_
    refine LWP.region (l := [_,_,_,_,_,_,_,_,_,_,_,_]) ?_
    refine LWo.move (e_int t3) rfl (hn := ?_)
    refine LWo.move (e_Luint8 t0) rfl (hn := ?_)
    refine LWo.move (e_int t4) rfl (hn := ?_)
    refine bk h fun x11 e11 h => ?_
    refine LWo.indexM (f := e_uint8) e11 u_Luint8 s_uint8 rfl rfl (hn := ?_)
    refine LWo.load1 (c := (e_uint8 x11)) g_uint8 rfl (hn := ?_)
    refine LWo.convByte _ u_uint8 u_int rfl (hn := ?_)
    refine LWo.move (e_int t4) rfl (hn := ?_)
    refine bk h fun x12 e12 h => ?_
    refine LWo.int _ rfl rfl (add_ck e12) (hn := ?_)
    refine bk h fun x13 e13 h => ?_
    refine LWo.int _ rfl rfl (mul_ck e13) (hn := ?_)
    refine bk h fun x14 e14 h => ?_
    refine LWo.int _ rfl rfl (add_ck e14) (hn := ?_)
    refine bk h fun x15 e15 h => ?_
    refine LWo.int _ rfl rfl (rem_ck e15) (hn := ?_)
    refine LWo.assign (e_int x15) rfl (hn := ?_)
    refine LWo.nil (hN10 _ ?_)
    refine LWP.region (l := [_,_,_]) ?_
    refine LWo.move (e_int t4) rfl (hn := ?_)
    refine bk h fun x16 e16 h => ?_
    refine LWo.int _ rfl rfl (add_ck e16) (hn := ?_)
    refine LWo.assign (e_int x16) rfl (hn := ?_)
    refine LWo.nil (hN5 (t0, x15, x16) _ ⟨rfl, rfl, rfl, trivial⟩ trivial h)
   ·have h := bF h9 h
    refine LWP.exit (hN3 t3 _ ⟨rfl, trivial⟩ trivial h)

def m_spec_EntryBytes (a0 : S_impl_Entry) : Option (List UInt8) :=
  (m_spec_LogOk ([a0] : (List S_impl_Entry))).bind fun x4 =>
  bif (!x4) then (some ([] : (List UInt8)))
  else ((m_spec_l18Body a0).bind fun x8 =>
  (quoI (x8.length : Int) (256 : Int)).bind fun x10 =>
  (remI (x8.length : Int) (256 : Int)).bind fun x11 =>
  lt (([(Lift.byteOf x10), (Lift.byteOf x11)] : (List UInt8))) fun y12 =>
  (app? y12 x8).bind fun x14 =>
  (m_spec_l18Sum x8).bind fun x15 =>
  (app? x14 ([x15] : (List UInt8))).bind fun x16 =>
  some x16)
theorem c_spec_EntryBytes (a0 : S_impl_Entry) (r : (List UInt8)) (h : m_spec_EntryBytes a0 = some r) : Ret Try.prog f_spec_EntryBytes [e_impl_Entry a0] (.nw 1 (r.map e_uint8) false) := by
  refine Does.goG [] F_spec_EntryBytes rfl e_spec_EntryBytes n_spec_EntryBytes rfl (rvs := [.tmp 2]) rfl rfl ?_
  intro w0 ok0 lent ρ0
  refine LWP.seq_k fun N1 hN1 => ?_
  refine LWP.region (l := [_,_]) ?_
  refine LWo.boxF (e_impl_Entry a0) rfl rfl rfl (hn := ?_)
  refine LWo.assign _ rfl (hn := ?_)
  refine LWo.ownNil 2 1002 1 rfl rfl rfl ?_
  refine LWo.known 2 (.own 1002 0 ([] : (List UInt8)).length) rfl ?_
  refine LWo.nil (hN1 _ ?_)
  refine LWP.seq_k fun N2 hN2 => ?_
  refine LWP.seq_k fun N3 hN3 => ?_
  refine LWP.region (l := [_,_,_,_]) ?_
  refine LWo.loadN ((e_impl_Entry a0)).cells g_impl_Entry s_impl_Entry rfl (Nat.le_of_ble_eq_true rfl) rfl (hn := ?_)
  refine LWo.lit (ops := [_]) [(e_impl_Entry a0)] u_Limpl_Entry s_impl_Entry z_impl_Entry rfl rfl rfl rfl rfl rfl (hn := ?_)
  refine bk h fun x4 e4 h => ?_
  refine LWo.vcall rfl rfl (c_spec_LogOk _ _ e4) (.same (.nil)) (hn := ?_)
  refine LWo.not rfl (hn := ?_)
  refine LWo.nil (hN3 _ ?_)
  refine LWP.cond_split rfl (fun h5 => ?_) (fun h5 => ?_)
  ·have h := bT h5 h
   refine LWP.seq_k fun N6 hN6 => ?_
   refine LWP.region (l := [_,_]) ?_
   refine LWo.lit0 1009 u_Luint8 s_uint8 z_uint8 (hn := ?_)
   refine LWo.known 9 (.own 1009 0 ([] : (List UInt8)).length) rfl ?_
   refine LWo.assign (.own 1009 0 (([] : (List UInt8))).length) rfl (hn := ?_)
   refine LWo.nil (hN6 _ ?_)
   obtain rfl := Option.some.inj h
   refine LWP.ret (QG.mk (.inr rfl) (.cons (.tmp (x := (.own 1009 0 (([] : (List UInt8))).length)) rfl) (.nil)) (RetOK.one0 (.nwM rfl rfl) (by decide)) rfl rfl)
  ·have h := bF h5 h
   refine LWP.skip (hN2 _ ?_)
   refine LWP.seq_k fun N7 hN7 => ?_
   refine LWP.region (l := [_,_,_]) ?_
   refine LWo.loadN ((e_impl_Entry a0)).cells g_impl_Entry s_impl_Entry rfl (Nat.le_of_ble_eq_true rfl) rfl (hn := ?_)
   refine bk h fun x8 e8 h => ?_
   refine LWo.vcall rfl rfl (c_spec_l18Body _ _ e8) (.same (.nil)) (hn := ?_)
   refine LWo.assign (e_Luint8 x8) rfl (hn := ?_)
   refine LWo.nil (hN7 _ ?_)
   refine LWP.seq_k fun N9 hN9 => ?_
   refine LWP.region (l := [_,_,_,_,_,_,_,_,_,_]) ?_
   refine LWo.move (e_Luint8 x8) rfl (hn := ?_)
   refine LWo.lenM (f := e_uint8) (l := x8) u_Luint8 rfl (hn := ?_)
   refine bk h fun x10 e10 h => ?_
   refine LWo.int _ rfl rfl (quo_ck e10) (hn := ?_)
   refine LWo.convU8 u_int u_uint8 rfl (hn := ?_)
   refine LWo.move (e_Luint8 x8) rfl (hn := ?_)
   refine LWo.lenM (f := e_uint8) (l := x8) u_Luint8 rfl (hn := ?_)
   refine bk h fun x11 e11 h => ?_
   refine LWo.int _ rfl rfl (rem_ck e11) (hn := ?_)
   refine LWo.convU8 u_int u_uint8 rfl (hn := ?_)
   refine lk h fun y12 e12 h => ?_
   refine LWo.litO (ops := [_, _]) (f := e_uint8) (l := y12) 1020 u_Luint8 s_uint8 z_uint8 (by rw [e12]; rfl) (by rw [e12]; rfl) rfl rfl rfl rfl (hn := ?_)
   refine LWo.assign (.own 1020 0 (y12).length) rfl (hn := ?_)
   refine LWo.nil (hN9 _ ?_)
   refine LWP.seq_k fun N13 hN13 => ?_
   refine LWP.region (l := [_,_,_,_,_,_,_,_]) ?_
   refine LWo.move (.own 1020 0 (y12).length) rfl (hn := ?_)
   refine LWo.move (e_Luint8 x8) rfl (hn := ?_)
   refine bk h fun x14 e14 h => ?_
   refine LWo.appendM (f := e_uint8) e14 rfl u_Luint8 u_Luint8 (fun _ h => by cases h) s_uint8 i_uint8 rfl rfl rfl (.sl rfl) rfl rfl (hn := ?_)
   refine LWo.move (e_Luint8 x8) rfl (hn := ?_)
   refine bk h fun x15 e15 h => ?_
   refine LWo.vcall rfl rfl (c_spec_l18Sum _ _ e15) (.same (.nil)) (hn := ?_)
   refine LWo.lit (ops := [_]) [(e_uint8 x15)] u_Luint8 s_uint8 z_uint8 rfl rfl rfl rfl rfl rfl (hn := ?_)
   refine bk h fun x16 e16 h => ?_
   refine LWo.appendM (f := e_uint8) e16 rfl u_Luint8 u_Luint8 (fun _ h => by cases h) s_uint8 i_uint8 rfl rfl rfl (.sl rfl) rfl rfl (hn := ?_)
   refine LWo.assign (.own 1020 0 (x16).length) rfl (hn := ?_)
   refine LWo.nil (hN13 _ ?_)
   obtain rfl := Option.some.inj h
   refine LWP.ret (QG.mk (.inr rfl) (.cons (.tmp (x := (.own 1020 0 (x16).length)) rfl) (.nil)) (RetOK.one0 (.nwM rfl rfl) (by decide)) rfl rfl)

def m_spec_DrawEntryFrom_j4 (t4n : Nat) (o6 : S_spec_l20Rd) (o1009 : (List UInt8)) : Option (List UInt8) :=
  (leN (0 + t4n) o1009.length).bind fun u25 =>
  (appT? ([] : (List UInt8)) ((([] : (List UInt8))).length) ((o1009.drop 0).take t4n)).bind fun x26 =>
  (m_Pspec_l20Rd_pick o6 (3 : Int)).bind fun x27 =>
  (app? x26 ([(Lift.byteOf x27.1)] : (List UInt8))).bind fun x28 =>
  some x28
def m_spec_DrawEntryFrom_j3 (t34 : Bool) (o6 : S_spec_l20Rd) (o1009 : (List UInt8)) : Option (List UInt8) :=
  bif t34 then ((m_Pspec_l20Rd_pick o6 (o1009.length : Int)).bind fun x22 =>
    (rng? (0 : Int) x22.1 ((o1009).length)).bind fun u23 =>
    m_spec_DrawEntryFrom_j4  ((x22.1).toNat) x22.2 o1009)
  else (m_spec_DrawEntryFrom_j4  ((o1009).length) o6 o1009)
def m_spec_DrawEntryFrom_j2 (o6 : S_spec_l20Rd) (o1009 : (List UInt8)) : Option (List UInt8) :=
  bif decide ((o1009.length : Int) > (0 : Int)) then ((m_Pspec_l20Rd_pick o6 (5 : Int)).bind fun x20 =>
    m_spec_DrawEntryFrom_j3  (x20.1 == (0 : Int)) x20.2 o1009)
  else (m_spec_DrawEntryFrom_j3  false o6 o1009)
def m_spec_DrawEntryFrom_j1 (t17 : Bool) (o6 : S_spec_l20Rd) (o1009 : (List UInt8)) : Option (List UInt8) :=
  bif t17 then ((m_Pspec_l20Rd_pick o6 (o1009.length : Int)).bind fun x12 =>
    (m_Pspec_l20Rd_pick x12.2 (256 : Int)).bind fun x13 =>
    (at? o1009 x12.1).bind fun x14 =>
    (at? o1009 x12.1).bind fun x15 =>
    lt ((Lift.byteOf x13.1)) fun y16 =>
    m_spec_DrawEntryFrom_j2  x13.2 (o1009.set (x12.1).toNat y16))
  else (m_spec_DrawEntryFrom_j2  o6 o1009)
def m_spec_DrawEntryFrom (a0 : (List UInt8)) : Option (List UInt8) :=
  (m_spec_l20Open a0).bind fun x3 =>
  (m_spec_l20Entry x3 (20 : Int)).bind fun x5 =>
  (m_spec_EntryBytes x5.1).bind fun x6 =>
  bif decide ((x6.length : Int) > (0 : Int)) then ((m_Pspec_l20Rd_pick x5.2 (3 : Int)).bind fun x10 =>
    m_spec_DrawEntryFrom_j1  (x10.1 == (0 : Int)) x10.2 x6)
  else (m_spec_DrawEntryFrom_j1  false x5.2 x6)
theorem c_spec_DrawEntryFrom (a0 : (List UInt8)) (r : (List UInt8)) (h : m_spec_DrawEntryFrom a0 = some r) : Ret Try.prog f_spec_DrawEntryFrom [e_Luint8 a0] (.nw 1 (r.map e_uint8) false) := by
  refine Does.goG [] F_spec_DrawEntryFrom rfl e_spec_DrawEntryFrom n_spec_DrawEntryFrom rfl (rvs := [.tmp 2]) rfl rfl ?_
  intro w0 ok0 lent ρ0
  refine LWP.seq_k fun N1 hN1 => ?_
  refine LWP.region (l := [_]) ?_
  refine LWo.assign _ rfl (hn := ?_)
  refine LWo.ownNil 2 1002 1 rfl rfl rfl ?_
  refine LWo.known 2 (.own 1002 0 ([] : (List UInt8)).length) rfl ?_
  refine LWo.nil (hN1 _ ?_)
  refine LWP.seq_k fun N2 hN2 => ?_
  refine LWP.region (l := [_,_,_]) ?_
  refine LWo.move (e_Luint8 a0) rfl (hn := ?_)
  refine bk h fun x3 e3 h => ?_
  refine LWo.bcallM (e := e_spec_l20Rd) 6 rfl rfl (c_spec_l20Open _ _ e3) (.same (.nil)) rfl rfl rfl (hn := ?_)
  refine LWo.assign (.ptr 6 0 0) rfl (hn := ?_)
  refine LWo.nil (hN2 _ ?_)
  refine LWP.seq_k fun N4 hN4 => ?_
  refine LWP.region (l := [_,_,_,_]) ?_
  refine LWo.move (.ptr 6 0 0) rfl (hn := ?_)
  refine bk h fun x5 e5 h => ?_
  refine LWo.lcall rfl rfl (k_spec_l20Entry _ _ _ e5 6) rfl rfl rfl (hn := ?_)
  refine bk h fun x6 e6 h => ?_
  refine LWo.ncall (e := e_uint8) 1009 rfl rfl (c_spec_EntryBytes _ _ e6) (.same (.nil)) rfl (hn := ?_)
  refine LWo.assign (.own 1009 0 (x6).length) rfl (hn := ?_)
  refine LWo.nil (hN4 _ ?_)
  refine LWP.join (α := S_spec_l20Rd × (List UInt8)) (fun z : S_spec_l20Rd × (List UInt8) => [(3, (.ptr 6 0 0)), (4, (.own 1009 0 (z.2).length))]) (fun z : S_spec_l20Rd × (List UInt8) => [(6, (vob 2 e_spec_l20Rd z.1)), (1009, (lob 1 e_uint8 z.2))]) (fun z : S_spec_l20Rd × (List UInt8) => m_spec_DrawEntryFrom_j2  z.1 z.2) r (fun _ => by simp [hkeys]) ?_ ?_
  ·rintro ⟨o6, o1009⟩ h
   replace h : m_spec_DrawEntryFrom_j2  o6 o1009 = some _ := h
   refine LWP.join (α := Nat × S_spec_l20Rd × (List UInt8)) (fun z : Nat × S_spec_l20Rd × (List UInt8) => [(3, (.ptr 6 0 0)), (4, (.own 1009 0 z.1))]) (fun z : Nat × S_spec_l20Rd × (List UInt8) => [(6, (vob 2 e_spec_l20Rd z.2.1)), (1009, (lob 1 e_uint8 z.2.2))]) (fun z : Nat × S_spec_l20Rd × (List UInt8) => m_spec_DrawEntryFrom_j4  z.1 z.2.1 z.2.2) r (fun _ => by simp [hkeys]) ?_ ?_
   ·rintro ⟨t4n, o6, o1009⟩ h
    replace h : m_spec_DrawEntryFrom_j4  t4n o6 o1009 = some _ := h
    refine LWP.seq_k fun N24 hN24 => ?_
    refine LWP.region (l := [_,_,_,_,_,_,_,_,_]) ?_
    refine LWo.lit0 1041 u_Luint8 s_uint8 z_uint8 (hn := ?_)
    refine LWo.known 41 (.own 1041 0 ([] : (List UInt8)).length) rfl ?_
    refine LWo.move (.own 1009 0 t4n) rfl (hn := ?_)
    refine bk h fun u25 e25 h => ?_
    refine bk h fun x26 e26 h => ?_
    refine LWo.appendT (f := e_uint8) e26 u_Luint8 u_Luint8 (fun _ h => by cases h) s_uint8 i_uint8 rfl rfl rfl (.cut rfl (leN_b e25) rfl rfl) rfl rfl (hn := ?_)
    refine LWo.move (.ptr 6 0 0) rfl (hn := ?_)
    refine bk h fun x27 e27 h => ?_
    refine LWo.lcall rfl rfl (k_Pspec_l20Rd_pick _ _ _ e27 6) rfl rfl rfl (hn := ?_)
    refine LWo.convU8 u_int u_uint8 rfl (hn := ?_)
    refine LWo.lit (ops := [_]) [(e_uint8 (Lift.byteOf x27.1))] u_Luint8 s_uint8 z_uint8 rfl rfl rfl rfl rfl rfl (hn := ?_)
    refine bk h fun x28 e28 h => ?_
    refine LWo.appendM (f := e_uint8) e28 rfl u_Luint8 u_Luint8 (fun _ h => by cases h) s_uint8 i_uint8 rfl rfl rfl (.sl rfl) rfl rfl (hn := ?_)
    refine LWo.assign (.own 1041 0 (x28).length) rfl (hn := ?_)
    refine LWo.nil (hN24 _ ?_)
    obtain rfl := Option.some.inj h
    refine LWP.ret (QG.mk (.inr rfl) (.cons (.tmp (x := (.own 1041 0 (x28).length)) rfl) (.nil)) (RetOK.one0 (.nwM rfl rfl) (by decide)) rfl rfl)
   ·intro N17 hN17
    refine LWP.join (α := Bool × S_spec_l20Rd × (List UInt8)) (fun z : Bool × S_spec_l20Rd × (List UInt8) => [(3, (.ptr 6 0 0)), (4, (.own 1009 0 (z.2.2).length)), (34, (e_bool z.1))]) (fun z : Bool × S_spec_l20Rd × (List UInt8) => [(6, (vob 2 e_spec_l20Rd z.2.1)), (1009, (lob 1 e_uint8 z.2.2))]) (fun z : Bool × S_spec_l20Rd × (List UInt8) => m_spec_DrawEntryFrom_j3  z.1 z.2.1 z.2.2) r (fun _ => by simp [hkeys]) ?_ ?_
    ·rintro ⟨t34, o6, o1009⟩ h
     replace h : m_spec_DrawEntryFrom_j3  t34 o6 o1009 = some _ := h
     refine LWP.cond_split rfl (fun h21 => ?_) (fun h21 => ?_)
     ·have h := bT h21 h
      refine LWP.region (l := [_,_,_,_,_,_,_]) ?_
      refine LWo.move (.own 1009 0 (o1009).length) rfl (hn := ?_)
      refine LWo.move (.ptr 6 0 0) rfl (hn := ?_)
      refine LWo.move (.own 1009 0 (o1009).length) rfl (hn := ?_)
      refine LWo.lenO u_Luint8 rfl (hn := ?_)
      refine bk h fun x22 e22 h => ?_
      refine LWo.lcall rfl rfl (k_Pspec_l20Rd_pick _ _ _ e22 6) rfl rfl rfl (hn := ?_)
      refine bk h fun u23 e23 h => ?_
      refine LWo.cutOM e23 u_Luint8 s_uint8 rfl rfl rfl ⟨_, rfl⟩ (hn := ?_)
      refine LWo.assign (.own 1009 0 ((x22.1).toNat)) rfl (hn := ?_)
      refine LWo.nil (hN17 ((x22.1).toNat, x22.2, o1009) _ ⟨rfl, rfl, trivial⟩ ⟨rfl, rfl, trivial⟩ h)
     ·have h := bF h21 h
      refine LWP.skip (hN17 ((o1009).length, o6, o1009) _ ⟨rfl, rfl, trivial⟩ ⟨rfl, rfl, trivial⟩ h)
    ·intro N18 hN18
     refine LWP.region (l := [_,_,_,_,_,_,_,_]) ?_
     refine LWo.move (.own 1009 0 (o1009).length) rfl (hn := ?_)
     refine LWo.lenO u_Luint8 rfl (hn := ?_)
     refine LWo.int _ rfl rfl rfl (hn := ?_)
     refine LWo.move (e_bool (decide ((o1009.length : Int) > (0 : Int)))) rfl (hn := ?_)
     refine LWo.byCases (t := 30) _ rfl (fun h19 => ?_) (fun h19 => ?_)
     ·have h := bT h19 h
      refine LWo.guardY (t := 30) rfl h19 rfl rfl ?_
      refine LWo.move (.ptr 6 0 0) rfl (hn := ?_)
      refine bk h fun x20 e20 h => ?_
      refine LWo.guardY (t := 30) rfl h19 rfl rfl ?_
      refine LWo.lcall rfl rfl (k_Pspec_l20Rd_pick _ _ _ e20 6) rfl rfl rfl (hn := ?_)
      refine LWo.guardY (t := 30) rfl h19 rfl rfl ?_
      refine LWo.int _ rfl rfl rfl (hn := ?_)
      refine LWo.pickTM (e_bool (x20.1 == (0 : Int))) rfl h19 rfl (hn := ?_)
      refine LWo.nil (hN18 ((x20.1 == (0 : Int)), x20.2, o1009) _ ⟨rfl, rfl, rfl, trivial⟩ ⟨rfl, rfl, trivial⟩ h)
     ·have h := bF h19 h
      refine LWo.guardNU (t := 30) rfl h19 rfl rfl rfl rfl rfl ?_
      refine LWo.guardNU (t := 30) rfl h19 rfl rfl rfl rfl rfl ?_
      refine LWo.guardNU (t := 30) rfl h19 rfl rfl rfl rfl rfl ?_
      refine LWo.pickFM (e_bool false) rfl h19 rfl (hn := ?_)
      refine LWo.nil (hN18 (false, o6, o1009) _ ⟨rfl, rfl, rfl, trivial⟩ ⟨rfl, rfl, trivial⟩ h)
  ·intro N7 hN7
   refine LWP.join (α := Bool × S_spec_l20Rd × (List UInt8)) (fun z : Bool × S_spec_l20Rd × (List UInt8) => [(3, (.ptr 6 0 0)), (4, (.own 1009 0 (z.2.2).length)), (17, (e_bool z.1))]) (fun z : Bool × S_spec_l20Rd × (List UInt8) => [(6, (vob 2 e_spec_l20Rd z.2.1)), (1009, (lob 1 e_uint8 z.2.2))]) (fun z : Bool × S_spec_l20Rd × (List UInt8) => m_spec_DrawEntryFrom_j1  z.1 z.2.1 z.2.2) r (fun _ => by simp [hkeys]) ?_ ?_
   ·rintro ⟨t17, o6, o1009⟩ h
    replace h : m_spec_DrawEntryFrom_j1  t17 o6 o1009 = some _ := h
    refine LWP.cond_split rfl (fun h11 => ?_) (fun h11 => ?_)
    ·have h := bT h11 h
     refine LWP.region (l := [_,_,_,_,_,_,_,_,_,_]) ?_
     refine LWo.move (.own 1009 0 (o1009).length) rfl (hn := ?_)
     refine LWo.move (.ptr 6 0 0) rfl (hn := ?_)
     refine LWo.move (.own 1009 0 (o1009).length) rfl (hn := ?_)
     refine LWo.lenO u_Luint8 rfl (hn := ?_)
     refine bk h fun x12 e12 h => ?_
     refine LWo.lcall rfl rfl (k_Pspec_l20Rd_pick _ _ _ e12 6) rfl rfl rfl (hn := ?_)
     refine LWo.move (.ptr 6 0 0) rfl (hn := ?_)
     refine bk h fun x13 e13 h => ?_
     refine LWo.lcall rfl rfl (k_Pspec_l20Rd_pick _ _ _ e13 6) rfl rfl rfl (hn := ?_)
     refine LWo.convU8 u_int u_uint8 rfl (hn := ?_)
     refine bk h fun x14 e14 h => ?_
     refine LWo.indexO e14 rfl u_Luint8 s_uint8 rfl rfl rfl (hn := ?_)
     refine bk h fun x15 e15 h => ?_
     refine lk h fun y16 e16 h => ?_
     refine LWo.storeO y16 e15 s_uint8 rfl rfl rfl rfl rfl rfl rfl (by rw [e16]; rfl) (hn := ?_)
     refine LWo.nil (hN7 (x13.2, (o1009.set (x12.1).toNat y16)) _ ⟨rfl, (congrArg (LV.own 1009 0) List.length_set.symm), trivial⟩ ⟨rfl, rfl, trivial⟩ h)
    ·have h := bF h11 h
     refine LWP.skip (hN7 (o6, o1009) _ ⟨rfl, rfl, trivial⟩ ⟨rfl, rfl, trivial⟩ h)
   ·intro N8 hN8
    refine LWP.region (l := [_,_,_,_,_,_,_,_]) ?_
    refine LWo.move (.own 1009 0 (x6).length) rfl (hn := ?_)
    refine LWo.lenO u_Luint8 rfl (hn := ?_)
    refine LWo.int _ rfl rfl rfl (hn := ?_)
    refine LWo.move (e_bool (decide ((x6.length : Int) > (0 : Int)))) rfl (hn := ?_)
    refine LWo.byCases (t := 13) _ rfl (fun h9 => ?_) (fun h9 => ?_)
    ·have h := bT h9 h
     refine LWo.guardY (t := 13) rfl h9 rfl rfl ?_
     refine LWo.move (.ptr 6 0 0) rfl (hn := ?_)
     refine bk h fun x10 e10 h => ?_
     refine LWo.guardY (t := 13) rfl h9 rfl rfl ?_
     refine LWo.lcall rfl rfl (k_Pspec_l20Rd_pick _ _ _ e10 6) rfl rfl rfl (hn := ?_)
     refine LWo.guardY (t := 13) rfl h9 rfl rfl ?_
     refine LWo.int _ rfl rfl rfl (hn := ?_)
     refine LWo.pickTM (e_bool (x10.1 == (0 : Int))) rfl h9 rfl (hn := ?_)
     refine LWo.nil (hN8 ((x10.1 == (0 : Int)), x10.2, x6) _ ⟨rfl, rfl, rfl, trivial⟩ ⟨rfl, rfl, trivial⟩ h)
    ·have h := bF h9 h
     refine LWo.guardNU (t := 13) rfl h9 rfl rfl rfl rfl rfl ?_
     refine LWo.guardNU (t := 13) rfl h9 rfl rfl rfl rfl rfl ?_
     refine LWo.guardNU (t := 13) rfl h9 rfl rfl rfl rfl rfl ?_
     refine LWo.pickFM (e_bool false) rfl h9 rfl (hn := ?_)
     refine LWo.nil (hN8 (false, x5.2, x6) _ ⟨rfl, rfl, rfl, trivial⟩ ⟨rfl, rfl, trivial⟩ h)

def m_impl_sumOf_j1 (t3 : Int) : Option UInt8 :=
  some (Lift.byteOf t3)
def m_impl_sumOf_l1 : Nat → Int → (List UInt8) → Int → Int → Option UInt8
  | 0, _, _, _, _ => none
  | n1 + 1, t3, t6, t7, t8 =>
    bif decide (t8 < t7) then ((at? t6 t8).bind fun x12 =>
    (ckI (t8 + (1 : Int))).bind fun x13 =>
    (ckI ((x12.toNat : Int) * x13)).bind fun x14 =>
    (ckI (t3 + x14)).bind fun x15 =>
    (remI x15 (251 : Int)).bind fun x16 =>
    (ckI (t8 + (1 : Int))).bind fun x17 =>
    (m_impl_sumOf_l1  n1) x16 t6 t7 x17)
    else (m_impl_sumOf_j1  t3)
def m_impl_sumOf (a0 : (List UInt8)) : Option UInt8 :=
  m_impl_sumOf_l1  (((a0.length : Int) - (0 : Int)).toNat + 1) (0 : Int) a0 (a0.length : Int) (0 : Int)
theorem c_impl_sumOf (a0 : (List UInt8)) (r : UInt8) (h : m_impl_sumOf a0 = some r) : Ret Try.prog f_impl_sumOf [e_Luint8 a0] (e_uint8 r) := by
  refine Does.goG [] F_impl_sumOf rfl e_impl_sumOf n_impl_sumOf rfl (rvs := [.tmp 2]) rfl rfl ?_
  intro w0 ok0 lent ρ0
  refine LWP.seq_k fun N1 hN1 => ?_
  refine LWP.region (l := [_]) ?_
  refine LWo.assign (e_uint8 (0 : UInt8)) rfl (hn := ?_)
  refine LWo.nil (hN1 _ ?_)
  refine LWP.seq_k fun N2 hN2 => ?_
  refine LWP.region (l := [_]) ?_
  refine LWo.assign (e_int (0 : Int)) rfl (hn := ?_)
  refine LWo.nil (hN2 _ ?_)
  refine LWP.join (α := Int) (fun z : Int => [(3, (e_int z))]) (fun z : Int => []) (fun z : Int => m_impl_sumOf_j1  z) r (fun _ => by simp [hkeys]) ?_ ?_
  ·rintro t3 h
   replace h : m_impl_sumOf_j1  t3 = some _ := h
   refine LWP.seq_k fun N18 hN18 => ?_
   refine LWP.region (l := [_,_,_]) ?_
   refine LWo.move (e_int t3) rfl (hn := ?_)
   refine LWo.convU8 u_int u_uint8 rfl (hn := ?_)
   refine LWo.assign (e_uint8 (Lift.byteOf t3)) rfl (hn := ?_)
   refine LWo.nil (hN18 _ ?_)
   obtain rfl := Option.some.inj h
   refine LWP.ret (QG.mk (.inr rfl) (.cons (.tmp (x := (e_uint8 (Lift.byteOf t3))) rfl) (.nil)) (RetOK.one0 (.pure rfl) (by decide)) rfl rfl)
  ·intro N3 hN3
   refine LWP.seq_k fun N4 hN4 => ?_
   refine LWP.region (l := [_,_,_]) ?_
   refine LWo.move (e_Luint8 a0) rfl (hn := ?_)
   refine LWo.lenM (f := e_uint8) (l := a0) u_Luint8 rfl (hn := ?_)
   refine LWo.move (e_int (0 : Int)) rfl (hn := ?_)
   refine LWo.nil (hN4 _ ?_)
   refine LWP.block ?_
   refine LWP.loopM (α := Int × (List UInt8) × Int × Int) (fun z : Int × (List UInt8) × Int × Int => [(3, (e_int z.1)), (6, (e_Luint8 z.2.1)), (7, (e_int z.2.2.1)), (8, (e_int z.2.2.2))]) (fun z : Int × (List UInt8) × Int × Int => []) (fun n1 (z : Int × (List UInt8) × Int × Int) => m_impl_sumOf_l1  n1 z.1 z.2.1 z.2.2.1 z.2.2.2) r _ ((0 : Int), a0, (a0.length : Int), (0 : Int)) h (fun _ => rfl) (fun _ => by simp [hkeys]) ⟨rfl, rfl, rfl, rfl, trivial⟩ trivial ?_
   rintro n1 ⟨t3, t6, t7, t8⟩ h N5 hN5
   replace h : m_impl_sumOf_l1  (n1 + 1) t3 t6 t7 t8 = some _ := h
   refine LWP.seq_k fun N7 hN7 => ?_
   refine LWP.region (l := [_]) ?_
   refine LWo.int _ rfl rfl rfl (hn := ?_)
   refine LWo.nil (hN7 _ ?_)
   refine LWP.seq_k fun N8 hN8 => ?_
   refine LWP.cond_split rfl (fun h9 => ?_) (fun h9 => ?_)
   ·have h := bT h9 h
    refine LWP.skip (hN8 _ ?_)
    refine LWP.seq_k fun N10 hN10 => ?_
    refine LWP.block ?_
    refine LWP.seq_k fun N11 hN11 => ?_
    refine LWP.region (l := [_,_,_,_,_]) ?_
    refine LWo.move (e_int t8) rfl (hn := ?_)
    refine bk h fun x12 e12 h => ?_
    refine LWo.indexM (f := e_uint8) e12 u_Luint8 s_uint8 rfl rfl (hn := ?_)
    refine LWo.load1 (c := (e_uint8 x12)) g_uint8 rfl (hn := ?_)
    refine LWo.assign (e_int t8) rfl (hn := ?_)
    refine LWo.assign (e_uint8 x12) rfl (hn := ?_)
    refine LWo.nil (hN11 _ ?_)
    refine LWP.region (l := [_,_,_,_,_,_,_,_,_]) ?_
    refine LWo.move (e_int t3) rfl (hn := ?_)
    refine LWo.move (e_uint8 x12) rfl (hn := ?_)
    refine LWo.convByte _ u_uint8 u_int rfl (hn := ?_)
    refine LWo.move (e_int t8) rfl (hn := ?_)
    refine bk h fun x13 e13 h => ?_
    refine LWo.int _ rfl rfl (add_ck e13) (hn := ?_)
    refine bk h fun x14 e14 h => ?_
    refine LWo.int _ rfl rfl (mul_ck e14) (hn := ?_)
    refine bk h fun x15 e15 h => ?_
    refine LWo.int _ rfl rfl (add_ck e15) (hn := ?_)
    refine bk h fun x16 e16 h => ?_
    refine LWo.int _ rfl rfl (rem_ck e16) (hn := ?_)
    refine LWo.assign (e_int x16) rfl (hn := ?_)
    refine LWo.nil (hN10 _ ?_)
    refine LWP.region (l := [_,_]) ?_
    refine bk h fun x17 e17 h => ?_
    refine LWo.int _ rfl rfl (add_ck e17) (hn := ?_)
    refine LWo.move (e_int x17) rfl (hn := ?_)
    refine LWo.nil (hN5 (x16, t6, t7, x17) _ ⟨rfl, rfl, rfl, rfl, trivial⟩ trivial h)
   ·have h := bF h9 h
    refine LWP.exit (hN3 t3 _ ⟨rfl, trivial⟩ trivial h)
end Go.Proofs.Ytijihchddhikhaa
