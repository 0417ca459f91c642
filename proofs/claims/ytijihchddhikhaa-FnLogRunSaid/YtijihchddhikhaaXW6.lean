/- Mirrors of functions, and that the functions return what the mirrors say. -/
import Derived.Test.YtijihchddhikhaaXW5
set_option linter.unusedVariables false
set_option linter.unusedSimpArgs false
set_option linter.unnecessarySimpa false
namespace Go.Proofs.Ytijihchddhikhaa
open Go.Proofs Go.Lift Go.RowKit
def m_impl_seen_j2 (o6 : S_impl_Version) : Option (S_impl_Version × Bool) :=
  lt ((⟨(0 : Int), (0 : Int), (0 : Int), []⟩ : S_impl_Version)) fun y22 =>
  some (y22, false)
def m_impl_seen_j1 (k1 : Int → Int → (List S_impl_Version) → Int → Int → S_impl_Version → Option (S_impl_Version × Bool)) (t1 : Int) (t2 : Int) (t10 : (List S_impl_Version)) (t11 : Int) (t12 : Int) (t36 : Bool) (o6 : S_impl_Version) (o9 : S_impl_Version) : Option (S_impl_Version × Bool) :=
  bif t36 then (lt (o9) fun y19 =>
    some (y19, true))
  else ((ckI (t12 + (1 : Int))).bind fun x20 =>
  k1 t1 t2 t10 t11 x20 o6)
def m_impl_seen_l1 : Nat → Int → Int → (List S_impl_Version) → Int → Int → S_impl_Version → Option (S_impl_Version × Bool)
  | 0, _, _, _, _, _, _ => none
  | n1 + 1, t1, t2, t10, t11, t12, o6 =>
    bif decide (t12 < t11) then ((at? t10 t12).bind fun x11 =>
    lt (x11) fun y12 =>
    bif (y12.Key == t1) then (bif decide (y12.Born ≤ t2) then (bif (y12.Died == (0 : Int)) then (m_impl_seen_j1  (m_impl_seen_l1  n1) t1 t2 t10 t11 t12 true o6 y12)
        else (m_impl_seen_j1  (m_impl_seen_l1  n1) t1 t2 t10 t11 t12 (decide (y12.Died > t2)) o6 y12))
      else (m_impl_seen_j1  (m_impl_seen_l1  n1) t1 t2 t10 t11 t12 false o6 y12))
    else (m_impl_seen_j1  (m_impl_seen_l1  n1) t1 t2 t10 t11 t12 false o6 y12))
    else (m_impl_seen_j2  o6)
def m_impl_seen (a0 : (List S_impl_Version)) (a1 : Int) (a2 : Int) : Option (S_impl_Version × Bool) :=
  m_impl_seen_l1  (((a0.length : Int) - (0 : Int)).toNat + 1) a1 a2 a0 (a0.length : Int) (0 : Int) (⟨(0 : Int), (0 : Int), (0 : Int), []⟩ : S_impl_Version)
theorem c_impl_seen (a0 : (List S_impl_Version)) (a1 : Int) (a2 : Int) (r : (S_impl_Version × Bool)) (h : m_impl_seen a0 a1 a2 = some r) : Ret Try.prog f_impl_seen [e_Limpl_Version a0, e_int a1, e_int a2] (.tup [e_impl_Version r.1, e_bool r.2]) := by
  refine Does.goG [] F_impl_seen rfl e_impl_seen n_impl_seen rfl (rvs := [.cell 6 t_impl_Version, .tmp 7]) rfl rfl ?_
  intro w0 ok0 lent ρ0
  refine LWP.seq_k fun N1 hN1 => ?_
  refine LWP.region (l := [_,_]) ?_
  refine LWo.alloc_impl_Version 6 rfl (hn := ?_)
  refine LWo.assign (e_bool false) rfl (hn := ?_)
  refine LWo.nil (hN1 _ ?_)
  refine LWP.join (α := S_impl_Version) (fun z : S_impl_Version => [(6, (.ptr 6 0 0))]) (fun z : S_impl_Version => [(6, (vob 4 e_impl_Version z))]) (fun z : S_impl_Version => m_impl_seen_j2  z) r (fun _ => by simp [hkeys]) ?_ ?_
  ·rintro o6 h
   replace h : m_impl_seen_j2  o6 = some _ := h
   refine LWP.seq_k fun N21 hN21 => ?_
   refine LWP.region (l := [_,_,_]) ?_
   refine LWo.build_impl_Version (parts := []) (⟨(0 : Int), (0 : Int), (0 : Int), []⟩ : S_impl_Version) rfl rfl rfl (.agg (.cons .refl (.cons .refl (.cons .refl (.cons .nil .nil))))) (hn := ?_)
   refine lk h fun y22 e22 h => ?_
   refine LWo.storeW (y := o6) y22 s_impl_Version rfl rfl rfl rfl rfl rfl (by rw [e22]; exact .refl) rfl (hn := ?_)
   refine LWo.assign (e_bool false) rfl (hn := ?_)
   refine LWo.nil (hN21 _ ?_)
   obtain rfl := Option.some.inj h
   refine LWP.ret (QG.mk (.inr rfl) (.cons (.cellN (ys := (e_impl_Version y22).cells) g_impl_Version s_impl_Version rfl rfl rfl rfl rfl (fun _ _ => rfl)) (.cons (.tmp (x := (e_bool false)) rfl) (.nil))) (RetOK.many0 (.cons (.pure rfl) (.cons (.pure rfl) (.nil))) (by simp) (by decide)) rfl rfl)
  ·intro N2 hN2
   refine LWP.seq_k fun N3 hN3 => ?_
   refine LWP.region (l := [_,_,_]) ?_
   refine LWo.move (e_Limpl_Version a0) rfl (hn := ?_)
   refine LWo.lenM (f := e_impl_Version) (l := a0) u_Limpl_Version rfl (hn := ?_)
   refine LWo.move (e_int (0 : Int)) rfl (hn := ?_)
   refine LWo.nil (hN3 _ ?_)
   refine LWP.block ?_
   refine LWP.loopM (α := Int × Int × (List S_impl_Version) × Int × Int × S_impl_Version) (fun z : Int × Int × (List S_impl_Version) × Int × Int × S_impl_Version => [(1, (e_int z.1)), (2, (e_int z.2.1)), (6, (.ptr 6 0 0)), (10, (e_Limpl_Version z.2.2.1)), (11, (e_int z.2.2.2.1)), (12, (e_int z.2.2.2.2.1))]) (fun z : Int × Int × (List S_impl_Version) × Int × Int × S_impl_Version => [(6, (vob 4 e_impl_Version z.2.2.2.2.2))]) (fun n1 (z : Int × Int × (List S_impl_Version) × Int × Int × S_impl_Version) => m_impl_seen_l1  n1 z.1 z.2.1 z.2.2.1 z.2.2.2.1 z.2.2.2.2.1 z.2.2.2.2.2) r _ (a1, a2, a0, (a0.length : Int), (0 : Int), (⟨(0 : Int), (0 : Int), (0 : Int), []⟩ : S_impl_Version)) h (fun _ => rfl) (fun _ => by simp [hkeys]) ⟨rfl, rfl, rfl, rfl, rfl, rfl, trivial⟩ ⟨rfl, trivial⟩ ?_
   rintro n1 ⟨t1, t2, t10, t11, t12, o6⟩ h N4 hN4
   replace h : m_impl_seen_l1  (n1 + 1) t1 t2 t10 t11 t12 o6 = some _ := h
   refine LWP.seq_k fun N6 hN6 => ?_
   refine LWP.region (l := [_]) ?_
   refine LWo.int _ rfl rfl rfl (hn := ?_)
   refine LWo.nil (hN6 _ ?_)
   refine LWP.seq_k fun N7 hN7 => ?_
   refine LWP.cond_split rfl (fun h8 => ?_) (fun h8 => ?_)
   ·have h := bT h8 h
    refine LWP.skip (hN7 _ ?_)
    refine LWP.seq_k fun N9 hN9 => ?_
    refine LWP.block ?_
    refine LWP.seq_k fun N10 hN10 => ?_
    refine LWP.region (l := [_,_,_,_]) ?_
    refine bk h fun x11 e11 h => ?_
    refine LWo.indexM (f := e_impl_Version) e11 u_Limpl_Version s_impl_Version rfl rfl (hn := ?_)
    refine LWo.loadN ((e_impl_Version x11)).cells g_impl_Version s_impl_Version rfl (Nat.le_of_ble_eq_true rfl) rfl (hn := ?_)
    refine LWo.alloc_impl_Version 9 rfl (hn := ?_)
    refine lk h fun y12 e12 h => ?_
    refine LWo.storeW (y := (⟨(0 : Int), (0 : Int), (0 : Int), []⟩ : S_impl_Version)) y12 s_impl_Version rfl rfl rfl rfl rfl rfl (by rw [e12]; exact .refl) rfl (hn := ?_)
    refine LWo.nil (hN10 _ ?_)
    refine LWP.join (α := Int × Int × (List S_impl_Version) × Int × Int × Bool × S_impl_Version × S_impl_Version) (fun z : Int × Int × (List S_impl_Version) × Int × Int × Bool × S_impl_Version × S_impl_Version => [(1, (e_int z.1)), (2, (e_int z.2.1)), (6, (.ptr 6 0 0)), (9, (.ptr 9 0 0)), (10, (e_Limpl_Version z.2.2.1)), (11, (e_int z.2.2.2.1)), (12, (e_int z.2.2.2.2.1)), (36, (e_bool z.2.2.2.2.2.1))]) (fun z : Int × Int × (List S_impl_Version) × Int × Int × Bool × S_impl_Version × S_impl_Version => [(6, (vob 4 e_impl_Version z.2.2.2.2.2.2.1)), (9, (vob 4 e_impl_Version z.2.2.2.2.2.2.2))]) (fun z : Int × Int × (List S_impl_Version) × Int × Int × Bool × S_impl_Version × S_impl_Version => m_impl_seen_j1  (m_impl_seen_l1  n1) z.1 z.2.1 z.2.2.1 z.2.2.2.1 z.2.2.2.2.1 z.2.2.2.2.2.1 z.2.2.2.2.2.2.1 z.2.2.2.2.2.2.2) r (fun _ => by simp [hkeys]) ?_ ?_
    ·rintro ⟨t1, t2, t10, t11, t12, t36, o6, o9⟩ h
     replace h : m_impl_seen_j1  (m_impl_seen_l1  n1) t1 t2 t10 t11 t12 t36 o6 o9 = some _ := h
     refine LWP.cond_split rfl (fun h17 => ?_) (fun h17 => ?_)
     ·have h := bT h17 h
      refine LWP.seq_k fun N18 hN18 => ?_
      refine LWP.region (l := [_,_,_]) ?_
      refine LWo.loadVN ((e_impl_Version o9)).cells  g_impl_Version s_impl_Version rfl rfl rfl rfl (hn := ?_)
      refine lk h fun y19 e19 h => ?_
      refine LWo.storeW (y := o6) y19 s_impl_Version rfl rfl rfl rfl rfl rfl (by rw [e19]; exact .refl) rfl (hn := ?_)
      refine LWo.assign (e_bool true) rfl (hn := ?_)
      refine LWo.nil (hN18 _ ?_)
      obtain rfl := Option.some.inj h
      refine LWP.ret (QG.mk (.inr rfl) (.cons (.cellN (ys := (e_impl_Version y19).cells) g_impl_Version s_impl_Version rfl rfl rfl rfl rfl (fun _ _ => rfl)) (.cons (.tmp (x := (e_bool true)) rfl) (.nil))) (RetOK.many0 (.cons (.pure rfl) (.cons (.pure rfl) (.nil))) (by simp) (by decide)) rfl rfl)
     ·have h := bF h17 h
      refine LWP.skip (hN9 _ ?_)
      refine LWP.region (l := [_,_]) ?_
      refine bk h fun x20 e20 h => ?_
      refine LWo.int _ rfl rfl (add_ck e20) (hn := ?_)
      refine LWo.move (e_int x20) rfl (hn := ?_)
      refine LWo.nil (hN4 (t1, t2, t10, t11, x20, o6) _ ⟨rfl, rfl, rfl, rfl, rfl, rfl, trivial⟩ ⟨rfl, trivial⟩ h)
    ·intro N13 hN13
     refine LWP.region (l := [_,_,_,_,_,_,_,_,_,_,_,_,_,_,_,_,_,_,_,_,_]) ?_
     refine LWo.fieldPtr u_impl_Version rfl s_int rfl rfl (hn := ?_)
     refine LWo.loadV1 (e_int y12.Key)  g_int rfl rfl rfl (hn := ?_)
     refine LWo.move (e_int t1) rfl (hn := ?_)
     refine LWo.int _ rfl rfl rfl (hn := ?_)
     refine LWo.move (e_bool (y12.Key == t1)) rfl (hn := ?_)
     refine LWo.byCases (t := 20) _ rfl (fun h14 => ?_) (fun h14 => ?_)
     ·have h := bT h14 h
      refine LWo.guardY (t := 20) rfl h14 rfl rfl ?_
      refine LWo.fieldPtr u_impl_Version rfl s_int rfl rfl (hn := ?_)
      refine LWo.guardY (t := 20) rfl h14 rfl rfl ?_
      refine LWo.loadV1 (e_int y12.Born)  g_int rfl rfl rfl (hn := ?_)
      refine LWo.guardY (t := 20) rfl h14 rfl rfl ?_
      refine LWo.move (e_int t2) rfl (hn := ?_)
      refine LWo.guardY (t := 20) rfl h14 rfl rfl ?_
      refine LWo.int _ rfl rfl rfl (hn := ?_)
      refine LWo.pickTM (e_bool (decide (y12.Born ≤ t2))) rfl h14 rfl (hn := ?_)
      refine LWo.move (e_bool (decide (y12.Born ≤ t2))) rfl (hn := ?_)
      refine LWo.byCases (t := 26) _ rfl (fun h15 => ?_) (fun h15 => ?_)
      ·have h := bT h15 h
       refine LWo.guardY (t := 26) rfl h15 rfl rfl ?_
       refine LWo.fieldPtr u_impl_Version rfl s_int rfl rfl (hn := ?_)
       refine LWo.guardY (t := 26) rfl h15 rfl rfl ?_
       refine LWo.loadV1 (e_int y12.Died)  g_int rfl rfl rfl (hn := ?_)
       refine LWo.guardY (t := 26) rfl h15 rfl rfl ?_
       refine LWo.int _ rfl rfl rfl (hn := ?_)
       refine LWo.guardY (t := 26) rfl h15 rfl rfl ?_
       refine LWo.move (e_bool (y12.Died == (0 : Int))) rfl (hn := ?_)
       refine LWo.byCases (t := 30) _ rfl (fun h16 => ?_) (fun h16 => ?_)
       ·have h := bT h16 h
        refine LWo.guardNU (t := 30) rfl h16 rfl rfl rfl rfl rfl ?_
        refine LWo.guardNU (t := 30) rfl h16 rfl rfl rfl rfl rfl ?_
        refine LWo.guardNU (t := 30) rfl h16 rfl rfl rfl rfl rfl ?_
        refine LWo.guardNU (t := 30) rfl h16 rfl rfl rfl rfl rfl ?_
        refine LWo.guardY (t := 26) rfl h15 rfl rfl ?_
        refine LWo.pickTM (e_bool true) rfl h16 rfl (hn := ?_)
        refine LWo.pickTM (e_bool true) rfl h15 rfl (hn := ?_)
        refine LWo.nil (hN13 (t1, t2, t10, t11, t12, true, o6, y12) _ ⟨rfl, rfl, rfl, rfl, rfl, rfl, rfl, rfl, trivial⟩ ⟨rfl, rfl, trivial⟩ h)
       ·have h := bF h16 h
        refine LWo.guardY (t := 30) rfl h16 rfl rfl ?_
        refine LWo.fieldPtr u_impl_Version rfl s_int rfl rfl (hn := ?_)
        refine LWo.guardY (t := 30) rfl h16 rfl rfl ?_
        refine LWo.loadV1 (e_int y12.Died)  g_int rfl rfl rfl (hn := ?_)
        refine LWo.guardY (t := 30) rfl h16 rfl rfl ?_
        refine LWo.move (e_int t2) rfl (hn := ?_)
        refine LWo.guardY (t := 30) rfl h16 rfl rfl ?_
        refine LWo.int _ rfl rfl rfl (hn := ?_)
        refine LWo.guardY (t := 26) rfl h15 rfl rfl ?_
        refine LWo.pickFM (e_bool (decide (y12.Died > t2))) rfl h16 rfl (hn := ?_)
        refine LWo.pickTM (e_bool (decide (y12.Died > t2))) rfl h15 rfl (hn := ?_)
        refine LWo.nil (hN13 (t1, t2, t10, t11, t12, decide (y12.Died > t2), o6, y12) _ ⟨rfl, rfl, rfl, rfl, rfl, rfl, rfl, rfl, trivial⟩ ⟨rfl, rfl, trivial⟩ h)
      ·have h := bF h15 h
       refine LWo.guardNU (t := 26) rfl h15 rfl rfl rfl rfl rfl ?_
       refine LWo.guardNU (t := 26) rfl h15 rfl rfl rfl rfl rfl ?_
       refine LWo.guardNU (t := 26) rfl h15 rfl rfl rfl rfl rfl ?_
       refine LWo.guardNU (t := 26) rfl h15 rfl rfl rfl rfl rfl ?_
       refine LWo.guardU (t := 30) rfl rfl rfl rfl rfl ?_
       refine LWo.guardU (t := 30) rfl rfl rfl rfl rfl ?_
       refine LWo.guardU (t := 30) rfl rfl rfl rfl rfl ?_
       refine LWo.guardU (t := 30) rfl rfl rfl rfl rfl ?_
       refine LWo.guardNU (t := 26) rfl h15 rfl rfl rfl rfl rfl ?_
       refine LWo.pickFM (e_bool false) rfl h15 rfl (hn := ?_)
       refine LWo.nil (hN13 (t1, t2, t10, t11, t12, false, o6, y12) _ ⟨rfl, rfl, rfl, rfl, rfl, rfl, rfl, rfl, trivial⟩ ⟨rfl, rfl, trivial⟩ h)
     ·have h := bF h14 h
      refine LWo.guardNU (t := 20) rfl h14 rfl rfl rfl rfl rfl ?_
      refine LWo.guardNU (t := 20) rfl h14 rfl rfl rfl rfl rfl ?_
      refine LWo.guardNU (t := 20) rfl h14 rfl rfl rfl rfl rfl ?_
      refine LWo.guardNU (t := 20) rfl h14 rfl rfl rfl rfl rfl ?_
      refine LWo.pickFM (e_bool false) rfl h14 rfl (hn := ?_)
      refine LWo.move (e_bool false) rfl (hn := ?_)
      refine LWo.guardNU (t := 26) rfl rfl rfl rfl rfl rfl rfl ?_
      refine LWo.guardNU (t := 26) rfl rfl rfl rfl rfl rfl rfl ?_
      refine LWo.guardNU (t := 26) rfl rfl rfl rfl rfl rfl rfl ?_
      refine LWo.guardNU (t := 26) rfl rfl rfl rfl rfl rfl rfl ?_
      refine LWo.guardU (t := 30) rfl rfl rfl rfl rfl ?_
      refine LWo.guardU (t := 30) rfl rfl rfl rfl rfl ?_
      refine LWo.guardU (t := 30) rfl rfl rfl rfl rfl ?_
      refine LWo.guardU (t := 30) rfl rfl rfl rfl rfl ?_
      refine LWo.guardNU (t := 26) rfl rfl rfl rfl rfl rfl rfl ?_
      refine LWo.pickFM (e_bool false) rfl rfl rfl (hn := ?_)
      refine LWo.nil (hN13 (t1, t2, t10, t11, t12, false, o6, y12) _ ⟨rfl, rfl, rfl, rfl, rfl, rfl, rfl, rfl, trivial⟩ ⟨rfl, rfl, trivial⟩ h)
   ·have h := bF h8 h
    refine LWP.exit (hN2 o6 _ ⟨rfl, trivial⟩ ⟨rfl, trivial⟩ h)

theorem cc_slices_Clip_LLimpl_Value_Limpl_Value (xs : List LV) : Does Try.prog f_slices_Clip_LLimpl_Value_Limpl_Value [.own 0 0 xs.length] [(0, { kind := .fro, sz := 1, elems := xs })] (fun r h => r = .nw 1 xs false ∧ h = []) := by
  refine Does.go [0] F_slices_Clip_LLimpl_Value_Limpl_Value rfl e_slices_Clip_LLimpl_Value_Limpl_Value n_slices_Clip_LLimpl_Value_Limpl_Value rfl (ts := [2]) rfl rfl rfl ?_
  intro w0 ok0 lent ρ0
  refine LWP.seq_k fun N1 hN1 => ?_
  refine LWP.region (l := [_]) ?_
  refine LWo.assign _ rfl (hn := ?_)
  refine LWo.nil (hN1 _ ?_)
  refine LWP.seq_k fun N2 hN2 => ?_
  refine LWP.region (l := [_,_,_,_,_,_,_]) ?_
  refine LWo.move _ rfl (hn := ?_)
  refine LWo.move _ rfl (hn := ?_)
  refine LWo.len u_LLimpl_Value rfl (hn := ?_)
  refine LWo.move _ rfl (hn := ?_)
  refine LWo.len u_LLimpl_Value rfl (hn := ?_)
  refine LWo.cutOwn (l := 0) (h := xs.length) u_LLimpl_Value s_Limpl_Value rfl rfl rfl rfl ⟨_, rfl⟩ ⟨_, _, rfl, Nat.le_refl _, Nat.le_refl _⟩ (.inr (by simp)) (Nat.zero_le _) (Nat.le_refl _) rfl rfl (hn := ?_)
  refine LWo.assign _ rfl (hn := ?_)
  refine LWo.nil (hN2 _ ?_)
  refine LWP.ret (QRet.own1 (.inr rfl) rfl rfl rfl rfl (by simp) ⟨?_, rfl⟩)
  clear hN1 hN2
  exact congrArg (fun l => LV.nw 1 l false) (by simp)
def m_slices_Clip_LLimpl_Value_Limpl_Value_o (o0 : List (List S_impl_Value)) : Option (List (List S_impl_Value)) := some o0
theorem c_slices_Clip_LLimpl_Value_Limpl_Value_o (o0 : List (List S_impl_Value)) (r : List (List S_impl_Value)) (h : m_slices_Clip_LLimpl_Value_Limpl_Value_o o0 = some r) : Does Try.prog f_slices_Clip_LLimpl_Value_Limpl_Value [.own 0 0 o0.length] [(0, lob 1 e_Limpl_Value o0)] (fun x hh => x = .nw 1 (r.map e_Limpl_Value) false ∧ hh = []) := by
  cases h
  have := cc_slices_Clip_LLimpl_Value_Limpl_Value (o0.map e_Limpl_Value)
  rw [List.length_map] at this
  exact this



def m_slices_Clip_LLimpl_Value_Limpl_Value (a0 : (List (List S_impl_Value))) : Option (List (List S_impl_Value)) :=
  (cut3? a0 (0 : Int) (a0.length : Int) (a0.length : Int)).bind fun x3 =>
  some x3
theorem c_slices_Clip_LLimpl_Value_Limpl_Value (a0 : (List (List S_impl_Value))) (r : (List (List S_impl_Value))) (h : m_slices_Clip_LLimpl_Value_Limpl_Value a0 = some r) : Ret Try.prog f_slices_Clip_LLimpl_Value_Limpl_Value [e_LLimpl_Value a0] (e_LLimpl_Value r) := by
  refine Does.goG [] F_slices_Clip_LLimpl_Value_Limpl_Value rfl e_slices_Clip_LLimpl_Value_Limpl_Value n_slices_Clip_LLimpl_Value_Limpl_Value rfl (rvs := [.tmp 2]) rfl rfl ?_
  intro w0 ok0 lent ρ0
  refine LWP.seq_k fun N1 hN1 => ?_
  refine LWP.region (l := [_]) ?_
  refine LWo.assign _ rfl (hn := ?_)
  refine LWo.weakT 2 (e_LLimpl_Value ([] : (List (List S_impl_Value)))) rfl .nil ?_
  refine LWo.nil (hN1 _ ?_)
  refine LWP.seq_k fun N2 hN2 => ?_
  refine LWP.region (l := [_,_,_,_,_,_,_]) ?_
  refine LWo.move (e_LLimpl_Value a0) rfl (hn := ?_)
  refine LWo.move (e_LLimpl_Value a0) rfl (hn := ?_)
  refine LWo.lenM (f := e_Limpl_Value) (l := a0) u_LLimpl_Value rfl (hn := ?_)
  refine LWo.move (e_LLimpl_Value a0) rfl (hn := ?_)
  refine LWo.lenM (f := e_Limpl_Value) (l := a0) u_LLimpl_Value rfl (hn := ?_)
  refine bk h fun x3 e3 h => ?_
  refine LWo.cutM3 (f := e_Limpl_Value) e3 u_LLimpl_Value s_Limpl_Value rfl rfl ⟨_, rfl⟩ ⟨_, rfl⟩ (hn := ?_)
  refine LWo.assign (e_LLimpl_Value x3) rfl (hn := ?_)
  refine LWo.nil (hN2 _ ?_)
  obtain rfl := Option.some.inj h
  refine LWP.ret (QG.mk (.inr rfl) (.cons (.tmp (x := (e_LLimpl_Value x3)) rfl) (.nil)) (RetOK.one0 (.pure rfl) (by decide)) rfl rfl)

def m_impl_rowsCopy_j1 (o1003 : (List (List S_impl_Value))) : Option (List (List S_impl_Value)) :=
  (m_slices_Clip_LLimpl_Value_Limpl_Value_o o1003).bind fun x17 =>
  some x17
def m_impl_rowsCopy_l1 : Nat → (List (List S_impl_Value)) → Int → Int → (List (List S_impl_Value)) → Option (List (List S_impl_Value))
  | 0, _, _, _, _ => none
  | n1 + 1, t6, t7, t8, o1003 =>
    bif decide (t8 < t7) then ((at? t6 t8).bind fun x12 =>
    (m_impl_clone_impl_Value x12).bind fun x13 =>
    (app? o1003 ([x13] : (List (List S_impl_Value)))).bind fun x14 =>
    (ckI (t8 + (1 : Int))).bind fun x15 =>
    (m_impl_rowsCopy_l1  n1) t6 t7 x15 x14)
    else (m_impl_rowsCopy_j1  o1003)
def m_impl_rowsCopy (a0 : (List (List S_impl_Value))) : Option (List (List S_impl_Value)) :=
  m_impl_rowsCopy_l1  (((a0.length : Int) - (0 : Int)).toNat + 1) a0 (a0.length : Int) (0 : Int) ([] : (List (List S_impl_Value)))
theorem c_impl_rowsCopy (a0 : (List (List S_impl_Value))) (r : (List (List S_impl_Value))) (h : m_impl_rowsCopy a0 = some r) : Ret Try.prog f_impl_rowsCopy [e_LLimpl_Value a0] (.nw 1 (r.map e_Limpl_Value) false) := by
  refine Does.goG [] F_impl_rowsCopy rfl e_impl_rowsCopy n_impl_rowsCopy rfl (rvs := [.tmp 2]) rfl rfl ?_
  intro w0 ok0 lent ρ0
  refine LWP.seq_k fun N1 hN1 => ?_
  refine LWP.region (l := [_]) ?_
  refine LWo.assign _ rfl (hn := ?_)
  refine LWo.ownNil 2 1002 1 rfl rfl rfl ?_
  refine LWo.known 2 (.own 1002 0 ([] : (List (List S_impl_Value))).length) rfl ?_
  refine LWo.nil (hN1 _ ?_)
  refine LWP.seq_k fun N2 hN2 => ?_
  refine LWP.region (l := [_]) ?_
  refine LWo.assign _ rfl (hn := ?_)
  refine LWo.ownNil 3 1003 1 rfl rfl rfl ?_
  refine LWo.known 3 (.own 1003 0 ([] : (List (List S_impl_Value))).length) rfl ?_
  refine LWo.nil (hN2 _ ?_)
  refine LWP.join (α := (List (List S_impl_Value))) (fun z : (List (List S_impl_Value)) => [(3, (.own 1003 0 (z).length))]) (fun z : (List (List S_impl_Value)) => [(1003, (lob 1 e_Limpl_Value z))]) (fun z : (List (List S_impl_Value)) => m_impl_rowsCopy_j1  z) r (fun _ => by simp [hkeys]) ?_ ?_
  ·rintro o1003 h
   replace h : m_impl_rowsCopy_j1  o1003 = some _ := h
   refine LWP.seq_k fun N16 hN16 => ?_
   refine LWP.region (l := [_,_,_]) ?_
   refine LWo.move (.own 1003 0 (o1003).length) rfl (hn := ?_)
   refine bk h fun x17 e17 h => ?_
   refine LWo.tcallN (e := e_Limpl_Value) (e' := e_Limpl_Value) 1019 rfl rfl (c_slices_Clip_LLimpl_Value_Limpl_Value_o _ _ e17) (fun _ => rfl) rfl rfl rfl rfl (hn := ?_)
   refine LWo.assign (.own 1019 0 (x17).length) rfl (hn := ?_)
   refine LWo.nil (hN16 _ ?_)
   obtain rfl := Option.some.inj h
   refine LWP.ret (QG.mk (.inr rfl) (.cons (.tmp (x := (.own 1019 0 (x17).length)) rfl) (.nil)) (RetOK.one0 (.nwM rfl rfl) (by decide)) rfl rfl)
  ·intro N3 hN3
   refine LWP.seq_k fun N4 hN4 => ?_
   refine LWP.region (l := [_,_,_]) ?_
   refine LWo.move (e_LLimpl_Value a0) rfl (hn := ?_)
   refine LWo.lenM (f := e_Limpl_Value) (l := a0) u_LLimpl_Value rfl (hn := ?_)
   refine LWo.move (e_int (0 : Int)) rfl (hn := ?_)
   refine LWo.nil (hN4 _ ?_)
   refine LWP.block ?_
   refine LWP.loopM (α := (List (List S_impl_Value)) × Int × Int × (List (List S_impl_Value))) (fun z : (List (List S_impl_Value)) × Int × Int × (List (List S_impl_Value)) => [(3, (.own 1003 0 (z.2.2.2).length)), (6, (e_LLimpl_Value z.1)), (7, (e_int z.2.1)), (8, (e_int z.2.2.1))]) (fun z : (List (List S_impl_Value)) × Int × Int × (List (List S_impl_Value)) => [(1003, (lob 1 e_Limpl_Value z.2.2.2))]) (fun n1 (z : (List (List S_impl_Value)) × Int × Int × (List (List S_impl_Value))) => m_impl_rowsCopy_l1  n1 z.1 z.2.1 z.2.2.1 z.2.2.2) r _ (a0, (a0.length : Int), (0 : Int), ([] : (List (List S_impl_Value)))) h (fun _ => rfl) (fun _ => by simp [hkeys]) ⟨rfl, rfl, rfl, rfl, trivial⟩ ⟨rfl, trivial⟩ ?_
   rintro n1 ⟨t6, t7, t8, o1003⟩ h N5 hN5
   replace h : m_impl_rowsCopy_l1  (n1 + 1) t6 t7 t8 o1003 = some _ := h
   refine LWP.seq_k fun N7 hN7 => ?_
   refine LWP.region (l := [_]) ?_
   refine LWo.int _ rfl rfl rfl (hn := ?_)
   refine LWo.nil (hN7 _ ?_)
   refine LWP.seq_k fun N8 hN8 => ?_
   refine LWP.cond_split rfl (fun h9 => ?_) (fun h9 => ?_)
   ·have h := bT h9 h
    refine LWP.skip (hN8 _ ?_)
    refine LWP.seq_k fun N10 hN10 => ?_
    refine LWP.block ?_
    refine LWP.seq_k fun N11 hN11 => ?_
    refine LWP.region (l := [_,_,_]) ?_
    refine bk h fun x12 e12 h => ?_
    refine LWo.indexM (f := e_Limpl_Value) e12 u_LLimpl_Value s_Limpl_Value rfl rfl (hn := ?_)
    refine LWo.load1 (c := (e_Limpl_Value x12)) g_Limpl_Value rfl (hn := ?_)
    refine LWo.assign (e_Limpl_Value x12) rfl (hn := ?_)
    refine LWo.nil (hN11 _ ?_)
    refine LWP.region (l := [_,_,_,_,_,_]) ?_
    refine LWo.move (.own 1003 0 (o1003).length) rfl (hn := ?_)
    refine LWo.move (e_Limpl_Value x12) rfl (hn := ?_)
    refine bk h fun x13 e13 h => ?_
    refine LWo.vcall rfl rfl (c_impl_clone_impl_Value _ _ e13) (.same (.nil)) (hn := ?_)
    refine LWo.lit (ops := [_]) [(e_Limpl_Value x13)] u_LLimpl_Value s_Limpl_Value z_Limpl_Value rfl rfl rfl rfl rfl rfl (hn := ?_)
    refine bk h fun x14 e14 h => ?_
    refine LWo.appendM (f := e_Limpl_Value) e14 rfl u_LLimpl_Value u_LLimpl_Value (fun _ h => by cases h) s_Limpl_Value i_Limpl_Value rfl rfl rfl (.sl rfl) rfl rfl (hn := ?_)
    refine LWo.assign (.own 1003 0 (x14).length) rfl (hn := ?_)
    refine LWo.nil (hN10 _ ?_)
    refine LWP.region (l := [_,_]) ?_
    refine bk h fun x15 e15 h => ?_
    refine LWo.int _ rfl rfl (add_ck e15) (hn := ?_)
    refine LWo.move (e_int x15) rfl (hn := ?_)
    refine LWo.nil (hN5 (t6, t7, x15, x14) _ ⟨rfl, rfl, rfl, rfl, trivial⟩ ⟨rfl, trivial⟩ h)
   ·have h := bF h9 h
    refine LWP.exit (hN3 o1003 _ ⟨rfl, trivial⟩ ⟨rfl, trivial⟩ h)

def m_impl_RowsAt_j2 (o1005 : (List (List S_impl_Value))) : Option (List (List S_impl_Value)) :=
  (m_impl_rowsCopy o1005).bind fun x25 =>
  some x25
def m_impl_RowsAt_j1 (k1 : (List S_impl_Version) → Int → Int → (List (List S_impl_Value)) → Option (List (List S_impl_Value))) (t0 : (List S_impl_Version)) (t1 : Int) (t12 : Int) (o1005 : (List (List S_impl_Value))) : Option (List (List S_impl_Value)) :=
  (ckI (t12 + (1 : Int))).bind fun x23 =>
  k1 t0 t1 x23 o1005
def m_impl_RowsAt_l1 : Nat → (List S_impl_Version) → Int → Int → (List (List S_impl_Value)) → Option (List (List S_impl_Value))
  | 0, _, _, _, _ => none
  | n1 + 1, t0, t1, t12, o1005 =>
    bif decide (t12 < (5 : Int)) then ((m_impl_seen t0 t12 t1).bind fun x18 =>
    lt (x18.1) fun y19 =>
    bif x18.2 then ((app? o1005 ([y19.Row] : (List (List S_impl_Value)))).bind fun x22 =>
      m_impl_RowsAt_j1  (m_impl_RowsAt_l1  n1) t0 t1 t12 x22)
    else (m_impl_RowsAt_j1  (m_impl_RowsAt_l1  n1) t0 t1 t12 o1005))
    else (m_impl_RowsAt_j2  o1005)
def m_impl_RowsAt (a0 : (List S_impl_Version)) (a1 : Int) : Option (List (List S_impl_Value)) :=
  (m_impl_VersionsOk a0).bind fun x4 =>
  bif (!x4) then (some ([] : (List (List S_impl_Value))))
  else (m_impl_RowsAt_l1  (((5 : Int) - (0 : Int)).toNat + 1) a0 a1 (0 : Int) ([] : (List (List S_impl_Value))))
theorem c_impl_RowsAt (a0 : (List S_impl_Version)) (a1 : Int) (r : (List (List S_impl_Value))) (h : m_impl_RowsAt a0 a1 = some r) : Ret Try.prog f_impl_RowsAt [e_Limpl_Version a0, e_int a1] (.nw 1 (r.map e_Limpl_Value) false) := by
  refine Does.goG [] F_impl_RowsAt rfl e_impl_RowsAt n_impl_RowsAt rfl (rvs := [.tmp 4]) rfl rfl ?_
  intro w0 ok0 lent ρ0
  refine LWP.seq_k fun N1 hN1 => ?_
  refine LWP.region (l := [_]) ?_
  refine LWo.assign _ rfl (hn := ?_)
  refine LWo.ownNil 4 1004 1 rfl rfl rfl ?_
  refine LWo.known 4 (.own 1004 0 ([] : (List (List S_impl_Value))).length) rfl ?_
  refine LWo.nil (hN1 _ ?_)
  refine LWP.seq_k fun N2 hN2 => ?_
  refine LWP.seq_k fun N3 hN3 => ?_
  refine LWP.region (l := [_,_,_]) ?_
  refine LWo.move (e_Limpl_Version a0) rfl (hn := ?_)
  refine bk h fun x4 e4 h => ?_
  refine LWo.vcall rfl rfl (c_impl_VersionsOk _ _ e4) (.same (.nil)) (hn := ?_)
  refine LWo.not rfl (hn := ?_)
  refine LWo.nil (hN3 _ ?_)
  refine LWP.cond_split rfl (fun h5 => ?_) (fun h5 => ?_)
  ·have h := bT h5 h
   refine LWP.seq_k fun N6 hN6 => ?_
   refine LWP.region (l := [_]) ?_
   refine LWo.assign _ rfl (hn := ?_)
   refine LWo.ownNil 4 1004 1 rfl rfl rfl ?_
   refine LWo.known 4 (.own 1004 0 ([] : (List (List S_impl_Value))).length) rfl ?_
   refine LWo.nil (hN6 _ ?_)
   obtain rfl := Option.some.inj h
   refine LWP.ret (QG.mk (.inr rfl) (.cons (.tmp (x := (.own 1004 0 (([] : (List (List S_impl_Value)))).length)) rfl) (.nil)) (RetOK.one0 (.nwM rfl rfl) (by decide)) rfl rfl)
  ·have h := bF h5 h
   refine LWP.skip (hN2 _ ?_)
   refine LWP.seq_k fun N7 hN7 => ?_
   refine LWP.region (l := [_]) ?_
   refine LWo.assign _ rfl (hn := ?_)
   refine LWo.ownNil 5 1005 1 rfl rfl rfl ?_
   refine LWo.known 5 (.own 1005 0 ([] : (List (List S_impl_Value))).length) rfl ?_
   refine LWo.nil (hN7 _ ?_)
   refine LWP.join (α := (List (List S_impl_Value))) (fun z : (List (List S_impl_Value)) => [(5, (.own 1005 0 (z).length))]) (fun z : (List (List S_impl_Value)) => [(1005, (lob 1 e_Limpl_Value z))]) (fun z : (List (List S_impl_Value)) => m_impl_RowsAt_j2  z) r (fun _ => by simp [hkeys]) ?_ ?_
   ·rintro o1005 h
    replace h : m_impl_RowsAt_j2  o1005 = some _ := h
    refine LWP.seq_k fun N24 hN24 => ?_
    refine LWP.region (l := [_,_,_]) ?_
    refine LWo.move (.own 1005 0 (o1005).length) rfl (hn := ?_)
    refine bk h fun x25 e25 h => ?_
    refine LWo.frzL (f := e_Limpl_Value) (l := o1005) [5, 29] 1005 rfl rfl ⟨rfl, rfl, trivial⟩ ?_
    refine LWo.ncall (e := e_Limpl_Value) 1030 rfl rfl (c_impl_rowsCopy _ _ e25) (.same (.nil)) rfl (hn := ?_)
    refine LWo.assign (.own 1030 0 (x25).length) rfl (hn := ?_)
    refine LWo.nil (hN24 _ ?_)
    obtain rfl := Option.some.inj h
    refine LWP.ret (QG.mk (.inr rfl) (.cons (.tmp (x := (.own 1030 0 (x25).length)) rfl) (.nil)) (RetOK.one0 (.nwM rfl rfl) (by decide)) rfl rfl)
   ·intro N8 hN8
    refine LWP.seq_k fun N9 hN9 => ?_
    refine LWP.region (l := [_]) ?_
    refine LWo.move (e_int (0 : Int)) rfl (hn := ?_)
    refine LWo.nil (hN9 _ ?_)
    refine LWP.block ?_
    refine LWP.loopM (α := (List S_impl_Version) × Int × Int × (List (List S_impl_Value))) (fun z : (List S_impl_Version) × Int × Int × (List (List S_impl_Value)) => [(0, (e_Limpl_Version z.1)), (1, (e_int z.2.1)), (5, (.own 1005 0 (z.2.2.2).length)), (12, (e_int z.2.2.1))]) (fun z : (List S_impl_Version) × Int × Int × (List (List S_impl_Value)) => [(1005, (lob 1 e_Limpl_Value z.2.2.2))]) (fun n1 (z : (List S_impl_Version) × Int × Int × (List (List S_impl_Value))) => m_impl_RowsAt_l1  n1 z.1 z.2.1 z.2.2.1 z.2.2.2) r _ (a0, a1, (0 : Int), ([] : (List (List S_impl_Value)))) h (fun _ => rfl) (fun _ => by simp [hkeys]) ⟨rfl, rfl, rfl, rfl, trivial⟩ ⟨rfl, trivial⟩ ?_
    rintro n1 ⟨t0, t1, t12, o1005⟩ h N10 hN10
    replace h : m_impl_RowsAt_l1  (n1 + 1) t0 t1 t12 o1005 = some _ := h
    refine LWP.seq_k fun N12 hN12 => ?_
    refine LWP.region (l := [_]) ?_
    refine LWo.int _ rfl rfl rfl (hn := ?_)
    refine LWo.nil (hN12 _ ?_)
    refine LWP.seq_k fun N13 hN13 => ?_
    refine LWP.cond_split rfl (fun h14 => ?_) (fun h14 => ?_)
    ·have h := bT h14 h
     refine LWP.skip (hN13 _ ?_)
     refine LWP.join (α := (List S_impl_Version) × Int × Int × (List (List S_impl_Value))) (fun z : (List S_impl_Version) × Int × Int × (List (List S_impl_Value)) => [(0, (e_Limpl_Version z.1)), (1, (e_int z.2.1)), (5, (.own 1005 0 (z.2.2.2).length)), (12, (e_int z.2.2.1))]) (fun z : (List S_impl_Version) × Int × Int × (List (List S_impl_Value)) => [(1005, (lob 1 e_Limpl_Value z.2.2.2))]) (fun z : (List S_impl_Version) × Int × Int × (List (List S_impl_Value)) => m_impl_RowsAt_j1  (m_impl_RowsAt_l1  n1) z.1 z.2.1 z.2.2.1 z.2.2.2) r (fun _ => by simp [hkeys]) ?_ ?_
     ·rintro ⟨t0, t1, t12, o1005⟩ h
      replace h : m_impl_RowsAt_j1  (m_impl_RowsAt_l1  n1) t0 t1 t12 o1005 = some _ := h
      refine LWP.region (l := [_,_]) ?_
      refine bk h fun x23 e23 h => ?_
      refine LWo.int _ rfl rfl (add_ck e23) (hn := ?_)
      refine LWo.move (e_int x23) rfl (hn := ?_)
      refine LWo.nil (hN10 (t0, t1, x23, o1005) _ ⟨rfl, rfl, rfl, rfl, trivial⟩ ⟨rfl, trivial⟩ h)
     ·intro N15 hN15
      refine LWP.block ?_
      refine LWP.seq_k fun N16 hN16 => ?_
      refine LWP.region (l := [_,_]) ?_
      refine LWo.move (e_int t12) rfl (hn := ?_)
      refine LWo.assign (e_int t12) rfl (hn := ?_)
      refine LWo.nil (hN16 _ ?_)
      refine LWP.seq_k fun N17 hN17 => ?_
      refine LWP.region (l := [_,_,_,_,_,_,_,_,_,_]) ?_
      refine LWo.move (e_Limpl_Version t0) rfl (hn := ?_)
      refine LWo.move (e_int t12) rfl (hn := ?_)
      refine LWo.move (e_int t1) rfl (hn := ?_)
      refine bk h fun x18 e18 h => ?_
      refine LWo.vcall rfl rfl (c_impl_seen _ _ _ _ e18) (.same (.same (.same (.nil)))) (hn := ?_)
      refine LWo.move (.tup [(e_impl_Version x18.1), (e_bool x18.2)]) rfl (hn := ?_)
      refine LWo.extract (e_impl_Version x18.1) rfl rfl (hn := ?_)
      refine LWo.extract (e_bool x18.2) rfl rfl (hn := ?_)
      refine LWo.alloc_impl_Version 7 rfl (hn := ?_)
      refine lk h fun y19 e19 h => ?_
      refine LWo.storeW (y := (⟨(0 : Int), (0 : Int), (0 : Int), []⟩ : S_impl_Version)) y19 s_impl_Version rfl rfl rfl rfl rfl rfl (by rw [e19]; exact .refl) rfl (hn := ?_)
      refine LWo.assign (e_bool x18.2) rfl (hn := ?_)
      refine LWo.nil (hN17 _ ?_)
      refine LWP.seq_k fun N20 hN20 => ?_
      refine LWP.region (l := [_]) ?_
      refine LWo.move (e_bool x18.2) rfl (hn := ?_)
      refine LWo.nil (hN20 _ ?_)
      refine LWP.cond_split rfl (fun h21 => ?_) (fun h21 => ?_)
      ·have h := bT h21 h
       refine LWP.region (l := [_,_,_,_,_,_]) ?_
       refine LWo.move (.own 1005 0 (o1005).length) rfl (hn := ?_)
       refine LWo.fieldPtr u_impl_Version rfl s_Limpl_Value rfl rfl (hn := ?_)
       refine LWo.loadV1 (e_Limpl_Value y19.Row)  g_Limpl_Value rfl rfl rfl (hn := ?_)
       refine LWo.lit (ops := [_]) [(e_Limpl_Value y19.Row)] u_LLimpl_Value s_Limpl_Value z_Limpl_Value rfl rfl rfl rfl rfl rfl (hn := ?_)
       refine bk h fun x22 e22 h => ?_
       refine LWo.appendM (f := e_Limpl_Value) e22 rfl u_LLimpl_Value u_LLimpl_Value (fun _ h => by cases h) s_Limpl_Value i_Limpl_Value rfl rfl rfl (.sl rfl) rfl rfl (hn := ?_)
       refine LWo.assign (.own 1005 0 (x22).length) rfl (hn := ?_)
       refine LWo.nil (hN15 (t0, t1, t12, x22) _ ⟨rfl, rfl, rfl, rfl, trivial⟩ ⟨rfl, trivial⟩ h)
      ·have h := bF h21 h
       refine LWP.skip (hN15 (t0, t1, t12, o1005) _ ⟨rfl, rfl, rfl, rfl, trivial⟩ ⟨rfl, trivial⟩ h)
    ·have h := bF h14 h
     refine LWP.exit (hN8 o1005 _ ⟨rfl, trivial⟩ ⟨rfl, trivial⟩ h)

def m_laws_sameRows_j1  : Option Bool :=
  some true
def m_laws_sameRows_l1 : Nat → (List (List S_impl_Value)) → (List (List S_impl_Value)) → Int → Option Bool
  | 0, _, _, _ => none
  | n1 + 1, t0, t1, t5 =>
    bif decide (t5 < (t0.length : Int)) then ((at? t0 t5).bind fun x15 =>
    (at? t1 t5).bind fun x16 =>
    (m_laws_sameRow x15 x16).bind fun x17 =>
    bif (!x17) then (some false)
    else ((ckI (t5 + (1 : Int))).bind fun x20 =>
    (m_laws_sameRows_l1  n1) t0 t1 x20))
    else (m_laws_sameRows_j1  )
def m_laws_sameRows (a0 : (List (List S_impl_Value))) (a1 : (List (List S_impl_Value))) : Option Bool :=
  bif ((a0.length : Int) != (a1.length : Int)) then (some false)
  else (m_laws_sameRows_l1  (((a0.length : Int) - (0 : Int)).toNat + 1) a0 a1 (0 : Int))
theorem c_laws_sameRows (a0 : (List (List S_impl_Value))) (a1 : (List (List S_impl_Value))) (r : Bool) (h : m_laws_sameRows a0 a1 = some r) : Ret Try.prog f_laws_sameRows [e_LLimpl_Value a0, e_LLimpl_Value a1] (e_bool r) := by
  refine Does.goG [] F_laws_sameRows rfl e_laws_sameRows n_laws_sameRows rfl (rvs := [.tmp 4]) rfl rfl ?_
  intro w0 ok0 lent ρ0
  refine LWP.seq_k fun N1 hN1 => ?_
  refine LWP.region (l := [_]) ?_
  refine LWo.assign (e_bool false) rfl (hn := ?_)
  refine LWo.nil (hN1 _ ?_)
  refine LWP.seq_k fun N2 hN2 => ?_
  refine LWP.seq_k fun N3 hN3 => ?_
  refine LWP.region (l := [_,_,_,_,_]) ?_
  refine LWo.move (e_LLimpl_Value a0) rfl (hn := ?_)
  refine LWo.lenM (f := e_Limpl_Value) (l := a0) u_LLimpl_Value rfl (hn := ?_)
  refine LWo.move (e_LLimpl_Value a1) rfl (hn := ?_)
  refine LWo.lenM (f := e_Limpl_Value) (l := a1) u_LLimpl_Value rfl (hn := ?_)
  refine LWo.int _ rfl rfl rfl (hn := ?_)
  refine LWo.nil (hN3 _ ?_)
  refine LWP.cond_split rfl (fun h4 => ?_) (fun h4 => ?_)
  ·have h := bT h4 h
   refine LWP.seq_k fun N5 hN5 => ?_
   refine LWP.region (l := [_]) ?_
   refine LWo.assign (e_bool false) rfl (hn := ?_)
   refine LWo.nil (hN5 _ ?_)
   obtain rfl := Option.some.inj h
   refine LWP.ret (QG.mk (.inr rfl) (.cons (.tmp (x := (e_bool false)) rfl) (.nil)) (RetOK.one0 (.pure rfl) (by decide)) rfl rfl)
  ·have h := bF h4 h
   refine LWP.skip (hN2 _ ?_)
   refine LWP.join (α := Unit) (fun z : Unit => []) (fun z : Unit => []) (fun z : Unit => m_laws_sameRows_j1  ) r (fun _ => by simp [hkeys]) ?_ ?_
   ·rintro _ h
    replace h : m_laws_sameRows_j1   = some _ := h
    refine LWP.seq_k fun N21 hN21 => ?_
    refine LWP.region (l := [_]) ?_
    refine LWo.assign (e_bool true) rfl (hn := ?_)
    refine LWo.nil (hN21 _ ?_)
    obtain rfl := Option.some.inj h
    refine LWP.ret (QG.mk (.inr rfl) (.cons (.tmp (x := (e_bool true)) rfl) (.nil)) (RetOK.one0 (.pure rfl) (by decide)) rfl rfl)
   ·intro N6 hN6
    refine LWP.seq_k fun N7 hN7 => ?_
    refine LWP.region (l := [_]) ?_
    refine LWo.assign (e_int (0 : Int)) rfl (hn := ?_)
    refine LWo.nil (hN7 _ ?_)
    refine LWP.block ?_
    refine LWP.loopM (α := (List (List S_impl_Value)) × (List (List S_impl_Value)) × Int) (fun z : (List (List S_impl_Value)) × (List (List S_impl_Value)) × Int => [(0, (e_LLimpl_Value z.1)), (1, (e_LLimpl_Value z.2.1)), (5, (e_int z.2.2))]) (fun z : (List (List S_impl_Value)) × (List (List S_impl_Value)) × Int => []) (fun n1 (z : (List (List S_impl_Value)) × (List (List S_impl_Value)) × Int) => m_laws_sameRows_l1  n1 z.1 z.2.1 z.2.2) r _ (a0, a1, (0 : Int)) h (fun _ => rfl) (fun _ => by simp [hkeys]) ⟨rfl, rfl, rfl, trivial⟩ trivial ?_
    rintro n1 ⟨t0, t1, t5⟩ h N8 hN8
    replace h : m_laws_sameRows_l1  (n1 + 1) t0 t1 t5 = some _ := h
    refine LWP.seq_k fun N10 hN10 => ?_
    refine LWP.seq_k fun N11 hN11 => ?_
    refine LWP.region (l := [_,_,_,_]) ?_
    refine LWo.move (e_int t5) rfl (hn := ?_)
    refine LWo.move (e_LLimpl_Value t0) rfl (hn := ?_)
    refine LWo.lenM (f := e_Limpl_Value) (l := t0) u_LLimpl_Value rfl (hn := ?_)
    refine LWo.int _ rfl rfl rfl (hn := ?_)
    refine LWo.nil (hN11 _ ?_)
    refine LWP.cond_split rfl (fun h12 => ?_) (fun h12 => ?_)
    ·have h := bT h12 h
     refine LWP.skip (hN10 _ ?_)
     refine LWP.seq_k fun N13 hN13 => ?_
     refine LWP.block ?_
     refine LWP.seq_k fun N14 hN14 => ?_
     refine bk h fun x15 e15 h => ?_
     refine bk h fun x16 e16 h => ?_
     refine bk h fun x17 e17 h => ?_
     refine LWP.drawF (l := [_,_,_,_,_,_,_,_,_,_]) [] [0, 1, 5] [([0], []), ([5], []), ([17, 18], []), ([19], []), ([1], []), ([5], []), ([21, 22], []), ([23], []), ([20, 24], []), ([25], [])] [0, 1, 5, 26] [] mixed (by kernel_rfl) rfl (by decide) ?_
     refine dq 17 rfl (fun _ g u h => LWo.move (e_LLimpl_Value t0) u.1 (hn := .nil (zn g))) ?_
     refine dq 18 rfl (fun _ g u h => LWo.move (e_int t5) u.1 (hn := .nil (zn g))) ?_
     refine dq 19 rfl (fun _ g u h => LWo.indexM (f := e_Limpl_Value) e15 u_LLimpl_Value s_Limpl_Value u.1 u.2.1 (hn := .nil (zn g))) ?_
     refine dq 20 rfl (fun _ g u h => LWo.load1 (c := (e_Limpl_Value x15)) g_Limpl_Value u.1 (hn := .nil (zn g))) ?_
     refine dq 21 rfl (fun _ g u h => LWo.move (e_LLimpl_Value t1) u.1 (hn := .nil (zn g))) ?_
     refine dq 22 rfl (fun _ g u h => LWo.move (e_int t5) u.1 (hn := .nil (zn g))) ?_
     refine dq 23 rfl (fun _ g u h => LWo.indexM (f := e_Limpl_Value) e16 u_LLimpl_Value s_Limpl_Value u.1 u.2.1 (hn := .nil (zn g))) ?_
     refine dq 24 rfl (fun _ g u h => LWo.load1 (c := (e_Limpl_Value x16)) g_Limpl_Value u.1 (hn := .nil (zn g))) ?_
     refine dq 25 rfl (fun _ g u h => LWo.vcall rfl (av2 u.1 u.2.1) (c_laws_sameRow _ _ _ e17) (.same (.same (.nil))) (hn := .nil (zn g))) ?_
     refine dq 26 rfl (fun _ g u h => LWo.not u.1 (hn := .nil (zn g))) ?_
     refine ⟨rfl, by kernel_rfl, hN14 _ ?_⟩
     refine LWP.cond_split rfl (fun h18 => ?_) (fun h18 => ?_)
     ·have h := bT h18 h
      refine LWP.seq_k fun N19 hN19 => ?_
      refine LWP.region (l := [_]) ?_
      refine LWo.assign (e_bool false) rfl (hn := ?_)
      refine LWo.nil (hN19 _ ?_)
      obtain rfl := Option.some.inj h
      refine LWP.ret (QG.mk (.inr rfl) (.cons (.tmp (x := (e_bool false)) rfl) (.nil)) (RetOK.one0 (.pure rfl) (by decide)) rfl rfl)
     ·have h := bF h18 h
      refine LWP.skip (hN13 _ ?_)
      refine LWP.region (l := [_,_,_]) ?_
      refine LWo.move (e_int t5) rfl (hn := ?_)
      refine bk h fun x20 e20 h => ?_
      refine LWo.int _ rfl rfl (add_ck e20) (hn := ?_)
      refine LWo.assign (e_int x20) rfl (hn := ?_)
      refine LWo.nil (hN8 (t0, t1, x20) _ ⟨rfl, rfl, rfl, trivial⟩ trivial h)
    ·have h := bF h12 h
     refine LWP.exit (hN6 () _ trivial trivial h)

def m_impl_ValueOk (a0 : S_impl_Value) : Option Bool :=
  (m_impl_Value_ok a0).bind fun x3 =>
  some x3
theorem c_impl_ValueOk (a0 : S_impl_Value) (r : Bool) (h : m_impl_ValueOk a0 = some r) : Ret Try.prog f_impl_ValueOk [e_impl_Value a0] (e_bool r) := by
  refine Does.goG [] F_impl_ValueOk rfl e_impl_ValueOk n_impl_ValueOk rfl (rvs := [.tmp 2]) rfl rfl ?_
  intro w0 ok0 lent ρ0
  refine LWP.seq_k fun N1 hN1 => ?_
  refine LWP.region (l := [_,_]) ?_
  refine LWo.boxF (e_impl_Value a0) rfl rfl rfl (hn := ?_)
  refine LWo.assign (e_bool false) rfl (hn := ?_)
  refine LWo.nil (hN1 _ ?_)
  refine LWP.seq_k fun N2 hN2 => ?_
  refine LWP.region (l := [_,_,_]) ?_
  refine LWo.loadN ((e_impl_Value a0)).cells g_impl_Value s_impl_Value rfl (Nat.le_of_ble_eq_true rfl) rfl (hn := ?_)
  refine bk h fun x3 e3 h => ?_
  refine LWo.vcall rfl rfl (c_impl_Value_ok _ _ e3) (.same (.nil)) (hn := ?_)
  refine LWo.assign (e_bool x3) rfl (hn := ?_)
  refine LWo.nil (hN2 _ ?_)
  obtain rfl := Option.some.inj h
  refine LWP.ret (QG.mk (.inr rfl) (.cons (.tmp (x := (e_bool x3)) rfl) (.nil)) (RetOK.one0 (.pure rfl) (by decide)) rfl rfl)

def m_laws_alive_j1 (t0 : Bool) : Option Bool :=
  some t0
def m_laws_alive  : Option Bool :=
  (m_impl_ValueOk (⟨(1 : Int), (3 : Int), (⟨#[]⟩ : ByteArray)⟩ : S_impl_Value)).bind fun x3 =>
  bif x3 then ((m_impl_ValueOk (⟨(9 : Int), (0 : Int), (⟨#[]⟩ : ByteArray)⟩ : S_impl_Value)).bind fun x5 =>
    m_laws_alive_j1  (!x5))
  else (m_laws_alive_j1  false)
theorem c_laws_alive  (r : Bool) (h : m_laws_alive  = some r) : Ret Try.prog f_laws_alive [] (e_bool r) := by
  refine Does.goG [] F_laws_alive rfl e_laws_alive n_laws_alive rfl (rvs := [.tmp 0]) rfl rfl ?_
  intro w0 ok0 lent ρ0
  refine LWP.seq_k fun N1 hN1 => ?_
  refine LWP.region (l := [_]) ?_
  refine LWo.assign (e_bool false) rfl (hn := ?_)
  refine LWo.nil (hN1 _ ?_)
  refine LWP.join (α := Bool) (fun z : Bool => [(0, (e_bool z))]) (fun z : Bool => []) (fun z : Bool => m_laws_alive_j1  z) r (fun _ => by simp [hkeys]) ?_ ?_
  ·rintro t0 h
   replace h : m_laws_alive_j1  t0 = some _ := h
   obtain rfl := Option.some.inj h
   refine LWP.ret (QG.mk (.inr rfl) (.cons (.tmp (x := (e_bool t0)) rfl) (.nil)) (RetOK.one0 (.pure rfl) (by decide)) rfl rfl)
  ·intro N2 hN2
   refine LWP.region (l := [_,_,_,_,_,_,_,_]) ?_
   refine LWo.build_impl_Value (parts := [_, _]) (⟨(1 : Int), (3 : Int), (⟨#[]⟩ : ByteArray)⟩ : S_impl_Value) rfl rfl rfl .refl (hn := ?_)
   refine bk h fun x3 e3 h => ?_
   refine LWo.vcall rfl rfl (c_impl_ValueOk _ _ e3) (.same (.nil)) (hn := ?_)
   refine LWo.move (e_bool x3) rfl (hn := ?_)
   refine LWo.byCases (t := 3) _ rfl (fun h4 => ?_) (fun h4 => ?_)
   ·have h := bT h4 h
    refine LWo.guardY (t := 3) rfl h4 rfl rfl ?_
    refine LWo.build_impl_Value (parts := [_]) (⟨(9 : Int), (0 : Int), (⟨#[]⟩ : ByteArray)⟩ : S_impl_Value) rfl rfl rfl .refl (hn := ?_)
    refine bk h fun x5 e5 h => ?_
    refine LWo.guardY (t := 3) rfl h4 rfl rfl ?_
    refine LWo.vcall rfl rfl (c_impl_ValueOk _ _ e5) (.same (.nil)) (hn := ?_)
    refine LWo.guardY (t := 3) rfl h4 rfl rfl ?_
    refine LWo.not rfl (hn := ?_)
    refine LWo.pickTM (e_bool (!x5)) rfl h4 rfl (hn := ?_)
    refine LWo.assign (e_bool (!x5)) rfl (hn := ?_)
    refine LWo.nil (hN2 (!x5) _ ⟨rfl, trivial⟩ trivial h)
   ·have h := bF h4 h
    refine LWo.guardNU (t := 3) rfl h4 rfl rfl rfl rfl rfl ?_
    refine LWo.guardNU (t := 3) rfl h4 rfl rfl rfl rfl rfl ?_
    refine LWo.guardNU (t := 3) rfl h4 rfl rfl rfl rfl rfl ?_
    refine LWo.pickFM (e_bool false) rfl h4 rfl (hn := ?_)
    refine LWo.assign (e_bool false) rfl (hn := ?_)
    refine LWo.nil (hN2 false _ ⟨rfl, trivial⟩ trivial h)

def m_laws_FnLogRun_j4  : Option Bool :=
  (m_laws_alive ).bind fun x50 =>
  some x50
def m_laws_FnLogRun_j3 (k1 : (List S_impl_Entry) → (List S_impl_Version) → Int → Option Bool) (t3 : (List S_impl_Entry)) (t4 : (List S_impl_Version)) (t5 : Int) : Option Bool :=
  (ckI (t5 + (1 : Int))).bind fun x48 =>
  k1 t3 t4 x48
def m_laws_FnLogRun_l2 (k1 : (List S_impl_Entry) → (List S_impl_Version) → Int → Option Bool) : Nat → (List S_impl_Entry) → (List S_impl_Version) → Int → (List S_impl_Version) → Int → Option Bool
  | 0, _, _, _, _, _ => none
  | n2 + 1, t3, t4, t5, t6, t7 =>
    (at? t3 t5).bind fun x38 =>
    bif decide (t7 ≤ x38.Time) then ((m_impl_RowsAt t6 t7).bind fun x42 =>
    (m_impl_RowsAt t4 t7).bind fun x43 =>
    (m_laws_sameRows x42 x43).bind fun x44 =>
    bif (!x44) then (some false)
    else ((ckI (t7 + (1 : Int))).bind fun x47 =>
    (m_laws_FnLogRun_l2  k1 n2) t3 t4 t5 t6 x47))
    else (m_laws_FnLogRun_j3  k1 t3 t4 t5)
def m_laws_FnLogRun_j2 (k1 : (List S_impl_Entry) → (List S_impl_Version) → Int → Option Bool) (t3 : (List S_impl_Entry)) (t4 : (List S_impl_Version)) (t5 : Int) (t32 : Bool) : Option Bool :=
  bif t32 then ((ckI (t5 + (1 : Int))).bind fun x29 =>
  (cut? t3 (0 : Int) x29).bind fun x30 =>
  (app? ([] : (List S_impl_Entry)) x30).bind fun x31 =>
  (m_impl_LogRun x31).bind fun x32 =>
  m_laws_FnLogRun_l2  k1 (1000000000) t3 t4 t5 x32 (0 : Int))
  else (m_laws_FnLogRun_j4  )
def m_laws_FnLogRun_l1 : Nat → (List S_impl_Entry) → (List S_impl_Version) → Int → Option Bool
  | 0, _, _, _ => none
  | n1 + 1, t3, t4, t5 =>
    bif decide (t5 < (t3.length : Int)) then ((m_impl_LogOk t3).bind fun x25 =>
      m_laws_FnLogRun_j2  (m_laws_FnLogRun_l1  n1) t3 t4 t5 x25)
    else (m_laws_FnLogRun_j2  (m_laws_FnLogRun_l1  n1) t3 t4 t5 false)
def m_laws_FnLogRun_j1 (t3 : (List S_impl_Entry)) (t4 : (List S_impl_Version)) (t24 : Bool) : Option Bool :=
  bif t24 then (some false)
  else (m_laws_FnLogRun_l1  (1000000000) t3 t4 (0 : Int))
def m_laws_FnLogRun (a0 : (List UInt8)) : Option Bool :=
  bif decide ((a0.length : Int) > (1048576 : Int)) then (some true)
  else ((m_spec_DrawLogRun a0).bind fun x7 =>
  (m_impl_LogRun x7).bind fun x9 =>
  (m_spec_LogRun x7).bind fun x12 =>
  (m_laws_sameVersions x9 x12).bind fun x13 =>
  bif (!x13) then (m_laws_FnLogRun_j1  x7 x9 true)
  else ((m_impl_VersionsOk x9).bind fun x15 =>
    m_laws_FnLogRun_j1  x7 x9 (!x15)))
theorem c_laws_FnLogRun (a0 : (List UInt8)) (r : Bool) (h : m_laws_FnLogRun a0 = some r) : Ret Try.prog f_laws_FnLogRun [e_Luint8 a0] (e_bool r) := by
  refine Does.goG [] F_laws_FnLogRun rfl e_laws_FnLogRun n_laws_FnLogRun rfl (rvs := [.tmp 2]) rfl rfl ?_
  intro w0 ok0 lent ρ0
  refine LWP.seq_k fun N1 hN1 => ?_
  refine LWP.region (l := [_]) ?_
  refine LWo.assign (e_bool false) rfl (hn := ?_)
  refine LWo.nil (hN1 _ ?_)
  refine LWP.seq_k fun N2 hN2 => ?_
  refine LWP.seq_k fun N3 hN3 => ?_
  refine LWP.region (l := [_,_,_]) ?_
  refine LWo.move (e_Luint8 a0) rfl (hn := ?_)
  refine LWo.lenM (f := e_uint8) (l := a0) u_Luint8 rfl (hn := ?_)
  refine LWo.int _ rfl rfl rfl (hn := ?_)
  refine LWo.nil (hN3 _ ?_)
  refine LWP.cond_split rfl (fun h4 => ?_) (fun h4 => ?_)
  ·have h := bT h4 h
   refine LWP.seq_k fun N5 hN5 => ?_
   refine LWP.region (l := [_]) ?_
   refine LWo.assign (e_bool true) rfl (hn := ?_)
   refine LWo.nil (hN5 _ ?_)
   obtain rfl := Option.some.inj h
   refine LWP.ret (QG.mk (.inr rfl) (.cons (.tmp (x := (e_bool true)) rfl) (.nil)) (RetOK.one0 (.pure rfl) (by decide)) rfl rfl)
  ·have h := bF h4 h
   refine LWP.skip (hN2 _ ?_)
   refine LWP.seq_k fun N6 hN6 => ?_
   refine LWP.region (l := [_,_,_]) ?_
   refine LWo.move (e_Luint8 a0) rfl (hn := ?_)
   refine bk h fun x7 e7 h => ?_
   refine LWo.vcall rfl rfl (c_spec_DrawLogRun _ _ e7) (.same (.nil)) (hn := ?_)
   refine LWo.assign (e_Limpl_Entry x7) rfl (hn := ?_)
   refine LWo.nil (hN6 _ ?_)
   refine LWP.seq_k fun N8 hN8 => ?_
   refine LWP.region (l := [_,_,_]) ?_
   refine LWo.move (e_Limpl_Entry x7) rfl (hn := ?_)
   refine bk h fun x9 e9 h => ?_
   refine LWo.vcall rfl rfl (c_impl_LogRun _ _ e9) (.same (.nil)) (hn := ?_)
   refine LWo.assign (e_Limpl_Version x9) rfl (hn := ?_)
   refine LWo.nil (hN8 _ ?_)
   refine LWP.seq_k fun N10 hN10 => ?_
   refine LWP.join (α := (List S_impl_Entry) × (List S_impl_Version) × Bool) (fun z : (List S_impl_Entry) × (List S_impl_Version) × Bool => [(3, (e_Limpl_Entry z.1)), (4, (e_Limpl_Version z.2.1)), (24, (e_bool z.2.2))]) (fun z : (List S_impl_Entry) × (List S_impl_Version) × Bool => []) (fun z : (List S_impl_Entry) × (List S_impl_Version) × Bool => m_laws_FnLogRun_j1  z.1 z.2.1 z.2.2) r (fun _ => by simp [hkeys]) ?_ ?_
   ·rintro ⟨t3, t4, t24⟩ h
    replace h : m_laws_FnLogRun_j1  t3 t4 t24 = some _ := h
    refine LWP.cond_split rfl (fun h16 => ?_) (fun h16 => ?_)
    ·have h := bT h16 h
     refine LWP.seq_k fun N17 hN17 => ?_
     refine LWP.region (l := [_]) ?_
     refine LWo.assign (e_bool false) rfl (hn := ?_)
     refine LWo.nil (hN17 _ ?_)
     obtain rfl := Option.some.inj h
     refine LWP.ret (QG.mk (.inr rfl) (.cons (.tmp (x := (e_bool false)) rfl) (.nil)) (RetOK.one0 (.pure rfl) (by decide)) rfl rfl)
    ·have h := bF h16 h
     refine LWP.skip (hN10 _ ?_)
     refine LWP.join (α := Unit) (fun z : Unit => []) (fun z : Unit => []) (fun z : Unit => m_laws_FnLogRun_j4  ) r (fun _ => by simp [hkeys]) ?_ ?_
     ·rintro _ h
      replace h : m_laws_FnLogRun_j4   = some _ := h
      refine LWP.seq_k fun N49 hN49 => ?_
      refine LWP.region (l := [_,_]) ?_
      refine bk h fun x50 e50 h => ?_
      refine LWo.vcall rfl rfl (c_laws_alive  _ e50) (.nil) (hn := ?_)
      refine LWo.assign (e_bool x50) rfl (hn := ?_)
      refine LWo.nil (hN49 _ ?_)
      obtain rfl := Option.some.inj h
      refine LWP.ret (QG.mk (.inr rfl) (.cons (.tmp (x := (e_bool x50)) rfl) (.nil)) (RetOK.one0 (.pure rfl) (by decide)) rfl rfl)
     ·intro N18 hN18
      refine LWP.seq_k fun N19 hN19 => ?_
      refine LWP.region (l := [_]) ?_
      refine LWo.assign (e_int (0 : Int)) rfl (hn := ?_)
      refine LWo.nil (hN19 _ ?_)
      refine LWP.block ?_
      refine LWP.loopM (α := (List S_impl_Entry) × (List S_impl_Version) × Int) (fun z : (List S_impl_Entry) × (List S_impl_Version) × Int => [(3, (e_Limpl_Entry z.1)), (4, (e_Limpl_Version z.2.1)), (5, (e_int z.2.2))]) (fun z : (List S_impl_Entry) × (List S_impl_Version) × Int => []) (fun n1 (z : (List S_impl_Entry) × (List S_impl_Version) × Int) => m_laws_FnLogRun_l1  n1 z.1 z.2.1 z.2.2) r _ (t3, t4, (0 : Int)) h (fun _ => rfl) (fun _ => by simp [hkeys]) ⟨rfl, rfl, rfl, trivial⟩ trivial ?_
      rintro n1 ⟨t3, t4, t5⟩ h N20 hN20
      replace h : m_laws_FnLogRun_l1  (n1 + 1) t3 t4 t5 = some _ := h
      refine LWP.seq_k fun N22 hN22 => ?_
      refine LWP.join (α := (List S_impl_Entry) × (List S_impl_Version) × Int × Bool) (fun z : (List S_impl_Entry) × (List S_impl_Version) × Int × Bool => [(3, (e_Limpl_Entry z.1)), (4, (e_Limpl_Version z.2.1)), (5, (e_int z.2.2.1)), (32, (e_bool z.2.2.2))]) (fun z : (List S_impl_Entry) × (List S_impl_Version) × Int × Bool => []) (fun z : (List S_impl_Entry) × (List S_impl_Version) × Int × Bool => m_laws_FnLogRun_j2  (m_laws_FnLogRun_l1  n1) z.1 z.2.1 z.2.2.1 z.2.2.2) r (fun _ => by simp [hkeys]) ?_ ?_
      ·rintro ⟨t3, t4, t5, t32⟩ h
       replace h : m_laws_FnLogRun_j2  (m_laws_FnLogRun_l1  n1) t3 t4 t5 t32 = some _ := h
       refine LWP.cond_split rfl (fun h26 => ?_) (fun h26 => ?_)
       ·have h := bT h26 h
        refine LWP.skip (hN22 _ ?_)
        refine LWP.join (α := (List S_impl_Entry) × (List S_impl_Version) × Int) (fun z : (List S_impl_Entry) × (List S_impl_Version) × Int => [(3, (e_Limpl_Entry z.1)), (4, (e_Limpl_Version z.2.1)), (5, (e_int z.2.2))]) (fun z : (List S_impl_Entry) × (List S_impl_Version) × Int => []) (fun z : (List S_impl_Entry) × (List S_impl_Version) × Int => m_laws_FnLogRun_j3  (m_laws_FnLogRun_l1  n1) z.1 z.2.1 z.2.2) r (fun _ => by simp [hkeys]) ?_ ?_
        ·rintro ⟨t3, t4, t5⟩ h
         replace h : m_laws_FnLogRun_j3  (m_laws_FnLogRun_l1  n1) t3 t4 t5 = some _ := h
         refine LWP.region (l := [_,_,_]) ?_
         refine LWo.move (e_int t5) rfl (hn := ?_)
         refine bk h fun x48 e48 h => ?_
         refine LWo.int _ rfl rfl (add_ck e48) (hn := ?_)
         refine LWo.assign (e_int x48) rfl (hn := ?_)
         refine LWo.nil (hN20 (t3, t4, x48) _ ⟨rfl, rfl, rfl, trivial⟩ trivial h)
        ·intro N27 hN27
         refine LWP.block ?_
         refine LWP.seq_k fun N28 hN28 => ?_
         refine LWP.region (l := [_,_,_,_,_,_,_,_]) ?_
         refine LWo.lit0 1035 u_Limpl_Entry s_impl_Entry z_impl_Entry (hn := ?_)
         refine LWo.known 35 (.own 1035 0 ([] : (List S_impl_Entry)).length) rfl ?_
         refine LWo.move (e_Limpl_Entry t3) rfl (hn := ?_)
         refine LWo.move (e_int t5) rfl (hn := ?_)
         refine bk h fun x29 e29 h => ?_
         refine LWo.int _ rfl rfl (add_ck e29) (hn := ?_)
         refine bk h fun x30 e30 h => ?_
         refine LWo.cutM (f := e_impl_Entry) e30 u_Limpl_Entry s_impl_Entry rfl rfl ⟨_, rfl⟩ (hn := ?_)
         refine bk h fun x31 e31 h => ?_
         refine LWo.appendM (f := e_impl_Entry) e31 rfl u_Limpl_Entry u_Limpl_Entry (fun _ h => by cases h) s_impl_Entry i_impl_Entry rfl rfl rfl (.sl rfl) rfl rfl (hn := ?_)
         refine bk h fun x32 e32 h => ?_
         refine LWo.frzL (f := e_impl_Entry) (l := x31) [40] 1035 rfl rfl ⟨rfl, trivial⟩ ?_
         refine LWo.vcall rfl rfl (c_impl_LogRun _ _ e32) (.same (.nil)) (hn := ?_)
         refine LWo.assign (e_Limpl_Version x32) rfl (hn := ?_)
         refine LWo.nil (hN28 _ ?_)
         refine LWP.seq_k fun N33 hN33 => ?_
         refine LWP.region (l := [_]) ?_
         refine LWo.assign (e_int (0 : Int)) rfl (hn := ?_)
         refine LWo.nil (hN33 _ ?_)
         refine LWP.block ?_
         refine LWP.loopM (α := (List S_impl_Entry) × (List S_impl_Version) × Int × (List S_impl_Version) × Int) (fun z : (List S_impl_Entry) × (List S_impl_Version) × Int × (List S_impl_Version) × Int => [(3, (e_Limpl_Entry z.1)), (4, (e_Limpl_Version z.2.1)), (5, (e_int z.2.2.1)), (6, (e_Limpl_Version z.2.2.2.1)), (7, (e_int z.2.2.2.2))]) (fun z : (List S_impl_Entry) × (List S_impl_Version) × Int × (List S_impl_Version) × Int => []) (fun n2 (z : (List S_impl_Entry) × (List S_impl_Version) × Int × (List S_impl_Version) × Int) => m_laws_FnLogRun_l2  (m_laws_FnLogRun_l1  n1) n2 z.1 z.2.1 z.2.2.1 z.2.2.2.1 z.2.2.2.2) r _ (t3, t4, t5, x32, (0 : Int)) h (fun _ => rfl) (fun _ => by simp [hkeys]) ⟨rfl, rfl, rfl, rfl, rfl, trivial⟩ trivial ?_
         rintro n2 ⟨t3, t4, t5, t6, t7⟩ h N34 hN34
         replace h : m_laws_FnLogRun_l2  (m_laws_FnLogRun_l1  n1) (n2 + 1) t3 t4 t5 t6 t7 = some _ := h
         refine LWP.seq_k fun N36 hN36 => ?_
         refine LWP.seq_k fun N37 hN37 => ?_
         refine LWP.region (l := [_,_,_,_,_,_,_]) ?_
         refine LWo.move (e_int t7) rfl (hn := ?_)
         refine LWo.move (e_Limpl_Entry t3) rfl (hn := ?_)
         refine LWo.move (e_int t5) rfl (hn := ?_)
         refine bk h fun x38 e38 h => ?_
         refine LWo.indexM (f := e_impl_Entry) e38 u_Limpl_Entry s_impl_Entry rfl rfl (hn := ?_)
         refine LWo.fieldAddr _ u_impl_Entry rfl s_int rfl rfl (hn := ?_)
         refine LWo.load1 (c := (e_int x38.Time)) g_int rfl (hn := ?_)
         refine LWo.int _ rfl rfl rfl (hn := ?_)
         refine LWo.nil (hN37 _ ?_)
         refine LWP.cond_split rfl (fun h39 => ?_) (fun h39 => ?_)
         ·have h := bT h39 h
          refine LWP.skip (hN36 _ ?_)
          refine LWP.seq_k fun N40 hN40 => ?_
          refine LWP.block ?_
          refine LWP.seq_k fun N41 hN41 => ?_
          refine LWP.region (l := [_,_,_,_,_,_,_,_]) ?_
          refine LWo.move (e_Limpl_Version t6) rfl (hn := ?_)
          refine LWo.move (e_int t7) rfl (hn := ?_)
          refine bk h fun x42 e42 h => ?_
          refine LWo.vcall rfl rfl (c_impl_RowsAt _ _ _ e42) (.same (.same (.nil))) (hn := ?_)
          refine LWo.move (e_Limpl_Version t4) rfl (hn := ?_)
          refine LWo.move (e_int t7) rfl (hn := ?_)
          refine bk h fun x43 e43 h => ?_
          refine LWo.vcall rfl rfl (c_impl_RowsAt _ _ _ e43) (.same (.same (.nil))) (hn := ?_)
          refine bk h fun x44 e44 h => ?_
          refine LWo.vcall rfl rfl (c_laws_sameRows _ _ _ e44) (.same (.same (.nil))) (hn := ?_)
          refine LWo.not rfl (hn := ?_)
          refine LWo.nil (hN41 _ ?_)
          refine LWP.cond_split rfl (fun h45 => ?_) (fun h45 => ?_)
          ·have h := bT h45 h
           refine LWP.seq_k fun N46 hN46 => ?_
           refine LWP.region (l := [_]) ?_
           refine LWo.assign (e_bool false) rfl (hn := ?_)
           refine LWo.nil (hN46 _ ?_)
           obtain rfl := Option.some.inj h
           refine LWP.ret (QG.mk (.inr rfl) (.cons (.tmp (x := (e_bool false)) rfl) (.nil)) (RetOK.one0 (.pure rfl) (by decide)) rfl rfl)
          ·have h := bF h45 h
           refine LWP.skip (hN40 _ ?_)
           refine LWP.region (l := [_,_,_]) ?_
           refine LWo.move (e_int t7) rfl (hn := ?_)
           refine bk h fun x47 e47 h => ?_
           refine LWo.int _ rfl rfl (add_ck e47) (hn := ?_)
           refine LWo.assign (e_int x47) rfl (hn := ?_)
           refine LWo.nil (hN34 (t3, t4, t5, t6, x47) _ ⟨rfl, rfl, rfl, rfl, rfl, trivial⟩ trivial h)
         ·have h := bF h39 h
          refine LWP.exit (hN27 (t3, t4, t5) _ ⟨rfl, rfl, rfl, trivial⟩ trivial h)
       ·have h := bF h26 h
        refine LWP.exit (hN18 () _ trivial trivial h)
      ·intro N23 hN23
       refine LWP.region (l := [_,_,_,_,_,_,_,_]) ?_
       refine LWo.move (e_int t5) rfl (hn := ?_)
       refine LWo.move (e_Limpl_Entry t3) rfl (hn := ?_)
       refine LWo.lenM (f := e_impl_Entry) (l := t3) u_Limpl_Entry rfl (hn := ?_)
       refine LWo.int _ rfl rfl rfl (hn := ?_)
       refine LWo.move (e_bool (decide (t5 < (t3.length : Int)))) rfl (hn := ?_)
       refine LWo.byCases (t := 29) _ rfl (fun h24 => ?_) (fun h24 => ?_)
       ·have h := bT h24 h
        refine LWo.guardY (t := 29) rfl h24 rfl rfl ?_
        refine LWo.move (e_Limpl_Entry t3) rfl (hn := ?_)
        refine bk h fun x25 e25 h => ?_
        refine LWo.guardY (t := 29) rfl h24 rfl rfl ?_
        refine LWo.vcall rfl rfl (c_impl_LogOk _ _ e25) (.same (.nil)) (hn := ?_)
        refine LWo.pickTM (e_bool x25) rfl h24 rfl (hn := ?_)
        refine LWo.nil (hN23 (t3, t4, t5, x25) _ ⟨rfl, rfl, rfl, rfl, trivial⟩ trivial h)
       ·have h := bF h24 h
        refine LWo.guardNU (t := 29) rfl h24 rfl rfl rfl rfl rfl ?_
        refine LWo.guardNU (t := 29) rfl h24 rfl rfl rfl rfl rfl ?_
        refine LWo.pickFM (e_bool false) rfl h24 rfl (hn := ?_)
        refine LWo.nil (hN23 (t3, t4, t5, false) _ ⟨rfl, rfl, rfl, rfl, trivial⟩ trivial h)
   ·intro N11 hN11
    refine LWP.region (l := [_,_,_,_,_,_,_,_,_,_]) ?_
    refine LWo.move (e_Limpl_Version x9) rfl (hn := ?_)
    refine LWo.move (e_Limpl_Entry x7) rfl (hn := ?_)
    refine bk h fun x12 e12 h => ?_
    refine LWo.vcall rfl rfl (c_spec_LogRun _ _ e12) (.same (.nil)) (hn := ?_)
    refine bk h fun x13 e13 h => ?_
    refine LWo.vcall rfl rfl (c_laws_sameVersions _ _ _ e13) (.same (.same (.nil))) (hn := ?_)
    refine LWo.not rfl (hn := ?_)
    refine LWo.move (e_bool (!x13)) rfl (hn := ?_)
    refine LWo.byCases (t := 20) _ rfl (fun h14 => ?_) (fun h14 => ?_)
    ·have h := bT h14 h
     refine LWo.guardNU (t := 20) rfl h14 rfl rfl rfl rfl rfl ?_
     refine LWo.guardNU (t := 20) rfl h14 rfl rfl rfl rfl rfl ?_
     refine LWo.guardNU (t := 20) rfl h14 rfl rfl rfl rfl rfl ?_
     refine LWo.pickTM (e_bool true) rfl h14 rfl (hn := ?_)
     refine LWo.nil (hN11 (x7, x9, true) _ ⟨rfl, rfl, rfl, trivial⟩ trivial h)
    ·have h := bF h14 h
     refine LWo.guardY (t := 20) rfl h14 rfl rfl ?_
     refine LWo.move (e_Limpl_Version x9) rfl (hn := ?_)
     refine bk h fun x15 e15 h => ?_
     refine LWo.guardY (t := 20) rfl h14 rfl rfl ?_
     refine LWo.vcall rfl rfl (c_impl_VersionsOk _ _ e15) (.same (.nil)) (hn := ?_)
     refine LWo.guardY (t := 20) rfl h14 rfl rfl ?_
     refine LWo.not rfl (hn := ?_)
     refine LWo.pickFM (e_bool (!x15)) rfl h14 rfl (hn := ?_)
     refine LWo.nil (hN11 (x7, x9, (!x15)) _ ⟨rfl, rfl, rfl, trivial⟩ trivial h)
end Go.Proofs.Ytijihchddhikhaa
