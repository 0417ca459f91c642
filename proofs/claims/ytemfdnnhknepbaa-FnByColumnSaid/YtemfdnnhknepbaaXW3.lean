/- Mirrors of functions, and that the functions return what the mirrors say. -/
import Derived.Test.YtemfdnnhknepbaaXW2
set_option linter.unusedVariables false
set_option linter.unusedSimpArgs false
namespace Go.Proofs.Ytemfdnnhknepbaa
open Go.Proofs Go.Lift Go.RowKit
def m_slices_rotateCmpFunc_Limpl_Value_j1 (p4 : (List S_impl_Value) → (List S_impl_Value) → Option Int) (t2 : Int) (t10 : Int) (o0 : (List (List S_impl_Value))) : Option (List (List S_impl_Value)) :=
  (ckI (t2 - t10)).bind fun x25 =>
  (m_slices_swapRangeCmpFunc_Limpl_Value o0 x25 t2 t10 p4).bind fun x26 =>
  (lenQ x26.length o0.length ()).bind fun u27 =>
  some x26
def m_slices_rotateCmpFunc_Limpl_Value_l1 (p4 : (List S_impl_Value) → (List S_impl_Value) → Option Int) : Nat → Int → Int → Int → (List (List S_impl_Value)) → Option (List (List S_impl_Value))
  | 0, _, _, _, _ => none
  | n1 + 1, t2, t10, t11, o0 =>
    bif (t10 != t11) then (bif decide (t10 > t11) then ((ckI (t2 - t10)).bind fun x14 =>
      (m_slices_swapRangeCmpFunc_Limpl_Value o0 x14 t2 t11 p4).bind fun x15 =>
      (lenQ x15.length o0.length ()).bind fun u16 =>
      (ckI (t10 - t11)).bind fun x17 =>
      (m_slices_rotateCmpFunc_Limpl_Value_l1 p4 n1) t2 x17 t11 x15)
    else ((ckI (t2 - t10)).bind fun x19 =>
      (ckI (t2 + t11)).bind fun x20 =>
      (ckI (x20 - t10)).bind fun x21 =>
      (m_slices_swapRangeCmpFunc_Limpl_Value o0 x19 x21 t10 p4).bind fun x22 =>
      (lenQ x22.length o0.length ()).bind fun u23 =>
      (ckI (t11 - t10)).bind fun x24 =>
      (m_slices_rotateCmpFunc_Limpl_Value_l1 p4 n1) t2 t10 x24 x22))
    else (m_slices_rotateCmpFunc_Limpl_Value_j1 p4 t2 t10 o0)
def m_slices_rotateCmpFunc_Limpl_Value (o0 : (List (List S_impl_Value))) (a1 : Int) (a2 : Int) (a3 : Int) (p4 : (List S_impl_Value) → (List S_impl_Value) → Option Int) : Option (List (List S_impl_Value)) :=
  (ckI (a2 - a1)).bind fun x2 =>
  (ckI (a3 - a2)).bind fun x4 =>
  m_slices_rotateCmpFunc_Limpl_Value_l1 p4 (1000000000) a2 x2 x4 o0
theorem c_slices_rotateCmpFunc_Limpl_Value (o0 : (List (List S_impl_Value))) (a1 : Int) (a2 : Int) (a3 : Int) (p4 : (List S_impl_Value) → (List S_impl_Value) → Option Int) (f4 : FuncId) (q4 : List LV) (hq4 : ∀ k, LV.at?.atL k q4 = false) (hf4 : ∀ a0 a1 v, p4 a0 a1 = some v → Ret Try.prog f4 (e_Limpl_Value a0 :: e_Limpl_Value a1 :: q4) (e_int v)) (r : (List (List S_impl_Value))) (h : m_slices_rotateCmpFunc_Limpl_Value o0 a1 a2 a3 p4 = some r) : Does Try.prog f_slices_rotateCmpFunc_Limpl_Value [.own 0 0 o0.length, e_int a1, e_int a2, e_int a3, .clo f4 q4] [(0, (lob 1 e_Limpl_Value o0))] (fun x hh => x = .tup [] ∧ hh = [(0, (lob 1 e_Limpl_Value r))]) := by
  refine Does.goG [0] F_slices_rotateCmpFunc_Limpl_Value rfl e_slices_rotateCmpFunc_Limpl_Value n_slices_rotateCmpFunc_Limpl_Value rfl (rvs := []) rfl rfl ?_
  intro w0 ok0 lent ρ0
  refine LWP.seq_k fun N1 hN1 => ?_
  refine LWP.region (l := [_,_,_,_]) ?_
  refine LWo.move (e_int a2) rfl (hn := ?_)
  refine LWo.move (e_int a1) rfl (hn := ?_)
  refine bk h fun x2 e2 h => ?_
  refine LWo.int _ rfl rfl (sub_ck e2) (hn := ?_)
  refine LWo.assign (e_int x2) rfl (hn := ?_)
  refine LWo.nil (hN1 _ ?_)
  refine LWP.seq_k fun N3 hN3 => ?_
  refine LWP.region (l := [_,_,_,_]) ?_
  refine LWo.move (e_int a3) rfl (hn := ?_)
  refine LWo.move (e_int a2) rfl (hn := ?_)
  refine bk h fun x4 e4 h => ?_
  refine LWo.int _ rfl rfl (sub_ck e4) (hn := ?_)
  refine LWo.assign (e_int x4) rfl (hn := ?_)
  refine LWo.nil (hN3 _ ?_)
  refine LWP.join (α := Int × Int × (List (List S_impl_Value))) (fun z : Int × Int × (List (List S_impl_Value)) => [(0, (.own 0 0 (z.2.2).length)), (2, (e_int z.1)), (4, (.clo f4 q4)), (10, (e_int z.2.1))]) (fun z : Int × Int × (List (List S_impl_Value)) => [(0, (lob 1 e_Limpl_Value z.2.2))]) (fun z : Int × Int × (List (List S_impl_Value)) => m_slices_rotateCmpFunc_Limpl_Value_j1 p4 z.1 z.2.1 z.2.2) r (fun _ => by simp [hkeys]) ?_ ?_
  · rintro ⟨t2, t10, o0⟩ h
    replace h : m_slices_rotateCmpFunc_Limpl_Value_j1 p4 t2 t10 o0 = some _ := h
    refine LWP.region (l := [_,_,_,_,_,_,_,_]) ?_
    refine LWo.move (.own 0 0 (o0).length) rfl (hn := ?_)
    refine LWo.move (e_int t2) rfl (hn := ?_)
    refine LWo.move (e_int t10) rfl (hn := ?_)
    refine bk h fun x25 e25 h => ?_
    refine LWo.int _ rfl rfl (sub_ck e25) (hn := ?_)
    refine LWo.move (e_int t2) rfl (hn := ?_)
    refine LWo.move (e_int t10) rfl (hn := ?_)
    refine LWo.move (.clo f4 q4) rfl (hn := ?_)
    refine bk h fun x26 e26 h => ?_
    refine bk h fun u27 e27 h => ?_
    refine LWo.ucallM (e := e_Limpl_Value) rfl rfl (k_slices_swapRangeCmpFunc_Limpl_Value _ _ _ _ _ f4 q4 hq4 hf4 _ e26 0) rfl rfl (some 57) rfl (hn := ?_)
    obtain rfl := Option.some.inj h
    refine LWo.nil (QG.mk (.inl rfl) (.nil) (RetOK.many1 (.nil) (by simp) (by decide) rfl rfl rfl rfl rfl) rfl rfl)
  · intro N5 hN5
    refine LWP.block ?_
    refine LWP.loopM (α := Int × Int × Int × (List (List S_impl_Value))) (fun z : Int × Int × Int × (List (List S_impl_Value)) => [(0, (.own 0 0 (z.2.2.2).length)), (2, (e_int z.1)), (4, (.clo f4 q4)), (10, (e_int z.2.1)), (11, (e_int z.2.2.1))]) (fun z : Int × Int × Int × (List (List S_impl_Value)) => [(0, (lob 1 e_Limpl_Value z.2.2.2))]) (fun n1 (z : Int × Int × Int × (List (List S_impl_Value))) => m_slices_rotateCmpFunc_Limpl_Value_l1 p4 n1 z.1 z.2.1 z.2.2.1 z.2.2.2) r _ (a2, x2, x4, o0) h (fun _ => rfl) (fun _ => by simp [hkeys]) ⟨rfl, rfl, rfl, rfl, rfl, trivial⟩ ⟨rfl, trivial⟩ ?_
    rintro n1 ⟨t2, t10, t11, o0⟩ h N6 hN6
    replace h : m_slices_rotateCmpFunc_Limpl_Value_l1 p4 (n1 + 1) t2 t10 t11 o0 = some _ := h
    refine LWP.seq_k fun N8 hN8 => ?_
    refine LWP.seq_k fun N9 hN9 => ?_
    refine LWP.region (l := [_,_,_]) ?_
    refine LWo.move (e_int t10) rfl (hn := ?_)
    refine LWo.move (e_int t11) rfl (hn := ?_)
    refine LWo.int _ rfl rfl rfl (hn := ?_)
    refine LWo.nil (hN9 _ ?_)
    refine LWP.cond_split rfl (fun h10 => ?_) (fun h10 => ?_)
    · have h := bT h10 h
      refine LWP.skip (hN8 _ ?_)
      refine LWP.block ?_
      refine LWP.seq_k fun N11 hN11 => ?_
      refine LWP.region (l := [_,_,_]) ?_
      refine LWo.move (e_int t10) rfl (hn := ?_)
      refine LWo.move (e_int t11) rfl (hn := ?_)
      refine LWo.int _ rfl rfl rfl (hn := ?_)
      refine LWo.nil (hN11 _ ?_)
      refine LWP.cond_split rfl (fun h12 => ?_) (fun h12 => ?_)
      · have h := bT h12 h
        refine LWP.seq_k fun N13 hN13 => ?_
        refine LWP.region (l := [_,_,_,_,_,_,_,_]) ?_
        refine LWo.move (.own 0 0 (o0).length) rfl (hn := ?_)
        refine LWo.move (e_int t2) rfl (hn := ?_)
        refine LWo.move (e_int t10) rfl (hn := ?_)
        refine bk h fun x14 e14 h => ?_
        refine LWo.int _ rfl rfl (sub_ck e14) (hn := ?_)
        refine LWo.move (e_int t2) rfl (hn := ?_)
        refine LWo.move (e_int t11) rfl (hn := ?_)
        refine LWo.move (.clo f4 q4) rfl (hn := ?_)
        refine bk h fun x15 e15 h => ?_
        refine bk h fun u16 e16 h => ?_
        refine LWo.ucallM (e := e_Limpl_Value) rfl rfl (k_slices_swapRangeCmpFunc_Limpl_Value _ _ _ _ _ f4 q4 hq4 hf4 _ e15 0) rfl rfl (some 31) rfl (hn := ?_)
        refine LWo.nil (hN13 _ ?_)
        refine LWP.region (l := [_,_,_,_]) ?_
        refine LWo.move (e_int t10) rfl (hn := ?_)
        refine LWo.move (e_int t11) rfl (hn := ?_)
        refine bk h fun x17 e17 h => ?_
        refine LWo.int _ rfl rfl (sub_ck e17) (hn := ?_)
        refine LWo.assign (e_int x17) rfl (hn := ?_)
        refine LWo.nil (hN6 (t2, x17, t11, x15) _ ⟨(congrArg (LV.own 0 0) ((lenQ_some e16).1.symm)), rfl, rfl, rfl, rfl, trivial⟩ ⟨rfl, trivial⟩ h)
      · have h := bF h12 h
        refine LWP.seq_k fun N18 hN18 => ?_
        refine LWP.region (l := [_,_,_,_,_,_,_,_,_,_,_,_]) ?_
        refine LWo.move (.own 0 0 (o0).length) rfl (hn := ?_)
        refine LWo.move (e_int t2) rfl (hn := ?_)
        refine LWo.move (e_int t10) rfl (hn := ?_)
        refine bk h fun x19 e19 h => ?_
        refine LWo.int _ rfl rfl (sub_ck e19) (hn := ?_)
        refine LWo.move (e_int t2) rfl (hn := ?_)
        refine LWo.move (e_int t11) rfl (hn := ?_)
        refine bk h fun x20 e20 h => ?_
        refine LWo.int _ rfl rfl (add_ck e20) (hn := ?_)
        refine LWo.move (e_int t10) rfl (hn := ?_)
        refine bk h fun x21 e21 h => ?_
        refine LWo.int _ rfl rfl (sub_ck e21) (hn := ?_)
        refine LWo.move (e_int t10) rfl (hn := ?_)
        refine LWo.move (.clo f4 q4) rfl (hn := ?_)
        refine bk h fun x22 e22 h => ?_
        refine bk h fun u23 e23 h => ?_
        refine LWo.ucallM (e := e_Limpl_Value) rfl rfl (k_slices_swapRangeCmpFunc_Limpl_Value _ _ _ _ _ f4 q4 hq4 hf4 _ e22 0) rfl rfl (some 46) rfl (hn := ?_)
        refine LWo.nil (hN18 _ ?_)
        refine LWP.region (l := [_,_,_,_]) ?_
        refine LWo.move (e_int t11) rfl (hn := ?_)
        refine LWo.move (e_int t10) rfl (hn := ?_)
        refine bk h fun x24 e24 h => ?_
        refine LWo.int _ rfl rfl (sub_ck e24) (hn := ?_)
        refine LWo.assign (e_int x24) rfl (hn := ?_)
        refine LWo.nil (hN6 (t2, t10, x24, x22) _ ⟨(congrArg (LV.own 0 0) ((lenQ_some e23).1.symm)), rfl, rfl, rfl, rfl, trivial⟩ ⟨rfl, trivial⟩ h)
    · have h := bF h10 h
      refine LWP.exit (hN5 (t2, t10, o0) _ ⟨rfl, rfl, rfl, rfl, trivial⟩ ⟨rfl, trivial⟩ h)
theorem k_slices_rotateCmpFunc_Limpl_Value (o0 : (List (List S_impl_Value))) (a1 : Int) (a2 : Int) (a3 : Int) (p4 : (List S_impl_Value) → (List S_impl_Value) → Option Int) (f4 : FuncId) (q4 : List LV) (hq4 : ∀ k, LV.at?.atL k q4 = false) (hf4 : ∀ a0 a1 v, p4 a0 a1 = some v → Ret Try.prog f4 (e_Limpl_Value a0 :: e_Limpl_Value a1 :: q4) (e_int v)) (r : (List (List S_impl_Value))) (h : m_slices_rotateCmpFunc_Limpl_Value o0 a1 a2 a3 p4 = some r) (k : Nat) : Does Try.prog f_slices_rotateCmpFunc_Limpl_Value [.own k 0 o0.length, e_int a1, e_int a2, e_int a3, .clo f4 q4] [(k, (lob 1 e_Limpl_Value o0))] (fun x hh => x = .tup [] ∧ hh = [(k, (lob 1 e_Limpl_Value r))]) :=
  Does.nameO (c_slices_rotateCmpFunc_Limpl_Value o0 a1 a2 a3 p4 f4 q4 hq4 hf4 r h) (fun k => (atC rfl (atC rfl (atC rfl (atC (hq4 k) (atN _)))))) k

def m_slices_symMergeCmpFunc_Limpl_Value_j12 (p4 : (List S_impl_Value) → (List S_impl_Value) → Option Int) (t3 : Int) (t18 : Int) (t24 : Int) (t213 : Bool) (o0 : (List (List S_impl_Value))) : Option (List (List S_impl_Value)) :=
  bif t213 then (none)
  else (some o0)
def m_slices_symMergeCmpFunc_Limpl_Value_j11 (p4 : (List S_impl_Value) → (List S_impl_Value) → Option Int) (t1 : Int) (t3 : Int) (t18 : Int) (t20 : Int) (t24 : Int) (t199 : Bool) (o0 : (List (List S_impl_Value))) : Option (List (List S_impl_Value)) :=
  bif t199 then (none)
  else (bif decide (t18 < t24) then (m_slices_symMergeCmpFunc_Limpl_Value_j12 p4 t3 t18 t24 (decide (t24 < t3)) o0)
  else (m_slices_symMergeCmpFunc_Limpl_Value_j12 p4 t3 t18 t24 false o0))
def m_slices_symMergeCmpFunc_Limpl_Value_j10 (p4 : (List S_impl_Value) → (List S_impl_Value) → Option Int) (t1 : Int) (t3 : Int) (t18 : Int) (t20 : Int) (t24 : Int) (o0 : (List (List S_impl_Value))) : Option (List (List S_impl_Value)) :=
  bif decide (t1 < t20) then (m_slices_symMergeCmpFunc_Limpl_Value_j11 p4 t1 t3 t18 t20 t24 (decide (t20 < t18)) o0)
  else (m_slices_symMergeCmpFunc_Limpl_Value_j11 p4 t1 t3 t18 t20 t24 false o0)
def m_slices_symMergeCmpFunc_Limpl_Value_j9 (p4 : (List S_impl_Value) → (List S_impl_Value) → Option Int) (t1 : Int) (t2 : Int) (t3 : Int) (t18 : Int) (t20 : Int) (t24 : Int) (t185 : Bool) (o0 : (List (List S_impl_Value))) : Option (List (List S_impl_Value)) :=
  bif t185 then ((m_slices_rotateCmpFunc_Limpl_Value o0 t20 t2 t24 p4).bind fun x136 =>
    (lenQ x136.length o0.length ()).bind fun u137 =>
    m_slices_symMergeCmpFunc_Limpl_Value_j10 p4 t1 t3 t18 t20 t24 x136)
  else (m_slices_symMergeCmpFunc_Limpl_Value_j10 p4 t1 t3 t18 t20 t24 o0)
def m_slices_symMergeCmpFunc_Limpl_Value_j8 (p4 : (List S_impl_Value) → (List S_impl_Value) → Option Int) (t1 : Int) (t2 : Int) (t3 : Int) (t18 : Int) (t19 : Int) (t20 : Int) (o0 : (List (List S_impl_Value))) : Option (List (List S_impl_Value)) :=
  (ckI (t19 - t20)).bind fun x131 =>
  bif decide (t20 < t2) then (m_slices_symMergeCmpFunc_Limpl_Value_j9 p4 t1 t2 t3 t18 t20 x131 (decide (t2 < x131)) o0)
  else (m_slices_symMergeCmpFunc_Limpl_Value_j9 p4 t1 t2 t3 t18 t20 x131 false o0)
def m_slices_symMergeCmpFunc_Limpl_Value_l5 (p4 : (List S_impl_Value) → (List S_impl_Value) → Option Int) : Nat → Int → Int → Int → Int → Int → Int → Int → Int → (List (List S_impl_Value)) → Option (List (List S_impl_Value))
  | 0, _, _, _, _, _, _, _, _, _ => none
  | n5 + 1, t1, t2, t3, t18, t19, t20, t21, t22, o0 =>
    bif decide (t20 < t21) then ((ckI (t20 + t21)).bind fun x117 =>
    (uI x117).bind fun x118 =>
    (shrI x118 (1 : Int)).bind fun x119 =>
    (uI x119).bind fun x120 =>
    (ckI (t22 - x120)).bind fun x122 =>
    (at? o0 x122).bind fun x123 =>
    (at? o0 x122).bind fun x124 =>
    (at? o0 x120).bind fun x125 =>
    (at? o0 x120).bind fun x126 =>
    (p4 x124 x126).bind fun x127 =>
    bif (!(decide (x127 < (0 : Int)))) then ((ckI (x120 + (1 : Int))).bind fun x129 =>
      (m_slices_symMergeCmpFunc_Limpl_Value_l5 p4 n5) t1 t2 t3 t18 t19 x129 t21 t22 o0)
    else ((m_slices_symMergeCmpFunc_Limpl_Value_l5 p4 n5) t1 t2 t3 t18 t19 t20 x120 t22 o0))
    else (m_slices_symMergeCmpFunc_Limpl_Value_j8 p4 t1 t2 t3 t18 t19 t20 o0)
def m_slices_symMergeCmpFunc_Limpl_Value_j7 (p4 : (List S_impl_Value) → (List S_impl_Value) → Option Int) (t1 : Int) (t2 : Int) (t3 : Int) (t18 : Int) (t19 : Int) (t20 : Int) (t21 : Int) (o0 : (List (List S_impl_Value))) : Option (List (List S_impl_Value)) :=
  (ckI (t19 - (1 : Int))).bind fun x109 =>
  m_slices_symMergeCmpFunc_Limpl_Value_l5 p4 ((t21 - t20).toNat + 1) t1 t2 t3 t18 t19 t20 t21 x109 o0
def m_slices_symMergeCmpFunc_Limpl_Value_j6 (p4 : (List S_impl_Value) → (List S_impl_Value) → Option Int) (t1 : Int) (t2 : Int) (t3 : Int) (o0 : (List (List S_impl_Value))) : Option (List (List S_impl_Value)) :=
  (ckI (t1 + t3)).bind fun x95 =>
  (uI x95).bind fun x96 =>
  (shrI x96 (1 : Int)).bind fun x97 =>
  (uI x97).bind fun x98 =>
  (ckI (x98 + t2)).bind fun x100 =>
  bif decide (t2 > x98) then ((ckI (x100 - t3)).bind fun x106 =>
    m_slices_symMergeCmpFunc_Limpl_Value_j7 p4 t1 t2 t3 x98 x100 x106 x98 o0)
  else (m_slices_symMergeCmpFunc_Limpl_Value_j7 p4 t1 t2 t3 x98 x100 t1 t2 o0)
def m_slices_symMergeCmpFunc_Limpl_Value_j5 (p4 : (List S_impl_Value) → (List S_impl_Value) → Option Int) (o0 : (List (List S_impl_Value))) : Option (List (List S_impl_Value)) :=
  some o0
def m_slices_symMergeCmpFunc_Limpl_Value_l4 (p4 : (List S_impl_Value) → (List S_impl_Value) → Option Int) : Nat → Int → Int → (List (List S_impl_Value)) → Option (List (List S_impl_Value))
  | 0, _, _, _ => none
  | n4 + 1, t14, t17, o0 =>
    bif decide (t17 > t14) then ((ckI (t17 - (1 : Int))).bind fun x81 =>
    (ckI (t17 - (1 : Int))).bind fun x82 =>
    (at? o0 x82).bind fun x83 =>
    (at? o0 x82).bind fun x84 =>
    (at? o0 t17).bind fun x85 =>
    (at? o0 t17).bind fun x86 =>
    (at? o0 t17).bind fun x87 =>
    (at? o0 t17).bind fun x88 =>
    lt (x84) fun y89 =>
    (at? (o0.set (t17).toNat y89) x81).bind fun x90 =>
    (at? (o0.set (t17).toNat y89) x81).bind fun x91 =>
    lt (x86) fun y92 =>
    (ckI (t17 - (1 : Int))).bind fun x93 =>
    (m_slices_symMergeCmpFunc_Limpl_Value_l4 p4 n4) t14 x93 ((o0.set (t17).toNat y89).set (x81).toNat y92))
    else (m_slices_symMergeCmpFunc_Limpl_Value_j5 p4 o0)
def m_slices_symMergeCmpFunc_Limpl_Value_j4 (p4 : (List S_impl_Value) → (List S_impl_Value) → Option Int) (t2 : Int) (t14 : Int) (o0 : (List (List S_impl_Value))) : Option (List (List S_impl_Value)) :=
  m_slices_symMergeCmpFunc_Limpl_Value_l4 p4 ((t2 - t14).toNat + 1) t14 t2 o0
def m_slices_symMergeCmpFunc_Limpl_Value_l3 (p4 : (List S_impl_Value) → (List S_impl_Value) → Option Int) : Nat → Int → Int → Int → (List (List S_impl_Value)) → Option (List (List S_impl_Value))
  | 0, _, _, _, _ => none
  | n3 + 1, t2, t14, t15, o0 =>
    bif decide (t14 < t15) then ((ckI (t14 + t15)).bind fun x61 =>
    (uI x61).bind fun x62 =>
    (shrI x62 (1 : Int)).bind fun x63 =>
    (uI x63).bind fun x64 =>
    (at? o0 t2).bind fun x66 =>
    (at? o0 t2).bind fun x67 =>
    (at? o0 x64).bind fun x68 =>
    (at? o0 x64).bind fun x69 =>
    (p4 x67 x69).bind fun x70 =>
    bif (!(decide (x70 < (0 : Int)))) then ((ckI (x64 + (1 : Int))).bind fun x72 =>
      (m_slices_symMergeCmpFunc_Limpl_Value_l3 p4 n3) t2 x72 t15 o0)
    else ((m_slices_symMergeCmpFunc_Limpl_Value_l3 p4 n3) t2 t14 x64 o0))
    else (m_slices_symMergeCmpFunc_Limpl_Value_j4 p4 t2 t14 o0)
def m_slices_symMergeCmpFunc_Limpl_Value_j3 (p4 : (List S_impl_Value) → (List S_impl_Value) → Option Int) (t1 : Int) (t2 : Int) (t3 : Int) (o0 : (List (List S_impl_Value))) : Option (List (List S_impl_Value)) :=
  (ckI (t3 - t2)).bind fun x50 =>
  bif (x50 == (1 : Int)) then (m_slices_symMergeCmpFunc_Limpl_Value_l3 p4 ((t2 - t1).toNat + 1) t2 t1 t2 o0)
  else (m_slices_symMergeCmpFunc_Limpl_Value_j6 p4 t1 t2 t3 o0)
def m_slices_symMergeCmpFunc_Limpl_Value_j2 (p4 : (List S_impl_Value) → (List S_impl_Value) → Option Int) (o0 : (List (List S_impl_Value))) : Option (List (List S_impl_Value)) :=
  some o0
def m_slices_symMergeCmpFunc_Limpl_Value_l2 (p4 : (List S_impl_Value) → (List S_impl_Value) → Option Int) : Nat → Int → Int → (List (List S_impl_Value)) → Option (List (List S_impl_Value))
  | 0, _, _, _ => none
  | n2 + 1, t10, t13, o0 =>
    (ckI (t10 - (1 : Int))).bind fun x32 =>
    bif decide (t13 < x32) then ((ckI (t13 + (1 : Int))).bind fun x35 =>
    (ckI (t13 + (1 : Int))).bind fun x36 =>
    (at? o0 x36).bind fun x37 =>
    (at? o0 x36).bind fun x38 =>
    (at? o0 t13).bind fun x39 =>
    (at? o0 t13).bind fun x40 =>
    (at? o0 t13).bind fun x41 =>
    (at? o0 t13).bind fun x42 =>
    lt (x38) fun y43 =>
    (at? (o0.set (t13).toNat y43) x35).bind fun x44 =>
    (at? (o0.set (t13).toNat y43) x35).bind fun x45 =>
    lt (x40) fun y46 =>
    (ckI (t13 + (1 : Int))).bind fun x47 =>
    (m_slices_symMergeCmpFunc_Limpl_Value_l2 p4 n2) t10 x47 ((o0.set (t13).toNat y43).set (x35).toNat y46))
    else (m_slices_symMergeCmpFunc_Limpl_Value_j2 p4 o0)
def m_slices_symMergeCmpFunc_Limpl_Value_j1 (p4 : (List S_impl_Value) → (List S_impl_Value) → Option Int) (t1 : Int) (t10 : Int) (o0 : (List (List S_impl_Value))) : Option (List (List S_impl_Value)) :=
  m_slices_symMergeCmpFunc_Limpl_Value_l2 p4 (1000000000) t10 t1 o0
def m_slices_symMergeCmpFunc_Limpl_Value_l1 (p4 : (List S_impl_Value) → (List S_impl_Value) → Option Int) : Nat → Int → Int → Int → (List (List S_impl_Value)) → Option (List (List S_impl_Value))
  | 0, _, _, _, _ => none
  | n1 + 1, t1, t10, t11, o0 =>
    bif decide (t10 < t11) then ((ckI (t10 + t11)).bind fun x14 =>
    (uI x14).bind fun x15 =>
    (shrI x15 (1 : Int)).bind fun x16 =>
    (uI x16).bind fun x17 =>
    (at? o0 x17).bind fun x19 =>
    (at? o0 x17).bind fun x20 =>
    (at? o0 t1).bind fun x21 =>
    (at? o0 t1).bind fun x22 =>
    (p4 x20 x22).bind fun x23 =>
    bif decide (x23 < (0 : Int)) then ((ckI (x17 + (1 : Int))).bind fun x25 =>
      (m_slices_symMergeCmpFunc_Limpl_Value_l1 p4 n1) t1 x25 t11 o0)
    else ((m_slices_symMergeCmpFunc_Limpl_Value_l1 p4 n1) t1 t10 x17 o0))
    else (m_slices_symMergeCmpFunc_Limpl_Value_j1 p4 t1 t10 o0)
def m_slices_symMergeCmpFunc_Limpl_Value (o0 : (List (List S_impl_Value))) (a1 : Int) (a2 : Int) (a3 : Int) (p4 : (List S_impl_Value) → (List S_impl_Value) → Option Int) : Option (List (List S_impl_Value)) :=
  (ckI (a2 - a1)).bind fun x3 =>
  bif (x3 == (1 : Int)) then (m_slices_symMergeCmpFunc_Limpl_Value_l1 p4 ((a3 - a2).toNat + 1) a1 a2 a3 o0)
  else (m_slices_symMergeCmpFunc_Limpl_Value_j3 p4 a1 a2 a3 o0)
theorem c_slices_symMergeCmpFunc_Limpl_Value (o0 : (List (List S_impl_Value))) (a1 : Int) (a2 : Int) (a3 : Int) (p4 : (List S_impl_Value) → (List S_impl_Value) → Option Int) (f4 : FuncId) (q4 : List LV) (hq4 : ∀ k, LV.at?.atL k q4 = false) (hf4 : ∀ a0 a1 v, p4 a0 a1 = some v → Ret Try.prog f4 (e_Limpl_Value a0 :: e_Limpl_Value a1 :: q4) (e_int v)) (r : (List (List S_impl_Value))) (h : m_slices_symMergeCmpFunc_Limpl_Value o0 a1 a2 a3 p4 = some r) : Does Try.prog f_slices_symMergeCmpFunc_Limpl_Value [.own 0 0 o0.length, e_int a1, e_int a2, e_int a3, .clo f4 q4] [(0, (lob 1 e_Limpl_Value o0))] (fun x hh => x = .tup [] ∧ hh = [(0, (lob 1 e_Limpl_Value r))]) := by
  refine Does.goG [0] F_slices_symMergeCmpFunc_Limpl_Value rfl e_slices_symMergeCmpFunc_Limpl_Value n_slices_symMergeCmpFunc_Limpl_Value rfl (rvs := []) rfl rfl ?_
  intro w0 ok0 lent ρ0
  refine LWP.join (α := Int × Int × Int × (List (List S_impl_Value))) (fun z : Int × Int × Int × (List (List S_impl_Value)) => [(0, (.own 0 0 (z.2.2.2).length)), (1, (e_int z.1)), (2, (e_int z.2.1)), (3, (e_int z.2.2.1)), (4, (.clo f4 q4))]) (fun z : Int × Int × Int × (List (List S_impl_Value)) => [(0, (lob 1 e_Limpl_Value z.2.2.2))]) (fun z : Int × Int × Int × (List (List S_impl_Value)) => m_slices_symMergeCmpFunc_Limpl_Value_j3 p4 z.1 z.2.1 z.2.2.1 z.2.2.2) r (fun _ => by simp [hkeys]) ?_ ?_
  · rintro ⟨t1, t2, t3, o0⟩ h
    replace h : m_slices_symMergeCmpFunc_Limpl_Value_j3 p4 t1 t2 t3 o0 = some _ := h
    refine LWP.join (α := Int × Int × Int × (List (List S_impl_Value))) (fun z : Int × Int × Int × (List (List S_impl_Value)) => [(0, (.own 0 0 (z.2.2.2).length)), (1, (e_int z.1)), (2, (e_int z.2.1)), (3, (e_int z.2.2.1)), (4, (.clo f4 q4))]) (fun z : Int × Int × Int × (List (List S_impl_Value)) => [(0, (lob 1 e_Limpl_Value z.2.2.2))]) (fun z : Int × Int × Int × (List (List S_impl_Value)) => m_slices_symMergeCmpFunc_Limpl_Value_j6 p4 z.1 z.2.1 z.2.2.1 z.2.2.2) r (fun _ => by simp [hkeys]) ?_ ?_
    · rintro ⟨t1, t2, t3, o0⟩ h
      replace h : m_slices_symMergeCmpFunc_Limpl_Value_j6 p4 t1 t2 t3 o0 = some _ := h
      refine LWP.seq_k fun N94 hN94 => ?_
      refine LWP.region (l := [_,_,_,_,_,_,_]) ?_
      refine LWo.move (e_int t1) rfl (hn := ?_)
      refine LWo.move (e_int t3) rfl (hn := ?_)
      refine bk h fun x95 e95 h => ?_
      refine LWo.int _ rfl rfl (add_ck e95) (hn := ?_)
      refine bk h fun x96 e96 h => ?_
      refine LWo.convIU e96 u_int u_uint rfl (hn := ?_)
      refine bk h fun x97 e97 h => ?_
      refine LWo.shrU e97 rfl rfl (hn := ?_)
      refine bk h fun x98 e98 h => ?_
      refine LWo.convUI e98 u_uint u_int rfl (hn := ?_)
      refine LWo.assign (e_int x98) rfl (hn := ?_)
      refine LWo.nil (hN94 _ ?_)
      refine LWP.seq_k fun N99 hN99 => ?_
      refine LWP.region (l := [_,_,_,_]) ?_
      refine LWo.move (e_int x98) rfl (hn := ?_)
      refine LWo.move (e_int t2) rfl (hn := ?_)
      refine bk h fun x100 e100 h => ?_
      refine LWo.int _ rfl rfl (add_ck e100) (hn := ?_)
      refine LWo.assign (e_int x100) rfl (hn := ?_)
      refine LWo.nil (hN99 _ ?_)
      refine LWP.seq_k fun N101 hN101 => ?_
      refine LWP.region (l := [_,_]) ?_
      refine LWo.assign (e_int (0 : Int)) rfl (hn := ?_)
      refine LWo.assign (e_int (0 : Int)) rfl (hn := ?_)
      refine LWo.nil (hN101 _ ?_)
      refine LWP.join (α := Int × Int × Int × Int × Int × Int × Int × (List (List S_impl_Value))) (fun z : Int × Int × Int × Int × Int × Int × Int × (List (List S_impl_Value)) => [(0, (.own 0 0 (z.2.2.2.2.2.2.2).length)), (1, (e_int z.1)), (2, (e_int z.2.1)), (3, (e_int z.2.2.1)), (4, (.clo f4 q4)), (18, (e_int z.2.2.2.1)), (19, (e_int z.2.2.2.2.1)), (20, (e_int z.2.2.2.2.2.1)), (21, (e_int z.2.2.2.2.2.2.1))]) (fun z : Int × Int × Int × Int × Int × Int × Int × (List (List S_impl_Value)) => [(0, (lob 1 e_Limpl_Value z.2.2.2.2.2.2.2))]) (fun z : Int × Int × Int × Int × Int × Int × Int × (List (List S_impl_Value)) => m_slices_symMergeCmpFunc_Limpl_Value_j7 p4 z.1 z.2.1 z.2.2.1 z.2.2.2.1 z.2.2.2.2.1 z.2.2.2.2.2.1 z.2.2.2.2.2.2.1 z.2.2.2.2.2.2.2) r (fun _ => by simp [hkeys]) ?_ ?_
      · rintro ⟨t1, t2, t3, t18, t19, t20, t21, o0⟩ h
        replace h : m_slices_symMergeCmpFunc_Limpl_Value_j7 p4 t1 t2 t3 t18 t19 t20 t21 o0 = some _ := h
        refine LWP.seq_k fun N108 hN108 => ?_
        refine LWP.region (l := [_,_,_]) ?_
        refine LWo.move (e_int t19) rfl (hn := ?_)
        refine bk h fun x109 e109 h => ?_
        refine LWo.int _ rfl rfl (sub_ck e109) (hn := ?_)
        refine LWo.assign (e_int x109) rfl (hn := ?_)
        refine LWo.nil (hN108 _ ?_)
        refine LWP.join (α := Int × Int × Int × Int × Int × Int × (List (List S_impl_Value))) (fun z : Int × Int × Int × Int × Int × Int × (List (List S_impl_Value)) => [(0, (.own 0 0 (z.2.2.2.2.2.2).length)), (1, (e_int z.1)), (2, (e_int z.2.1)), (3, (e_int z.2.2.1)), (4, (.clo f4 q4)), (18, (e_int z.2.2.2.1)), (19, (e_int z.2.2.2.2.1)), (20, (e_int z.2.2.2.2.2.1))]) (fun z : Int × Int × Int × Int × Int × Int × (List (List S_impl_Value)) => [(0, (lob 1 e_Limpl_Value z.2.2.2.2.2.2))]) (fun z : Int × Int × Int × Int × Int × Int × (List (List S_impl_Value)) => m_slices_symMergeCmpFunc_Limpl_Value_j8 p4 z.1 z.2.1 z.2.2.1 z.2.2.2.1 z.2.2.2.2.1 z.2.2.2.2.2.1 z.2.2.2.2.2.2) r (fun _ => by simp [hkeys]) ?_ ?_
        · rintro ⟨t1, t2, t3, t18, t19, t20, o0⟩ h
          replace h : m_slices_symMergeCmpFunc_Limpl_Value_j8 p4 t1 t2 t3 t18 t19 t20 o0 = some _ := h
          refine LWP.seq_k fun N130 hN130 => ?_
          refine LWP.region (l := [_,_,_,_]) ?_
          refine LWo.move (e_int t19) rfl (hn := ?_)
          refine LWo.move (e_int t20) rfl (hn := ?_)
          refine bk h fun x131 e131 h => ?_
          refine LWo.int _ rfl rfl (sub_ck e131) (hn := ?_)
          refine LWo.assign (e_int x131) rfl (hn := ?_)
          refine LWo.nil (hN130 _ ?_)
          refine LWP.join (α := Int × Int × Int × Int × Int × (List (List S_impl_Value))) (fun z : Int × Int × Int × Int × Int × (List (List S_impl_Value)) => [(0, (.own 0 0 (z.2.2.2.2.2).length)), (1, (e_int z.1)), (3, (e_int z.2.1)), (4, (.clo f4 q4)), (18, (e_int z.2.2.1)), (20, (e_int z.2.2.2.1)), (24, (e_int z.2.2.2.2.1))]) (fun z : Int × Int × Int × Int × Int × (List (List S_impl_Value)) => [(0, (lob 1 e_Limpl_Value z.2.2.2.2.2))]) (fun z : Int × Int × Int × Int × Int × (List (List S_impl_Value)) => m_slices_symMergeCmpFunc_Limpl_Value_j10 p4 z.1 z.2.1 z.2.2.1 z.2.2.2.1 z.2.2.2.2.1 z.2.2.2.2.2) r (fun _ => by simp [hkeys]) ?_ ?_
          · rintro ⟨t1, t3, t18, t20, t24, o0⟩ h
            replace h : m_slices_symMergeCmpFunc_Limpl_Value_j10 p4 t1 t3 t18 t20 t24 o0 = some _ := h
            refine LWP.seq_k fun N138 hN138 => ?_
            refine LWP.join (α := Int × Int × Int × Int × Int × Bool × (List (List S_impl_Value))) (fun z : Int × Int × Int × Int × Int × Bool × (List (List S_impl_Value)) => [(0, (.own 0 0 (z.2.2.2.2.2.2).length)), (1, (e_int z.1)), (3, (e_int z.2.1)), (4, (.clo f4 q4)), (18, (e_int z.2.2.1)), (20, (e_int z.2.2.2.1)), (24, (e_int z.2.2.2.2.1)), (199, (e_bool z.2.2.2.2.2.1))]) (fun z : Int × Int × Int × Int × Int × Bool × (List (List S_impl_Value)) => [(0, (lob 1 e_Limpl_Value z.2.2.2.2.2.2))]) (fun z : Int × Int × Int × Int × Int × Bool × (List (List S_impl_Value)) => m_slices_symMergeCmpFunc_Limpl_Value_j11 p4 z.1 z.2.1 z.2.2.1 z.2.2.2.1 z.2.2.2.2.1 z.2.2.2.2.2.1 z.2.2.2.2.2.2) r (fun _ => by simp [hkeys]) ?_ ?_
            · rintro ⟨t1, t3, t18, t20, t24, t199, o0⟩ h
              replace h : m_slices_symMergeCmpFunc_Limpl_Value_j11 p4 t1 t3 t18 t20 t24 t199 o0 = some _ := h
              refine LWP.cond_split rfl (fun h141 => ?_) (fun h141 => ?_)
              · have h := bT h141 h
                refine LWP.region (l := [_,_,_,_,_,_]) ?_
                refine LWo.move (.own 0 0 (o0).length) rfl (hn := ?_)
                refine LWo.move (e_int t1) rfl (hn := ?_)
                refine LWo.move (e_int t20) rfl (hn := ?_)
                refine LWo.move (e_int t18) rfl (hn := ?_)
                refine LWo.move (.clo f4 q4) rfl (hn := ?_)
                exact no h
              · have h := bF h141 h
                refine LWP.skip (hN138 _ ?_)
                refine LWP.join (α := Int × Int × Int × Bool × (List (List S_impl_Value))) (fun z : Int × Int × Int × Bool × (List (List S_impl_Value)) => [(0, (.own 0 0 (z.2.2.2.2).length)), (3, (e_int z.1)), (4, (.clo f4 q4)), (18, (e_int z.2.1)), (24, (e_int z.2.2.1)), (213, (e_bool z.2.2.2.1))]) (fun z : Int × Int × Int × Bool × (List (List S_impl_Value)) => [(0, (lob 1 e_Limpl_Value z.2.2.2.2))]) (fun z : Int × Int × Int × Bool × (List (List S_impl_Value)) => m_slices_symMergeCmpFunc_Limpl_Value_j12 p4 z.1 z.2.1 z.2.2.1 z.2.2.2.1 z.2.2.2.2) r (fun _ => by simp [hkeys]) ?_ ?_
                · rintro ⟨t3, t18, t24, t213, o0⟩ h
                  replace h : m_slices_symMergeCmpFunc_Limpl_Value_j12 p4 t3 t18 t24 t213 o0 = some _ := h
                  refine LWP.cond_split rfl (fun h144 => ?_) (fun h144 => ?_)
                  · have h := bT h144 h
                    refine LWP.region (l := [_,_,_,_,_,_]) ?_
                    refine LWo.move (.own 0 0 (o0).length) rfl (hn := ?_)
                    refine LWo.move (e_int t18) rfl (hn := ?_)
                    refine LWo.move (e_int t24) rfl (hn := ?_)
                    refine LWo.move (e_int t3) rfl (hn := ?_)
                    refine LWo.move (.clo f4 q4) rfl (hn := ?_)
                    exact no h
                  · have h := bF h144 h
                    obtain rfl := Option.some.inj h
                    refine LWP.skip (QG.mk (.inl rfl) (.nil) (RetOK.many1 (.nil) (by simp) (by decide) rfl rfl rfl rfl rfl) rfl rfl)
                · intro N142 hN142
                  refine LWP.region (l := [_,_,_,_,_,_,_,_]) ?_
                  refine LWo.move (e_int t18) rfl (hn := ?_)
                  refine LWo.move (e_int t24) rfl (hn := ?_)
                  refine LWo.int _ rfl rfl rfl (hn := ?_)
                  refine LWo.move (e_bool (decide (t18 < t24))) rfl (hn := ?_)
                  refine LWo.byCases (t := 209) _ rfl (fun h143 => ?_) (fun h143 => ?_)
                  · have h := bT h143 h
                    refine LWo.guardY (t := 209) rfl h143 rfl rfl ?_
                    refine LWo.move (e_int t24) rfl (hn := ?_)
                    refine LWo.guardY (t := 209) rfl h143 rfl rfl ?_
                    refine LWo.move (e_int t3) rfl (hn := ?_)
                    refine LWo.guardY (t := 209) rfl h143 rfl rfl ?_
                    refine LWo.int _ rfl rfl rfl (hn := ?_)
                    refine LWo.pickTM (e_bool (decide (t24 < t3))) rfl h143 rfl (hn := ?_)
                    refine LWo.nil (hN142 (t3, t18, t24, decide (t24 < t3), o0) _ ⟨rfl, rfl, rfl, rfl, rfl, rfl, trivial⟩ ⟨rfl, trivial⟩ h)
                  · have h := bF h143 h
                    refine LWo.guardNU (t := 209) rfl h143 rfl rfl rfl rfl rfl ?_
                    refine LWo.guardNU (t := 209) rfl h143 rfl rfl rfl rfl rfl ?_
                    refine LWo.guardNU (t := 209) rfl h143 rfl rfl rfl rfl rfl ?_
                    refine LWo.pickFM (e_bool false) rfl h143 rfl (hn := ?_)
                    refine LWo.nil (hN142 (t3, t18, t24, false, o0) _ ⟨rfl, rfl, rfl, rfl, rfl, rfl, trivial⟩ ⟨rfl, trivial⟩ h)
            · intro N139 hN139
              refine LWP.region (l := [_,_,_,_,_,_,_,_]) ?_
              refine LWo.move (e_int t1) rfl (hn := ?_)
              refine LWo.move (e_int t20) rfl (hn := ?_)
              refine LWo.int _ rfl rfl rfl (hn := ?_)
              refine LWo.move (e_bool (decide (t1 < t20))) rfl (hn := ?_)
              refine LWo.byCases (t := 195) _ rfl (fun h140 => ?_) (fun h140 => ?_)
              · have h := bT h140 h
                refine LWo.guardY (t := 195) rfl h140 rfl rfl ?_
                refine LWo.move (e_int t20) rfl (hn := ?_)
                refine LWo.guardY (t := 195) rfl h140 rfl rfl ?_
                refine LWo.move (e_int t18) rfl (hn := ?_)
                refine LWo.guardY (t := 195) rfl h140 rfl rfl ?_
                refine LWo.int _ rfl rfl rfl (hn := ?_)
                refine LWo.pickTM (e_bool (decide (t20 < t18))) rfl h140 rfl (hn := ?_)
                refine LWo.nil (hN139 (t1, t3, t18, t20, t24, decide (t20 < t18), o0) _ ⟨rfl, rfl, rfl, rfl, rfl, rfl, rfl, rfl, trivial⟩ ⟨rfl, trivial⟩ h)
              · have h := bF h140 h
                refine LWo.guardNU (t := 195) rfl h140 rfl rfl rfl rfl rfl ?_
                refine LWo.guardNU (t := 195) rfl h140 rfl rfl rfl rfl rfl ?_
                refine LWo.guardNU (t := 195) rfl h140 rfl rfl rfl rfl rfl ?_
                refine LWo.pickFM (e_bool false) rfl h140 rfl (hn := ?_)
                refine LWo.nil (hN139 (t1, t3, t18, t20, t24, false, o0) _ ⟨rfl, rfl, rfl, rfl, rfl, rfl, rfl, rfl, trivial⟩ ⟨rfl, trivial⟩ h)
          · intro N132 hN132
            refine LWP.join (α := Int × Int × Int × Int × Int × Int × Bool × (List (List S_impl_Value))) (fun z : Int × Int × Int × Int × Int × Int × Bool × (List (List S_impl_Value)) => [(0, (.own 0 0 (z.2.2.2.2.2.2.2).length)), (1, (e_int z.1)), (2, (e_int z.2.1)), (3, (e_int z.2.2.1)), (4, (.clo f4 q4)), (18, (e_int z.2.2.2.1)), (20, (e_int z.2.2.2.2.1)), (24, (e_int z.2.2.2.2.2.1)), (185, (e_bool z.2.2.2.2.2.2.1))]) (fun z : Int × Int × Int × Int × Int × Int × Bool × (List (List S_impl_Value)) => [(0, (lob 1 e_Limpl_Value z.2.2.2.2.2.2.2))]) (fun z : Int × Int × Int × Int × Int × Int × Bool × (List (List S_impl_Value)) => m_slices_symMergeCmpFunc_Limpl_Value_j9 p4 z.1 z.2.1 z.2.2.1 z.2.2.2.1 z.2.2.2.2.1 z.2.2.2.2.2.1 z.2.2.2.2.2.2.1 z.2.2.2.2.2.2.2) r (fun _ => by simp [hkeys]) ?_ ?_
            · rintro ⟨t1, t2, t3, t18, t20, t24, t185, o0⟩ h
              replace h : m_slices_symMergeCmpFunc_Limpl_Value_j9 p4 t1 t2 t3 t18 t20 t24 t185 o0 = some _ := h
              refine LWP.cond_split rfl (fun h135 => ?_) (fun h135 => ?_)
              · have h := bT h135 h
                refine LWP.region (l := [_,_,_,_,_,_]) ?_
                refine LWo.move (.own 0 0 (o0).length) rfl (hn := ?_)
                refine LWo.move (e_int t20) rfl (hn := ?_)
                refine LWo.move (e_int t2) rfl (hn := ?_)
                refine LWo.move (e_int t24) rfl (hn := ?_)
                refine LWo.move (.clo f4 q4) rfl (hn := ?_)
                refine bk h fun x136 e136 h => ?_
                refine bk h fun u137 e137 h => ?_
                refine LWo.ucallM (e := e_Limpl_Value) rfl rfl (k_slices_rotateCmpFunc_Limpl_Value _ _ _ _ _ f4 q4 hq4 hf4 _ e136 0) rfl rfl (some 191) rfl (hn := ?_)
                refine LWo.nil (hN132 (t1, t3, t18, t20, t24, x136) _ ⟨(congrArg (LV.own 0 0) ((lenQ_some e137).1.symm)), rfl, rfl, rfl, rfl, rfl, rfl, trivial⟩ ⟨rfl, trivial⟩ h)
              · have h := bF h135 h
                refine LWP.skip (hN132 (t1, t3, t18, t20, t24, o0) _ ⟨rfl, rfl, rfl, rfl, rfl, rfl, rfl, trivial⟩ ⟨rfl, trivial⟩ h)
            · intro N133 hN133
              refine LWP.region (l := [_,_,_,_,_,_,_,_]) ?_
              refine LWo.move (e_int t20) rfl (hn := ?_)
              refine LWo.move (e_int t2) rfl (hn := ?_)
              refine LWo.int _ rfl rfl rfl (hn := ?_)
              refine LWo.move (e_bool (decide (t20 < t2))) rfl (hn := ?_)
              refine LWo.byCases (t := 181) _ rfl (fun h134 => ?_) (fun h134 => ?_)
              · have h := bT h134 h
                refine LWo.guardY (t := 181) rfl h134 rfl rfl ?_
                refine LWo.move (e_int t2) rfl (hn := ?_)
                refine LWo.guardY (t := 181) rfl h134 rfl rfl ?_
                refine LWo.move (e_int x131) rfl (hn := ?_)
                refine LWo.guardY (t := 181) rfl h134 rfl rfl ?_
                refine LWo.int _ rfl rfl rfl (hn := ?_)
                refine LWo.pickTM (e_bool (decide (t2 < x131))) rfl h134 rfl (hn := ?_)
                refine LWo.nil (hN133 (t1, t2, t3, t18, t20, x131, decide (t2 < x131), o0) _ ⟨rfl, rfl, rfl, rfl, rfl, rfl, rfl, rfl, rfl, trivial⟩ ⟨rfl, trivial⟩ h)
              · have h := bF h134 h
                refine LWo.guardNU (t := 181) rfl h134 rfl rfl rfl rfl rfl ?_
                refine LWo.guardNU (t := 181) rfl h134 rfl rfl rfl rfl rfl ?_
                refine LWo.guardNU (t := 181) rfl h134 rfl rfl rfl rfl rfl ?_
                refine LWo.pickFM (e_bool false) rfl h134 rfl (hn := ?_)
                refine LWo.nil (hN133 (t1, t2, t3, t18, t20, x131, false, o0) _ ⟨rfl, rfl, rfl, rfl, rfl, rfl, rfl, rfl, rfl, trivial⟩ ⟨rfl, trivial⟩ h)
        · intro N110 hN110
          refine LWP.block ?_
          refine LWP.loopM (α := Int × Int × Int × Int × Int × Int × Int × Int × (List (List S_impl_Value))) (fun z : Int × Int × Int × Int × Int × Int × Int × Int × (List (List S_impl_Value)) => [(0, (.own 0 0 (z.2.2.2.2.2.2.2.2).length)), (1, (e_int z.1)), (2, (e_int z.2.1)), (3, (e_int z.2.2.1)), (4, (.clo f4 q4)), (18, (e_int z.2.2.2.1)), (19, (e_int z.2.2.2.2.1)), (20, (e_int z.2.2.2.2.2.1)), (21, (e_int z.2.2.2.2.2.2.1)), (22, (e_int z.2.2.2.2.2.2.2.1))]) (fun z : Int × Int × Int × Int × Int × Int × Int × Int × (List (List S_impl_Value)) => [(0, (lob 1 e_Limpl_Value z.2.2.2.2.2.2.2.2))]) (fun n5 (z : Int × Int × Int × Int × Int × Int × Int × Int × (List (List S_impl_Value))) => m_slices_symMergeCmpFunc_Limpl_Value_l5 p4 n5 z.1 z.2.1 z.2.2.1 z.2.2.2.1 z.2.2.2.2.1 z.2.2.2.2.2.1 z.2.2.2.2.2.2.1 z.2.2.2.2.2.2.2.1 z.2.2.2.2.2.2.2.2) r _ (t1, t2, t3, t18, t19, t20, t21, x109, o0) h (fun _ => rfl) (fun _ => by simp [hkeys]) ⟨rfl, rfl, rfl, rfl, rfl, rfl, rfl, rfl, rfl, rfl, trivial⟩ ⟨rfl, trivial⟩ ?_
          rintro n5 ⟨t1, t2, t3, t18, t19, t20, t21, t22, o0⟩ h N111 hN111
          replace h : m_slices_symMergeCmpFunc_Limpl_Value_l5 p4 (n5 + 1) t1 t2 t3 t18 t19 t20 t21 t22 o0 = some _ := h
          refine LWP.seq_k fun N113 hN113 => ?_
          refine LWP.seq_k fun N114 hN114 => ?_
          refine LWP.region (l := [_,_,_]) ?_
          refine LWo.move (e_int t20) rfl (hn := ?_)
          refine LWo.move (e_int t21) rfl (hn := ?_)
          refine LWo.int _ rfl rfl rfl (hn := ?_)
          refine LWo.nil (hN114 _ ?_)
          refine LWP.cond_split rfl (fun h115 => ?_) (fun h115 => ?_)
          · have h := bT h115 h
            refine LWP.skip (hN113 _ ?_)
            refine LWP.block ?_
            refine LWP.seq_k fun N116 hN116 => ?_
            refine LWP.region (l := [_,_,_,_,_,_,_]) ?_
            refine LWo.move (e_int t20) rfl (hn := ?_)
            refine LWo.move (e_int t21) rfl (hn := ?_)
            refine bk h fun x117 e117 h => ?_
            refine LWo.int _ rfl rfl (add_ck e117) (hn := ?_)
            refine bk h fun x118 e118 h => ?_
            refine LWo.convIU e118 u_int u_uint rfl (hn := ?_)
            refine bk h fun x119 e119 h => ?_
            refine LWo.shrU e119 rfl rfl (hn := ?_)
            refine bk h fun x120 e120 h => ?_
            refine LWo.convUI e120 u_uint u_int rfl (hn := ?_)
            refine LWo.assign (e_int x120) rfl (hn := ?_)
            refine LWo.nil (hN116 _ ?_)
            refine LWP.seq_k fun N121 hN121 => ?_
            refine bk h fun x122 e122 h => ?_
            refine bk h fun x123 e123 h => ?_
            refine bk h fun x124 e124 h => ?_
            refine bk h fun x125 e125 h => ?_
            refine bk h fun x126 e126 h => ?_
            refine bk h fun x127 e127 h => ?_
            refine LWP.drawE (l := [_,_,_,_,_,_,_,_,_,_,_,_,_,_]) [] [0, 1, 2, 3, 4, 18, 19, 20, 21, 22, 23] [([4], []), ([0], []), ([22], []), ([23], []), ([160, 161], []), ([159, 162], [0]), ([163], [0]), ([0], []), ([23], []), ([165, 166], [0]), ([167], [0]), ([158, 164, 168], []), ([169], []), ([170], [])] [0, 1, 2, 3, 4, 18, 19, 20, 21, 22, 23, 171] [0] mixed (by kernel_rfl) rfl (by decide) ?_
            refine ⟨rfl, .put 158 _, trivial, fun u hg hu hh => LWo.move (.clo f4 q4) hu.1 (hn := LWo.nil ⟨rfl, .inl rfl, hg⟩), ?_⟩
            refine ⟨rfl, .put 159 _, trivial, fun u hg hu hh => LWo.move (.own 0 0 (o0).length) hu.1 (hn := LWo.nil ⟨rfl, .inl rfl, hg⟩), ?_⟩
            refine ⟨rfl, .put 160 _, trivial, fun u hg hu hh => LWo.move (e_int t22) hu.1 (hn := LWo.nil ⟨rfl, .inl rfl, hg⟩), ?_⟩
            refine ⟨rfl, .put 161 _, trivial, fun u hg hu hh => LWo.move (e_int x120) hu.1 (hn := LWo.nil ⟨rfl, .inl rfl, hg⟩), ?_⟩
            refine ⟨rfl, .put 162 _, trivial, fun u hg hu hh => LWo.int _ hu.1 hu.2.1 (sub_ck e122) (hn := LWo.nil ⟨rfl, .inl rfl, hg⟩), ?_⟩
            refine ⟨rfl, .put 163 _, trivial, fun u hg hu hh => LWo.indexO e123 rfl u_LLimpl_Value s_Limpl_Value hu.1 hu.2.1 hh.1 (hn := LWo.nil ⟨rfl, .inl rfl, hg⟩), ?_⟩
            refine ⟨rfl, .put 164 _, trivial, fun u hg hu hh => LWo.loadO1 (e_Limpl_Value x124) e124 g_Limpl_Value hu.1 hh.1 rfl (hn := LWo.nil ⟨rfl, .inl rfl, hg⟩), ?_⟩
            refine ⟨rfl, .put 165 _, trivial, fun u hg hu hh => LWo.move (.own 0 0 (o0).length) hu.1 (hn := LWo.nil ⟨rfl, .inl rfl, hg⟩), ?_⟩
            refine ⟨rfl, .put 166 _, trivial, fun u hg hu hh => LWo.move (e_int x120) hu.1 (hn := LWo.nil ⟨rfl, .inl rfl, hg⟩), ?_⟩
            refine ⟨rfl, .put 167 _, trivial, fun u hg hu hh => LWo.indexO e125 rfl u_LLimpl_Value s_Limpl_Value hu.1 hu.2.1 hh.1 (hn := LWo.nil ⟨rfl, .inl rfl, hg⟩), ?_⟩
            refine ⟨rfl, .put 168 _, trivial, fun u hg hu hh => LWo.loadO1 (e_Limpl_Value x126) e126 g_Limpl_Value hu.1 hh.1 rfl (hn := LWo.nil ⟨rfl, .inl rfl, hg⟩), ?_⟩
            refine ⟨rfl, .put 169 _, trivial, fun u hg hu hh => LWo.vcall hu.1 (avq2 hu.2.1 hu.2.2.1) (hf4 _ _ _ e127) .refl (hn := LWo.nil ⟨rfl, .inl rfl, hg⟩), ?_⟩
            refine ⟨rfl, .put 170 _, trivial, fun u hg hu hh => LWo.int _ hu.1 rfl rfl (hn := LWo.nil ⟨rfl, .inl rfl, hg⟩), ?_⟩
            refine ⟨rfl, .put 171 _, trivial, fun u hg hu hh => LWo.not hu.1 (hn := LWo.nil ⟨rfl, .inl rfl, hg⟩), ?_⟩
            refine ⟨rfl, by kernel_rfl, hN121 _ ?_⟩
            refine LWP.cond_split rfl (fun h128 => ?_) (fun h128 => ?_)
            · have h := bT h128 h
              refine LWP.region (l := [_,_,_]) ?_
              refine LWo.move (e_int x120) rfl (hn := ?_)
              refine bk h fun x129 e129 h => ?_
              refine LWo.int _ rfl rfl (add_ck e129) (hn := ?_)
              refine LWo.assign (e_int x129) rfl (hn := ?_)
              refine LWo.nil (hN111 (t1, t2, t3, t18, t19, x129, t21, t22, o0) _ ⟨rfl, rfl, rfl, rfl, rfl, rfl, rfl, rfl, rfl, rfl, trivial⟩ ⟨rfl, trivial⟩ h)
            · have h := bF h128 h
              refine LWP.region (l := [_,_]) ?_
              refine LWo.move (e_int x120) rfl (hn := ?_)
              refine LWo.assign (e_int x120) rfl (hn := ?_)
              refine LWo.nil (hN111 (t1, t2, t3, t18, t19, t20, x120, t22, o0) _ ⟨rfl, rfl, rfl, rfl, rfl, rfl, rfl, rfl, rfl, rfl, trivial⟩ ⟨rfl, trivial⟩ h)
          · have h := bF h115 h
            refine LWP.exit (hN110 (t1, t2, t3, t18, t19, t20, o0) _ ⟨rfl, rfl, rfl, rfl, rfl, rfl, rfl, rfl, trivial⟩ ⟨rfl, trivial⟩ h)
      · intro N102 hN102
        refine LWP.seq_k fun N103 hN103 => ?_
        refine LWP.region (l := [_,_,_]) ?_
        refine LWo.move (e_int t2) rfl (hn := ?_)
        refine LWo.move (e_int x98) rfl (hn := ?_)
        refine LWo.int _ rfl rfl rfl (hn := ?_)
        refine LWo.nil (hN103 _ ?_)
        refine LWP.cond_split rfl (fun h104 => ?_) (fun h104 => ?_)
        · have h := bT h104 h
          refine LWP.seq_k fun N105 hN105 => ?_
          refine LWP.region (l := [_,_,_,_]) ?_
          refine LWo.move (e_int x100) rfl (hn := ?_)
          refine LWo.move (e_int t3) rfl (hn := ?_)
          refine bk h fun x106 e106 h => ?_
          refine LWo.int _ rfl rfl (sub_ck e106) (hn := ?_)
          refine LWo.assign (e_int x106) rfl (hn := ?_)
          refine LWo.nil (hN105 _ ?_)
          refine LWP.region (l := [_,_]) ?_
          refine LWo.move (e_int x98) rfl (hn := ?_)
          refine LWo.assign (e_int x98) rfl (hn := ?_)
          refine LWo.nil (hN102 (t1, t2, t3, x98, x100, x106, x98, o0) _ ⟨rfl, rfl, rfl, rfl, rfl, rfl, rfl, rfl, rfl, trivial⟩ ⟨rfl, trivial⟩ h)
        · have h := bF h104 h
          refine LWP.seq_k fun N107 hN107 => ?_
          refine LWP.region (l := [_,_]) ?_
          refine LWo.move (e_int t1) rfl (hn := ?_)
          refine LWo.assign (e_int t1) rfl (hn := ?_)
          refine LWo.nil (hN107 _ ?_)
          refine LWP.region (l := [_,_]) ?_
          refine LWo.move (e_int t2) rfl (hn := ?_)
          refine LWo.assign (e_int t2) rfl (hn := ?_)
          refine LWo.nil (hN102 (t1, t2, t3, x98, x100, t1, t2, o0) _ ⟨rfl, rfl, rfl, rfl, rfl, rfl, rfl, rfl, rfl, trivial⟩ ⟨rfl, trivial⟩ h)
    · intro N48 hN48
      refine LWP.seq_k fun N49 hN49 => ?_
      refine LWP.region (l := [_,_,_,_]) ?_
      refine LWo.move (e_int t3) rfl (hn := ?_)
      refine LWo.move (e_int t2) rfl (hn := ?_)
      refine bk h fun x50 e50 h => ?_
      refine LWo.int _ rfl rfl (sub_ck e50) (hn := ?_)
      refine LWo.int _ rfl rfl rfl (hn := ?_)
      refine LWo.nil (hN49 _ ?_)
      refine LWP.cond_split rfl (fun h51 => ?_) (fun h51 => ?_)
      · have h := bT h51 h
        refine LWP.seq_k fun N52 hN52 => ?_
        refine LWP.region (l := [_,_]) ?_
        refine LWo.move (e_int t1) rfl (hn := ?_)
        refine LWo.assign (e_int t1) rfl (hn := ?_)
        refine LWo.nil (hN52 _ ?_)
        refine LWP.seq_k fun N53 hN53 => ?_
        refine LWP.region (l := [_,_]) ?_
        refine LWo.move (e_int t2) rfl (hn := ?_)
        refine LWo.assign (e_int t2) rfl (hn := ?_)
        refine LWo.nil (hN53 _ ?_)
        refine LWP.join (α := Int × Int × (List (List S_impl_Value))) (fun z : Int × Int × (List (List S_impl_Value)) => [(0, (.own 0 0 (z.2.2).length)), (2, (e_int z.1)), (14, (e_int z.2.1))]) (fun z : Int × Int × (List (List S_impl_Value)) => [(0, (lob 1 e_Limpl_Value z.2.2))]) (fun z : Int × Int × (List (List S_impl_Value)) => m_slices_symMergeCmpFunc_Limpl_Value_j4 p4 z.1 z.2.1 z.2.2) r (fun _ => by simp [hkeys]) ?_ ?_
        · rintro ⟨t2, t14, o0⟩ h
          replace h : m_slices_symMergeCmpFunc_Limpl_Value_j4 p4 t2 t14 o0 = some _ := h
          refine LWP.join (α := (List (List S_impl_Value))) (fun z : (List (List S_impl_Value)) => []) (fun z : (List (List S_impl_Value)) => [(0, (lob 1 e_Limpl_Value z))]) (fun z : (List (List S_impl_Value)) => m_slices_symMergeCmpFunc_Limpl_Value_j5 p4 z) r (fun _ => by simp [hkeys]) ?_ ?_
          · rintro o0 h
            replace h : m_slices_symMergeCmpFunc_Limpl_Value_j5 p4 o0 = some _ := h
            obtain rfl := Option.some.inj h
            refine LWP.ret (QG.mk (.inr rfl) (.nil) (RetOK.many1 (.nil) (by simp) (by decide) rfl rfl rfl rfl rfl) rfl rfl)
          · intro N73 hN73
            refine LWP.seq_k fun N74 hN74 => ?_
            refine LWP.region (l := [_,_]) ?_
            refine LWo.move (e_int t2) rfl (hn := ?_)
            refine LWo.assign (e_int t2) rfl (hn := ?_)
            refine LWo.nil (hN74 _ ?_)
            refine LWP.block ?_
            refine LWP.loopM (α := Int × Int × (List (List S_impl_Value))) (fun z : Int × Int × (List (List S_impl_Value)) => [(0, (.own 0 0 (z.2.2).length)), (14, (e_int z.1)), (17, (e_int z.2.1))]) (fun z : Int × Int × (List (List S_impl_Value)) => [(0, (lob 1 e_Limpl_Value z.2.2))]) (fun n4 (z : Int × Int × (List (List S_impl_Value))) => m_slices_symMergeCmpFunc_Limpl_Value_l4 p4 n4 z.1 z.2.1 z.2.2) r _ (t14, t2, o0) h (fun _ => rfl) (fun _ => by simp [hkeys]) ⟨rfl, rfl, rfl, trivial⟩ ⟨rfl, trivial⟩ ?_
            rintro n4 ⟨t14, t17, o0⟩ h N75 hN75
            replace h : m_slices_symMergeCmpFunc_Limpl_Value_l4 p4 (n4 + 1) t14 t17 o0 = some _ := h
            refine LWP.seq_k fun N77 hN77 => ?_
            refine LWP.seq_k fun N78 hN78 => ?_
            refine LWP.region (l := [_,_,_]) ?_
            refine LWo.move (e_int t17) rfl (hn := ?_)
            refine LWo.move (e_int t14) rfl (hn := ?_)
            refine LWo.int _ rfl rfl rfl (hn := ?_)
            refine LWo.nil (hN78 _ ?_)
            refine LWP.cond_split rfl (fun h79 => ?_) (fun h79 => ?_)
            · have h := bT h79 h
              refine LWP.skip (hN77 _ ?_)
              refine LWP.seq_k fun N80 hN80 => ?_
              refine LWP.block ?_
              refine bk h fun x81 e81 h => ?_
              refine bk h fun x82 e82 h => ?_
              refine bk h fun x83 e83 h => ?_
              refine bk h fun x84 e84 h => ?_
              refine bk h fun x85 e85 h => ?_
              refine bk h fun x86 e86 h => ?_
              refine bk h fun x87 e87 h => ?_
              refine bk h fun x88 e88 h => ?_
              refine lk h fun y89 e89 h => ?_
              refine bk h fun x90 e90 h => ?_
              refine bk h fun x91 e91 h => ?_
              refine lk h fun y92 e92 h => ?_
              refine LWP.drawE (l := [_,_,_,_,_,_,_,_,_,_,_,_,_,_,_,_,_,_]) [] [0, 14, 17] [([0], []), ([17], []), ([0], []), ([17], []), ([116], []), ([0], []), ([17], []), ([119], []), ([118, 120], [0]), ([121], [0]), ([0], []), ([17], []), ([123, 124], [0]), ([125], [0]), ([113, 114], [0]), ([122, 127], [0]), ([115, 117], [0]), ([126, 128], [0])] [0, 14, 17] [0] mixed (by kernel_rfl) rfl (by decide) ?_
              refine ⟨rfl, .put 113 _, trivial, fun u hg hu hh => LWo.move (.own 0 0 (o0).length) hu.1 (hn := LWo.nil ⟨rfl, .inl rfl, hg⟩), ?_⟩
              refine ⟨rfl, .put 114 _, trivial, fun u hg hu hh => LWo.move (e_int t17) hu.1 (hn := LWo.nil ⟨rfl, .inl rfl, hg⟩), ?_⟩
              refine ⟨rfl, .put 115 _, trivial, fun u hg hu hh => LWo.move (.own 0 0 (o0).length) hu.1 (hn := LWo.nil ⟨rfl, .inl rfl, hg⟩), ?_⟩
              refine ⟨rfl, .put 116 _, trivial, fun u hg hu hh => LWo.move (e_int t17) hu.1 (hn := LWo.nil ⟨rfl, .inl rfl, hg⟩), ?_⟩
              refine ⟨rfl, .put 117 _, trivial, fun u hg hu hh => LWo.int _ hu.1 rfl (sub_ck e81) (hn := LWo.nil ⟨rfl, .inl rfl, hg⟩), ?_⟩
              refine ⟨rfl, .put 118 _, trivial, fun u hg hu hh => LWo.move (.own 0 0 (o0).length) hu.1 (hn := LWo.nil ⟨rfl, .inl rfl, hg⟩), ?_⟩
              refine ⟨rfl, .put 119 _, trivial, fun u hg hu hh => LWo.move (e_int t17) hu.1 (hn := LWo.nil ⟨rfl, .inl rfl, hg⟩), ?_⟩
              refine ⟨rfl, .put 120 _, trivial, fun u hg hu hh => LWo.int _ hu.1 rfl (sub_ck e82) (hn := LWo.nil ⟨rfl, .inl rfl, hg⟩), ?_⟩
              refine ⟨rfl, .put 121 _, trivial, fun u hg hu hh => LWo.indexO e83 rfl u_LLimpl_Value s_Limpl_Value hu.1 hu.2.1 hh.1 (hn := LWo.nil ⟨rfl, .inl rfl, hg⟩), ?_⟩
              refine ⟨rfl, .put 122 _, trivial, fun u hg hu hh => LWo.loadO1 (e_Limpl_Value x84) e84 g_Limpl_Value hu.1 hh.1 rfl (hn := LWo.nil ⟨rfl, .inl rfl, hg⟩), ?_⟩
              refine ⟨rfl, .put 123 _, trivial, fun u hg hu hh => LWo.move (.own 0 0 (o0).length) hu.1 (hn := LWo.nil ⟨rfl, .inl rfl, hg⟩), ?_⟩
              refine ⟨rfl, .put 124 _, trivial, fun u hg hu hh => LWo.move (e_int t17) hu.1 (hn := LWo.nil ⟨rfl, .inl rfl, hg⟩), ?_⟩
              refine ⟨rfl, .put 125 _, trivial, fun u hg hu hh => LWo.indexO e85 rfl u_LLimpl_Value s_Limpl_Value hu.1 hu.2.1 hh.1 (hn := LWo.nil ⟨rfl, .inl rfl, hg⟩), ?_⟩
              refine ⟨rfl, .put 126 _, trivial, fun u hg hu hh => LWo.loadO1 (e_Limpl_Value x86) e86 g_Limpl_Value hu.1 hh.1 rfl (hn := LWo.nil ⟨rfl, .inl rfl, hg⟩), ?_⟩
              refine ⟨rfl, .put 127 _, trivial, fun u hg hu hh => LWo.indexO e87 rfl u_LLimpl_Value s_Limpl_Value hu.1 hu.2.1 hh.1 (hn := LWo.nil ⟨rfl, .inl rfl, hg⟩), ?_⟩
              refine ⟨rfl, .upd none .junk 0 _, (fun _ h => by cases h), fun u hg hu hh => LWo.storeO y89 e88 s_Limpl_Value hu.2.1 hu.1 rfl rfl rfl hh.1 rfl (by rw [e89]; rfl) (hn := LWo.nil ⟨rfl, .inl rfl, Ef.good_ok (e := .upd none .junk 0 _) (fun _ h => by cases h) hg⟩), ?_⟩
              refine ⟨rfl, .put 128 _, trivial, fun u hg hu hh => LWo.indexO e90 List.length_set.symm u_LLimpl_Value s_Limpl_Value hu.1 hu.2.1 hh.1 (hn := LWo.nil ⟨rfl, .inl rfl, hg⟩), ?_⟩
              refine ⟨rfl, .upd none .junk 0 _, (fun _ h => by cases h), fun u hg hu hh => LWo.storeO y92 e91 s_Limpl_Value hu.2.1 hu.1 rfl rfl rfl hh.1 rfl (by rw [e92]; rfl) (hn := LWo.nil ⟨rfl, .inl rfl, Ef.good_ok (e := .upd none .junk 0 _) (fun _ h => by cases h) hg⟩), ?_⟩
              refine ⟨rfl, by kernel_rfl, hN80 _ ?_⟩
              refine LWP.region (l := [_,_,_]) ?_
              refine LWo.move (e_int t17) rfl (hn := ?_)
              refine bk h fun x93 e93 h => ?_
              refine LWo.int _ rfl rfl (sub_ck e93) (hn := ?_)
              refine LWo.assign (e_int x93) rfl (hn := ?_)
              refine LWo.nil (hN75 (t14, x93, ((o0.set (t17).toNat y89).set (x81).toNat y92)) _ ⟨(congrArg (LV.own 0 0) (List.length_set.symm.trans List.length_set.symm)), rfl, rfl, trivial⟩ ⟨rfl, trivial⟩ h)
            · have h := bF h79 h
              refine LWP.exit (hN73 o0 _ trivial ⟨rfl, trivial⟩ h)
        · intro N54 hN54
          refine LWP.block ?_
          refine LWP.loopM (α := Int × Int × Int × (List (List S_impl_Value))) (fun z : Int × Int × Int × (List (List S_impl_Value)) => [(0, (.own 0 0 (z.2.2.2).length)), (2, (e_int z.1)), (4, (.clo f4 q4)), (14, (e_int z.2.1)), (15, (e_int z.2.2.1))]) (fun z : Int × Int × Int × (List (List S_impl_Value)) => [(0, (lob 1 e_Limpl_Value z.2.2.2))]) (fun n3 (z : Int × Int × Int × (List (List S_impl_Value))) => m_slices_symMergeCmpFunc_Limpl_Value_l3 p4 n3 z.1 z.2.1 z.2.2.1 z.2.2.2) r _ (t2, t1, t2, o0) h (fun _ => rfl) (fun _ => by simp [hkeys]) ⟨rfl, rfl, rfl, rfl, rfl, trivial⟩ ⟨rfl, trivial⟩ ?_
          rintro n3 ⟨t2, t14, t15, o0⟩ h N55 hN55
          replace h : m_slices_symMergeCmpFunc_Limpl_Value_l3 p4 (n3 + 1) t2 t14 t15 o0 = some _ := h
          refine LWP.seq_k fun N57 hN57 => ?_
          refine LWP.seq_k fun N58 hN58 => ?_
          refine LWP.region (l := [_,_,_]) ?_
          refine LWo.move (e_int t14) rfl (hn := ?_)
          refine LWo.move (e_int t15) rfl (hn := ?_)
          refine LWo.int _ rfl rfl rfl (hn := ?_)
          refine LWo.nil (hN58 _ ?_)
          refine LWP.cond_split rfl (fun h59 => ?_) (fun h59 => ?_)
          · have h := bT h59 h
            refine LWP.skip (hN57 _ ?_)
            refine LWP.block ?_
            refine LWP.seq_k fun N60 hN60 => ?_
            refine LWP.region (l := [_,_,_,_,_,_,_]) ?_
            refine LWo.move (e_int t14) rfl (hn := ?_)
            refine LWo.move (e_int t15) rfl (hn := ?_)
            refine bk h fun x61 e61 h => ?_
            refine LWo.int _ rfl rfl (add_ck e61) (hn := ?_)
            refine bk h fun x62 e62 h => ?_
            refine LWo.convIU e62 u_int u_uint rfl (hn := ?_)
            refine bk h fun x63 e63 h => ?_
            refine LWo.shrU e63 rfl rfl (hn := ?_)
            refine bk h fun x64 e64 h => ?_
            refine LWo.convUI e64 u_uint u_int rfl (hn := ?_)
            refine LWo.assign (e_int x64) rfl (hn := ?_)
            refine LWo.nil (hN60 _ ?_)
            refine LWP.seq_k fun N65 hN65 => ?_
            refine bk h fun x66 e66 h => ?_
            refine bk h fun x67 e67 h => ?_
            refine bk h fun x68 e68 h => ?_
            refine bk h fun x69 e69 h => ?_
            refine bk h fun x70 e70 h => ?_
            refine LWP.drawE (l := [_,_,_,_,_,_,_,_,_,_,_,_]) [] [0, 2, 4, 14, 15, 16] [([4], []), ([0], []), ([2], []), ([93, 94], [0]), ([95], [0]), ([0], []), ([16], []), ([97, 98], [0]), ([99], [0]), ([92, 96, 100], []), ([101], []), ([102], [])] [0, 2, 4, 14, 15, 16, 103] [0] mixed (by kernel_rfl) rfl (by decide) ?_
            refine ⟨rfl, .put 92 _, trivial, fun u hg hu hh => LWo.move (.clo f4 q4) hu.1 (hn := LWo.nil ⟨rfl, .inl rfl, hg⟩), ?_⟩
            refine ⟨rfl, .put 93 _, trivial, fun u hg hu hh => LWo.move (.own 0 0 (o0).length) hu.1 (hn := LWo.nil ⟨rfl, .inl rfl, hg⟩), ?_⟩
            refine ⟨rfl, .put 94 _, trivial, fun u hg hu hh => LWo.move (e_int t2) hu.1 (hn := LWo.nil ⟨rfl, .inl rfl, hg⟩), ?_⟩
            refine ⟨rfl, .put 95 _, trivial, fun u hg hu hh => LWo.indexO e66 rfl u_LLimpl_Value s_Limpl_Value hu.1 hu.2.1 hh.1 (hn := LWo.nil ⟨rfl, .inl rfl, hg⟩), ?_⟩
            refine ⟨rfl, .put 96 _, trivial, fun u hg hu hh => LWo.loadO1 (e_Limpl_Value x67) e67 g_Limpl_Value hu.1 hh.1 rfl (hn := LWo.nil ⟨rfl, .inl rfl, hg⟩), ?_⟩
            refine ⟨rfl, .put 97 _, trivial, fun u hg hu hh => LWo.move (.own 0 0 (o0).length) hu.1 (hn := LWo.nil ⟨rfl, .inl rfl, hg⟩), ?_⟩
            refine ⟨rfl, .put 98 _, trivial, fun u hg hu hh => LWo.move (e_int x64) hu.1 (hn := LWo.nil ⟨rfl, .inl rfl, hg⟩), ?_⟩
            refine ⟨rfl, .put 99 _, trivial, fun u hg hu hh => LWo.indexO e68 rfl u_LLimpl_Value s_Limpl_Value hu.1 hu.2.1 hh.1 (hn := LWo.nil ⟨rfl, .inl rfl, hg⟩), ?_⟩
            refine ⟨rfl, .put 100 _, trivial, fun u hg hu hh => LWo.loadO1 (e_Limpl_Value x69) e69 g_Limpl_Value hu.1 hh.1 rfl (hn := LWo.nil ⟨rfl, .inl rfl, hg⟩), ?_⟩
            refine ⟨rfl, .put 101 _, trivial, fun u hg hu hh => LWo.vcall hu.1 (avq2 hu.2.1 hu.2.2.1) (hf4 _ _ _ e70) .refl (hn := LWo.nil ⟨rfl, .inl rfl, hg⟩), ?_⟩
            refine ⟨rfl, .put 102 _, trivial, fun u hg hu hh => LWo.int _ hu.1 rfl rfl (hn := LWo.nil ⟨rfl, .inl rfl, hg⟩), ?_⟩
            refine ⟨rfl, .put 103 _, trivial, fun u hg hu hh => LWo.not hu.1 (hn := LWo.nil ⟨rfl, .inl rfl, hg⟩), ?_⟩
            refine ⟨rfl, by kernel_rfl, hN65 _ ?_⟩
            refine LWP.cond_split rfl (fun h71 => ?_) (fun h71 => ?_)
            · have h := bT h71 h
              refine LWP.region (l := [_,_,_]) ?_
              refine LWo.move (e_int x64) rfl (hn := ?_)
              refine bk h fun x72 e72 h => ?_
              refine LWo.int _ rfl rfl (add_ck e72) (hn := ?_)
              refine LWo.assign (e_int x72) rfl (hn := ?_)
              refine LWo.nil (hN55 (t2, x72, t15, o0) _ ⟨rfl, rfl, rfl, rfl, rfl, trivial⟩ ⟨rfl, trivial⟩ h)
            · have h := bF h71 h
              refine LWP.region (l := [_,_]) ?_
              refine LWo.move (e_int x64) rfl (hn := ?_)
              refine LWo.assign (e_int x64) rfl (hn := ?_)
              refine LWo.nil (hN55 (t2, t14, x64, o0) _ ⟨rfl, rfl, rfl, rfl, rfl, trivial⟩ ⟨rfl, trivial⟩ h)
          · have h := bF h59 h
            refine LWP.exit (hN54 (t2, t14, o0) _ ⟨rfl, rfl, rfl, trivial⟩ ⟨rfl, trivial⟩ h)
      · have h := bF h51 h
        refine LWP.skip (hN48 (t1, t2, t3, o0) _ ⟨rfl, rfl, rfl, rfl, rfl, trivial⟩ ⟨rfl, trivial⟩ h)
  · intro N1 hN1
    refine LWP.seq_k fun N2 hN2 => ?_
    refine LWP.region (l := [_,_,_,_]) ?_
    refine LWo.move (e_int a2) rfl (hn := ?_)
    refine LWo.move (e_int a1) rfl (hn := ?_)
    refine bk h fun x3 e3 h => ?_
    refine LWo.int _ rfl rfl (sub_ck e3) (hn := ?_)
    refine LWo.int _ rfl rfl rfl (hn := ?_)
    refine LWo.nil (hN2 _ ?_)
    refine LWP.cond_split rfl (fun h4 => ?_) (fun h4 => ?_)
    · have h := bT h4 h
      refine LWP.seq_k fun N5 hN5 => ?_
      refine LWP.region (l := [_,_]) ?_
      refine LWo.move (e_int a2) rfl (hn := ?_)
      refine LWo.assign (e_int a2) rfl (hn := ?_)
      refine LWo.nil (hN5 _ ?_)
      refine LWP.seq_k fun N6 hN6 => ?_
      refine LWP.region (l := [_,_]) ?_
      refine LWo.move (e_int a3) rfl (hn := ?_)
      refine LWo.assign (e_int a3) rfl (hn := ?_)
      refine LWo.nil (hN6 _ ?_)
      refine LWP.join (α := Int × Int × (List (List S_impl_Value))) (fun z : Int × Int × (List (List S_impl_Value)) => [(0, (.own 0 0 (z.2.2).length)), (1, (e_int z.1)), (10, (e_int z.2.1))]) (fun z : Int × Int × (List (List S_impl_Value)) => [(0, (lob 1 e_Limpl_Value z.2.2))]) (fun z : Int × Int × (List (List S_impl_Value)) => m_slices_symMergeCmpFunc_Limpl_Value_j1 p4 z.1 z.2.1 z.2.2) r (fun _ => by simp [hkeys]) ?_ ?_
      · rintro ⟨t1, t10, o0⟩ h
        replace h : m_slices_symMergeCmpFunc_Limpl_Value_j1 p4 t1 t10 o0 = some _ := h
        refine LWP.join (α := (List (List S_impl_Value))) (fun z : (List (List S_impl_Value)) => []) (fun z : (List (List S_impl_Value)) => [(0, (lob 1 e_Limpl_Value z))]) (fun z : (List (List S_impl_Value)) => m_slices_symMergeCmpFunc_Limpl_Value_j2 p4 z) r (fun _ => by simp [hkeys]) ?_ ?_
        · rintro o0 h
          replace h : m_slices_symMergeCmpFunc_Limpl_Value_j2 p4 o0 = some _ := h
          obtain rfl := Option.some.inj h
          refine LWP.ret (QG.mk (.inr rfl) (.nil) (RetOK.many1 (.nil) (by simp) (by decide) rfl rfl rfl rfl rfl) rfl rfl)
        · intro N26 hN26
          refine LWP.seq_k fun N27 hN27 => ?_
          refine LWP.region (l := [_,_]) ?_
          refine LWo.move (e_int t1) rfl (hn := ?_)
          refine LWo.assign (e_int t1) rfl (hn := ?_)
          refine LWo.nil (hN27 _ ?_)
          refine LWP.block ?_
          refine LWP.loopM (α := Int × Int × (List (List S_impl_Value))) (fun z : Int × Int × (List (List S_impl_Value)) => [(0, (.own 0 0 (z.2.2).length)), (10, (e_int z.1)), (13, (e_int z.2.1))]) (fun z : Int × Int × (List (List S_impl_Value)) => [(0, (lob 1 e_Limpl_Value z.2.2))]) (fun n2 (z : Int × Int × (List (List S_impl_Value))) => m_slices_symMergeCmpFunc_Limpl_Value_l2 p4 n2 z.1 z.2.1 z.2.2) r _ (t10, t1, o0) h (fun _ => rfl) (fun _ => by simp [hkeys]) ⟨rfl, rfl, rfl, trivial⟩ ⟨rfl, trivial⟩ ?_
          rintro n2 ⟨t10, t13, o0⟩ h N28 hN28
          replace h : m_slices_symMergeCmpFunc_Limpl_Value_l2 p4 (n2 + 1) t10 t13 o0 = some _ := h
          refine LWP.seq_k fun N30 hN30 => ?_
          refine LWP.seq_k fun N31 hN31 => ?_
          refine LWP.region (l := [_,_,_,_]) ?_
          refine LWo.move (e_int t13) rfl (hn := ?_)
          refine LWo.move (e_int t10) rfl (hn := ?_)
          refine bk h fun x32 e32 h => ?_
          refine LWo.int _ rfl rfl (sub_ck e32) (hn := ?_)
          refine LWo.int _ rfl rfl rfl (hn := ?_)
          refine LWo.nil (hN31 _ ?_)
          refine LWP.cond_split rfl (fun h33 => ?_) (fun h33 => ?_)
          · have h := bT h33 h
            refine LWP.skip (hN30 _ ?_)
            refine LWP.seq_k fun N34 hN34 => ?_
            refine LWP.block ?_
            refine bk h fun x35 e35 h => ?_
            refine bk h fun x36 e36 h => ?_
            refine bk h fun x37 e37 h => ?_
            refine bk h fun x38 e38 h => ?_
            refine bk h fun x39 e39 h => ?_
            refine bk h fun x40 e40 h => ?_
            refine bk h fun x41 e41 h => ?_
            refine bk h fun x42 e42 h => ?_
            refine lk h fun y43 e43 h => ?_
            refine bk h fun x44 e44 h => ?_
            refine bk h fun x45 e45 h => ?_
            refine lk h fun y46 e46 h => ?_
            refine LWP.drawE (l := [_,_,_,_,_,_,_,_,_,_,_,_,_,_,_,_,_,_]) [] [0, 10, 13] [([0], []), ([13], []), ([0], []), ([13], []), ([64], []), ([0], []), ([13], []), ([67], []), ([66, 68], [0]), ([69], [0]), ([0], []), ([13], []), ([71, 72], [0]), ([73], [0]), ([61, 62], [0]), ([70, 75], [0]), ([63, 65], [0]), ([74, 76], [0])] [0, 10, 13] [0] mixed (by kernel_rfl) rfl (by decide) ?_
            refine ⟨rfl, .put 61 _, trivial, fun u hg hu hh => LWo.move (.own 0 0 (o0).length) hu.1 (hn := LWo.nil ⟨rfl, .inl rfl, hg⟩), ?_⟩
            refine ⟨rfl, .put 62 _, trivial, fun u hg hu hh => LWo.move (e_int t13) hu.1 (hn := LWo.nil ⟨rfl, .inl rfl, hg⟩), ?_⟩
            refine ⟨rfl, .put 63 _, trivial, fun u hg hu hh => LWo.move (.own 0 0 (o0).length) hu.1 (hn := LWo.nil ⟨rfl, .inl rfl, hg⟩), ?_⟩
            refine ⟨rfl, .put 64 _, trivial, fun u hg hu hh => LWo.move (e_int t13) hu.1 (hn := LWo.nil ⟨rfl, .inl rfl, hg⟩), ?_⟩
            refine ⟨rfl, .put 65 _, trivial, fun u hg hu hh => LWo.int _ hu.1 rfl (add_ck e35) (hn := LWo.nil ⟨rfl, .inl rfl, hg⟩), ?_⟩
            refine ⟨rfl, .put 66 _, trivial, fun u hg hu hh => LWo.move (.own 0 0 (o0).length) hu.1 (hn := LWo.nil ⟨rfl, .inl rfl, hg⟩), ?_⟩
            refine ⟨rfl, .put 67 _, trivial, fun u hg hu hh => LWo.move (e_int t13) hu.1 (hn := LWo.nil ⟨rfl, .inl rfl, hg⟩), ?_⟩
            refine ⟨rfl, .put 68 _, trivial, fun u hg hu hh => LWo.int _ hu.1 rfl (add_ck e36) (hn := LWo.nil ⟨rfl, .inl rfl, hg⟩), ?_⟩
            refine ⟨rfl, .put 69 _, trivial, fun u hg hu hh => LWo.indexO e37 rfl u_LLimpl_Value s_Limpl_Value hu.1 hu.2.1 hh.1 (hn := LWo.nil ⟨rfl, .inl rfl, hg⟩), ?_⟩
            refine ⟨rfl, .put 70 _, trivial, fun u hg hu hh => LWo.loadO1 (e_Limpl_Value x38) e38 g_Limpl_Value hu.1 hh.1 rfl (hn := LWo.nil ⟨rfl, .inl rfl, hg⟩), ?_⟩
            refine ⟨rfl, .put 71 _, trivial, fun u hg hu hh => LWo.move (.own 0 0 (o0).length) hu.1 (hn := LWo.nil ⟨rfl, .inl rfl, hg⟩), ?_⟩
            refine ⟨rfl, .put 72 _, trivial, fun u hg hu hh => LWo.move (e_int t13) hu.1 (hn := LWo.nil ⟨rfl, .inl rfl, hg⟩), ?_⟩
            refine ⟨rfl, .put 73 _, trivial, fun u hg hu hh => LWo.indexO e39 rfl u_LLimpl_Value s_Limpl_Value hu.1 hu.2.1 hh.1 (hn := LWo.nil ⟨rfl, .inl rfl, hg⟩), ?_⟩
            refine ⟨rfl, .put 74 _, trivial, fun u hg hu hh => LWo.loadO1 (e_Limpl_Value x40) e40 g_Limpl_Value hu.1 hh.1 rfl (hn := LWo.nil ⟨rfl, .inl rfl, hg⟩), ?_⟩
            refine ⟨rfl, .put 75 _, trivial, fun u hg hu hh => LWo.indexO e41 rfl u_LLimpl_Value s_Limpl_Value hu.1 hu.2.1 hh.1 (hn := LWo.nil ⟨rfl, .inl rfl, hg⟩), ?_⟩
            refine ⟨rfl, .upd none .junk 0 _, (fun _ h => by cases h), fun u hg hu hh => LWo.storeO y43 e42 s_Limpl_Value hu.2.1 hu.1 rfl rfl rfl hh.1 rfl (by rw [e43]; rfl) (hn := LWo.nil ⟨rfl, .inl rfl, Ef.good_ok (e := .upd none .junk 0 _) (fun _ h => by cases h) hg⟩), ?_⟩
            refine ⟨rfl, .put 76 _, trivial, fun u hg hu hh => LWo.indexO e44 List.length_set.symm u_LLimpl_Value s_Limpl_Value hu.1 hu.2.1 hh.1 (hn := LWo.nil ⟨rfl, .inl rfl, hg⟩), ?_⟩
            refine ⟨rfl, .upd none .junk 0 _, (fun _ h => by cases h), fun u hg hu hh => LWo.storeO y46 e45 s_Limpl_Value hu.2.1 hu.1 rfl rfl rfl hh.1 rfl (by rw [e46]; rfl) (hn := LWo.nil ⟨rfl, .inl rfl, Ef.good_ok (e := .upd none .junk 0 _) (fun _ h => by cases h) hg⟩), ?_⟩
            refine ⟨rfl, by kernel_rfl, hN34 _ ?_⟩
            refine LWP.region (l := [_,_,_]) ?_
            refine LWo.move (e_int t13) rfl (hn := ?_)
            refine bk h fun x47 e47 h => ?_
            refine LWo.int _ rfl rfl (add_ck e47) (hn := ?_)
            refine LWo.assign (e_int x47) rfl (hn := ?_)
            refine LWo.nil (hN28 (t10, x47, ((o0.set (t13).toNat y43).set (x35).toNat y46)) _ ⟨(congrArg (LV.own 0 0) (List.length_set.symm.trans List.length_set.symm)), rfl, rfl, trivial⟩ ⟨rfl, trivial⟩ h)
          · have h := bF h33 h
            refine LWP.exit (hN26 o0 _ trivial ⟨rfl, trivial⟩ h)
      · intro N7 hN7
        refine LWP.block ?_
        refine LWP.loopM (α := Int × Int × Int × (List (List S_impl_Value))) (fun z : Int × Int × Int × (List (List S_impl_Value)) => [(0, (.own 0 0 (z.2.2.2).length)), (1, (e_int z.1)), (4, (.clo f4 q4)), (10, (e_int z.2.1)), (11, (e_int z.2.2.1))]) (fun z : Int × Int × Int × (List (List S_impl_Value)) => [(0, (lob 1 e_Limpl_Value z.2.2.2))]) (fun n1 (z : Int × Int × Int × (List (List S_impl_Value))) => m_slices_symMergeCmpFunc_Limpl_Value_l1 p4 n1 z.1 z.2.1 z.2.2.1 z.2.2.2) r _ (a1, a2, a3, o0) h (fun _ => rfl) (fun _ => by simp [hkeys]) ⟨rfl, rfl, rfl, rfl, rfl, trivial⟩ ⟨rfl, trivial⟩ ?_
        rintro n1 ⟨t1, t10, t11, o0⟩ h N8 hN8
        replace h : m_slices_symMergeCmpFunc_Limpl_Value_l1 p4 (n1 + 1) t1 t10 t11 o0 = some _ := h
        refine LWP.seq_k fun N10 hN10 => ?_
        refine LWP.seq_k fun N11 hN11 => ?_
        refine LWP.region (l := [_,_,_]) ?_
        refine LWo.move (e_int t10) rfl (hn := ?_)
        refine LWo.move (e_int t11) rfl (hn := ?_)
        refine LWo.int _ rfl rfl rfl (hn := ?_)
        refine LWo.nil (hN11 _ ?_)
        refine LWP.cond_split rfl (fun h12 => ?_) (fun h12 => ?_)
        · have h := bT h12 h
          refine LWP.skip (hN10 _ ?_)
          refine LWP.block ?_
          refine LWP.seq_k fun N13 hN13 => ?_
          refine LWP.region (l := [_,_,_,_,_,_,_]) ?_
          refine LWo.move (e_int t10) rfl (hn := ?_)
          refine LWo.move (e_int t11) rfl (hn := ?_)
          refine bk h fun x14 e14 h => ?_
          refine LWo.int _ rfl rfl (add_ck e14) (hn := ?_)
          refine bk h fun x15 e15 h => ?_
          refine LWo.convIU e15 u_int u_uint rfl (hn := ?_)
          refine bk h fun x16 e16 h => ?_
          refine LWo.shrU e16 rfl rfl (hn := ?_)
          refine bk h fun x17 e17 h => ?_
          refine LWo.convUI e17 u_uint u_int rfl (hn := ?_)
          refine LWo.assign (e_int x17) rfl (hn := ?_)
          refine LWo.nil (hN13 _ ?_)
          refine LWP.seq_k fun N18 hN18 => ?_
          refine bk h fun x19 e19 h => ?_
          refine bk h fun x20 e20 h => ?_
          refine bk h fun x21 e21 h => ?_
          refine bk h fun x22 e22 h => ?_
          refine bk h fun x23 e23 h => ?_
          refine LWP.drawE (l := [_,_,_,_,_,_,_,_,_,_,_]) [] [0, 1, 4, 10, 11, 12] [([4], []), ([0], []), ([12], []), ([41, 42], [0]), ([43], [0]), ([0], []), ([1], []), ([45, 46], [0]), ([47], [0]), ([40, 44, 48], []), ([49], [])] [0, 1, 4, 10, 11, 12, 50] [0] mixed (by kernel_rfl) rfl (by decide) ?_
          refine ⟨rfl, .put 40 _, trivial, fun u hg hu hh => LWo.move (.clo f4 q4) hu.1 (hn := LWo.nil ⟨rfl, .inl rfl, hg⟩), ?_⟩
          refine ⟨rfl, .put 41 _, trivial, fun u hg hu hh => LWo.move (.own 0 0 (o0).length) hu.1 (hn := LWo.nil ⟨rfl, .inl rfl, hg⟩), ?_⟩
          refine ⟨rfl, .put 42 _, trivial, fun u hg hu hh => LWo.move (e_int x17) hu.1 (hn := LWo.nil ⟨rfl, .inl rfl, hg⟩), ?_⟩
          refine ⟨rfl, .put 43 _, trivial, fun u hg hu hh => LWo.indexO e19 rfl u_LLimpl_Value s_Limpl_Value hu.1 hu.2.1 hh.1 (hn := LWo.nil ⟨rfl, .inl rfl, hg⟩), ?_⟩
          refine ⟨rfl, .put 44 _, trivial, fun u hg hu hh => LWo.loadO1 (e_Limpl_Value x20) e20 g_Limpl_Value hu.1 hh.1 rfl (hn := LWo.nil ⟨rfl, .inl rfl, hg⟩), ?_⟩
          refine ⟨rfl, .put 45 _, trivial, fun u hg hu hh => LWo.move (.own 0 0 (o0).length) hu.1 (hn := LWo.nil ⟨rfl, .inl rfl, hg⟩), ?_⟩
          refine ⟨rfl, .put 46 _, trivial, fun u hg hu hh => LWo.move (e_int t1) hu.1 (hn := LWo.nil ⟨rfl, .inl rfl, hg⟩), ?_⟩
          refine ⟨rfl, .put 47 _, trivial, fun u hg hu hh => LWo.indexO e21 rfl u_LLimpl_Value s_Limpl_Value hu.1 hu.2.1 hh.1 (hn := LWo.nil ⟨rfl, .inl rfl, hg⟩), ?_⟩
          refine ⟨rfl, .put 48 _, trivial, fun u hg hu hh => LWo.loadO1 (e_Limpl_Value x22) e22 g_Limpl_Value hu.1 hh.1 rfl (hn := LWo.nil ⟨rfl, .inl rfl, hg⟩), ?_⟩
          refine ⟨rfl, .put 49 _, trivial, fun u hg hu hh => LWo.vcall hu.1 (avq2 hu.2.1 hu.2.2.1) (hf4 _ _ _ e23) .refl (hn := LWo.nil ⟨rfl, .inl rfl, hg⟩), ?_⟩
          refine ⟨rfl, .put 50 _, trivial, fun u hg hu hh => LWo.int _ hu.1 rfl rfl (hn := LWo.nil ⟨rfl, .inl rfl, hg⟩), ?_⟩
          refine ⟨rfl, by kernel_rfl, hN18 _ ?_⟩
          refine LWP.cond_split rfl (fun h24 => ?_) (fun h24 => ?_)
          · have h := bT h24 h
            refine LWP.region (l := [_,_,_]) ?_
            refine LWo.move (e_int x17) rfl (hn := ?_)
            refine bk h fun x25 e25 h => ?_
            refine LWo.int _ rfl rfl (add_ck e25) (hn := ?_)
            refine LWo.assign (e_int x25) rfl (hn := ?_)
            refine LWo.nil (hN8 (t1, x25, t11, o0) _ ⟨rfl, rfl, rfl, rfl, rfl, trivial⟩ ⟨rfl, trivial⟩ h)
          · have h := bF h24 h
            refine LWP.region (l := [_,_]) ?_
            refine LWo.move (e_int x17) rfl (hn := ?_)
            refine LWo.assign (e_int x17) rfl (hn := ?_)
            refine LWo.nil (hN8 (t1, t10, x17, o0) _ ⟨rfl, rfl, rfl, rfl, rfl, trivial⟩ ⟨rfl, trivial⟩ h)
        · have h := bF h12 h
          refine LWP.exit (hN7 (t1, t10, o0) _ ⟨rfl, rfl, rfl, trivial⟩ ⟨rfl, trivial⟩ h)
    · have h := bF h4 h
      refine LWP.skip (hN1 (a1, a2, a3, o0) _ ⟨rfl, rfl, rfl, rfl, rfl, trivial⟩ ⟨rfl, trivial⟩ h)
theorem k_slices_symMergeCmpFunc_Limpl_Value (o0 : (List (List S_impl_Value))) (a1 : Int) (a2 : Int) (a3 : Int) (p4 : (List S_impl_Value) → (List S_impl_Value) → Option Int) (f4 : FuncId) (q4 : List LV) (hq4 : ∀ k, LV.at?.atL k q4 = false) (hf4 : ∀ a0 a1 v, p4 a0 a1 = some v → Ret Try.prog f4 (e_Limpl_Value a0 :: e_Limpl_Value a1 :: q4) (e_int v)) (r : (List (List S_impl_Value))) (h : m_slices_symMergeCmpFunc_Limpl_Value o0 a1 a2 a3 p4 = some r) (k : Nat) : Does Try.prog f_slices_symMergeCmpFunc_Limpl_Value [.own k 0 o0.length, e_int a1, e_int a2, e_int a3, .clo f4 q4] [(k, (lob 1 e_Limpl_Value o0))] (fun x hh => x = .tup [] ∧ hh = [(k, (lob 1 e_Limpl_Value r))]) :=
  Does.nameO (c_slices_symMergeCmpFunc_Limpl_Value o0 a1 a2 a3 p4 f4 q4 hq4 hf4 r h) (fun k => (atC rfl (atC rfl (atC rfl (atC (hq4 k) (atN _)))))) k

def m_slices_stableCmpFunc_Limpl_Value_j3 (p2 : (List S_impl_Value) → (List S_impl_Value) → Option Int) (k2 : Int → Int → (List (List S_impl_Value)) → Option (List (List S_impl_Value))) (t1 : Int) (t6 : Int) (o0 : (List (List S_impl_Value))) : Option (List (List S_impl_Value)) :=
  (ckI (t6 * (2 : Int))).bind fun x44 =>
  k2 t1 x44 o0
def m_slices_stableCmpFunc_Limpl_Value_j2 (p2 : (List S_impl_Value) → (List S_impl_Value) → Option Int) (k2 : Int → Int → (List (List S_impl_Value)) → Option (List (List S_impl_Value))) (t1 : Int) (t6 : Int) (t7 : Int) (o0 : (List (List S_impl_Value))) : Option (List (List S_impl_Value)) :=
  (ckI (t7 + t6)).bind fun x39 =>
  bif decide (x39 < t1) then ((m_slices_symMergeCmpFunc_Limpl_Value o0 t7 x39 t1 p2).bind fun x42 =>
    (lenQ x42.length o0.length ()).bind fun u43 =>
    m_slices_stableCmpFunc_Limpl_Value_j3 p2 k2 t1 t6 x42)
  else (m_slices_stableCmpFunc_Limpl_Value_j3 p2 k2 t1 t6 o0)
def m_slices_stableCmpFunc_Limpl_Value_l3 (p2 : (List S_impl_Value) → (List S_impl_Value) → Option Int) (k2 : Int → Int → (List (List S_impl_Value)) → Option (List (List S_impl_Value))) : Nat → Int → Int → Int → Int → (List (List S_impl_Value)) → Option (List (List S_impl_Value))
  | 0, _, _, _, _, _ => none
  | n3 + 1, t1, t6, t7, t8, o0 =>
    bif decide (t8 ≤ t1) then ((ckI (t7 + t6)).bind fun x31 =>
    (m_slices_symMergeCmpFunc_Limpl_Value o0 t7 x31 t8 p2).bind fun x32 =>
    (lenQ x32.length o0.length ()).bind fun u33 =>
    (ckI ((2 : Int) * t6)).bind fun x35 =>
    (ckI (t8 + x35)).bind fun x36 =>
    (m_slices_stableCmpFunc_Limpl_Value_l3 p2 k2 n3) t1 t6 t8 x36 x32)
    else (m_slices_stableCmpFunc_Limpl_Value_j2 p2 k2 t1 t6 t7 o0)
def m_slices_stableCmpFunc_Limpl_Value_l2 (p2 : (List S_impl_Value) → (List S_impl_Value) → Option Int) : Nat → Int → Int → (List (List S_impl_Value)) → Option (List (List S_impl_Value))
  | 0, _, _, _ => none
  | n2 + 1, t1, t6, o0 =>
    bif decide (t6 < t1) then ((ckI ((2 : Int) * t6)).bind fun x23 =>
    m_slices_stableCmpFunc_Limpl_Value_l3 p2 (m_slices_stableCmpFunc_Limpl_Value_l2 p2 n2) ((t1 - x23).toNat + 2) t1 t6 (0 : Int) x23 o0)
    else (some o0)
def m_slices_stableCmpFunc_Limpl_Value_j1 (p2 : (List S_impl_Value) → (List S_impl_Value) → Option Int) (t1 : Int) (t6 : Int) (t7 : Int) (o0 : (List (List S_impl_Value))) : Option (List (List S_impl_Value)) :=
  (m_slices_insertionSortCmpFunc_Limpl_Value o0 t7 t1 p2).bind fun x15 =>
  (lenQ x15.length o0.length ()).bind fun u16 =>
  m_slices_stableCmpFunc_Limpl_Value_l2 p2 ((t1 - t6).toNat + 1) t1 t6 x15
def m_slices_stableCmpFunc_Limpl_Value_l1 (p2 : (List S_impl_Value) → (List S_impl_Value) → Option Int) : Nat → Int → Int → Int → Int → (List (List S_impl_Value)) → Option (List (List S_impl_Value))
  | 0, _, _, _, _, _ => none
  | n1 + 1, t1, t6, t7, t8, o0 =>
    bif decide (t8 ≤ t1) then ((m_slices_insertionSortCmpFunc_Limpl_Value o0 t7 t8 p2).bind fun x10 =>
    (lenQ x10.length o0.length ()).bind fun u11 =>
    (ckI (t8 + t6)).bind fun x13 =>
    (m_slices_stableCmpFunc_Limpl_Value_l1 p2 n1) t1 t6 t8 x13 x10)
    else (m_slices_stableCmpFunc_Limpl_Value_j1 p2 t1 t6 t7 o0)
def m_slices_stableCmpFunc_Limpl_Value (o0 : (List (List S_impl_Value))) (a1 : Int) (p2 : (List S_impl_Value) → (List S_impl_Value) → Option Int) : Option (List (List S_impl_Value)) :=
  m_slices_stableCmpFunc_Limpl_Value_l1 p2 ((a1 - (20 : Int)).toNat + 2) a1 (20 : Int) (0 : Int) (20 : Int) o0
theorem c_slices_stableCmpFunc_Limpl_Value (o0 : (List (List S_impl_Value))) (a1 : Int) (p2 : (List S_impl_Value) → (List S_impl_Value) → Option Int) (f2 : FuncId) (q2 : List LV) (hq2 : ∀ k, LV.at?.atL k q2 = false) (hf2 : ∀ a0 a1 v, p2 a0 a1 = some v → Ret Try.prog f2 (e_Limpl_Value a0 :: e_Limpl_Value a1 :: q2) (e_int v)) (r : (List (List S_impl_Value))) (h : m_slices_stableCmpFunc_Limpl_Value o0 a1 p2 = some r) : Does Try.prog f_slices_stableCmpFunc_Limpl_Value [.own 0 0 o0.length, e_int a1, .clo f2 q2] [(0, (lob 1 e_Limpl_Value o0))] (fun x hh => x = .tup [] ∧ hh = [(0, (lob 1 e_Limpl_Value r))]) := by
  refine Does.goG [0] F_slices_stableCmpFunc_Limpl_Value rfl e_slices_stableCmpFunc_Limpl_Value n_slices_stableCmpFunc_Limpl_Value rfl (rvs := []) rfl rfl ?_
  intro w0 ok0 lent ρ0
  refine LWP.seq_k fun N1 hN1 => ?_
  refine LWP.region (l := [_]) ?_
  refine LWo.assign (e_int (20 : Int)) rfl (hn := ?_)
  refine LWo.nil (hN1 _ ?_)
  refine LWP.seq_k fun N2 hN2 => ?_
  refine LWP.region (l := [_,_,_]) ?_
  refine LWo.move (e_int (20 : Int)) rfl (hn := ?_)
  refine LWo.assign (e_int (0 : Int)) rfl (hn := ?_)
  refine LWo.assign (e_int (20 : Int)) rfl (hn := ?_)
  refine LWo.nil (hN2 _ ?_)
  refine LWP.join (α := Int × Int × Int × (List (List S_impl_Value))) (fun z : Int × Int × Int × (List (List S_impl_Value)) => [(0, (.own 0 0 (z.2.2.2).length)), (1, (e_int z.1)), (2, (.clo f2 q2)), (6, (e_int z.2.1)), (7, (e_int z.2.2.1))]) (fun z : Int × Int × Int × (List (List S_impl_Value)) => [(0, (lob 1 e_Limpl_Value z.2.2.2))]) (fun z : Int × Int × Int × (List (List S_impl_Value)) => m_slices_stableCmpFunc_Limpl_Value_j1 p2 z.1 z.2.1 z.2.2.1 z.2.2.2) r (fun _ => by simp [hkeys]) ?_ ?_
  · rintro ⟨t1, t6, t7, o0⟩ h
    replace h : m_slices_stableCmpFunc_Limpl_Value_j1 p2 t1 t6 t7 o0 = some _ := h
    refine LWP.seq_k fun N14 hN14 => ?_
    refine LWP.region (l := [_,_,_,_,_]) ?_
    refine LWo.move (.own 0 0 (o0).length) rfl (hn := ?_)
    refine LWo.move (e_int t7) rfl (hn := ?_)
    refine LWo.move (e_int t1) rfl (hn := ?_)
    refine LWo.move (.clo f2 q2) rfl (hn := ?_)
    refine bk h fun x15 e15 h => ?_
    refine bk h fun u16 e16 h => ?_
    refine LWo.ucallM (e := e_Limpl_Value) rfl rfl (k_slices_insertionSortCmpFunc_Limpl_Value _ _ _ _ f2 q2 hq2 hf2 _ e15 0) rfl rfl (some 27) rfl (hn := ?_)
    refine LWo.nil (hN14 _ ?_)
    refine LWP.block ?_
    refine LWP.loopM (α := Int × Int × (List (List S_impl_Value))) (fun z : Int × Int × (List (List S_impl_Value)) => [(0, (.own 0 0 (z.2.2).length)), (1, (e_int z.1)), (2, (.clo f2 q2)), (6, (e_int z.2.1))]) (fun z : Int × Int × (List (List S_impl_Value)) => [(0, (lob 1 e_Limpl_Value z.2.2))]) (fun n2 (z : Int × Int × (List (List S_impl_Value))) => m_slices_stableCmpFunc_Limpl_Value_l2 p2 n2 z.1 z.2.1 z.2.2) r _ (t1, t6, x15) h (fun _ => rfl) (fun _ => by simp [hkeys]) ⟨(congrArg (LV.own 0 0) ((lenQ_some e16).1.symm)), rfl, rfl, rfl, trivial⟩ ⟨rfl, trivial⟩ ?_
    rintro n2 ⟨t1, t6, o0⟩ h N17 hN17
    replace h : m_slices_stableCmpFunc_Limpl_Value_l2 p2 (n2 + 1) t1 t6 o0 = some _ := h
    refine LWP.seq_k fun N19 hN19 => ?_
    refine LWP.seq_k fun N20 hN20 => ?_
    refine LWP.region (l := [_,_,_]) ?_
    refine LWo.move (e_int t6) rfl (hn := ?_)
    refine LWo.move (e_int t1) rfl (hn := ?_)
    refine LWo.int _ rfl rfl rfl (hn := ?_)
    refine LWo.nil (hN20 _ ?_)
    refine LWP.cond_split rfl (fun h21 => ?_) (fun h21 => ?_)
    · have h := bT h21 h
      refine LWP.skip (hN19 _ ?_)
      refine LWP.block ?_
      refine LWP.seq_k fun N22 hN22 => ?_
      refine LWP.region (l := [_,_,_,_]) ?_
      refine LWo.move (e_int t6) rfl (hn := ?_)
      refine bk h fun x23 e23 h => ?_
      refine LWo.int _ rfl rfl (mul_ck e23) (hn := ?_)
      refine LWo.assign (e_int (0 : Int)) rfl (hn := ?_)
      refine LWo.assign (e_int x23) rfl (hn := ?_)
      refine LWo.nil (hN22 _ ?_)
      refine LWP.join (α := Int × Int × Int × (List (List S_impl_Value))) (fun z : Int × Int × Int × (List (List S_impl_Value)) => [(0, (.own 0 0 (z.2.2.2).length)), (1, (e_int z.1)), (2, (.clo f2 q2)), (6, (e_int z.2.1)), (7, (e_int z.2.2.1))]) (fun z : Int × Int × Int × (List (List S_impl_Value)) => [(0, (lob 1 e_Limpl_Value z.2.2.2))]) (fun z : Int × Int × Int × (List (List S_impl_Value)) => m_slices_stableCmpFunc_Limpl_Value_j2 p2 (m_slices_stableCmpFunc_Limpl_Value_l2 p2 n2) z.1 z.2.1 z.2.2.1 z.2.2.2) r (fun _ => by simp [hkeys]) ?_ ?_
      · rintro ⟨t1, t6, t7, o0⟩ h
        replace h : m_slices_stableCmpFunc_Limpl_Value_j2 p2 (m_slices_stableCmpFunc_Limpl_Value_l2 p2 n2) t1 t6 t7 o0 = some _ := h
        refine LWP.join (α := Int × Int × (List (List S_impl_Value))) (fun z : Int × Int × (List (List S_impl_Value)) => [(0, (.own 0 0 (z.2.2).length)), (1, (e_int z.1)), (2, (.clo f2 q2)), (6, (e_int z.2.1))]) (fun z : Int × Int × (List (List S_impl_Value)) => [(0, (lob 1 e_Limpl_Value z.2.2))]) (fun z : Int × Int × (List (List S_impl_Value)) => m_slices_stableCmpFunc_Limpl_Value_j3 p2 (m_slices_stableCmpFunc_Limpl_Value_l2 p2 n2) z.1 z.2.1 z.2.2) r (fun _ => by simp [hkeys]) ?_ ?_
        · rintro ⟨t1, t6, o0⟩ h
          replace h : m_slices_stableCmpFunc_Limpl_Value_j3 p2 (m_slices_stableCmpFunc_Limpl_Value_l2 p2 n2) t1 t6 o0 = some _ := h
          refine LWP.region (l := [_,_,_]) ?_
          refine LWo.move (e_int t6) rfl (hn := ?_)
          refine bk h fun x44 e44 h => ?_
          refine LWo.int _ rfl rfl (mul_ck e44) (hn := ?_)
          refine LWo.assign (e_int x44) rfl (hn := ?_)
          refine LWo.nil (hN17 (t1, x44, o0) _ ⟨rfl, rfl, rfl, rfl, trivial⟩ ⟨rfl, trivial⟩ h)
        · intro N37 hN37
          refine LWP.seq_k fun N38 hN38 => ?_
          refine LWP.region (l := [_,_,_,_]) ?_
          refine LWo.move (e_int t7) rfl (hn := ?_)
          refine LWo.move (e_int t6) rfl (hn := ?_)
          refine bk h fun x39 e39 h => ?_
          refine LWo.int _ rfl rfl (add_ck e39) (hn := ?_)
          refine LWo.assign (e_int x39) rfl (hn := ?_)
          refine LWo.nil (hN38 _ ?_)
          refine LWP.seq_k fun N40 hN40 => ?_
          refine LWP.region (l := [_,_,_]) ?_
          refine LWo.move (e_int x39) rfl (hn := ?_)
          refine LWo.move (e_int t1) rfl (hn := ?_)
          refine LWo.int _ rfl rfl rfl (hn := ?_)
          refine LWo.nil (hN40 _ ?_)
          refine LWP.cond_split rfl (fun h41 => ?_) (fun h41 => ?_)
          · have h := bT h41 h
            refine LWP.region (l := [_,_,_,_,_,_]) ?_
            refine LWo.move (.own 0 0 (o0).length) rfl (hn := ?_)
            refine LWo.move (e_int t7) rfl (hn := ?_)
            refine LWo.move (e_int x39) rfl (hn := ?_)
            refine LWo.move (e_int t1) rfl (hn := ?_)
            refine LWo.move (.clo f2 q2) rfl (hn := ?_)
            refine bk h fun x42 e42 h => ?_
            refine bk h fun u43 e43 h => ?_
            refine LWo.ucallM (e := e_Limpl_Value) rfl rfl (k_slices_symMergeCmpFunc_Limpl_Value _ _ _ _ _ f2 q2 hq2 hf2 _ e42 0) rfl rfl (some 60) rfl (hn := ?_)
            refine LWo.nil (hN37 (t1, t6, x42) _ ⟨(congrArg (LV.own 0 0) ((lenQ_some e43).1.symm)), rfl, rfl, rfl, trivial⟩ ⟨rfl, trivial⟩ h)
          · have h := bF h41 h
            refine LWP.skip (hN37 (t1, t6, o0) _ ⟨rfl, rfl, rfl, rfl, trivial⟩ ⟨rfl, trivial⟩ h)
      · intro N24 hN24
        refine LWP.block ?_
        refine LWP.loopM (α := Int × Int × Int × Int × (List (List S_impl_Value))) (fun z : Int × Int × Int × Int × (List (List S_impl_Value)) => [(0, (.own 0 0 (z.2.2.2.2).length)), (1, (e_int z.1)), (2, (.clo f2 q2)), (6, (e_int z.2.1)), (7, (e_int z.2.2.1)), (8, (e_int z.2.2.2.1))]) (fun z : Int × Int × Int × Int × (List (List S_impl_Value)) => [(0, (lob 1 e_Limpl_Value z.2.2.2.2))]) (fun n3 (z : Int × Int × Int × Int × (List (List S_impl_Value))) => m_slices_stableCmpFunc_Limpl_Value_l3 p2 (m_slices_stableCmpFunc_Limpl_Value_l2 p2 n2) n3 z.1 z.2.1 z.2.2.1 z.2.2.2.1 z.2.2.2.2) r _ (t1, t6, (0 : Int), x23, o0) h (fun _ => rfl) (fun _ => by simp [hkeys]) ⟨rfl, rfl, rfl, rfl, rfl, rfl, trivial⟩ ⟨rfl, trivial⟩ ?_
        rintro n3 ⟨t1, t6, t7, t8, o0⟩ h N25 hN25
        replace h : m_slices_stableCmpFunc_Limpl_Value_l3 p2 (m_slices_stableCmpFunc_Limpl_Value_l2 p2 n2) (n3 + 1) t1 t6 t7 t8 o0 = some _ := h
        refine LWP.seq_k fun N27 hN27 => ?_
        refine LWP.seq_k fun N28 hN28 => ?_
        refine LWP.region (l := [_,_,_]) ?_
        refine LWo.move (e_int t8) rfl (hn := ?_)
        refine LWo.move (e_int t1) rfl (hn := ?_)
        refine LWo.int _ rfl rfl rfl (hn := ?_)
        refine LWo.nil (hN28 _ ?_)
        refine LWP.cond_split rfl (fun h29 => ?_) (fun h29 => ?_)
        · have h := bT h29 h
          refine LWP.skip (hN27 _ ?_)
          refine LWP.block ?_
          refine LWP.seq_k fun N30 hN30 => ?_
          refine LWP.region (l := [_,_,_,_,_,_,_,_]) ?_
          refine LWo.move (.own 0 0 (o0).length) rfl (hn := ?_)
          refine LWo.move (e_int t7) rfl (hn := ?_)
          refine LWo.move (e_int t7) rfl (hn := ?_)
          refine LWo.move (e_int t6) rfl (hn := ?_)
          refine bk h fun x31 e31 h => ?_
          refine LWo.int _ rfl rfl (add_ck e31) (hn := ?_)
          refine LWo.move (e_int t8) rfl (hn := ?_)
          refine LWo.move (.clo f2 q2) rfl (hn := ?_)
          refine bk h fun x32 e32 h => ?_
          refine bk h fun u33 e33 h => ?_
          refine LWo.ucallM (e := e_Limpl_Value) rfl rfl (k_slices_symMergeCmpFunc_Limpl_Value _ _ _ _ _ f2 q2 hq2 hf2 _ e32 0) rfl rfl (some 43) rfl (hn := ?_)
          refine LWo.nil (hN30 _ ?_)
          refine LWP.seq_k fun N34 hN34 => ?_
          refine LWP.region (l := [_,_]) ?_
          refine LWo.move (e_int t8) rfl (hn := ?_)
          refine LWo.assign (e_int t8) rfl (hn := ?_)
          refine LWo.nil (hN34 _ ?_)
          refine LWP.region (l := [_,_,_,_,_]) ?_
          refine LWo.move (e_int t8) rfl (hn := ?_)
          refine LWo.move (e_int t6) rfl (hn := ?_)
          refine bk h fun x35 e35 h => ?_
          refine LWo.int _ rfl rfl (mul_ck e35) (hn := ?_)
          refine bk h fun x36 e36 h => ?_
          refine LWo.int _ rfl rfl (add_ck e36) (hn := ?_)
          refine LWo.assign (e_int x36) rfl (hn := ?_)
          refine LWo.nil (hN25 (t1, t6, t8, x36, x32) _ ⟨(congrArg (LV.own 0 0) ((lenQ_some e33).1.symm)), rfl, rfl, rfl, rfl, rfl, trivial⟩ ⟨rfl, trivial⟩ h)
        · have h := bF h29 h
          refine LWP.exit (hN24 (t1, t6, t7, o0) _ ⟨rfl, rfl, rfl, rfl, rfl, trivial⟩ ⟨rfl, trivial⟩ h)
    · have h := bF h21 h
      obtain rfl := Option.some.inj h
      refine LWP.exit (QG.mk (.inl rfl) (.nil) (RetOK.many1 (.nil) (by simp) (by decide) rfl rfl rfl rfl rfl) rfl rfl)
  · intro N3 hN3
    refine LWP.block ?_
    refine LWP.loopM (α := Int × Int × Int × Int × (List (List S_impl_Value))) (fun z : Int × Int × Int × Int × (List (List S_impl_Value)) => [(0, (.own 0 0 (z.2.2.2.2).length)), (1, (e_int z.1)), (2, (.clo f2 q2)), (6, (e_int z.2.1)), (7, (e_int z.2.2.1)), (8, (e_int z.2.2.2.1))]) (fun z : Int × Int × Int × Int × (List (List S_impl_Value)) => [(0, (lob 1 e_Limpl_Value z.2.2.2.2))]) (fun n1 (z : Int × Int × Int × Int × (List (List S_impl_Value))) => m_slices_stableCmpFunc_Limpl_Value_l1 p2 n1 z.1 z.2.1 z.2.2.1 z.2.2.2.1 z.2.2.2.2) r _ (a1, (20 : Int), (0 : Int), (20 : Int), o0) h (fun _ => rfl) (fun _ => by simp [hkeys]) ⟨rfl, rfl, rfl, rfl, rfl, rfl, trivial⟩ ⟨rfl, trivial⟩ ?_
    rintro n1 ⟨t1, t6, t7, t8, o0⟩ h N4 hN4
    replace h : m_slices_stableCmpFunc_Limpl_Value_l1 p2 (n1 + 1) t1 t6 t7 t8 o0 = some _ := h
    refine LWP.seq_k fun N6 hN6 => ?_
    refine LWP.seq_k fun N7 hN7 => ?_
    refine LWP.region (l := [_,_,_]) ?_
    refine LWo.move (e_int t8) rfl (hn := ?_)
    refine LWo.move (e_int t1) rfl (hn := ?_)
    refine LWo.int _ rfl rfl rfl (hn := ?_)
    refine LWo.nil (hN7 _ ?_)
    refine LWP.cond_split rfl (fun h8 => ?_) (fun h8 => ?_)
    · have h := bT h8 h
      refine LWP.skip (hN6 _ ?_)
      refine LWP.block ?_
      refine LWP.seq_k fun N9 hN9 => ?_
      refine LWP.region (l := [_,_,_,_,_]) ?_
      refine LWo.move (.own 0 0 (o0).length) rfl (hn := ?_)
      refine LWo.move (e_int t7) rfl (hn := ?_)
      refine LWo.move (e_int t8) rfl (hn := ?_)
      refine LWo.move (.clo f2 q2) rfl (hn := ?_)
      refine bk h fun x10 e10 h => ?_
      refine bk h fun u11 e11 h => ?_
      refine LWo.ucallM (e := e_Limpl_Value) rfl rfl (k_slices_insertionSortCmpFunc_Limpl_Value _ _ _ _ f2 q2 hq2 hf2 _ e10 0) rfl rfl (some 18) rfl (hn := ?_)
      refine LWo.nil (hN9 _ ?_)
      refine LWP.seq_k fun N12 hN12 => ?_
      refine LWP.region (l := [_,_]) ?_
      refine LWo.move (e_int t8) rfl (hn := ?_)
      refine LWo.assign (e_int t8) rfl (hn := ?_)
      refine LWo.nil (hN12 _ ?_)
      refine LWP.region (l := [_,_,_,_]) ?_
      refine LWo.move (e_int t8) rfl (hn := ?_)
      refine LWo.move (e_int t6) rfl (hn := ?_)
      refine bk h fun x13 e13 h => ?_
      refine LWo.int _ rfl rfl (add_ck e13) (hn := ?_)
      refine LWo.assign (e_int x13) rfl (hn := ?_)
      refine LWo.nil (hN4 (t1, t6, t8, x13, x10) _ ⟨(congrArg (LV.own 0 0) ((lenQ_some e11).1.symm)), rfl, rfl, rfl, rfl, rfl, trivial⟩ ⟨rfl, trivial⟩ h)
    · have h := bF h8 h
      refine LWP.exit (hN3 (t1, t6, t7, o0) _ ⟨rfl, rfl, rfl, rfl, rfl, trivial⟩ ⟨rfl, trivial⟩ h)
theorem k_slices_stableCmpFunc_Limpl_Value (o0 : (List (List S_impl_Value))) (a1 : Int) (p2 : (List S_impl_Value) → (List S_impl_Value) → Option Int) (f2 : FuncId) (q2 : List LV) (hq2 : ∀ k, LV.at?.atL k q2 = false) (hf2 : ∀ a0 a1 v, p2 a0 a1 = some v → Ret Try.prog f2 (e_Limpl_Value a0 :: e_Limpl_Value a1 :: q2) (e_int v)) (r : (List (List S_impl_Value))) (h : m_slices_stableCmpFunc_Limpl_Value o0 a1 p2 = some r) (k : Nat) : Does Try.prog f_slices_stableCmpFunc_Limpl_Value [.own k 0 o0.length, e_int a1, .clo f2 q2] [(k, (lob 1 e_Limpl_Value o0))] (fun x hh => x = .tup [] ∧ hh = [(k, (lob 1 e_Limpl_Value r))]) :=
  Does.nameO (c_slices_stableCmpFunc_Limpl_Value o0 a1 p2 f2 q2 hq2 hf2 r h) (fun k => (atC rfl (atC (hq2 k) (atN _)))) k

def m_slices_SortStableFunc_LLimpl_Value_Limpl_Value (o0 : (List (List S_impl_Value))) (p1 : (List S_impl_Value) → (List S_impl_Value) → Option Int) : Option (List (List S_impl_Value)) :=
  (m_slices_stableCmpFunc_Limpl_Value o0 (o0.length : Int) p1).bind fun x1 =>
  (lenQ x1.length o0.length ()).bind fun u2 =>
  some x1
theorem c_slices_SortStableFunc_LLimpl_Value_Limpl_Value (o0 : (List (List S_impl_Value))) (p1 : (List S_impl_Value) → (List S_impl_Value) → Option Int) (f1 : FuncId) (q1 : List LV) (hq1 : ∀ k, LV.at?.atL k q1 = false) (hf1 : ∀ a0 a1 v, p1 a0 a1 = some v → Ret Try.prog f1 (e_Limpl_Value a0 :: e_Limpl_Value a1 :: q1) (e_int v)) (r : (List (List S_impl_Value))) (h : m_slices_SortStableFunc_LLimpl_Value_Limpl_Value o0 p1 = some r) : Does Try.prog f_slices_SortStableFunc_LLimpl_Value_Limpl_Value [.own 0 0 o0.length, .clo f1 q1] [(0, (lob 1 e_Limpl_Value o0))] (fun x hh => x = .tup [] ∧ hh = [(0, (lob 1 e_Limpl_Value r))]) := by
  refine Does.goG [0] F_slices_SortStableFunc_LLimpl_Value_Limpl_Value rfl e_slices_SortStableFunc_LLimpl_Value_Limpl_Value n_slices_SortStableFunc_LLimpl_Value_Limpl_Value rfl (rvs := []) rfl rfl ?_
  intro w0 ok0 lent ρ0
  refine LWP.region (l := [_,_,_,_,_]) ?_
  refine LWo.move (.own 0 0 (o0).length) rfl (hn := ?_)
  refine LWo.move (.own 0 0 (o0).length) rfl (hn := ?_)
  refine LWo.lenO u_LLimpl_Value rfl (hn := ?_)
  refine LWo.move (.clo f1 q1) rfl (hn := ?_)
  refine bk h fun x1 e1 h => ?_
  refine bk h fun u2 e2 h => ?_
  refine LWo.ucallM (e := e_Limpl_Value) rfl rfl (k_slices_stableCmpFunc_Limpl_Value _ _ _ f1 q1 hq1 hf1 _ e1 0) rfl rfl (some 8) rfl (hn := ?_)
  obtain rfl := Option.some.inj h
  refine LWo.nil (QG.mk (.inl rfl) (.nil) (RetOK.many1 (.nil) (by simp) (by decide) rfl rfl rfl rfl rfl) rfl rfl)
theorem k_slices_SortStableFunc_LLimpl_Value_Limpl_Value (o0 : (List (List S_impl_Value))) (p1 : (List S_impl_Value) → (List S_impl_Value) → Option Int) (f1 : FuncId) (q1 : List LV) (hq1 : ∀ k, LV.at?.atL k q1 = false) (hf1 : ∀ a0 a1 v, p1 a0 a1 = some v → Ret Try.prog f1 (e_Limpl_Value a0 :: e_Limpl_Value a1 :: q1) (e_int v)) (r : (List (List S_impl_Value))) (h : m_slices_SortStableFunc_LLimpl_Value_Limpl_Value o0 p1 = some r) (k : Nat) : Does Try.prog f_slices_SortStableFunc_LLimpl_Value_Limpl_Value [.own k 0 o0.length, .clo f1 q1] [(k, (lob 1 e_Limpl_Value o0))] (fun x hh => x = .tup [] ∧ hh = [(k, (lob 1 e_Limpl_Value r))]) :=
  Does.nameO (c_slices_SortStableFunc_LLimpl_Value_Limpl_Value o0 p1 f1 q1 hq1 hf1 r h) (fun k => (atC (hq1 k) (atN _))) k

def m_impl_byColumn (a0 : (List (List S_impl_Value))) (a1 : Int) : Option (List (List S_impl_Value)) :=
  (m_impl_rowsCopy a0).bind fun x3 =>
  (m_slices_SortStableFunc_LLimpl_Value_Limpl_Value x3 (fun b0_ b1_ => m_impl_byColumn_1 b0_ b1_ a1)).bind fun x5 =>
  (lenQ x5.length x3.length ()).bind fun u6 =>
  some x5
theorem c_impl_byColumn (a0 : (List (List S_impl_Value))) (a1 : Int) (r : (List (List S_impl_Value))) (h : m_impl_byColumn a0 a1 = some r) : Ret Try.prog f_impl_byColumn [e_LLimpl_Value a0, e_int a1] (.nw 1 (r.map e_Limpl_Value) false) := by
  refine Does.goG [] F_impl_byColumn rfl e_impl_byColumn n_impl_byColumn rfl (rvs := [.tmp 4]) rfl rfl ?_
  intro w0 ok0 lent ρ0
  refine LWP.seq_k fun N1 hN1 => ?_
  refine LWP.region (l := [_,_]) ?_
  refine LWo.boxF (e_int a1) rfl rfl rfl (hn := ?_)
  refine LWo.assign _ rfl (hn := ?_)
  refine LWo.ownNil 4 1004 1 rfl rfl rfl ?_
  refine LWo.known 4 (.own 1004 0 ([] : (List (List S_impl_Value))).length) rfl ?_
  refine LWo.nil (hN1 _ ?_)
  refine LWP.seq_k fun N2 hN2 => ?_
  refine LWP.region (l := [_,_,_]) ?_
  refine LWo.move (e_LLimpl_Value a0) rfl (hn := ?_)
  refine bk h fun x3 e3 h => ?_
  refine LWo.ncall (e := e_Limpl_Value) 1007 rfl rfl (c_impl_rowsCopy _ _ e3) (.same (.nil)) rfl (hn := ?_)
  refine LWo.assign (.own 1007 0 (x3).length) rfl (hn := ?_)
  refine LWo.nil (hN2 _ ?_)
  refine LWP.seq_k fun N4 hN4 => ?_
  refine LWP.region (l := [_,_,_]) ?_
  refine LWo.move (.own 1007 0 (x3).length) rfl (hn := ?_)
  refine LWo.makeFuncM [(.fp (e_int a1).cells)] rfl rfl (hn := ?_)
  refine bk h fun x5 e5 h => ?_
  refine bk h fun u6 e6 h => ?_
  refine LWo.ucallM (e := e_Limpl_Value) rfl rfl (k_slices_SortStableFunc_LLimpl_Value_Limpl_Value _ _ f_impl_byColumn_1 [(.fp (e_int a1).cells)] (fun _ => rfl) (fun b0_ b1_ v hv => c_impl_byColumn_1 b0_ b1_ a1 v hv) _ e5 1007) rfl rfl (some 10) rfl (hn := ?_)
  refine LWo.nil (hN4 _ ?_)
  refine LWP.seq_k fun N7 hN7 => ?_
  refine LWP.region (l := [_,_]) ?_
  refine LWo.move (.own 1007 0 (x3).length) rfl (hn := ?_)
  refine LWo.assign (.own 1007 0 (x3).length) rfl (hn := ?_)
  refine LWo.nil (hN7 _ ?_)
  obtain rfl := Option.some.inj h
  refine LWP.ret (QG.mk (.inr rfl) (.cons (.tmp (x := (.own 1007 0 (x3).length)) rfl) (.nil)) (RetOK.one0 (.nwM rfl ((lenQ_some e6).1.symm)) (by decide)) rfl rfl)

def m_impl_ByColumn_j1 (t1 : (List (List S_impl_Value))) (t2 : Int) (t23 : Bool) : Option (List (List S_impl_Value)) :=
  bif t23 then (some ([] : (List (List S_impl_Value))))
  else ((m_impl_byColumn t1 t2).bind fun x13 =>
  some x13)
def m_impl_ByColumn (a0 : (List S_impl_Column)) (a1 : (List (List S_impl_Value))) (a2 : Int) : Option (List (List S_impl_Value)) :=
  (m_impl_ColumnsOk a0).bind fun x4 =>
  bif (!x4) then (m_impl_ByColumn_j1  a1 a2 true)
  else ((m_impl_RowsOk a0 a1).bind fun x6 =>
    bif (!x6) then (m_impl_ByColumn_j1  a1 a2 true)
    else ((ckI ((a0.length : Int) - (1 : Int))).bind fun x8 =>
      (m_impl_between a2 (0 : Int) x8).bind fun x9 =>
      m_impl_ByColumn_j1  a1 a2 (!x9)))
theorem c_impl_ByColumn (a0 : (List S_impl_Column)) (a1 : (List (List S_impl_Value))) (a2 : Int) (r : (List (List S_impl_Value))) (h : m_impl_ByColumn a0 a1 a2 = some r) : Ret Try.prog f_impl_ByColumn [e_Limpl_Column a0, e_LLimpl_Value a1, e_int a2] (e_LLimpl_Value r) := by
  refine Does.goG [] F_impl_ByColumn rfl e_impl_ByColumn n_impl_ByColumn rfl (rvs := [.tmp 6]) rfl rfl ?_
  intro w0 ok0 lent ρ0
  refine LWP.seq_k fun N1 hN1 => ?_
  refine LWP.region (l := [_]) ?_
  refine LWo.assign _ rfl (hn := ?_)
  refine LWo.weakT 6 (e_LLimpl_Value ([] : (List (List S_impl_Value)))) rfl .nil ?_
  refine LWo.nil (hN1 _ ?_)
  refine LWP.seq_k fun N2 hN2 => ?_
  refine LWP.join (α := (List (List S_impl_Value)) × Int × Bool) (fun z : (List (List S_impl_Value)) × Int × Bool => [(1, (e_LLimpl_Value z.1)), (2, (e_int z.2.1)), (23, (e_bool z.2.2))]) (fun z : (List (List S_impl_Value)) × Int × Bool => []) (fun z : (List (List S_impl_Value)) × Int × Bool => m_impl_ByColumn_j1  z.1 z.2.1 z.2.2) r (fun _ => by simp [hkeys]) ?_ ?_
  · rintro ⟨t1, t2, t23⟩ h
    replace h : m_impl_ByColumn_j1  t1 t2 t23 = some _ := h
    refine LWP.cond_split rfl (fun h10 => ?_) (fun h10 => ?_)
    · have h := bT h10 h
      refine LWP.seq_k fun N11 hN11 => ?_
      refine LWP.region (l := [_]) ?_
      refine LWo.assign _ rfl (hn := ?_)
      refine LWo.weakT 6 (e_LLimpl_Value ([] : (List (List S_impl_Value)))) rfl .nil ?_
      refine LWo.nil (hN11 _ ?_)
      obtain rfl := Option.some.inj h
      refine LWP.ret (QG.mk (.inr rfl) (.cons (.tmp (x := (e_LLimpl_Value ([] : (List (List S_impl_Value))))) rfl) (.nil)) (RetOK.one0 (.pure rfl) (by decide)) rfl rfl)
    · have h := bF h10 h
      refine LWP.skip (hN2 _ ?_)
      refine LWP.seq_k fun N12 hN12 => ?_
      refine LWP.region (l := [_,_,_,_]) ?_
      refine LWo.move (e_LLimpl_Value t1) rfl (hn := ?_)
      refine LWo.move (e_int t2) rfl (hn := ?_)
      refine bk h fun x13 e13 h => ?_
      refine LWo.vcall rfl rfl (c_impl_byColumn _ _ _ e13) (.same (.same (.nil))) (hn := ?_)
      refine LWo.assign (e_LLimpl_Value x13) rfl (hn := ?_)
      refine LWo.nil (hN12 _ ?_)
      obtain rfl := Option.some.inj h
      refine LWP.ret (QG.mk (.inr rfl) (.cons (.tmp (x := (e_LLimpl_Value x13)) rfl) (.nil)) (RetOK.one0 (.pure rfl) (by decide)) rfl rfl)
  · intro N3 hN3
    refine LWP.region (l := [_,_,_,_,_,_,_,_,_,_,_,_,_,_,_,_,_]) ?_
    refine LWo.move (e_Limpl_Column a0) rfl (hn := ?_)
    refine bk h fun x4 e4 h => ?_
    refine LWo.vcall rfl rfl (c_impl_ColumnsOk _ _ e4) (.same (.nil)) (hn := ?_)
    refine LWo.not rfl (hn := ?_)
    refine LWo.move (e_bool (!x4)) rfl (hn := ?_)
    refine LWo.byCases (t := 10) _ rfl (fun h5 => ?_) (fun h5 => ?_)
    · have h := bT h5 h
      refine LWo.guardNU (t := 10) rfl h5 rfl rfl rfl rfl rfl ?_
      refine LWo.guardNU (t := 10) rfl h5 rfl rfl rfl rfl rfl ?_
      refine LWo.guardNU (t := 10) rfl h5 rfl rfl rfl rfl rfl ?_
      refine LWo.guardNU (t := 10) rfl h5 rfl rfl rfl rfl rfl ?_
      refine LWo.pickTM (e_bool true) rfl h5 rfl (hn := ?_)
      refine LWo.move (e_bool true) rfl (hn := ?_)
      refine LWo.guardNU (t := 16) rfl rfl rfl rfl rfl rfl rfl ?_
      refine LWo.guardNU (t := 16) rfl rfl rfl rfl rfl rfl rfl ?_
      refine LWo.guardNU (t := 16) rfl rfl rfl rfl rfl rfl rfl ?_
      refine LWo.guardNU (t := 16) rfl rfl rfl rfl rfl rfl rfl ?_
      refine LWo.guardNU (t := 16) rfl rfl rfl rfl rfl rfl rfl ?_
      refine LWo.guardNU (t := 16) rfl rfl rfl rfl rfl rfl rfl ?_
      refine LWo.pickTM (e_bool true) rfl rfl rfl (hn := ?_)
      refine LWo.nil (hN3 (a1, a2, true) _ ⟨rfl, rfl, rfl, trivial⟩ trivial h)
    · have h := bF h5 h
      refine LWo.guardY (t := 10) rfl h5 rfl rfl ?_
      refine LWo.move (e_Limpl_Column a0) rfl (hn := ?_)
      refine LWo.guardY (t := 10) rfl h5 rfl rfl ?_
      refine LWo.move (e_LLimpl_Value a1) rfl (hn := ?_)
      refine bk h fun x6 e6 h => ?_
      refine LWo.guardY (t := 10) rfl h5 rfl rfl ?_
      refine LWo.vcall rfl rfl (c_impl_RowsOk _ _ _ e6) (.same (.same (.nil))) (hn := ?_)
      refine LWo.guardY (t := 10) rfl h5 rfl rfl ?_
      refine LWo.not rfl (hn := ?_)
      refine LWo.pickFM (e_bool (!x6)) rfl h5 rfl (hn := ?_)
      refine LWo.move (e_bool (!x6)) rfl (hn := ?_)
      refine LWo.byCases (t := 16) _ rfl (fun h7 => ?_) (fun h7 => ?_)
      · have h := bT h7 h
        refine LWo.guardNU (t := 16) rfl h7 rfl rfl rfl rfl rfl ?_
        refine LWo.guardNU (t := 16) rfl h7 rfl rfl rfl rfl rfl ?_
        refine LWo.guardNU (t := 16) rfl h7 rfl rfl rfl rfl rfl ?_
        refine LWo.guardNU (t := 16) rfl h7 rfl rfl rfl rfl rfl ?_
        refine LWo.guardNU (t := 16) rfl h7 rfl rfl rfl rfl rfl ?_
        refine LWo.guardNU (t := 16) rfl h7 rfl rfl rfl rfl rfl ?_
        refine LWo.pickTM (e_bool true) rfl h7 rfl (hn := ?_)
        refine LWo.nil (hN3 (a1, a2, true) _ ⟨rfl, rfl, rfl, trivial⟩ trivial h)
      · have h := bF h7 h
        refine LWo.guardY (t := 16) rfl h7 rfl rfl ?_
        refine LWo.move (e_int a2) rfl (hn := ?_)
        refine LWo.guardY (t := 16) rfl h7 rfl rfl ?_
        refine LWo.move (e_Limpl_Column a0) rfl (hn := ?_)
        refine LWo.guardY (t := 16) rfl h7 rfl rfl ?_
        refine LWo.lenM (f := e_impl_Column) (l := a0) u_Limpl_Column rfl (hn := ?_)
        refine bk h fun x8 e8 h => ?_
        refine LWo.guardY (t := 16) rfl h7 rfl rfl ?_
        refine LWo.int _ rfl rfl (sub_ck e8) (hn := ?_)
        refine bk h fun x9 e9 h => ?_
        refine LWo.guardY (t := 16) rfl h7 rfl rfl ?_
        refine LWo.vcall rfl rfl (c_impl_between _ _ _ _ e9) (.same (.same (.same (.nil)))) (hn := ?_)
        refine LWo.guardY (t := 16) rfl h7 rfl rfl ?_
        refine LWo.not rfl (hn := ?_)
        refine LWo.pickFM (e_bool (!x9)) rfl h7 rfl (hn := ?_)
        refine LWo.nil (hN3 (a1, a2, (!x9)) _ ⟨rfl, rfl, rfl, trivial⟩ trivial h)

def m_spec_l1In_j1 (t6 : Bool) : Option Bool :=
  some t6
def m_spec_l1In (a0 : Int) (a1 : Int) (a2 : Int) : Option Bool :=
  bif decide (a0 ≥ a1) then (m_spec_l1In_j1  (decide (a0 ≤ a2)))
  else (m_spec_l1In_j1  false)
theorem c_spec_l1In (a0 : Int) (a1 : Int) (a2 : Int) (r : Bool) (h : m_spec_l1In a0 a1 a2 = some r) : Ret Try.prog f_spec_l1In [e_int a0, e_int a1, e_int a2] (e_bool r) := by
  refine Does.goG [] F_spec_l1In rfl e_spec_l1In n_spec_l1In rfl (rvs := [.tmp 6]) rfl rfl ?_
  intro w0 ok0 lent ρ0
  refine LWP.seq_k fun N1 hN1 => ?_
  refine LWP.region (l := [_]) ?_
  refine LWo.assign (e_bool false) rfl (hn := ?_)
  refine LWo.nil (hN1 _ ?_)
  refine LWP.join (α := Bool) (fun z : Bool => [(6, (e_bool z))]) (fun z : Bool => []) (fun z : Bool => m_spec_l1In_j1  z) r (fun _ => by simp [hkeys]) ?_ ?_
  · rintro t6 h
    replace h : m_spec_l1In_j1  t6 = some _ := h
    obtain rfl := Option.some.inj h
    refine LWP.ret (QG.mk (.inr rfl) (.cons (.tmp (x := (e_bool t6)) rfl) (.nil)) (RetOK.one0 (.pure rfl) (by decide)) rfl rfl)
  · intro N2 hN2
    refine LWP.region (l := [_,_,_,_,_,_,_,_,_]) ?_
    refine LWo.move (e_int a0) rfl (hn := ?_)
    refine LWo.move (e_int a1) rfl (hn := ?_)
    refine LWo.int _ rfl rfl rfl (hn := ?_)
    refine LWo.move (e_bool (decide (a0 ≥ a1))) rfl (hn := ?_)
    refine LWo.byCases (t := 10) _ rfl (fun h3 => ?_) (fun h3 => ?_)
    · have h := bT h3 h
      refine LWo.guardY (t := 10) rfl h3 rfl rfl ?_
      refine LWo.move (e_int a0) rfl (hn := ?_)
      refine LWo.guardY (t := 10) rfl h3 rfl rfl ?_
      refine LWo.move (e_int a2) rfl (hn := ?_)
      refine LWo.guardY (t := 10) rfl h3 rfl rfl ?_
      refine LWo.int _ rfl rfl rfl (hn := ?_)
      refine LWo.pickTM (e_bool (decide (a0 ≤ a2))) rfl h3 rfl (hn := ?_)
      refine LWo.assign (e_bool (decide (a0 ≤ a2))) rfl (hn := ?_)
      refine LWo.nil (hN2 (decide (a0 ≤ a2)) _ ⟨rfl, trivial⟩ trivial h)
    · have h := bF h3 h
      refine LWo.guardNU (t := 10) rfl h3 rfl rfl rfl rfl rfl ?_
      refine LWo.guardNU (t := 10) rfl h3 rfl rfl rfl rfl rfl ?_
      refine LWo.guardNU (t := 10) rfl h3 rfl rfl rfl rfl rfl ?_
      refine LWo.pickFM (e_bool false) rfl h3 rfl (hn := ?_)
      refine LWo.assign (e_bool false) rfl (hn := ?_)
      refine LWo.nil (hN2 false _ ⟨rfl, trivial⟩ trivial h)

def m_spec_ColumnsOk_j1 (t0 : (List S_impl_Column)) : Option Bool :=
  some (decide ((t0.length : Int) ≤ (4 : Int)))
def m_spec_ColumnsOk_l1 : Nat → (List S_impl_Column) → Int → Option Bool
  | 0, _, _ => none
  | n1 + 1, t0, t3 =>
    bif decide (t3 < (t0.length : Int)) then ((at? t0 t3).bind fun x11 =>
    (m_spec_l1In x11.Kind (1 : Int) (3 : Int)).bind fun x12 =>
    bif (!x12) then (some false)
    else ((ckI (t3 + (1 : Int))).bind fun x15 =>
    (m_spec_ColumnsOk_l1  n1) t0 x15))
    else (m_spec_ColumnsOk_j1  t0)
def m_spec_ColumnsOk (a0 : (List S_impl_Column)) : Option Bool :=
  m_spec_ColumnsOk_l1  (((a0.length : Int) - (0 : Int)).toNat + 1) a0 (0 : Int)
theorem c_spec_ColumnsOk (a0 : (List S_impl_Column)) (r : Bool) (h : m_spec_ColumnsOk a0 = some r) : Ret Try.prog f_spec_ColumnsOk [e_Limpl_Column a0] (e_bool r) := by
  refine Does.goG [] F_spec_ColumnsOk rfl e_spec_ColumnsOk n_spec_ColumnsOk rfl (rvs := [.tmp 2]) rfl rfl ?_
  intro w0 ok0 lent ρ0
  refine LWP.seq_k fun N1 hN1 => ?_
  refine LWP.region (l := [_]) ?_
  refine LWo.assign (e_bool false) rfl (hn := ?_)
  refine LWo.nil (hN1 _ ?_)
  refine LWP.join (α := (List S_impl_Column)) (fun z : (List S_impl_Column) => [(0, (e_Limpl_Column z))]) (fun z : (List S_impl_Column) => []) (fun z : (List S_impl_Column) => m_spec_ColumnsOk_j1  z) r (fun _ => by simp [hkeys]) ?_ ?_
  · rintro t0 h
    replace h : m_spec_ColumnsOk_j1  t0 = some _ := h
    refine LWP.seq_k fun N16 hN16 => ?_
    refine LWP.region (l := [_,_,_,_]) ?_
    refine LWo.move (e_Limpl_Column t0) rfl (hn := ?_)
    refine LWo.lenM (f := e_impl_Column) (l := t0) u_Limpl_Column rfl (hn := ?_)
    refine LWo.int _ rfl rfl rfl (hn := ?_)
    refine LWo.assign (e_bool (decide ((t0.length : Int) ≤ (4 : Int)))) rfl (hn := ?_)
    refine LWo.nil (hN16 _ ?_)
    obtain rfl := Option.some.inj h
    refine LWP.ret (QG.mk (.inr rfl) (.cons (.tmp (x := (e_bool (decide ((t0.length : Int) ≤ (4 : Int))))) rfl) (.nil)) (RetOK.one0 (.pure rfl) (by decide)) rfl rfl)
  · intro N2 hN2
    refine LWP.seq_k fun N3 hN3 => ?_
    refine LWP.region (l := [_]) ?_
    refine LWo.assign (e_int (0 : Int)) rfl (hn := ?_)
    refine LWo.nil (hN3 _ ?_)
    refine LWP.block ?_
    refine LWP.loopM (α := (List S_impl_Column) × Int) (fun z : (List S_impl_Column) × Int => [(0, (e_Limpl_Column z.1)), (3, (e_int z.2))]) (fun z : (List S_impl_Column) × Int => []) (fun n1 (z : (List S_impl_Column) × Int) => m_spec_ColumnsOk_l1  n1 z.1 z.2) r _ (a0, (0 : Int)) h (fun _ => rfl) (fun _ => by simp [hkeys]) ⟨rfl, rfl, trivial⟩ trivial ?_
    rintro n1 ⟨t0, t3⟩ h N4 hN4
    replace h : m_spec_ColumnsOk_l1  (n1 + 1) t0 t3 = some _ := h
    refine LWP.seq_k fun N6 hN6 => ?_
    refine LWP.seq_k fun N7 hN7 => ?_
    refine LWP.region (l := [_,_,_,_]) ?_
    refine LWo.move (e_int t3) rfl (hn := ?_)
    refine LWo.move (e_Limpl_Column t0) rfl (hn := ?_)
    refine LWo.lenM (f := e_impl_Column) (l := t0) u_Limpl_Column rfl (hn := ?_)
    refine LWo.int _ rfl rfl rfl (hn := ?_)
    refine LWo.nil (hN7 _ ?_)
    refine LWP.cond_split rfl (fun h8 => ?_) (fun h8 => ?_)
    · have h := bT h8 h
      refine LWP.skip (hN6 _ ?_)
      refine LWP.seq_k fun N9 hN9 => ?_
      refine LWP.block ?_
      refine LWP.seq_k fun N10 hN10 => ?_
      refine LWP.region (l := [_,_,_,_,_,_,_]) ?_
      refine LWo.move (e_Limpl_Column t0) rfl (hn := ?_)
      refine LWo.move (e_int t3) rfl (hn := ?_)
      refine bk h fun x11 e11 h => ?_
      refine LWo.indexM (f := e_impl_Column) e11 u_Limpl_Column s_impl_Column rfl rfl (hn := ?_)
      refine LWo.fieldAddr _ u_impl_Column rfl s_int rfl rfl (hn := ?_)
      refine LWo.load1 (c := (e_int x11.Kind)) g_int rfl (hn := ?_)
      refine bk h fun x12 e12 h => ?_
      refine LWo.vcall rfl rfl (c_spec_l1In _ _ _ _ e12) (.same (.same (.same (.nil)))) (hn := ?_)
      refine LWo.not rfl (hn := ?_)
      refine LWo.nil (hN10 _ ?_)
      refine LWP.cond_split rfl (fun h13 => ?_) (fun h13 => ?_)
      · have h := bT h13 h
        refine LWP.seq_k fun N14 hN14 => ?_
        refine LWP.region (l := [_]) ?_
        refine LWo.assign (e_bool false) rfl (hn := ?_)
        refine LWo.nil (hN14 _ ?_)
        obtain rfl := Option.some.inj h
        refine LWP.ret (QG.mk (.inr rfl) (.cons (.tmp (x := (e_bool false)) rfl) (.nil)) (RetOK.one0 (.pure rfl) (by decide)) rfl rfl)
      · have h := bF h13 h
        refine LWP.skip (hN9 _ ?_)
        refine LWP.region (l := [_,_,_]) ?_
        refine LWo.move (e_int t3) rfl (hn := ?_)
        refine bk h fun x15 e15 h => ?_
        refine LWo.int _ rfl rfl (add_ck e15) (hn := ?_)
        refine LWo.assign (e_int x15) rfl (hn := ?_)
        refine LWo.nil (hN4 (t0, x15) _ ⟨rfl, rfl, trivial⟩ trivial h)
    · have h := bF h8 h
      refine LWP.exit (hN2 t0 _ ⟨rfl, trivial⟩ trivial h)

def m_spec_l1Text_j2 (t0 : ByteArray) : Option Bool :=
  some (decide ((t0.size : Int) ≤ (6 : Int)))
def m_spec_l1Text_j1 (k1 : ByteArray → Int → Option Bool) (t0 : ByteArray) (t3 : Int) (t19 : Bool) : Option Bool :=
  bif t19 then (some false)
  else ((ckI (t3 + (1 : Int))).bind fun x16 =>
  k1 t0 x16)
def m_spec_l1Text_l1 : Nat → ByteArray → Int → Option Bool
  | 0, _, _ => none
  | n1 + 1, t0, t3 =>
    bif decide (t3 < (t0.size : Int)) then ((sAt? t0 t3).bind fun x11 =>
    bif decide ((x11.toNat : Int) < ((97 : UInt8).toNat : Int)) then (m_spec_l1Text_j1  (m_spec_l1Text_l1  n1) t0 t3 true)
    else ((sAt? t0 t3).bind fun x13 =>
      m_spec_l1Text_j1  (m_spec_l1Text_l1  n1) t0 t3 (decide ((x13.toNat : Int) > ((122 : UInt8).toNat : Int)))))
    else (m_spec_l1Text_j2  t0)
def m_spec_l1Text (a0 : ByteArray) : Option Bool :=
  m_spec_l1Text_l1  (((a0.size : Int) - (0 : Int)).toNat + 1) a0 (0 : Int)
theorem c_spec_l1Text (a0 : ByteArray) (r : Bool) (h : m_spec_l1Text a0 = some r) : Ret Try.prog f_spec_l1Text [e_string a0] (e_bool r) := by
  refine Does.goG [] F_spec_l1Text rfl e_spec_l1Text n_spec_l1Text rfl (rvs := [.tmp 2]) rfl rfl ?_
  intro w0 ok0 lent ρ0
  refine LWP.seq_k fun N1 hN1 => ?_
  refine LWP.region (l := [_]) ?_
  refine LWo.assign (e_bool false) rfl (hn := ?_)
  refine LWo.nil (hN1 _ ?_)
  refine LWP.join (α := ByteArray) (fun z : ByteArray => [(0, (e_string z))]) (fun z : ByteArray => []) (fun z : ByteArray => m_spec_l1Text_j2  z) r (fun _ => by simp [hkeys]) ?_ ?_
  · rintro t0 h
    replace h : m_spec_l1Text_j2  t0 = some _ := h
    refine LWP.seq_k fun N17 hN17 => ?_
    refine LWP.region (l := [_,_,_,_]) ?_
    refine LWo.move (e_string t0) rfl (hn := ?_)
    refine LWo.lenS u_string rfl (hn := ?_)
    refine LWo.int _ rfl rfl rfl (hn := ?_)
    refine LWo.assign (e_bool (decide ((t0.size : Int) ≤ (6 : Int)))) rfl (hn := ?_)
    refine LWo.nil (hN17 _ ?_)
    obtain rfl := Option.some.inj h
    refine LWP.ret (QG.mk (.inr rfl) (.cons (.tmp (x := (e_bool (decide ((t0.size : Int) ≤ (6 : Int))))) rfl) (.nil)) (RetOK.one0 (.pure rfl) (by decide)) rfl rfl)
  · intro N2 hN2
    refine LWP.seq_k fun N3 hN3 => ?_
    refine LWP.region (l := [_]) ?_
    refine LWo.assign (e_int (0 : Int)) rfl (hn := ?_)
    refine LWo.nil (hN3 _ ?_)
    refine LWP.block ?_
    refine LWP.loopM (α := ByteArray × Int) (fun z : ByteArray × Int => [(0, (e_string z.1)), (3, (e_int z.2))]) (fun z : ByteArray × Int => []) (fun n1 (z : ByteArray × Int) => m_spec_l1Text_l1  n1 z.1 z.2) r _ (a0, (0 : Int)) h (fun _ => rfl) (fun _ => by simp [hkeys]) ⟨rfl, rfl, trivial⟩ trivial ?_
    rintro n1 ⟨t0, t3⟩ h N4 hN4
    replace h : m_spec_l1Text_l1  (n1 + 1) t0 t3 = some _ := h
    refine LWP.seq_k fun N6 hN6 => ?_
    refine LWP.seq_k fun N7 hN7 => ?_
    refine LWP.region (l := [_,_,_,_]) ?_
    refine LWo.move (e_int t3) rfl (hn := ?_)
    refine LWo.move (e_string t0) rfl (hn := ?_)
    refine LWo.lenS u_string rfl (hn := ?_)
    refine LWo.int _ rfl rfl rfl (hn := ?_)
    refine LWo.nil (hN7 _ ?_)
    refine LWP.cond_split rfl (fun h8 => ?_) (fun h8 => ?_)
    · have h := bT h8 h
      refine LWP.skip (hN6 _ ?_)
      refine LWP.seq_k fun N9 hN9 => ?_
      refine LWP.block ?_
      refine LWP.join (α := ByteArray × Int × Bool) (fun z : ByteArray × Int × Bool => [(0, (e_string z.1)), (3, (e_int z.2.1)), (19, (e_bool z.2.2))]) (fun z : ByteArray × Int × Bool => []) (fun z : ByteArray × Int × Bool => m_spec_l1Text_j1  (m_spec_l1Text_l1  n1) z.1 z.2.1 z.2.2) r (fun _ => by simp [hkeys]) ?_ ?_
      · rintro ⟨t0, t3, t19⟩ h
        replace h : m_spec_l1Text_j1  (m_spec_l1Text_l1  n1) t0 t3 t19 = some _ := h
        refine LWP.cond_split rfl (fun h14 => ?_) (fun h14 => ?_)
        · have h := bT h14 h
          refine LWP.seq_k fun N15 hN15 => ?_
          refine LWP.region (l := [_]) ?_
          refine LWo.assign (e_bool false) rfl (hn := ?_)
          refine LWo.nil (hN15 _ ?_)
          obtain rfl := Option.some.inj h
          refine LWP.ret (QG.mk (.inr rfl) (.cons (.tmp (x := (e_bool false)) rfl) (.nil)) (RetOK.one0 (.pure rfl) (by decide)) rfl rfl)
        · have h := bF h14 h
          refine LWP.skip (hN9 _ ?_)
          refine LWP.region (l := [_,_,_]) ?_
          refine LWo.move (e_int t3) rfl (hn := ?_)
          refine bk h fun x16 e16 h => ?_
          refine LWo.int _ rfl rfl (add_ck e16) (hn := ?_)
          refine LWo.assign (e_int x16) rfl (hn := ?_)
          refine LWo.nil (hN4 (t0, x16) _ ⟨rfl, rfl, trivial⟩ trivial h)
      · intro N10 hN10
        refine LWP.region (l := [_,_,_,_,_,_,_,_,_,_]) ?_
        refine LWo.move (e_string t0) rfl (hn := ?_)
        refine LWo.move (e_int t3) rfl (hn := ?_)
        refine bk h fun x11 e11 h => ?_
        refine LWo.indexStr u_string rfl rfl (sAt_0 e11) (sAt_g e11) (hn := ?_)
        refine LWo.int _ rfl rfl rfl (hn := ?_)
        refine LWo.move (e_bool (decide ((x11.toNat : Int) < ((97 : UInt8).toNat : Int)))) rfl (hn := ?_)
        refine LWo.byCases (t := 14) _ rfl (fun h12 => ?_) (fun h12 => ?_)
        · have h := bT h12 h
          refine LWo.guardNU (t := 14) rfl h12 rfl rfl rfl rfl rfl ?_
          refine LWo.guardNU (t := 14) rfl h12 rfl rfl rfl rfl rfl ?_
          refine LWo.guardNU (t := 14) rfl h12 rfl rfl rfl rfl rfl ?_
          refine LWo.guardNU (t := 14) rfl h12 rfl rfl rfl rfl rfl ?_
          refine LWo.pickTM (e_bool true) rfl h12 rfl (hn := ?_)
          refine LWo.nil (hN10 (t0, t3, true) _ ⟨rfl, rfl, rfl, trivial⟩ trivial h)
        · have h := bF h12 h
          refine LWo.guardY (t := 14) rfl h12 rfl rfl ?_
          refine LWo.move (e_string t0) rfl (hn := ?_)
          refine LWo.guardY (t := 14) rfl h12 rfl rfl ?_
          refine LWo.move (e_int t3) rfl (hn := ?_)
          refine bk h fun x13 e13 h => ?_
          refine LWo.guardY (t := 14) rfl h12 rfl rfl ?_
          refine LWo.indexStr u_string rfl rfl (sAt_0 e13) (sAt_g e13) (hn := ?_)
          refine LWo.guardY (t := 14) rfl h12 rfl rfl ?_
          refine LWo.int _ rfl rfl rfl (hn := ?_)
          refine LWo.pickFM (e_bool (decide ((x13.toNat : Int) > ((122 : UInt8).toNat : Int)))) rfl h12 rfl (hn := ?_)
          refine LWo.nil (hN10 (t0, t3, decide ((x13.toNat : Int) > ((122 : UInt8).toNat : Int))) _ ⟨rfl, rfl, rfl, trivial⟩ trivial h)
    · have h := bF h8 h
      refine LWP.exit (hN2 t0 _ ⟨rfl, trivial⟩ trivial h)

def m_spec_ValueOk_j1 (t2 : Bool) : Option Bool :=
  some t2
def m_spec_ValueOk_j2 (t2 : Bool) : Option Bool :=
  some t2
def m_spec_ValueOk_j3 (t2 : Bool) : Option Bool :=
  some t2
def m_spec_ValueOk_j4 (t2 : Bool) : Option Bool :=
  some t2
def m_spec_ValueOk (a0 : S_impl_Value) : Option Bool :=
  bif (a0.Kind == (0 : Int)) then (bif (a0.N == (0 : Int)) then (m_spec_ValueOk_j1  (sEq a0.S (⟨#[]⟩ : ByteArray)))
    else (m_spec_ValueOk_j1  false))
  else (bif (a0.Kind == (1 : Int)) then ((m_spec_l1In a0.N (-9999 : Int) (9999 : Int)).bind fun x11 =>
      bif x11 then (m_spec_ValueOk_j2  (sEq a0.S (⟨#[]⟩ : ByteArray)))
      else (m_spec_ValueOk_j2  false))
    else (bif (a0.Kind == (2 : Int)) then (bif (a0.N == (0 : Int)) then ((m_spec_l1Text a0.S).bind fun x17 =>
          m_spec_ValueOk_j3  x17)
        else (m_spec_ValueOk_j3  false))
      else (bif (a0.Kind == (3 : Int)) then ((m_spec_l1In a0.N (0 : Int) (1 : Int)).bind fun x21 =>
          bif x21 then (m_spec_ValueOk_j4  (sEq a0.S (⟨#[]⟩ : ByteArray)))
          else (m_spec_ValueOk_j4  false))
        else (some false))))
theorem c_spec_ValueOk (a0 : S_impl_Value) (r : Bool) (h : m_spec_ValueOk a0 = some r) : Ret Try.prog f_spec_ValueOk [e_impl_Value a0] (e_bool r) := by
  refine Does.goG [] F_spec_ValueOk rfl e_spec_ValueOk n_spec_ValueOk rfl (rvs := [.tmp 2]) rfl rfl ?_
  intro w0 ok0 lent ρ0
  refine LWP.seq_k fun N1 hN1 => ?_
  refine LWP.region (l := [_,_]) ?_
  refine LWo.boxF (e_impl_Value a0) rfl rfl rfl (hn := ?_)
  refine LWo.assign (e_bool false) rfl (hn := ?_)
  refine LWo.nil (hN1 _ ?_)
  refine LWP.seq_k fun N2 hN2 => ?_
  refine LWP.seq_k fun N3 hN3 => ?_
  refine LWP.region (l := [_,_]) ?_
  refine LWo.fieldAddr _ u_impl_Value rfl s_int rfl rfl (hn := ?_)
  refine LWo.load1 (c := (e_int a0.Kind)) g_int rfl (hn := ?_)
  refine LWo.nil (hN3 _ ?_)
  refine LWP.block ?_
  refine LWP.seq_k fun N4 hN4 => ?_
  refine LWP.region (l := [_,_]) ?_
  refine LWo.int _ rfl rfl rfl (hn := ?_)
  refine LWo.assign (e_bool (a0.Kind == (0 : Int))) rfl (hn := ?_)
  refine LWo.nil (hN4 _ ?_)
  refine LWP.cond_split rfl (fun h5 => ?_) (fun h5 => ?_)
  · have h := bT h5 h
    refine LWP.join (α := Bool) (fun z : Bool => [(2, (e_bool z))]) (fun z : Bool => []) (fun z : Bool => m_spec_ValueOk_j1  z) r (fun _ => by simp [hkeys]) ?_ ?_
    · rintro t2 h
      replace h : m_spec_ValueOk_j1  t2 = some _ := h
      obtain rfl := Option.some.inj h
      refine LWP.ret (QG.mk (.inr rfl) (.cons (.tmp (x := (e_bool t2)) rfl) (.nil)) (RetOK.one0 (.pure rfl) (by decide)) rfl rfl)
    · intro N6 hN6
      refine LWP.region (l := [_,_,_,_,_,_,_,_,_]) ?_
      refine LWo.fieldAddr _ u_impl_Value rfl s_int rfl rfl (hn := ?_)
      refine LWo.load1 (c := (e_int a0.N)) g_int rfl (hn := ?_)
      refine LWo.int _ rfl rfl rfl (hn := ?_)
      refine LWo.move (e_bool (a0.N == (0 : Int))) rfl (hn := ?_)
      refine LWo.byCases (t := 10) _ rfl (fun h7 => ?_) (fun h7 => ?_)
      · have h := bT h7 h
        refine LWo.guardY (t := 10) rfl h7 rfl rfl ?_
        refine LWo.fieldAddr _ u_impl_Value rfl s_string rfl rfl (hn := ?_)
        refine LWo.guardY (t := 10) rfl h7 rfl rfl ?_
        refine LWo.load1 (c := (e_string a0.S)) g_string rfl (hn := ?_)
        refine LWo.guardY (t := 10) rfl h7 rfl rfl ?_
        refine LWo.str _ rfl rfl rfl (hn := ?_)
        refine LWo.pickTM (e_bool (sEq a0.S (⟨#[]⟩ : ByteArray))) rfl h7 rfl (hn := ?_)
        refine LWo.assign (e_bool (sEq a0.S (⟨#[]⟩ : ByteArray))) rfl (hn := ?_)
        refine LWo.nil (hN6 (sEq a0.S (⟨#[]⟩ : ByteArray)) _ ⟨rfl, trivial⟩ trivial h)
      · have h := bF h7 h
        refine LWo.guardNU (t := 10) rfl h7 rfl rfl rfl rfl rfl ?_
        refine LWo.guardNU (t := 10) rfl h7 rfl rfl rfl rfl rfl ?_
        refine LWo.guardNU (t := 10) rfl h7 rfl rfl rfl rfl rfl ?_
        refine LWo.pickFM (e_bool false) rfl h7 rfl (hn := ?_)
        refine LWo.assign (e_bool false) rfl (hn := ?_)
        refine LWo.nil (hN6 false _ ⟨rfl, trivial⟩ trivial h)
  · have h := bF h5 h
    refine LWP.seq_k fun N8 hN8 => ?_
    refine LWP.region (l := [_,_]) ?_
    refine LWo.int _ rfl rfl rfl (hn := ?_)
    refine LWo.assign (e_bool (a0.Kind == (1 : Int))) rfl (hn := ?_)
    refine LWo.nil (hN8 _ ?_)
    refine LWP.cond_split rfl (fun h9 => ?_) (fun h9 => ?_)
    · have h := bT h9 h
      refine LWP.join (α := Bool) (fun z : Bool => [(2, (e_bool z))]) (fun z : Bool => []) (fun z : Bool => m_spec_ValueOk_j2  z) r (fun _ => by simp [hkeys]) ?_ ?_
      · rintro t2 h
        replace h : m_spec_ValueOk_j2  t2 = some _ := h
        obtain rfl := Option.some.inj h
        refine LWP.ret (QG.mk (.inr rfl) (.cons (.tmp (x := (e_bool t2)) rfl) (.nil)) (RetOK.one0 (.pure rfl) (by decide)) rfl rfl)
      · intro N10 hN10
        refine LWP.region (l := [_,_,_,_,_,_,_,_,_]) ?_
        refine LWo.fieldAddr _ u_impl_Value rfl s_int rfl rfl (hn := ?_)
        refine LWo.load1 (c := (e_int a0.N)) g_int rfl (hn := ?_)
        refine bk h fun x11 e11 h => ?_
        refine LWo.vcall rfl rfl (c_spec_l1In _ _ _ _ e11) (.same (.same (.same (.nil)))) (hn := ?_)
        refine LWo.move (e_bool x11) rfl (hn := ?_)
        refine LWo.byCases (t := 20) _ rfl (fun h12 => ?_) (fun h12 => ?_)
        · have h := bT h12 h
          refine LWo.guardY (t := 20) rfl h12 rfl rfl ?_
          refine LWo.fieldAddr _ u_impl_Value rfl s_string rfl rfl (hn := ?_)
          refine LWo.guardY (t := 20) rfl h12 rfl rfl ?_
          refine LWo.load1 (c := (e_string a0.S)) g_string rfl (hn := ?_)
          refine LWo.guardY (t := 20) rfl h12 rfl rfl ?_
          refine LWo.str _ rfl rfl rfl (hn := ?_)
          refine LWo.pickTM (e_bool (sEq a0.S (⟨#[]⟩ : ByteArray))) rfl h12 rfl (hn := ?_)
          refine LWo.assign (e_bool (sEq a0.S (⟨#[]⟩ : ByteArray))) rfl (hn := ?_)
          refine LWo.nil (hN10 (sEq a0.S (⟨#[]⟩ : ByteArray)) _ ⟨rfl, trivial⟩ trivial h)
        · have h := bF h12 h
          refine LWo.guardNU (t := 20) rfl h12 rfl rfl rfl rfl rfl ?_
          refine LWo.guardNU (t := 20) rfl h12 rfl rfl rfl rfl rfl ?_
          refine LWo.guardNU (t := 20) rfl h12 rfl rfl rfl rfl rfl ?_
          refine LWo.pickFM (e_bool false) rfl h12 rfl (hn := ?_)
          refine LWo.assign (e_bool false) rfl (hn := ?_)
          refine LWo.nil (hN10 false _ ⟨rfl, trivial⟩ trivial h)
    · have h := bF h9 h
      refine LWP.seq_k fun N13 hN13 => ?_
      refine LWP.region (l := [_,_]) ?_
      refine LWo.int _ rfl rfl rfl (hn := ?_)
      refine LWo.assign (e_bool (a0.Kind == (2 : Int))) rfl (hn := ?_)
      refine LWo.nil (hN13 _ ?_)
      refine LWP.cond_split rfl (fun h14 => ?_) (fun h14 => ?_)
      · have h := bT h14 h
        refine LWP.join (α := Bool) (fun z : Bool => [(2, (e_bool z))]) (fun z : Bool => []) (fun z : Bool => m_spec_ValueOk_j3  z) r (fun _ => by simp [hkeys]) ?_ ?_
        · rintro t2 h
          replace h : m_spec_ValueOk_j3  t2 = some _ := h
          obtain rfl := Option.some.inj h
          refine LWP.ret (QG.mk (.inr rfl) (.cons (.tmp (x := (e_bool t2)) rfl) (.nil)) (RetOK.one0 (.pure rfl) (by decide)) rfl rfl)
        · intro N15 hN15
          refine LWP.region (l := [_,_,_,_,_,_,_,_,_]) ?_
          refine LWo.fieldAddr _ u_impl_Value rfl s_int rfl rfl (hn := ?_)
          refine LWo.load1 (c := (e_int a0.N)) g_int rfl (hn := ?_)
          refine LWo.int _ rfl rfl rfl (hn := ?_)
          refine LWo.move (e_bool (a0.N == (0 : Int))) rfl (hn := ?_)
          refine LWo.byCases (t := 30) _ rfl (fun h16 => ?_) (fun h16 => ?_)
          · have h := bT h16 h
            refine LWo.guardY (t := 30) rfl h16 rfl rfl ?_
            refine LWo.fieldAddr _ u_impl_Value rfl s_string rfl rfl (hn := ?_)
            refine LWo.guardY (t := 30) rfl h16 rfl rfl ?_
            refine LWo.load1 (c := (e_string a0.S)) g_string rfl (hn := ?_)
            refine bk h fun x17 e17 h => ?_
            refine LWo.guardY (t := 30) rfl h16 rfl rfl ?_
            refine LWo.vcall rfl rfl (c_spec_l1Text _ _ e17) (.same (.nil)) (hn := ?_)
            refine LWo.pickTM (e_bool x17) rfl h16 rfl (hn := ?_)
            refine LWo.assign (e_bool x17) rfl (hn := ?_)
            refine LWo.nil (hN15 x17 _ ⟨rfl, trivial⟩ trivial h)
          · have h := bF h16 h
            refine LWo.guardNU (t := 30) rfl h16 rfl rfl rfl rfl rfl ?_
            refine LWo.guardNU (t := 30) rfl h16 rfl rfl rfl rfl rfl ?_
            refine LWo.guardNU (t := 30) rfl h16 rfl rfl rfl rfl rfl ?_
            refine LWo.pickFM (e_bool false) rfl h16 rfl (hn := ?_)
            refine LWo.assign (e_bool false) rfl (hn := ?_)
            refine LWo.nil (hN15 false _ ⟨rfl, trivial⟩ trivial h)
      · have h := bF h14 h
        refine LWP.seq_k fun N18 hN18 => ?_
        refine LWP.region (l := [_,_]) ?_
        refine LWo.int _ rfl rfl rfl (hn := ?_)
        refine LWo.assign (e_bool (a0.Kind == (3 : Int))) rfl (hn := ?_)
        refine LWo.nil (hN18 _ ?_)
        refine LWP.cond_split rfl (fun h19 => ?_) (fun h19 => ?_)
        · have h := bT h19 h
          refine LWP.join (α := Bool) (fun z : Bool => [(2, (e_bool z))]) (fun z : Bool => []) (fun z : Bool => m_spec_ValueOk_j4  z) r (fun _ => by simp [hkeys]) ?_ ?_
          · rintro t2 h
            replace h : m_spec_ValueOk_j4  t2 = some _ := h
            obtain rfl := Option.some.inj h
            refine LWP.ret (QG.mk (.inr rfl) (.cons (.tmp (x := (e_bool t2)) rfl) (.nil)) (RetOK.one0 (.pure rfl) (by decide)) rfl rfl)
          · intro N20 hN20
            refine LWP.region (l := [_,_,_,_,_,_,_,_,_]) ?_
            refine LWo.fieldAddr _ u_impl_Value rfl s_int rfl rfl (hn := ?_)
            refine LWo.load1 (c := (e_int a0.N)) g_int rfl (hn := ?_)
            refine bk h fun x21 e21 h => ?_
            refine LWo.vcall rfl rfl (c_spec_l1In _ _ _ _ e21) (.same (.same (.same (.nil)))) (hn := ?_)
            refine LWo.move (e_bool x21) rfl (hn := ?_)
            refine LWo.byCases (t := 40) _ rfl (fun h22 => ?_) (fun h22 => ?_)
            · have h := bT h22 h
              refine LWo.guardY (t := 40) rfl h22 rfl rfl ?_
              refine LWo.fieldAddr _ u_impl_Value rfl s_string rfl rfl (hn := ?_)
              refine LWo.guardY (t := 40) rfl h22 rfl rfl ?_
              refine LWo.load1 (c := (e_string a0.S)) g_string rfl (hn := ?_)
              refine LWo.guardY (t := 40) rfl h22 rfl rfl ?_
              refine LWo.str _ rfl rfl rfl (hn := ?_)
              refine LWo.pickTM (e_bool (sEq a0.S (⟨#[]⟩ : ByteArray))) rfl h22 rfl (hn := ?_)
              refine LWo.assign (e_bool (sEq a0.S (⟨#[]⟩ : ByteArray))) rfl (hn := ?_)
              refine LWo.nil (hN20 (sEq a0.S (⟨#[]⟩ : ByteArray)) _ ⟨rfl, trivial⟩ trivial h)
            · have h := bF h22 h
              refine LWo.guardNU (t := 40) rfl h22 rfl rfl rfl rfl rfl ?_
              refine LWo.guardNU (t := 40) rfl h22 rfl rfl rfl rfl rfl ?_
              refine LWo.guardNU (t := 40) rfl h22 rfl rfl rfl rfl rfl ?_
              refine LWo.pickFM (e_bool false) rfl h22 rfl (hn := ?_)
              refine LWo.assign (e_bool false) rfl (hn := ?_)
              refine LWo.nil (hN20 false _ ⟨rfl, trivial⟩ trivial h)
        · have h := bF h19 h
          refine LWP.skip (hN2 _ ?_)
          refine LWP.seq_k fun N23 hN23 => ?_
          refine LWP.region (l := [_]) ?_
          refine LWo.assign (e_bool false) rfl (hn := ?_)
          refine LWo.nil (hN23 _ ?_)
          obtain rfl := Option.some.inj h
          refine LWP.ret (QG.mk (.inr rfl) (.cons (.tmp (x := (e_bool false)) rfl) (.nil)) (RetOK.one0 (.pure rfl) (by decide)) rfl rfl)
end Go.Proofs.Ytemfdnnhknepbaa
