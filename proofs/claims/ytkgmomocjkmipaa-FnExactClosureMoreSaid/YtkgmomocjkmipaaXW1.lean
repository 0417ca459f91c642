/- Mirrors of functions, and that the functions return what the mirrors say. -/
import Derived.Test.YtkgmomocjkmipaaXTy
import Derived.Test.YtkgmomocjkmipaaLe
set_option linter.unusedVariables false
set_option linter.unusedSimpArgs false
set_option linter.unnecessarySimpa false
namespace Go.Proofs.Ytkgmomocjkmipaa
open Go.Proofs Go.Lift Go.RowKit
def m_laws_szPairS (a0 : (List S_laws_Pair)) (a1 : Int) : Option Int :=
  (ckI (a1 - (a0.length : Int))).bind fun x3 =>
  bif decide (x3 < (0 : Int)) then (some (-1 : Int))
  else (some x3)
theorem c_laws_szPairS (a0 : (List S_laws_Pair)) (a1 : Int) (r : Int) (h : m_laws_szPairS a0 a1 = some r) : Ret Try.prog f_laws_szPairS [e_Llaws_Pair a0, e_int a1] (e_int r) := by
  refine Does.goG [] F_laws_szPairS rfl e_laws_szPairS n_laws_szPairS rfl (rvs := [.tmp 4]) rfl rfl ?_
  intro w0 ok0 lent ρ0
  refine LWP.seq_k fun N1 hN1 => ?_
  refine LWP.region (l := [_]) ?_
  refine LWo.assign (e_int (0 : Int)) rfl (hn := ?_)
  refine LWo.nil (hN1 _ ?_)
  refine LWP.seq_k fun N2 hN2 => ?_
  refine LWP.region (l := [_,_,_,_,_]) ?_
  refine LWo.move (e_int a1) rfl (hn := ?_)
  refine LWo.move (e_Llaws_Pair a0) rfl (hn := ?_)
  refine LWo.lenM (f := e_laws_Pair) (l := a0) u_Llaws_Pair rfl (hn := ?_)
  refine bk h fun x3 e3 h => ?_
  refine LWo.int _ rfl rfl (sub_ck e3) (hn := ?_)
  refine LWo.assign (e_int x3) rfl (hn := ?_)
  refine LWo.nil (hN2 _ ?_)
  refine LWP.seq_k fun N4 hN4 => ?_
  refine LWP.seq_k fun N5 hN5 => ?_
  refine LWP.region (l := [_,_]) ?_
  refine LWo.move (e_int x3) rfl (hn := ?_)
  refine LWo.int _ rfl rfl rfl (hn := ?_)
  refine LWo.nil (hN5 _ ?_)
  refine LWP.cond_split rfl (fun h6 => ?_) (fun h6 => ?_)
  ·have h := bT h6 h
   refine LWP.seq_k fun N7 hN7 => ?_
   refine LWP.region (l := [_]) ?_
   refine LWo.assign (e_int (-1 : Int)) rfl (hn := ?_)
   refine LWo.nil (hN7 _ ?_)
   obtain rfl := Option.some.inj h
   refine LWP.ret (QG.mk (.inr rfl) (.cons (.tmp (x := (e_int (-1 : Int))) rfl) (.nil)) (RetOK.one0 (.pure rfl) (by decide)) rfl rfl)
  ·have h := bF h6 h
   refine LWP.skip (hN4 _ ?_)
   refine LWP.seq_k fun N8 hN8 => ?_
   refine LWP.region (l := [_,_]) ?_
   refine LWo.move (e_int x3) rfl (hn := ?_)
   refine LWo.assign (e_int x3) rfl (hn := ?_)
   refine LWo.nil (hN8 _ ?_)
   obtain rfl := Option.some.inj h
   refine LWP.ret (QG.mk (.inr rfl) (.cons (.tmp (x := (e_int x3)) rfl) (.nil)) (RetOK.one0 (.pure rfl) (by decide)) rfl rfl)

def m_laws_toPair (a0 : S_laws_Pair) : Option S_impl_Pair :=
  lt ({ (⟨(0 : Int), (0 : Int)⟩ : S_impl_Pair) with From := a0.From }) fun y4 =>
  lt ({ y4 with To := a0.To }) fun y6 =>
  lt (y6) fun y8 =>
  some y8
theorem c_laws_toPair (a0 : S_laws_Pair) (r : S_impl_Pair) (h : m_laws_toPair a0 = some r) : Ret Try.prog f_laws_toPair [e_laws_Pair a0] (e_impl_Pair r) := by
  refine Does.goG [] F_laws_toPair rfl e_laws_toPair n_laws_toPair rfl (rvs := [.cell 2 t_impl_Pair]) rfl rfl ?_
  intro w0 ok0 lent ρ0
  refine LWP.seq_k fun N1 hN1 => ?_
  refine LWP.region (l := [_,_]) ?_
  refine LWo.boxF (e_laws_Pair a0) rfl rfl rfl (hn := ?_)
  refine LWo.alloc_impl_Pair 2 rfl (hn := ?_)
  refine LWo.nil (hN1 _ ?_)
  refine LWP.seq_k fun N2 hN2 => ?_
  refine LWP.region (l := [_]) ?_
  refine LWo.alloc_impl_Pair 3 rfl (hn := ?_)
  refine LWo.nil (hN2 _ ?_)
  refine LWP.seq_k fun N3 hN3 => ?_
  refine LWP.region (l := [_,_,_,_]) ?_
  refine LWo.fieldAddr _ u_laws_Pair rfl s_int rfl rfl (hn := ?_)
  refine LWo.load1 (c := (e_int a0.From)) g_int rfl (hn := ?_)
  refine LWo.fieldPtr u_impl_Pair rfl s_int rfl rfl (hn := ?_)
  refine lk h fun y4 e4 h => ?_
  refine LWo.storeW (y := (⟨(0 : Int), (0 : Int)⟩ : S_impl_Pair)) y4 s_int rfl rfl rfl rfl rfl rfl (by rw [e4]; exact .refl) rfl (hn := ?_)
  refine LWo.nil (hN3 _ ?_)
  refine LWP.seq_k fun N5 hN5 => ?_
  refine LWP.region (l := [_,_,_,_]) ?_
  refine LWo.fieldAddr _ u_laws_Pair rfl s_int rfl rfl (hn := ?_)
  refine LWo.load1 (c := (e_int a0.To)) g_int rfl (hn := ?_)
  refine LWo.fieldPtr u_impl_Pair rfl s_int rfl rfl (hn := ?_)
  refine lk h fun y6 e6 h => ?_
  refine LWo.storeW (y := y4) y6 s_int rfl rfl rfl rfl rfl rfl (by rw [e6]; exact .refl) rfl (hn := ?_)
  refine LWo.nil (hN5 _ ?_)
  refine LWP.seq_k fun N7 hN7 => ?_
  refine LWP.region (l := [_,_]) ?_
  refine LWo.loadVN ((e_impl_Pair y6)).cells  g_impl_Pair s_impl_Pair rfl rfl rfl rfl (hn := ?_)
  refine lk h fun y8 e8 h => ?_
  refine LWo.storeW (y := (⟨(0 : Int), (0 : Int)⟩ : S_impl_Pair)) y8 s_impl_Pair rfl rfl rfl rfl rfl rfl (by rw [e8]; exact .refl) rfl (hn := ?_)
  refine LWo.nil (hN7 _ ?_)
  obtain rfl := Option.some.inj h
  refine LWP.ret (QG.mk (.inr rfl) (.cons (.cellN (ys := (e_impl_Pair y8).cells) g_impl_Pair s_impl_Pair rfl rfl rfl rfl rfl (fun _ _ => rfl)) (.nil)) (RetOK.one0 (.pure rfl) (by decide)) rfl rfl)

def m_laws_toPairS_j1 (o1007 : (List S_impl_Pair)) : Option (List S_impl_Pair) :=
  some o1007
def m_laws_toPairS_l1 : Nat → (List S_laws_Pair) → Int → (List S_impl_Pair) → Option (List S_impl_Pair)
  | 0, _, _, _ => none
  | n1 + 1, t0, t4, o1007 =>
    bif decide (t4 < (t0.length : Int)) then ((at? t0 t4).bind fun x12 =>
    (m_laws_toPair x12).bind fun x13 =>
    (at? o1007 t4).bind fun x14 =>
    (at? o1007 t4).bind fun x15 =>
    lt (x13) fun y16 =>
    (ckI (t4 + (1 : Int))).bind fun x17 =>
    (m_laws_toPairS_l1  n1) t0 x17 (o1007.set (t4).toNat y16))
    else (m_laws_toPairS_j1  o1007)
def m_laws_toPairS (a0 : (List S_laws_Pair)) : Option (List S_impl_Pair) :=
  (mk2? (a0.length : Int) (a0.length : Int) ((⟨(0 : Int), (0 : Int)⟩ : S_impl_Pair) : S_impl_Pair)).bind fun x3 =>
  m_laws_toPairS_l1  (((a0.length : Int) - (0 : Int)).toNat + 1) a0 (0 : Int) x3
theorem c_laws_toPairS (a0 : (List S_laws_Pair)) (r : (List S_impl_Pair)) (h : m_laws_toPairS a0 = some r) : Ret Try.prog f_laws_toPairS [e_Llaws_Pair a0] (.nw 2 (r.map e_impl_Pair) false) := by
  refine Does.goG [] F_laws_toPairS rfl e_laws_toPairS n_laws_toPairS rfl (rvs := [.tmp 2]) rfl rfl ?_
  intro w0 ok0 lent ρ0
  refine LWP.seq_k fun N1 hN1 => ?_
  refine LWP.region (l := [_]) ?_
  refine LWo.assign _ rfl (hn := ?_)
  refine LWo.ownNil 2 1002 2 rfl rfl rfl ?_
  refine LWo.known 2 (.own 1002 0 ([] : (List S_impl_Pair)).length) rfl ?_
  refine LWo.nil (hN1 _ ?_)
  refine LWP.seq_k fun N2 hN2 => ?_
  refine LWP.region (l := [_,_,_,_]) ?_
  refine LWo.move (e_Llaws_Pair a0) rfl (hn := ?_)
  refine LWo.lenM (f := e_laws_Pair) (l := a0) u_Llaws_Pair rfl (hn := ?_)
  refine bk h fun x3 e3 h => ?_
  refine LWo.make_impl_Pair 1007 e3 u_Limpl_Pair i_impl_Pair rfl rfl rfl (hn := ?_)
  refine LWo.assign (.own 1007 0 (x3).length) rfl (hn := ?_)
  refine LWo.nil (hN2 _ ?_)
  refine LWP.join (α := (List S_impl_Pair)) (fun z : (List S_impl_Pair) => [(3, (.own 1007 0 (z).length))]) (fun z : (List S_impl_Pair) => [(1007, (lob 2 e_impl_Pair z))]) (fun z : (List S_impl_Pair) => m_laws_toPairS_j1  z) r (fun _ => by simp [hkeys]) ?_ ?_
  ·rintro o1007 h
   replace h : m_laws_toPairS_j1  o1007 = some _ := h
   refine LWP.seq_k fun N18 hN18 => ?_
   refine LWP.region (l := [_,_]) ?_
   refine LWo.move (.own 1007 0 (o1007).length) rfl (hn := ?_)
   refine LWo.assign (.own 1007 0 (o1007).length) rfl (hn := ?_)
   refine LWo.nil (hN18 _ ?_)
   obtain rfl := Option.some.inj h
   refine LWP.ret (QG.mk (.inr rfl) (.cons (.tmp (x := (.own 1007 0 (o1007).length)) rfl) (.nil)) (RetOK.one0 (.nwM rfl rfl) (by decide)) rfl rfl)
  ·intro N4 hN4
   refine LWP.seq_k fun N5 hN5 => ?_
   refine LWP.region (l := [_]) ?_
   refine LWo.assign (e_int (0 : Int)) rfl (hn := ?_)
   refine LWo.nil (hN5 _ ?_)
   refine LWP.block ?_
   refine LWP.loopM (α := (List S_laws_Pair) × Int × (List S_impl_Pair)) (fun z : (List S_laws_Pair) × Int × (List S_impl_Pair) => [(0, (e_Llaws_Pair z.1)), (3, (.own 1007 0 (z.2.2).length)), (4, (e_int z.2.1))]) (fun z : (List S_laws_Pair) × Int × (List S_impl_Pair) => [(1007, (lob 2 e_impl_Pair z.2.2))]) (fun n1 (z : (List S_laws_Pair) × Int × (List S_impl_Pair)) => m_laws_toPairS_l1  n1 z.1 z.2.1 z.2.2) r _ (a0, (0 : Int), x3) h (fun _ => rfl) (fun _ => by simp [hkeys]) ⟨rfl, rfl, rfl, trivial⟩ ⟨rfl, trivial⟩ ?_
   rintro n1 ⟨t0, t4, o1007⟩ h N6 hN6
   replace h : m_laws_toPairS_l1  (n1 + 1) t0 t4 o1007 = some _ := h
   refine LWP.seq_k fun N8 hN8 => ?_
   refine LWP.seq_k fun N9 hN9 => ?_
   refine LWP.region (l := [_,_,_,_]) ?_
   refine LWo.move (e_int t4) rfl (hn := ?_)
   refine LWo.move (e_Llaws_Pair t0) rfl (hn := ?_)
   refine LWo.lenM (f := e_laws_Pair) (l := t0) u_Llaws_Pair rfl (hn := ?_)
   refine LWo.int _ rfl rfl rfl (hn := ?_)
   refine LWo.nil (hN9 _ ?_)
   refine LWP.cond_split rfl (fun h10 => ?_) (fun h10 => ?_)
   ·have h := bT h10 h
    refine LWP.skip (hN8 _ ?_)
    refine LWP.seq_k fun N11 hN11 => ?_
    refine LWP.block ?_
    refine LWP.region (l := [_,_,_,_,_,_,_,_,_]) ?_
    refine LWo.move (.own 1007 0 (o1007).length) rfl (hn := ?_)
    refine LWo.move (e_int t4) rfl (hn := ?_)
    refine LWo.move (e_Llaws_Pair t0) rfl (hn := ?_)
    refine LWo.move (e_int t4) rfl (hn := ?_)
    refine bk h fun x12 e12 h => ?_
    refine LWo.indexM (f := e_laws_Pair) e12 u_Llaws_Pair s_laws_Pair rfl rfl (hn := ?_)
    refine LWo.loadN ((e_laws_Pair x12)).cells g_laws_Pair s_laws_Pair rfl (Nat.le_of_ble_eq_true rfl) rfl (hn := ?_)
    refine bk h fun x13 e13 h => ?_
    refine LWo.vcall rfl rfl (c_laws_toPair _ _ e13) (.same (.nil)) (hn := ?_)
    refine bk h fun x14 e14 h => ?_
    refine LWo.indexO e14 rfl u_Limpl_Pair s_impl_Pair rfl rfl rfl (hn := ?_)
    refine bk h fun x15 e15 h => ?_
    refine lk h fun y16 e16 h => ?_
    refine LWo.storeO y16 e15 s_impl_Pair rfl rfl rfl rfl rfl rfl rfl (by rw [e16]; rfl) (hn := ?_)
    refine LWo.nil (hN11 _ ?_)
    refine LWP.region (l := [_,_,_]) ?_
    refine LWo.move (e_int t4) rfl (hn := ?_)
    refine bk h fun x17 e17 h => ?_
    refine LWo.int _ rfl rfl (add_ck e17) (hn := ?_)
    refine LWo.assign (e_int x17) rfl (hn := ?_)
    refine LWo.nil (hN6 (t0, x17, (o1007.set (t4).toNat y16)) _ ⟨rfl, (congrArg (LV.own 1007 0) List.length_set.symm), rfl, trivial⟩ ⟨rfl, trivial⟩ h)
   ·have h := bF h10 h
    refine LWP.exit (hN4 o1007 _ ⟨rfl, trivial⟩ ⟨rfl, trivial⟩ h)

def m_spec_l1In_j1 (t6 : Bool) : Option Bool :=
  some t6
def m_spec_l1In (a0 : Int) (a1 : Int) (a2 : Int) : Option Bool :=
  bif decide (a0 ≥ a1) then (m_spec_l1In_j1  (decide (a0 ≤ a2)))
  else (m_spec_l1In_j1  false)
theorem c_spec_l1In (a0 : Int) (a1 : Int) (a2 : Int) (r : Bool) (h : m_spec_l1In a0 a1 a2 = some r) : Ret Try.prog f_spec_l1In [e_int a0, e_int a1, e_int a2] (e_bool r) := by
  refine Does.goG [] F_spec_l1In rfl e_spec_l1In n_spec_l1In rfl (rvs := [.tmp 6]) rfl rfl ?_
  intro w0 ok0 lent ρ0
  refine LWP.seq_k fun N1 hN1 => ?_
  refine LWP.region (l := [_]) ?_
  refine LWo.assign (e_bool false) rfl (hn := ?_)
  refine LWo.nil (hN1 _ ?_)
  refine LWP.join (α := Bool) (fun z : Bool => [(6, (e_bool z))]) (fun z : Bool => []) (fun z : Bool => m_spec_l1In_j1  z) r (fun _ => by simp [hkeys]) ?_ ?_
  ·rintro t6 h
   replace h : m_spec_l1In_j1  t6 = some _ := h
   obtain rfl := Option.some.inj h
   refine LWP.ret (QG.mk (.inr rfl) (.cons (.tmp (x := (e_bool t6)) rfl) (.nil)) (RetOK.one0 (.pure rfl) (by decide)) rfl rfl)
  ·intro N2 hN2
   refine LWP.region (l := [_,_,_,_,_,_,_,_,_]) ?_
   refine LWo.move (e_int a0) rfl (hn := ?_)
   refine LWo.move (e_int a1) rfl (hn := ?_)
   refine LWo.int _ rfl rfl rfl (hn := ?_)
   refine LWo.move (e_bool (decide (a0 ≥ a1))) rfl (hn := ?_)
   refine LWo.byCases (t := 10) _ rfl (fun h3 => ?_) (fun h3 => ?_)
   ·have h := bT h3 h
    refine LWo.guardY (t := 10) rfl h3 rfl rfl ?_
    refine LWo.move (e_int a0) rfl (hn := ?_)
    refine LWo.guardY (t := 10) rfl h3 rfl rfl ?_
    refine LWo.move (e_int a2) rfl (hn := ?_)
    refine LWo.guardY (t := 10) rfl h3 rfl rfl ?_
    refine LWo.int _ rfl rfl rfl (hn := ?_)
    refine LWo.pickTM (e_bool (decide (a0 ≤ a2))) rfl h3 rfl (hn := ?_)
    refine LWo.assign (e_bool (decide (a0 ≤ a2))) rfl (hn := ?_)
    refine LWo.nil (hN2 (decide (a0 ≤ a2)) _ ⟨rfl, trivial⟩ trivial h)
   ·have h := bF h3 h
    refine LWo.guardNU (t := 10) rfl h3 rfl rfl rfl rfl rfl ?_
    refine LWo.guardNU (t := 10) rfl h3 rfl rfl rfl rfl rfl ?_
    refine LWo.guardNU (t := 10) rfl h3 rfl rfl rfl rfl rfl ?_
    refine LWo.pickFM (e_bool false) rfl h3 rfl (hn := ?_)
    refine LWo.assign (e_bool false) rfl (hn := ?_)
    refine LWo.nil (hN2 false _ ⟨rfl, trivial⟩ trivial h)

def m_spec_l26Less_j1 (t4 : Bool) : Option Bool :=
  some t4
def m_spec_l26Less (a0 : S_impl_Pair) (a1 : S_impl_Pair) : Option Bool :=
  bif decide (a0.From < a1.From) then (m_spec_l26Less_j1  true)
  else (bif (a0.From == a1.From) then (m_spec_l26Less_j1  (decide (a0.To < a1.To)))
    else (m_spec_l26Less_j1  false))
theorem c_spec_l26Less (a0 : S_impl_Pair) (a1 : S_impl_Pair) (r : Bool) (h : m_spec_l26Less a0 a1 = some r) : Ret Try.prog f_spec_l26Less [e_impl_Pair a0, e_impl_Pair a1] (e_bool r) := by
  refine Does.goG [] F_spec_l26Less rfl e_spec_l26Less n_spec_l26Less rfl (rvs := [.tmp 4]) rfl rfl ?_
  intro w0 ok0 lent ρ0
  refine LWP.seq_k fun N1 hN1 => ?_
  refine LWP.region (l := [_,_,_]) ?_
  refine LWo.boxF (e_impl_Pair a0) rfl rfl rfl (hn := ?_)
  refine LWo.boxF (e_impl_Pair a1) rfl rfl rfl (hn := ?_)
  refine LWo.assign (e_bool false) rfl (hn := ?_)
  refine LWo.nil (hN1 _ ?_)
  refine LWP.join (α := Bool) (fun z : Bool => [(4, (e_bool z))]) (fun z : Bool => []) (fun z : Bool => m_spec_l26Less_j1  z) r (fun _ => by simp [hkeys]) ?_ ?_
  ·rintro t4 h
   replace h : m_spec_l26Less_j1  t4 = some _ := h
   obtain rfl := Option.some.inj h
   refine LWP.ret (QG.mk (.inr rfl) (.cons (.tmp (x := (e_bool t4)) rfl) (.nil)) (RetOK.one0 (.pure rfl) (by decide)) rfl rfl)
  ·intro N2 hN2
   refine LWP.region (l := [_,_,_,_,_,_,_,_,_,_,_,_,_,_,_,_,_,_,_,_]) ?_
   refine LWo.fieldAddr _ u_impl_Pair rfl s_int rfl rfl (hn := ?_)
   refine LWo.load1 (c := (e_int a0.From)) g_int rfl (hn := ?_)
   refine LWo.fieldAddr _ u_impl_Pair rfl s_int rfl rfl (hn := ?_)
   refine LWo.load1 (c := (e_int a1.From)) g_int rfl (hn := ?_)
   refine LWo.int _ rfl rfl rfl (hn := ?_)
   refine LWo.move (e_bool (decide (a0.From < a1.From))) rfl (hn := ?_)
   refine LWo.byCases (t := 10) _ rfl (fun h3 => ?_) (fun h3 => ?_)
   ·have h := bT h3 h
    refine LWo.guardNU (t := 10) rfl h3 rfl rfl rfl rfl rfl ?_
    refine LWo.guardNU (t := 10) rfl h3 rfl rfl rfl rfl rfl ?_
    refine LWo.guardNU (t := 10) rfl h3 rfl rfl rfl rfl rfl ?_
    refine LWo.guardNU (t := 10) rfl h3 rfl rfl rfl rfl rfl ?_
    refine LWo.guardNU (t := 10) rfl h3 rfl rfl rfl rfl rfl ?_
    refine LWo.guardNU (t := 10) rfl h3 rfl rfl rfl rfl rfl ?_
    refine LWo.guardU (t := 16) rfl rfl rfl rfl rfl ?_
    refine LWo.guardU (t := 16) rfl rfl rfl rfl rfl ?_
    refine LWo.guardU (t := 16) rfl rfl rfl rfl rfl ?_
    refine LWo.guardU (t := 16) rfl rfl rfl rfl rfl ?_
    refine LWo.guardU (t := 16) rfl rfl rfl rfl rfl ?_
    refine LWo.guardNU (t := 10) rfl h3 rfl rfl rfl rfl rfl ?_
    refine LWo.pickTM (e_bool true) rfl h3 rfl (hn := ?_)
    refine LWo.assign (e_bool true) rfl (hn := ?_)
    refine LWo.nil (hN2 true _ ⟨rfl, trivial⟩ trivial h)
   ·have h := bF h3 h
    refine LWo.guardY (t := 10) rfl h3 rfl rfl ?_
    refine LWo.fieldAddr _ u_impl_Pair rfl s_int rfl rfl (hn := ?_)
    refine LWo.guardY (t := 10) rfl h3 rfl rfl ?_
    refine LWo.load1 (c := (e_int a0.From)) g_int rfl (hn := ?_)
    refine LWo.guardY (t := 10) rfl h3 rfl rfl ?_
    refine LWo.fieldAddr _ u_impl_Pair rfl s_int rfl rfl (hn := ?_)
    refine LWo.guardY (t := 10) rfl h3 rfl rfl ?_
    refine LWo.load1 (c := (e_int a1.From)) g_int rfl (hn := ?_)
    refine LWo.guardY (t := 10) rfl h3 rfl rfl ?_
    refine LWo.int _ rfl rfl rfl (hn := ?_)
    refine LWo.guardY (t := 10) rfl h3 rfl rfl ?_
    refine LWo.move (e_bool (a0.From == a1.From)) rfl (hn := ?_)
    refine LWo.byCases (t := 16) _ rfl (fun h4 => ?_) (fun h4 => ?_)
    ·have h := bT h4 h
     refine LWo.guardY (t := 16) rfl h4 rfl rfl ?_
     refine LWo.fieldAddr _ u_impl_Pair rfl s_int rfl rfl (hn := ?_)
     refine LWo.guardY (t := 16) rfl h4 rfl rfl ?_
     refine LWo.load1 (c := (e_int a0.To)) g_int rfl (hn := ?_)
     refine LWo.guardY (t := 16) rfl h4 rfl rfl ?_
     refine LWo.fieldAddr _ u_impl_Pair rfl s_int rfl rfl (hn := ?_)
     refine LWo.guardY (t := 16) rfl h4 rfl rfl ?_
     refine LWo.load1 (c := (e_int a1.To)) g_int rfl (hn := ?_)
     refine LWo.guardY (t := 16) rfl h4 rfl rfl ?_
     refine LWo.int _ rfl rfl rfl (hn := ?_)
     refine LWo.guardY (t := 10) rfl h3 rfl rfl ?_
     refine LWo.pickTM (e_bool (decide (a0.To < a1.To))) rfl h4 rfl (hn := ?_)
     refine LWo.pickFM (e_bool (decide (a0.To < a1.To))) rfl h3 rfl (hn := ?_)
     refine LWo.assign (e_bool (decide (a0.To < a1.To))) rfl (hn := ?_)
     refine LWo.nil (hN2 (decide (a0.To < a1.To)) _ ⟨rfl, trivial⟩ trivial h)
    ·have h := bF h4 h
     refine LWo.guardNU (t := 16) rfl h4 rfl rfl rfl rfl rfl ?_
     refine LWo.guardNU (t := 16) rfl h4 rfl rfl rfl rfl rfl ?_
     refine LWo.guardNU (t := 16) rfl h4 rfl rfl rfl rfl rfl ?_
     refine LWo.guardNU (t := 16) rfl h4 rfl rfl rfl rfl rfl ?_
     refine LWo.guardNU (t := 16) rfl h4 rfl rfl rfl rfl rfl ?_
     refine LWo.guardY (t := 10) rfl h3 rfl rfl ?_
     refine LWo.pickFM (e_bool false) rfl h4 rfl (hn := ?_)
     refine LWo.pickFM (e_bool false) rfl h3 rfl (hn := ?_)
     refine LWo.assign (e_bool false) rfl (hn := ?_)
     refine LWo.nil (hN2 false _ ⟨rfl, trivial⟩ trivial h)

def m_spec_PairsOk_j2  : Option Bool :=
  some true
def m_spec_PairsOk_j1 (k1 : (List S_impl_Pair) → Int → Option Bool) (t0 : (List S_impl_Pair)) (t3 : Int) (t42 : Bool) : Option Bool :=
  bif t42 then (some false)
  else ((ckI (t3 + (1 : Int))).bind fun x24 =>
  k1 t0 x24)
def m_spec_PairsOk_l1 : Nat → (List S_impl_Pair) → Int → Option Bool
  | 0, _, _ => none
  | n1 + 1, t0, t3 =>
    bif decide (t3 < (t0.length : Int)) then ((at? t0 t3).bind fun x11 =>
    (m_spec_l1In x11.From (0 : Int) (6 : Int)).bind fun x12 =>
    bif (!x12) then (m_spec_PairsOk_j1  (m_spec_PairsOk_l1  n1) t0 t3 true)
    else ((at? t0 t3).bind fun x14 =>
      (m_spec_l1In x14.To (0 : Int) (6 : Int)).bind fun x15 =>
      bif (!x15) then (m_spec_PairsOk_j1  (m_spec_PairsOk_l1  n1) t0 t3 true)
      else (bif decide (t3 > (0 : Int)) then ((ckI (t3 - (1 : Int))).bind fun x18 =>
          (at? t0 x18).bind fun x19 =>
          (at? t0 t3).bind fun x20 =>
          (m_spec_l26Less x19 x20).bind fun x21 =>
          m_spec_PairsOk_j1  (m_spec_PairsOk_l1  n1) t0 t3 (!x21))
        else (m_spec_PairsOk_j1  (m_spec_PairsOk_l1  n1) t0 t3 false))))
    else (m_spec_PairsOk_j2  )
def m_spec_PairsOk (a0 : (List S_impl_Pair)) : Option Bool :=
  m_spec_PairsOk_l1  (((a0.length : Int) - (0 : Int)).toNat + 1) a0 (0 : Int)
theorem c_spec_PairsOk (a0 : (List S_impl_Pair)) (r : Bool) (h : m_spec_PairsOk a0 = some r) : Ret Try.prog f_spec_PairsOk [e_Limpl_Pair a0] (e_bool r) := by
  refine Does.goG [] F_spec_PairsOk rfl e_spec_PairsOk n_spec_PairsOk rfl (rvs := [.tmp 2]) rfl rfl ?_
  intro w0 ok0 lent ρ0
  refine LWP.seq_k fun N1 hN1 => ?_
  refine LWP.region (l := [_]) ?_
  refine LWo.assign (e_bool false) rfl (hn := ?_)
  refine LWo.nil (hN1 _ ?_)
  refine LWP.join (α := Unit) (fun z : Unit => []) (fun z : Unit => []) (fun z : Unit => m_spec_PairsOk_j2  ) r (fun _ => by simp [hkeys]) ?_ ?_
  ·rintro _ h
   replace h : m_spec_PairsOk_j2   = some _ := h
   refine LWP.seq_k fun N25 hN25 => ?_
   refine LWP.region (l := [_]) ?_
   refine LWo.assign (e_bool true) rfl (hn := ?_)
   refine LWo.nil (hN25 _ ?_)
   obtain rfl := Option.some.inj h
   refine LWP.ret (QG.mk (.inr rfl) (.cons (.tmp (x := (e_bool true)) rfl) (.nil)) (RetOK.one0 (.pure rfl) (by decide)) rfl rfl)
  ·intro N2 hN2
   refine LWP.seq_k fun N3 hN3 => ?_
   refine LWP.region (l := [_]) ?_
   refine LWo.assign (e_int (0 : Int)) rfl (hn := ?_)
   refine LWo.nil (hN3 _ ?_)
   refine LWP.block ?_
   refine LWP.loopM (α := (List S_impl_Pair) × Int) (fun z : (List S_impl_Pair) × Int => [(0, (e_Limpl_Pair z.1)), (3, (e_int z.2))]) (fun z : (List S_impl_Pair) × Int => []) (fun n1 (z : (List S_impl_Pair) × Int) => m_spec_PairsOk_l1  n1 z.1 z.2) r _ (a0, (0 : Int)) h (fun _ => rfl) (fun _ => by simp [hkeys]) ⟨rfl, rfl, trivial⟩ trivial ?_
   rintro n1 ⟨t0, t3⟩ h N4 hN4
   replace h : m_spec_PairsOk_l1  (n1 + 1) t0 t3 = some _ := h
   refine LWP.seq_k fun N6 hN6 => ?_
   refine LWP.seq_k fun N7 hN7 => ?_
   refine LWP.region (l := [_,_,_,_]) ?_
   refine LWo.move (e_int t3) rfl (hn := ?_)
   refine LWo.move (e_Limpl_Pair t0) rfl (hn := ?_)
   refine LWo.lenM (f := e_impl_Pair) (l := t0) u_Limpl_Pair rfl (hn := ?_)
   refine LWo.int _ rfl rfl rfl (hn := ?_)
   refine LWo.nil (hN7 _ ?_)
   refine LWP.cond_split rfl (fun h8 => ?_) (fun h8 => ?_)
   ·have h := bT h8 h
    refine LWP.skip (hN6 _ ?_)
    refine LWP.seq_k fun N9 hN9 => ?_
    refine LWP.block ?_
    refine LWP.join (α := (List S_impl_Pair) × Int × Bool) (fun z : (List S_impl_Pair) × Int × Bool => [(0, (e_Limpl_Pair z.1)), (3, (e_int z.2.1)), (42, (e_bool z.2.2))]) (fun z : (List S_impl_Pair) × Int × Bool => []) (fun z : (List S_impl_Pair) × Int × Bool => m_spec_PairsOk_j1  (m_spec_PairsOk_l1  n1) z.1 z.2.1 z.2.2) r (fun _ => by simp [hkeys]) ?_ ?_
    ·rintro ⟨t0, t3, t42⟩ h
     replace h : m_spec_PairsOk_j1  (m_spec_PairsOk_l1  n1) t0 t3 t42 = some _ := h
     refine LWP.cond_split rfl (fun h22 => ?_) (fun h22 => ?_)
     ·have h := bT h22 h
      refine LWP.seq_k fun N23 hN23 => ?_
      refine LWP.region (l := [_]) ?_
      refine LWo.assign (e_bool false) rfl (hn := ?_)
      refine LWo.nil (hN23 _ ?_)
      obtain rfl := Option.some.inj h
      refine LWP.ret (QG.mk (.inr rfl) (.cons (.tmp (x := (e_bool false)) rfl) (.nil)) (RetOK.one0 (.pure rfl) (by decide)) rfl rfl)
     ·have h := bF h22 h
      refine LWP.skip (hN9 _ ?_)
      refine LWP.region (l := [_,_,_]) ?_
      refine LWo.move (e_int t3) rfl (hn := ?_)
      refine bk h fun x24 e24 h => ?_
      refine LWo.int _ rfl rfl (add_ck e24) (hn := ?_)
      refine LWo.assign (e_int x24) rfl (hn := ?_)
      refine LWo.nil (hN4 (t0, x24) _ ⟨rfl, rfl, trivial⟩ trivial h)
    ·intro N10 hN10
     refine bk h fun x11 e11 h => ?_
     refine bk h fun x12 e12 h => ?_
     refine bS ((!x12)) (fun h13 => ?_) (fun h13 => ?_)
     ·have h := bT h13 h
      refine LWP.drawF (l := [_,_,_,_,_,_,_,_,_,_,_,_,_,_,_,_,_,_,_,_,_,_,_,_,_,_,_,_,_,_,_,_,_]) [] [0, 3] [([0], []), ([3], []), ([10, 11], []), ([12], []), ([13], []), ([14], []), ([15], []), ([16], []), ([0, 17], []), ([3, 17], []), ([17, 18, 19], []), ([17, 20], []), ([17, 21], []), ([17, 22], []), ([17, 23], []), ([17, 24], []), ([25], []), ([3, 26], []), ([26, 27], []), ([26, 28], []), ([0, 29], []), ([3, 29], []), ([29, 31], []), ([29, 30, 32], []), ([29, 33], []), ([0, 29], []), ([3, 29], []), ([29, 35, 36], []), ([29, 37], []), ([29, 34, 38], []), ([29, 39], []), ([26, 29, 40], []), ([26, 41], [])] [0, 3, 42] [] mixed (by kernel_rfl) rfl (by decide) ?_
      refine dq 10 rfl (fun _ g u h => LWo.move (e_Limpl_Pair t0) u.1 (hn := .nil (zn g))) ?_
      refine dq 11 rfl (fun _ g u h => LWo.move (e_int t3) u.1 (hn := .nil (zn g))) ?_
      refine dq 12 rfl (fun _ g u h => LWo.indexM (f := e_impl_Pair) e11 u_Limpl_Pair s_impl_Pair u.1 u.2.1 (hn := .nil (zn g))) ?_
      refine dq 13 rfl (fun _ g u h => LWo.fieldAddr _ u_impl_Pair rfl s_int u.1 rfl (hn := .nil (zn g))) ?_
      refine dq 14 rfl (fun _ g u h => LWo.load1 (c := (e_int x11.From)) g_int u.1 (hn := .nil (zn g))) ?_
      refine dq 15 rfl (fun _ g u h => LWo.vcall rfl (av3 u.1 rfl rfl) (c_spec_l1In _ _ _ _ e12) (.same (.same (.same (.nil)))) (hn := .nil (zn g))) ?_
      refine dq 16 rfl (fun _ g u h => LWo.not u.1 (hn := .nil (zn g))) ?_
      refine dq 17 rfl (fun _ g u h => LWo.move (e_bool (!x12)) u.1 (hn := .nil (zn g))) ?_
      refine dq 18 rfl (fun _ g u h => LWo.guardNU (t := 17) u.2.1 h13 rfl rfl rfl rfl rfl (.nil (zn g))) ?_
      refine dq 19 rfl (fun _ g u h => LWo.guardNU (t := 17) u.2.1 h13 rfl rfl rfl rfl rfl (.nil (zn g))) ?_
      refine dq 20 rfl (fun _ g u h => LWo.guardNU (t := 17) u.1 h13 rfl rfl rfl rfl rfl (.nil (zn g))) ?_
      refine dq 21 rfl (fun _ g u h => LWo.guardNU (t := 17) u.1 h13 rfl rfl rfl rfl rfl (.nil (zn g))) ?_
      refine dq 22 rfl (fun _ g u h => LWo.guardNU (t := 17) u.1 h13 rfl rfl rfl rfl rfl (.nil (zn g))) ?_
      refine dq 23 rfl (fun _ g u h => LWo.guardNU (t := 17) u.1 h13 rfl rfl rfl rfl rfl (.nil (zn g))) ?_
      refine dq 24 rfl (fun _ g u h => LWo.guardNU (t := 17) u.1 h13 rfl rfl rfl rfl rfl (.nil (zn g))) ?_
      refine dq 25 rfl (fun _ g u h => LWo.pickTM (e_bool true) u.1 h13 rfl (hn := .nil (zn g))) ?_
      refine dq 26 rfl (fun _ g u h => LWo.move (e_bool true) u.1 (hn := .nil (zn g))) ?_
      refine dq 27 rfl (fun _ g u h => LWo.guardNU (t := 26) u.2.1 rfl rfl rfl rfl rfl rfl (.nil (zn g))) ?_
      refine dq 28 rfl (fun _ g u h => LWo.guardNU (t := 26) u.1 rfl rfl rfl rfl rfl rfl (.nil (zn g))) ?_
      refine dq 29 rfl (fun _ g u h => LWo.guardNU (t := 26) u.1 rfl rfl rfl rfl rfl rfl (.nil (zn g))) ?_
      refine dq 30 rfl (fun _ g u h => LWo.guardU (t := 29) u.2.1 rfl rfl rfl rfl (.nil (zn g))) ?_
      refine dq 31 rfl (fun _ g u h => LWo.guardU (t := 29) u.2.1 rfl rfl rfl rfl (.nil (zn g))) ?_
      refine dq 32 rfl (fun _ g u h => LWo.guardU (t := 29) u.1 rfl rfl rfl rfl (.nil (zn g))) ?_
      refine dq 33 rfl (fun _ g u h => LWo.guardU (t := 29) u.1 rfl rfl rfl rfl (.nil (zn g))) ?_
      refine dq 34 rfl (fun _ g u h => LWo.guardU (t := 29) u.1 rfl rfl rfl rfl (.nil (zn g))) ?_
      refine dq 35 rfl (fun _ g u h => LWo.guardU (t := 29) u.2.1 rfl rfl rfl rfl (.nil (zn g))) ?_
      refine dq 36 rfl (fun _ g u h => LWo.guardU (t := 29) u.2.1 rfl rfl rfl rfl (.nil (zn g))) ?_
      refine dq 37 rfl (fun _ g u h => LWo.guardU (t := 29) u.1 rfl rfl rfl rfl (.nil (zn g))) ?_
      refine dq 38 rfl (fun _ g u h => LWo.guardU (t := 29) u.1 rfl rfl rfl rfl (.nil (zn g))) ?_
      refine dq 39 rfl (fun _ g u h => LWo.guardU (t := 29) u.1 rfl rfl rfl rfl (.nil (zn g))) ?_
      refine dq 40 rfl (fun _ g u h => LWo.guardU (t := 29) u.1 rfl rfl rfl rfl (.nil (zn g))) ?_
      refine dq 41 rfl (fun _ g u h => LWo.guardNU (t := 26) u.1 rfl rfl rfl rfl rfl rfl (.nil (zn g))) ?_
      refine dq 42 rfl (fun _ g u h => LWo.pickTM (e_bool true) u.1 rfl rfl (hn := .nil (zn g))) ?_
      refine ⟨rfl, by kernel_rfl, hN10 (t0, t3, true) _ ⟨rfl, rfl, rfl, trivial⟩ trivial h⟩
     ·have h := bF h13 h
      refine bk h fun x14 e14 h => ?_
      refine bk h fun x15 e15 h => ?_
      refine bS ((!x15)) (fun h16 => ?_) (fun h16 => ?_)
      ·have h := bT h16 h
       refine LWP.drawF (l := [_,_,_,_,_,_,_,_,_,_,_,_,_,_,_,_,_,_,_,_,_,_,_,_,_,_,_,_,_,_,_,_,_]) [] [0, 3] [([0], []), ([3], []), ([10, 11], []), ([12], []), ([13], []), ([14], []), ([15], []), ([16], []), ([0, 17], []), ([3, 17], []), ([17, 18, 19], []), ([17, 20], []), ([17, 21], []), ([17, 22], []), ([17, 23], []), ([17, 24], []), ([25], []), ([3, 26], []), ([26, 27], []), ([26, 28], []), ([0, 29], []), ([3, 29], []), ([29, 31], []), ([29, 30, 32], []), ([29, 33], []), ([0, 29], []), ([3, 29], []), ([29, 35, 36], []), ([29, 37], []), ([29, 34, 38], []), ([29, 39], []), ([26, 29, 40], []), ([26, 41], [])] [0, 3, 42] [] mixed (by kernel_rfl) rfl (by decide) ?_
       refine dq 10 rfl (fun _ g u h => LWo.move (e_Limpl_Pair t0) u.1 (hn := .nil (zn g))) ?_
       refine dq 11 rfl (fun _ g u h => LWo.move (e_int t3) u.1 (hn := .nil (zn g))) ?_
       refine dq 12 rfl (fun _ g u h => LWo.indexM (f := e_impl_Pair) e11 u_Limpl_Pair s_impl_Pair u.1 u.2.1 (hn := .nil (zn g))) ?_
       refine dq 13 rfl (fun _ g u h => LWo.fieldAddr _ u_impl_Pair rfl s_int u.1 rfl (hn := .nil (zn g))) ?_
       refine dq 14 rfl (fun _ g u h => LWo.load1 (c := (e_int x11.From)) g_int u.1 (hn := .nil (zn g))) ?_
       refine dq 15 rfl (fun _ g u h => LWo.vcall rfl (av3 u.1 rfl rfl) (c_spec_l1In _ _ _ _ e12) (.same (.same (.same (.nil)))) (hn := .nil (zn g))) ?_
       refine dq 16 rfl (fun _ g u h => LWo.not u.1 (hn := .nil (zn g))) ?_
       refine dq 17 rfl (fun _ g u h => LWo.move (e_bool (!x12)) u.1 (hn := .nil (zn g))) ?_
       refine dq 18 rfl (fun _ g u h => LWo.guardY (t := 17) u.2.1 h13 rfl rfl (LWo.move (e_Limpl_Pair t0) u.1 (hn := .nil (zn g)))) ?_
       refine dq 19 rfl (fun _ g u h => LWo.guardY (t := 17) u.2.1 h13 rfl rfl (LWo.move (e_int t3) u.1 (hn := .nil (zn g)))) ?_
       refine dq 20 rfl (fun _ g u h => LWo.guardY (t := 17) u.1 h13 rfl rfl (LWo.indexM (f := e_impl_Pair) e14 u_Limpl_Pair s_impl_Pair u.2.1 u.2.2.1 (hn := .nil (zn g)))) ?_
       refine dq 21 rfl (fun _ g u h => LWo.guardY (t := 17) u.1 h13 rfl rfl (LWo.fieldAddr _ u_impl_Pair rfl s_int u.2.1 rfl (hn := .nil (zn g)))) ?_
       refine dq 22 rfl (fun _ g u h => LWo.guardY (t := 17) u.1 h13 rfl rfl (LWo.load1 (c := (e_int x14.To)) g_int u.2.1 (hn := .nil (zn g)))) ?_
       refine dq 23 rfl (fun _ g u h => LWo.guardY (t := 17) u.1 h13 rfl rfl (LWo.vcall rfl (av3 u.2.1 rfl rfl) (c_spec_l1In _ _ _ _ e15) (.same (.same (.same (.nil)))) (hn := .nil (zn g)))) ?_
       refine dq 24 rfl (fun _ g u h => LWo.guardY (t := 17) u.1 h13 rfl rfl (LWo.not u.2.1 (hn := .nil (zn g)))) ?_
       refine dq 25 rfl (fun _ g u h => LWo.pickFM (e_bool (!x15)) u.1 h13 u.2.1 (hn := .nil (zn g))) ?_
       refine dq 26 rfl (fun _ g u h => LWo.move (e_bool (!x15)) u.1 (hn := .nil (zn g))) ?_
       refine dq 27 rfl (fun _ g u h => LWo.guardNU (t := 26) u.2.1 h16 rfl rfl rfl rfl rfl (.nil (zn g))) ?_
       refine dq 28 rfl (fun _ g u h => LWo.guardNU (t := 26) u.1 h16 rfl rfl rfl rfl rfl (.nil (zn g))) ?_
       refine dq 29 rfl (fun _ g u h => LWo.guardNU (t := 26) u.1 h16 rfl rfl rfl rfl rfl (.nil (zn g))) ?_
       refine dq 30 rfl (fun _ g u h => LWo.guardU (t := 29) u.2.1 rfl rfl rfl rfl (.nil (zn g))) ?_
       refine dq 31 rfl (fun _ g u h => LWo.guardU (t := 29) u.2.1 rfl rfl rfl rfl (.nil (zn g))) ?_
       refine dq 32 rfl (fun _ g u h => LWo.guardU (t := 29) u.1 rfl rfl rfl rfl (.nil (zn g))) ?_
       refine dq 33 rfl (fun _ g u h => LWo.guardU (t := 29) u.1 rfl rfl rfl rfl (.nil (zn g))) ?_
       refine dq 34 rfl (fun _ g u h => LWo.guardU (t := 29) u.1 rfl rfl rfl rfl (.nil (zn g))) ?_
       refine dq 35 rfl (fun _ g u h => LWo.guardU (t := 29) u.2.1 rfl rfl rfl rfl (.nil (zn g))) ?_
       refine dq 36 rfl (fun _ g u h => LWo.guardU (t := 29) u.2.1 rfl rfl rfl rfl (.nil (zn g))) ?_
       refine dq 37 rfl (fun _ g u h => LWo.guardU (t := 29) u.1 rfl rfl rfl rfl (.nil (zn g))) ?_
       refine dq 38 rfl (fun _ g u h => LWo.guardU (t := 29) u.1 rfl rfl rfl rfl (.nil (zn g))) ?_
       refine dq 39 rfl (fun _ g u h => LWo.guardU (t := 29) u.1 rfl rfl rfl rfl (.nil (zn g))) ?_
       refine dq 40 rfl (fun _ g u h => LWo.guardU (t := 29) u.1 rfl rfl rfl rfl (.nil (zn g))) ?_
       refine dq 41 rfl (fun _ g u h => LWo.guardNU (t := 26) u.1 h16 rfl rfl rfl rfl rfl (.nil (zn g))) ?_
       refine dq 42 rfl (fun _ g u h => LWo.pickTM (e_bool true) u.1 h16 rfl (hn := .nil (zn g))) ?_
       refine ⟨rfl, by kernel_rfl, hN10 (t0, t3, true) _ ⟨rfl, rfl, rfl, trivial⟩ trivial h⟩
      ·have h := bF h16 h
       refine bS (decide (t3 > (0 : Int))) (fun h17 => ?_) (fun h17 => ?_)
       ·have h := bT h17 h
        refine bk h fun x18 e18 h => ?_
        refine bk h fun x19 e19 h => ?_
        refine bk h fun x20 e20 h => ?_
        refine bk h fun x21 e21 h => ?_
        refine LWP.drawF (l := [_,_,_,_,_,_,_,_,_,_,_,_,_,_,_,_,_,_,_,_,_,_,_,_,_,_,_,_,_,_,_,_,_]) [] [0, 3] [([0], []), ([3], []), ([10, 11], []), ([12], []), ([13], []), ([14], []), ([15], []), ([16], []), ([0, 17], []), ([3, 17], []), ([17, 18, 19], []), ([17, 20], []), ([17, 21], []), ([17, 22], []), ([17, 23], []), ([17, 24], []), ([25], []), ([3, 26], []), ([26, 27], []), ([26, 28], []), ([0, 29], []), ([3, 29], []), ([29, 31], []), ([29, 30, 32], []), ([29, 33], []), ([0, 29], []), ([3, 29], []), ([29, 35, 36], []), ([29, 37], []), ([29, 34, 38], []), ([29, 39], []), ([26, 29, 40], []), ([26, 41], [])] [0, 3, 42] [] mixed (by kernel_rfl) rfl (by decide) ?_
        refine dq 10 rfl (fun _ g u h => LWo.move (e_Limpl_Pair t0) u.1 (hn := .nil (zn g))) ?_
        refine dq 11 rfl (fun _ g u h => LWo.move (e_int t3) u.1 (hn := .nil (zn g))) ?_
        refine dq 12 rfl (fun _ g u h => LWo.indexM (f := e_impl_Pair) e11 u_Limpl_Pair s_impl_Pair u.1 u.2.1 (hn := .nil (zn g))) ?_
        refine dq 13 rfl (fun _ g u h => LWo.fieldAddr _ u_impl_Pair rfl s_int u.1 rfl (hn := .nil (zn g))) ?_
        refine dq 14 rfl (fun _ g u h => LWo.load1 (c := (e_int x11.From)) g_int u.1 (hn := .nil (zn g))) ?_
        refine dq 15 rfl (fun _ g u h => LWo.vcall rfl (av3 u.1 rfl rfl) (c_spec_l1In _ _ _ _ e12) (.same (.same (.same (.nil)))) (hn := .nil (zn g))) ?_
        refine dq 16 rfl (fun _ g u h => LWo.not u.1 (hn := .nil (zn g))) ?_
        refine dq 17 rfl (fun _ g u h => LWo.move (e_bool (!x12)) u.1 (hn := .nil (zn g))) ?_
        refine dq 18 rfl (fun _ g u h => LWo.guardY (t := 17) u.2.1 h13 rfl rfl (LWo.move (e_Limpl_Pair t0) u.1 (hn := .nil (zn g)))) ?_
        refine dq 19 rfl (fun _ g u h => LWo.guardY (t := 17) u.2.1 h13 rfl rfl (LWo.move (e_int t3) u.1 (hn := .nil (zn g)))) ?_
        refine dq 20 rfl (fun _ g u h => LWo.guardY (t := 17) u.1 h13 rfl rfl (LWo.indexM (f := e_impl_Pair) e14 u_Limpl_Pair s_impl_Pair u.2.1 u.2.2.1 (hn := .nil (zn g)))) ?_
        refine dq 21 rfl (fun _ g u h => LWo.guardY (t := 17) u.1 h13 rfl rfl (LWo.fieldAddr _ u_impl_Pair rfl s_int u.2.1 rfl (hn := .nil (zn g)))) ?_
        refine dq 22 rfl (fun _ g u h => LWo.guardY (t := 17) u.1 h13 rfl rfl (LWo.load1 (c := (e_int x14.To)) g_int u.2.1 (hn := .nil (zn g)))) ?_
        refine dq 23 rfl (fun _ g u h => LWo.guardY (t := 17) u.1 h13 rfl rfl (LWo.vcall rfl (av3 u.2.1 rfl rfl) (c_spec_l1In _ _ _ _ e15) (.same (.same (.same (.nil)))) (hn := .nil (zn g)))) ?_
        refine dq 24 rfl (fun _ g u h => LWo.guardY (t := 17) u.1 h13 rfl rfl (LWo.not u.2.1 (hn := .nil (zn g)))) ?_
        refine dq 25 rfl (fun _ g u h => LWo.pickFM (e_bool (!x15)) u.1 h13 u.2.1 (hn := .nil (zn g))) ?_
        refine dq 26 rfl (fun _ g u h => LWo.move (e_bool (!x15)) u.1 (hn := .nil (zn g))) ?_
        refine dq 27 rfl (fun _ g u h => LWo.guardY (t := 26) u.2.1 h16 rfl rfl (LWo.move (e_int t3) u.1 (hn := .nil (zn g)))) ?_
        refine dq 28 rfl (fun _ g u h => LWo.guardY (t := 26) u.1 h16 rfl rfl (LWo.int _ u.2.1 rfl rfl (hn := .nil (zn g)))) ?_
        refine dq 29 rfl (fun _ g u h => LWo.guardY (t := 26) u.1 h16 rfl rfl (LWo.move (e_bool (decide (t3 > (0 : Int)))) u.2.1 (hn := .nil (zn g)))) ?_
        refine dq 30 rfl (fun _ g u h => LWo.guardY (t := 29) u.2.1 h17 rfl rfl (LWo.move (e_Limpl_Pair t0) u.1 (hn := .nil (zn g)))) ?_
        refine dq 31 rfl (fun _ g u h => LWo.guardY (t := 29) u.2.1 h17 rfl rfl (LWo.move (e_int t3) u.1 (hn := .nil (zn g)))) ?_
        refine dq 32 rfl (fun _ g u h => LWo.guardY (t := 29) u.1 h17 rfl rfl (LWo.int _ u.2.1 rfl (sub_ck e18) (hn := .nil (zn g)))) ?_
        refine dq 33 rfl (fun _ g u h => LWo.guardY (t := 29) u.1 h17 rfl rfl (LWo.indexM (f := e_impl_Pair) e19 u_Limpl_Pair s_impl_Pair u.2.1 u.2.2.1 (hn := .nil (zn g)))) ?_
        refine dq 34 rfl (fun _ g u h => LWo.guardY (t := 29) u.1 h17 rfl rfl (LWo.loadN ((e_impl_Pair x19)).cells g_impl_Pair s_impl_Pair u.2.1 (Nat.le_of_ble_eq_true rfl) rfl (hn := .nil (zn g)))) ?_
        refine dq 35 rfl (fun _ g u h => LWo.guardY (t := 29) u.2.1 h17 rfl rfl (LWo.move (e_Limpl_Pair t0) u.1 (hn := .nil (zn g)))) ?_
        refine dq 36 rfl (fun _ g u h => LWo.guardY (t := 29) u.2.1 h17 rfl rfl (LWo.move (e_int t3) u.1 (hn := .nil (zn g)))) ?_
        refine dq 37 rfl (fun _ g u h => LWo.guardY (t := 29) u.1 h17 rfl rfl (LWo.indexM (f := e_impl_Pair) e20 u_Limpl_Pair s_impl_Pair u.2.1 u.2.2.1 (hn := .nil (zn g)))) ?_
        refine dq 38 rfl (fun _ g u h => LWo.guardY (t := 29) u.1 h17 rfl rfl (LWo.loadN ((e_impl_Pair x20)).cells g_impl_Pair s_impl_Pair u.2.1 (Nat.le_of_ble_eq_true rfl) rfl (hn := .nil (zn g)))) ?_
        refine dq 39 rfl (fun _ g u h => LWo.guardY (t := 29) u.1 h17 rfl rfl (LWo.vcall rfl (av2 u.2.1 u.2.2.1) (c_spec_l26Less _ _ _ e21) (.same (.same (.nil))) (hn := .nil (zn g)))) ?_
        refine dq 40 rfl (fun _ g u h => LWo.guardY (t := 29) u.1 h17 rfl rfl (LWo.not u.2.1 (hn := .nil (zn g)))) ?_
        refine dq 41 rfl (fun _ g u h => LWo.guardY (t := 26) u.1 h16 rfl rfl (LWo.pickTM (e_bool (!x21)) u.2.1 h17 u.2.2.1 (hn := .nil (zn g)))) ?_
        refine dq 42 rfl (fun _ g u h => LWo.pickFM (e_bool (!x21)) u.1 h16 u.2.1 (hn := .nil (zn g))) ?_
        refine ⟨rfl, by kernel_rfl, hN10 (t0, t3, (!x21)) _ ⟨rfl, rfl, rfl, trivial⟩ trivial h⟩
       ·have h := bF h17 h
        refine LWP.drawF (l := [_,_,_,_,_,_,_,_,_,_,_,_,_,_,_,_,_,_,_,_,_,_,_,_,_,_,_,_,_,_,_,_,_]) [] [0, 3] [([0], []), ([3], []), ([10, 11], []), ([12], []), ([13], []), ([14], []), ([15], []), ([16], []), ([0, 17], []), ([3, 17], []), ([17, 18, 19], []), ([17, 20], []), ([17, 21], []), ([17, 22], []), ([17, 23], []), ([17, 24], []), ([25], []), ([3, 26], []), ([26, 27], []), ([26, 28], []), ([0, 29], []), ([3, 29], []), ([29, 31], []), ([29, 30, 32], []), ([29, 33], []), ([0, 29], []), ([3, 29], []), ([29, 35, 36], []), ([29, 37], []), ([29, 34, 38], []), ([29, 39], []), ([26, 29, 40], []), ([26, 41], [])] [0, 3, 42] [] mixed (by kernel_rfl) rfl (by decide) ?_
        refine dq 10 rfl (fun _ g u h => LWo.move (e_Limpl_Pair t0) u.1 (hn := .nil (zn g))) ?_
        refine dq 11 rfl (fun _ g u h => LWo.move (e_int t3) u.1 (hn := .nil (zn g))) ?_
        refine dq 12 rfl (fun _ g u h => LWo.indexM (f := e_impl_Pair) e11 u_Limpl_Pair s_impl_Pair u.1 u.2.1 (hn := .nil (zn g))) ?_
        refine dq 13 rfl (fun _ g u h => LWo.fieldAddr _ u_impl_Pair rfl s_int u.1 rfl (hn := .nil (zn g))) ?_
        refine dq 14 rfl (fun _ g u h => LWo.load1 (c := (e_int x11.From)) g_int u.1 (hn := .nil (zn g))) ?_
        refine dq 15 rfl (fun _ g u h => LWo.vcall rfl (av3 u.1 rfl rfl) (c_spec_l1In _ _ _ _ e12) (.same (.same (.same (.nil)))) (hn := .nil (zn g))) ?_
        refine dq 16 rfl (fun _ g u h => LWo.not u.1 (hn := .nil (zn g))) ?_
        refine dq 17 rfl (fun _ g u h => LWo.move (e_bool (!x12)) u.1 (hn := .nil (zn g))) ?_
        refine dq 18 rfl (fun _ g u h => LWo.guardY (t := 17) u.2.1 h13 rfl rfl (LWo.move (e_Limpl_Pair t0) u.1 (hn := .nil (zn g)))) ?_
        refine dq 19 rfl (fun _ g u h => LWo.guardY (t := 17) u.2.1 h13 rfl rfl (LWo.move (e_int t3) u.1 (hn := .nil (zn g)))) ?_
        refine dq 20 rfl (fun _ g u h => LWo.guardY (t := 17) u.1 h13 rfl rfl (LWo.indexM (f := e_impl_Pair) e14 u_Limpl_Pair s_impl_Pair u.2.1 u.2.2.1 (hn := .nil (zn g)))) ?_
        refine dq 21 rfl (fun _ g u h => LWo.guardY (t := 17) u.1 h13 rfl rfl (LWo.fieldAddr _ u_impl_Pair rfl s_int u.2.1 rfl (hn := .nil (zn g)))) ?_
        refine dq 22 rfl (fun _ g u h => LWo.guardY (t := 17) u.1 h13 rfl rfl (LWo.load1 (c := (e_int x14.To)) g_int u.2.1 (hn := .nil (zn g)))) ?_
        refine dq 23 rfl (fun _ g u h => LWo.guardY (t := 17) u.1 h13 rfl rfl (LWo.vcall rfl (av3 u.2.1 rfl rfl) (c_spec_l1In _ _ _ _ e15) (.same (.same (.same (.nil)))) (hn := .nil (zn g)))) ?_
        refine dq 24 rfl (fun _ g u h => LWo.guardY (t := 17) u.1 h13 rfl rfl (LWo.not u.2.1 (hn := .nil (zn g)))) ?_
        refine dq 25 rfl (fun _ g u h => LWo.pickFM (e_bool (!x15)) u.1 h13 u.2.1 (hn := .nil (zn g))) ?_
        refine dq 26 rfl (fun _ g u h => LWo.move (e_bool (!x15)) u.1 (hn := .nil (zn g))) ?_
        refine dq 27 rfl (fun _ g u h => LWo.guardY (t := 26) u.2.1 h16 rfl rfl (LWo.move (e_int t3) u.1 (hn := .nil (zn g)))) ?_
        refine dq 28 rfl (fun _ g u h => LWo.guardY (t := 26) u.1 h16 rfl rfl (LWo.int _ u.2.1 rfl rfl (hn := .nil (zn g)))) ?_
        refine dq 29 rfl (fun _ g u h => LWo.guardY (t := 26) u.1 h16 rfl rfl (LWo.move (e_bool (decide (t3 > (0 : Int)))) u.2.1 (hn := .nil (zn g)))) ?_
        refine dq 30 rfl (fun _ g u h => LWo.guardNU (t := 29) u.2.1 h17 rfl rfl rfl rfl rfl (.nil (zn g))) ?_
        refine dq 31 rfl (fun _ g u h => LWo.guardNU (t := 29) u.2.1 h17 rfl rfl rfl rfl rfl (.nil (zn g))) ?_
        refine dq 32 rfl (fun _ g u h => LWo.guardNU (t := 29) u.1 h17 rfl rfl rfl rfl rfl (.nil (zn g))) ?_
        refine dq 33 rfl (fun _ g u h => LWo.guardNU (t := 29) u.1 h17 rfl rfl rfl rfl rfl (.nil (zn g))) ?_
        refine dq 34 rfl (fun _ g u h => LWo.guardNU (t := 29) u.1 h17 rfl rfl rfl rfl rfl (.nil (zn g))) ?_
        refine dq 35 rfl (fun _ g u h => LWo.guardNU (t := 29) u.2.1 h17 rfl rfl rfl rfl rfl (.nil (zn g))) ?_
        refine dq 36 rfl (fun _ g u h => LWo.guardNU (t := 29) u.2.1 h17 rfl rfl rfl rfl rfl (.nil (zn g))) ?_
        refine dq 37 rfl (fun _ g u h => LWo.guardNU (t := 29) u.1 h17 rfl rfl rfl rfl rfl (.nil (zn g))) ?_
        refine dq 38 rfl (fun _ g u h => LWo.guardNU (t := 29) u.1 h17 rfl rfl rfl rfl rfl (.nil (zn g))) ?_
        refine dq 39 rfl (fun _ g u h => LWo.guardNU (t := 29) u.1 h17 rfl rfl rfl rfl rfl (.nil (zn g))) ?_
        refine dq 40 rfl (fun _ g u h => LWo.guardNU (t := 29) u.1 h17 rfl rfl rfl rfl rfl (.nil (zn g))) ?_
        refine dq 41 rfl (fun _ g u h => LWo.guardY (t := 26) u.1 h16 rfl rfl (LWo.pickFM (e_bool false) u.2.1 h17 rfl (hn := .nil (zn g)))) ?_
        refine dq 42 rfl (fun _ g u h => LWo.pickFM (e_bool false) u.1 h16 u.2.1 (hn := .nil (zn g))) ?_
        refine ⟨rfl, by kernel_rfl, hN10 (t0, t3, false) _ ⟨rfl, rfl, rfl, trivial⟩ trivial h⟩
   ·have h := bF h8 h
    refine LWP.exit (hN2 () _ trivial trivial h)

def m_spec_l26Has_j1  : Option Bool :=
  some false
def m_spec_l26Has_l1 : Nat → (List S_impl_Pair) → S_impl_Pair → Int → Option Bool
  | 0, _, _, _ => none
  | n1 + 1, t0, t3, t5 =>
    bif decide (t5 < (t0.length : Int)) then ((at? t0 t5).bind fun x11 =>
    bif (decide (x11 = t3)) then (some true)
    else ((ckI (t5 + (1 : Int))).bind fun x14 =>
    (m_spec_l26Has_l1  n1) t0 t3 x14))
    else (m_spec_l26Has_j1  )
def m_spec_l26Has (a0 : (List S_impl_Pair)) (a1 : S_impl_Pair) : Option Bool :=
  m_spec_l26Has_l1  (((a0.length : Int) - (0 : Int)).toNat + 1) a0 a1 (0 : Int)
theorem c_spec_l26Has (a0 : (List S_impl_Pair)) (a1 : S_impl_Pair) (r : Bool) (h : m_spec_l26Has a0 a1 = some r) : Ret Try.prog f_spec_l26Has [e_Limpl_Pair a0, e_impl_Pair a1] (e_bool r) := by
  refine Does.goG [] F_spec_l26Has rfl e_spec_l26Has n_spec_l26Has rfl (rvs := [.tmp 4]) rfl rfl ?_
  intro w0 ok0 lent ρ0
  refine LWP.seq_k fun N1 hN1 => ?_
  refine LWP.region (l := [_,_]) ?_
  refine LWo.boxF (e_impl_Pair a1) rfl rfl rfl (hn := ?_)
  refine LWo.assign (e_bool false) rfl (hn := ?_)
  refine LWo.nil (hN1 _ ?_)
  refine LWP.join (α := Unit) (fun z : Unit => []) (fun z : Unit => []) (fun z : Unit => m_spec_l26Has_j1  ) r (fun _ => by simp [hkeys]) ?_ ?_
  ·rintro _ h
   replace h : m_spec_l26Has_j1   = some _ := h
   refine LWP.seq_k fun N15 hN15 => ?_
   refine LWP.region (l := [_]) ?_
   refine LWo.assign (e_bool false) rfl (hn := ?_)
   refine LWo.nil (hN15 _ ?_)
   obtain rfl := Option.some.inj h
   refine LWP.ret (QG.mk (.inr rfl) (.cons (.tmp (x := (e_bool false)) rfl) (.nil)) (RetOK.one0 (.pure rfl) (by decide)) rfl rfl)
  ·intro N2 hN2
   refine LWP.seq_k fun N3 hN3 => ?_
   refine LWP.region (l := [_]) ?_
   refine LWo.assign (e_int (0 : Int)) rfl (hn := ?_)
   refine LWo.nil (hN3 _ ?_)
   refine LWP.block ?_
   refine LWP.loopM (α := (List S_impl_Pair) × S_impl_Pair × Int) (fun z : (List S_impl_Pair) × S_impl_Pair × Int => [(0, (e_Limpl_Pair z.1)), (3, (.fp (e_impl_Pair z.2.1).cells)), (5, (e_int z.2.2))]) (fun z : (List S_impl_Pair) × S_impl_Pair × Int => []) (fun n1 (z : (List S_impl_Pair) × S_impl_Pair × Int) => m_spec_l26Has_l1  n1 z.1 z.2.1 z.2.2) r _ (a0, a1, (0 : Int)) h (fun _ => rfl) (fun _ => by simp [hkeys]) ⟨rfl, rfl, rfl, trivial⟩ trivial ?_
   rintro n1 ⟨t0, t3, t5⟩ h N4 hN4
   replace h : m_spec_l26Has_l1  (n1 + 1) t0 t3 t5 = some _ := h
   refine LWP.seq_k fun N6 hN6 => ?_
   refine LWP.seq_k fun N7 hN7 => ?_
   refine LWP.region (l := [_,_,_,_]) ?_
   refine LWo.move (e_int t5) rfl (hn := ?_)
   refine LWo.move (e_Limpl_Pair t0) rfl (hn := ?_)
   refine LWo.lenM (f := e_impl_Pair) (l := t0) u_Limpl_Pair rfl (hn := ?_)
   refine LWo.int _ rfl rfl rfl (hn := ?_)
   refine LWo.nil (hN7 _ ?_)
   refine LWP.cond_split rfl (fun h8 => ?_) (fun h8 => ?_)
   ·have h := bT h8 h
    refine LWP.skip (hN6 _ ?_)
    refine LWP.seq_k fun N9 hN9 => ?_
    refine LWP.block ?_
    refine LWP.seq_k fun N10 hN10 => ?_
    refine bk h fun x11 e11 h => ?_
    refine LWP.drawF (l := [_,_,_,_,_,_]) [] [0, 3, 5] [([0], []), ([5], []), ([12, 13], []), ([14], []), ([3], []), ([15, 16], [])] [0, 3, 5, 17] [] mixed (by kernel_rfl) rfl (by decide) ?_
    refine dq 12 rfl (fun _ g u h => LWo.move (e_Limpl_Pair t0) u.1 (hn := .nil (zn g))) ?_
    refine dq 13 rfl (fun _ g u h => LWo.move (e_int t5) u.1 (hn := .nil (zn g))) ?_
    refine dq 14 rfl (fun _ g u h => LWo.indexM (f := e_impl_Pair) e11 u_Limpl_Pair s_impl_Pair u.1 u.2.1 (hn := .nil (zn g))) ?_
    refine dq 15 rfl (fun _ g u h => LWo.loadN ((e_impl_Pair x11)).cells g_impl_Pair s_impl_Pair u.1 (Nat.le_of_ble_eq_true rfl) rfl (hn := .nil (zn g))) ?_
    refine dq 16 rfl (fun _ g u h => LWo.loadN ((e_impl_Pair t3)).cells g_impl_Pair s_impl_Pair u.1 (Nat.le_of_ble_eq_true rfl) rfl (hn := .nil (zn g))) ?_
    refine dq 17 rfl (fun _ g u h => LWo.eq_impl_Pair _ _ u.1 u.2.1 (hn := .nil (zn g))) ?_
    refine ⟨rfl, by kernel_rfl, hN10 _ ?_⟩
    refine LWP.cond_split rfl (fun h12 => ?_) (fun h12 => ?_)
    ·have h := bT h12 h
     refine LWP.seq_k fun N13 hN13 => ?_
     refine LWP.region (l := [_]) ?_
     refine LWo.assign (e_bool true) rfl (hn := ?_)
     refine LWo.nil (hN13 _ ?_)
     obtain rfl := Option.some.inj h
     refine LWP.ret (QG.mk (.inr rfl) (.cons (.tmp (x := (e_bool true)) rfl) (.nil)) (RetOK.one0 (.pure rfl) (by decide)) rfl rfl)
    ·have h := bF h12 h
     refine LWP.skip (hN9 _ ?_)
     refine LWP.region (l := [_,_,_]) ?_
     refine LWo.move (e_int t5) rfl (hn := ?_)
     refine bk h fun x14 e14 h => ?_
     refine LWo.int _ rfl rfl (add_ck e14) (hn := ?_)
     refine LWo.assign (e_int x14) rfl (hn := ?_)
     refine LWo.nil (hN4 (t0, t3, x14) _ ⟨rfl, rfl, rfl, trivial⟩ trivial h)
   ·have h := bF h8 h
    refine LWP.exit (hN2 () _ trivial trivial h)

def m_spec_l26With_j4 (o1009 : (List S_impl_Pair)) : Option (List S_impl_Pair) :=
  some o1009
def m_spec_l26With_j3 (k1 : (List S_impl_Pair) → (List S_impl_Pair) → Int → (List S_impl_Pair) → Option (List S_impl_Pair)) (t0 : (List S_impl_Pair)) (t1 : (List S_impl_Pair)) (t6 : Int) (o1009 : (List S_impl_Pair)) : Option (List S_impl_Pair) :=
  (ckI (t6 + (1 : Int))).bind fun x27 =>
  k1 t0 t1 x27 o1009
def m_spec_l26With_j2 (k1 : (List S_impl_Pair) → (List S_impl_Pair) → Int → (List S_impl_Pair) → Option (List S_impl_Pair)) (k2 : (List S_impl_Pair) → (List S_impl_Pair) → Int → Int → (List S_impl_Pair) → Option (List S_impl_Pair)) (t0 : (List S_impl_Pair)) (t1 : (List S_impl_Pair)) (t6 : Int) (t7 : Int) (o1009 : (List S_impl_Pair)) : Option (List S_impl_Pair) :=
  (ckI (t7 + (1 : Int))).bind fun x26 =>
  k2 t0 t1 t6 x26 o1009
def m_spec_l26With_j1 (k1 : (List S_impl_Pair) → (List S_impl_Pair) → Int → (List S_impl_Pair) → Option (List S_impl_Pair)) (k2 : (List S_impl_Pair) → (List S_impl_Pair) → Int → Int → (List S_impl_Pair) → Option (List S_impl_Pair)) (t0 : (List S_impl_Pair)) (t1 : (List S_impl_Pair)) (t6 : Int) (t7 : Int) (t28 : Bool) (o8 : S_impl_Pair) (o1009 : (List S_impl_Pair)) : Option (List S_impl_Pair) :=
  bif t28 then ((app? o1009 ([o8] : (List S_impl_Pair))).bind fun x25 =>
    m_spec_l26With_j2  k1 k2 t0 t1 t6 t7 x25)
  else (m_spec_l26With_j2  k1 k2 t0 t1 t6 t7 o1009)
def m_spec_l26With_l2 (k1 : (List S_impl_Pair) → (List S_impl_Pair) → Int → (List S_impl_Pair) → Option (List S_impl_Pair)) : Nat → (List S_impl_Pair) → (List S_impl_Pair) → Int → Int → (List S_impl_Pair) → Option (List S_impl_Pair)
  | 0, _, _, _, _, _ => none
  | n2 + 1, t0, t1, t6, t7, o1009 =>
    bif decide (t7 < (7 : Int)) then (lt ((⟨t6, t7⟩ : S_impl_Pair)) fun y19 =>
    (m_spec_l26Has t0 y19).bind fun x21 =>
    bif x21 then (m_spec_l26With_j1  k1 (m_spec_l26With_l2  k1 n2) t0 t1 t6 t7 true y19 o1009)
    else ((m_spec_l26Has t1 y19).bind fun x23 =>
      m_spec_l26With_j1  k1 (m_spec_l26With_l2  k1 n2) t0 t1 t6 t7 x23 y19 o1009))
    else (m_spec_l26With_j3  k1 t0 t1 t6 o1009)
def m_spec_l26With_l1 : Nat → (List S_impl_Pair) → (List S_impl_Pair) → Int → (List S_impl_Pair) → Option (List S_impl_Pair)
  | 0, _, _, _, _ => none
  | n1 + 1, t0, t1, t6, o1009 =>
    bif decide (t6 < (7 : Int)) then (m_spec_l26With_l2  (m_spec_l26With_l1  n1) (((7 : Int) - (0 : Int)).toNat + 1) t0 t1 t6 (0 : Int) o1009)
    else (m_spec_l26With_j4  o1009)
def m_spec_l26With (a0 : (List S_impl_Pair)) (a1 : (List S_impl_Pair)) : Option (List S_impl_Pair) :=
  m_spec_l26With_l1  (((7 : Int) - (0 : Int)).toNat + 1) a0 a1 (0 : Int) ([] : (List S_impl_Pair))
theorem c_spec_l26With (a0 : (List S_impl_Pair)) (a1 : (List S_impl_Pair)) (r : (List S_impl_Pair)) (h : m_spec_l26With a0 a1 = some r) : Ret Try.prog f_spec_l26With [e_Limpl_Pair a0, e_Limpl_Pair a1] (.nw 2 (r.map e_impl_Pair) false) := by
  refine Does.goG [] F_spec_l26With rfl e_spec_l26With n_spec_l26With rfl (rvs := [.tmp 4]) rfl rfl ?_
  intro w0 ok0 lent ρ0
  refine LWP.seq_k fun N1 hN1 => ?_
  refine LWP.region (l := [_]) ?_
  refine LWo.assign _ rfl (hn := ?_)
  refine LWo.ownNil 4 1004 2 rfl rfl rfl ?_
  refine LWo.known 4 (.own 1004 0 ([] : (List S_impl_Pair)).length) rfl ?_
  refine LWo.nil (hN1 _ ?_)
  refine LWP.seq_k fun N2 hN2 => ?_
  refine LWP.region (l := [_,_]) ?_
  refine LWo.lit0 1009 u_Limpl_Pair s_impl_Pair z_impl_Pair (hn := ?_)
  refine LWo.known 9 (.own 1009 0 ([] : (List S_impl_Pair)).length) rfl ?_
  refine LWo.assign (.own 1009 0 (([] : (List S_impl_Pair))).length) rfl (hn := ?_)
  refine LWo.nil (hN2 _ ?_)
  refine LWP.join (α := (List S_impl_Pair)) (fun z : (List S_impl_Pair) => [(5, (.own 1009 0 (z).length))]) (fun z : (List S_impl_Pair) => [(1009, (lob 2 e_impl_Pair z))]) (fun z : (List S_impl_Pair) => m_spec_l26With_j4  z) r (fun _ => by simp [hkeys]) ?_ ?_
  ·rintro o1009 h
   replace h : m_spec_l26With_j4  o1009 = some _ := h
   refine LWP.seq_k fun N28 hN28 => ?_
   refine LWP.region (l := [_,_]) ?_
   refine LWo.move (.own 1009 0 (o1009).length) rfl (hn := ?_)
   refine LWo.assign (.own 1009 0 (o1009).length) rfl (hn := ?_)
   refine LWo.nil (hN28 _ ?_)
   obtain rfl := Option.some.inj h
   refine LWP.ret (QG.mk (.inr rfl) (.cons (.tmp (x := (.own 1009 0 (o1009).length)) rfl) (.nil)) (RetOK.one0 (.nwM rfl rfl) (by decide)) rfl rfl)
  ·intro N3 hN3
   refine LWP.seq_k fun N4 hN4 => ?_
   refine LWP.region (l := [_]) ?_
   refine LWo.assign (e_int (0 : Int)) rfl (hn := ?_)
   refine LWo.nil (hN4 _ ?_)
   refine LWP.block ?_
   refine LWP.loopM (α := (List S_impl_Pair) × (List S_impl_Pair) × Int × (List S_impl_Pair)) (fun z : (List S_impl_Pair) × (List S_impl_Pair) × Int × (List S_impl_Pair) => [(0, (e_Limpl_Pair z.1)), (1, (e_Limpl_Pair z.2.1)), (5, (.own 1009 0 (z.2.2.2).length)), (6, (e_int z.2.2.1))]) (fun z : (List S_impl_Pair) × (List S_impl_Pair) × Int × (List S_impl_Pair) => [(1009, (lob 2 e_impl_Pair z.2.2.2))]) (fun n1 (z : (List S_impl_Pair) × (List S_impl_Pair) × Int × (List S_impl_Pair)) => m_spec_l26With_l1  n1 z.1 z.2.1 z.2.2.1 z.2.2.2) r _ (a0, a1, (0 : Int), ([] : (List S_impl_Pair))) h (fun _ => rfl) (fun _ => by simp [hkeys]) ⟨rfl, rfl, rfl, rfl, trivial⟩ ⟨rfl, trivial⟩ ?_
   rintro n1 ⟨t0, t1, t6, o1009⟩ h N5 hN5
   replace h : m_spec_l26With_l1  (n1 + 1) t0 t1 t6 o1009 = some _ := h
   refine LWP.seq_k fun N7 hN7 => ?_
   refine LWP.seq_k fun N8 hN8 => ?_
   refine LWP.region (l := [_,_]) ?_
   refine LWo.move (e_int t6) rfl (hn := ?_)
   refine LWo.int _ rfl rfl rfl (hn := ?_)
   refine LWo.nil (hN8 _ ?_)
   refine LWP.cond_split rfl (fun h9 => ?_) (fun h9 => ?_)
   ·have h := bT h9 h
    refine LWP.skip (hN7 _ ?_)
    refine LWP.join (α := (List S_impl_Pair) × (List S_impl_Pair) × Int × (List S_impl_Pair)) (fun z : (List S_impl_Pair) × (List S_impl_Pair) × Int × (List S_impl_Pair) => [(0, (e_Limpl_Pair z.1)), (1, (e_Limpl_Pair z.2.1)), (5, (.own 1009 0 (z.2.2.2).length)), (6, (e_int z.2.2.1))]) (fun z : (List S_impl_Pair) × (List S_impl_Pair) × Int × (List S_impl_Pair) => [(1009, (lob 2 e_impl_Pair z.2.2.2))]) (fun z : (List S_impl_Pair) × (List S_impl_Pair) × Int × (List S_impl_Pair) => m_spec_l26With_j3  (m_spec_l26With_l1  n1) z.1 z.2.1 z.2.2.1 z.2.2.2) r (fun _ => by simp [hkeys]) ?_ ?_
    ·rintro ⟨t0, t1, t6, o1009⟩ h
     replace h : m_spec_l26With_j3  (m_spec_l26With_l1  n1) t0 t1 t6 o1009 = some _ := h
     refine LWP.region (l := [_,_,_]) ?_
     refine LWo.move (e_int t6) rfl (hn := ?_)
     refine bk h fun x27 e27 h => ?_
     refine LWo.int _ rfl rfl (add_ck e27) (hn := ?_)
     refine LWo.assign (e_int x27) rfl (hn := ?_)
     refine LWo.nil (hN5 (t0, t1, x27, o1009) _ ⟨rfl, rfl, rfl, rfl, trivial⟩ ⟨rfl, trivial⟩ h)
    ·intro N10 hN10
     refine LWP.block ?_
     refine LWP.seq_k fun N11 hN11 => ?_
     refine LWP.region (l := [_]) ?_
     refine LWo.assign (e_int (0 : Int)) rfl (hn := ?_)
     refine LWo.nil (hN11 _ ?_)
     refine LWP.block ?_
     refine LWP.loopM (α := (List S_impl_Pair) × (List S_impl_Pair) × Int × Int × (List S_impl_Pair)) (fun z : (List S_impl_Pair) × (List S_impl_Pair) × Int × Int × (List S_impl_Pair) => [(0, (e_Limpl_Pair z.1)), (1, (e_Limpl_Pair z.2.1)), (5, (.own 1009 0 (z.2.2.2.2).length)), (6, (e_int z.2.2.1)), (7, (e_int z.2.2.2.1))]) (fun z : (List S_impl_Pair) × (List S_impl_Pair) × Int × Int × (List S_impl_Pair) => [(1009, (lob 2 e_impl_Pair z.2.2.2.2))]) (fun n2 (z : (List S_impl_Pair) × (List S_impl_Pair) × Int × Int × (List S_impl_Pair)) => m_spec_l26With_l2  (m_spec_l26With_l1  n1) n2 z.1 z.2.1 z.2.2.1 z.2.2.2.1 z.2.2.2.2) r _ (t0, t1, t6, (0 : Int), o1009) h (fun _ => rfl) (fun _ => by simp [hkeys]) ⟨rfl, rfl, rfl, rfl, rfl, trivial⟩ ⟨rfl, trivial⟩ ?_
     rintro n2 ⟨t0, t1, t6, t7, o1009⟩ h N12 hN12
     replace h : m_spec_l26With_l2  (m_spec_l26With_l1  n1) (n2 + 1) t0 t1 t6 t7 o1009 = some _ := h
     refine LWP.seq_k fun N14 hN14 => ?_
     refine LWP.seq_k fun N15 hN15 => ?_
     refine LWP.region (l := [_,_]) ?_
     refine LWo.move (e_int t7) rfl (hn := ?_)
     refine LWo.int _ rfl rfl rfl (hn := ?_)
     refine LWo.nil (hN15 _ ?_)
     refine LWP.cond_split rfl (fun h16 => ?_) (fun h16 => ?_)
     ·have h := bT h16 h
      refine LWP.skip (hN14 _ ?_)
      refine LWP.join (α := (List S_impl_Pair) × (List S_impl_Pair) × Int × Int × (List S_impl_Pair)) (fun z : (List S_impl_Pair) × (List S_impl_Pair) × Int × Int × (List S_impl_Pair) => [(0, (e_Limpl_Pair z.1)), (1, (e_Limpl_Pair z.2.1)), (5, (.own 1009 0 (z.2.2.2.2).length)), (6, (e_int z.2.2.1)), (7, (e_int z.2.2.2.1))]) (fun z : (List S_impl_Pair) × (List S_impl_Pair) × Int × Int × (List S_impl_Pair) => [(1009, (lob 2 e_impl_Pair z.2.2.2.2))]) (fun z : (List S_impl_Pair) × (List S_impl_Pair) × Int × Int × (List S_impl_Pair) => m_spec_l26With_j2  (m_spec_l26With_l1  n1) (m_spec_l26With_l2  (m_spec_l26With_l1  n1) n2) z.1 z.2.1 z.2.2.1 z.2.2.2.1 z.2.2.2.2) r (fun _ => by simp [hkeys]) ?_ ?_
      ·rintro ⟨t0, t1, t6, t7, o1009⟩ h
       replace h : m_spec_l26With_j2  (m_spec_l26With_l1  n1) (m_spec_l26With_l2  (m_spec_l26With_l1  n1) n2) t0 t1 t6 t7 o1009 = some _ := h
       refine LWP.region (l := [_,_,_]) ?_
       refine LWo.move (e_int t7) rfl (hn := ?_)
       refine bk h fun x26 e26 h => ?_
       refine LWo.int _ rfl rfl (add_ck e26) (hn := ?_)
       refine LWo.assign (e_int x26) rfl (hn := ?_)
       refine LWo.nil (hN12 (t0, t1, t6, x26, o1009) _ ⟨rfl, rfl, rfl, rfl, rfl, trivial⟩ ⟨rfl, trivial⟩ h)
      ·intro N17 hN17
       refine LWP.block ?_
       refine LWP.seq_k fun N18 hN18 => ?_
       refine LWP.region (l := [_,_,_,_,_]) ?_
       refine LWo.move (e_int t6) rfl (hn := ?_)
       refine LWo.move (e_int t7) rfl (hn := ?_)
       refine LWo.build_impl_Pair (parts := [_, _]) (⟨t6, t7⟩ : S_impl_Pair) rfl rfl rfl .refl (hn := ?_)
       refine LWo.alloc_impl_Pair 8 rfl (hn := ?_)
       refine lk h fun y19 e19 h => ?_
       refine LWo.storeW (y := (⟨(0 : Int), (0 : Int)⟩ : S_impl_Pair)) y19 s_impl_Pair rfl rfl rfl rfl rfl rfl (by rw [e19]; exact .refl) rfl (hn := ?_)
       refine LWo.nil (hN18 _ ?_)
       refine LWP.join (α := (List S_impl_Pair) × (List S_impl_Pair) × Int × Int × Bool × S_impl_Pair × (List S_impl_Pair)) (fun z : (List S_impl_Pair) × (List S_impl_Pair) × Int × Int × Bool × S_impl_Pair × (List S_impl_Pair) => [(0, (e_Limpl_Pair z.1)), (1, (e_Limpl_Pair z.2.1)), (5, (.own 1009 0 (z.2.2.2.2.2.2).length)), (6, (e_int z.2.2.1)), (7, (e_int z.2.2.2.1)), (8, (.ptr 8 0 0)), (28, (e_bool z.2.2.2.2.1))]) (fun z : (List S_impl_Pair) × (List S_impl_Pair) × Int × Int × Bool × S_impl_Pair × (List S_impl_Pair) => [(8, (vob 2 e_impl_Pair z.2.2.2.2.2.1)), (1009, (lob 2 e_impl_Pair z.2.2.2.2.2.2))]) (fun z : (List S_impl_Pair) × (List S_impl_Pair) × Int × Int × Bool × S_impl_Pair × (List S_impl_Pair) => m_spec_l26With_j1  (m_spec_l26With_l1  n1) (m_spec_l26With_l2  (m_spec_l26With_l1  n1) n2) z.1 z.2.1 z.2.2.1 z.2.2.2.1 z.2.2.2.2.1 z.2.2.2.2.2.1 z.2.2.2.2.2.2) r (fun _ => by simp [hkeys]) ?_ ?_
       ·rintro ⟨t0, t1, t6, t7, t28, o8, o1009⟩ h
        replace h : m_spec_l26With_j1  (m_spec_l26With_l1  n1) (m_spec_l26With_l2  (m_spec_l26With_l1  n1) n2) t0 t1 t6 t7 t28 o8 o1009 = some _ := h
        refine LWP.cond_split rfl (fun h24 => ?_) (fun h24 => ?_)
        ·have h := bT h24 h
         refine LWP.region (l := [_,_,_,_,_]) ?_
         refine LWo.move (.own 1009 0 (o1009).length) rfl (hn := ?_)
         refine LWo.loadVN ((e_impl_Pair o8)).cells  g_impl_Pair s_impl_Pair rfl rfl rfl rfl (hn := ?_)
         refine LWo.lit (ops := [_]) [(e_impl_Pair o8)] u_Limpl_Pair s_impl_Pair z_impl_Pair rfl rfl rfl rfl rfl rfl (hn := ?_)
         refine bk h fun x25 e25 h => ?_
         refine LWo.appendM (f := e_impl_Pair) e25 rfl u_Limpl_Pair u_Limpl_Pair (fun _ h => by cases h) s_impl_Pair i_impl_Pair rfl rfl rfl (.sl rfl) rfl rfl (hn := ?_)
         refine LWo.assign (.own 1009 0 (x25).length) rfl (hn := ?_)
         refine LWo.nil (hN17 (t0, t1, t6, t7, x25) _ ⟨rfl, rfl, rfl, rfl, rfl, trivial⟩ ⟨rfl, trivial⟩ h)
        ·have h := bF h24 h
         refine LWP.skip (hN17 (t0, t1, t6, t7, o1009) _ ⟨rfl, rfl, rfl, rfl, rfl, trivial⟩ ⟨rfl, trivial⟩ h)
       ·intro N20 hN20
        refine LWP.region (l := [_,_,_,_,_,_,_,_]) ?_
        refine LWo.move (e_Limpl_Pair t0) rfl (hn := ?_)
        refine LWo.loadVN ((e_impl_Pair y19)).cells  g_impl_Pair s_impl_Pair rfl rfl rfl rfl (hn := ?_)
        refine bk h fun x21 e21 h => ?_
        refine LWo.vcall rfl rfl (c_spec_l26Has _ _ _ e21) (.same (.same (.nil))) (hn := ?_)
        refine LWo.move (e_bool x21) rfl (hn := ?_)
        refine LWo.byCases (t := 24) _ rfl (fun h22 => ?_) (fun h22 => ?_)
        ·have h := bT h22 h
         refine LWo.guardNU (t := 24) rfl h22 rfl rfl rfl rfl rfl ?_
         refine LWo.guardNU (t := 24) rfl h22 rfl rfl rfl rfl rfl ?_
         refine LWo.guardNU (t := 24) rfl h22 rfl rfl rfl rfl rfl ?_
         refine LWo.pickTM (e_bool true) rfl h22 rfl (hn := ?_)
         refine LWo.nil (hN20 (t0, t1, t6, t7, true, y19, o1009) _ ⟨rfl, rfl, rfl, rfl, rfl, rfl, rfl, trivial⟩ ⟨rfl, rfl, trivial⟩ h)
        ·have h := bF h22 h
         refine LWo.guardY (t := 24) rfl h22 rfl rfl ?_
         refine LWo.move (e_Limpl_Pair t1) rfl (hn := ?_)
         refine LWo.guardY (t := 24) rfl h22 rfl rfl ?_
         refine LWo.loadVN ((e_impl_Pair y19)).cells  g_impl_Pair s_impl_Pair rfl rfl rfl rfl (hn := ?_)
         refine bk h fun x23 e23 h => ?_
         refine LWo.guardY (t := 24) rfl h22 rfl rfl ?_
         refine LWo.vcall rfl rfl (c_spec_l26Has _ _ _ e23) (.same (.same (.nil))) (hn := ?_)
         refine LWo.pickFM (e_bool x23) rfl h22 rfl (hn := ?_)
         refine LWo.nil (hN20 (t0, t1, t6, t7, x23, y19, o1009) _ ⟨rfl, rfl, rfl, rfl, rfl, rfl, rfl, trivial⟩ ⟨rfl, rfl, trivial⟩ h)
     ·have h := bF h16 h
      refine LWP.exit (hN10 (t0, t1, t6, o1009) _ ⟨rfl, rfl, rfl, rfl, trivial⟩ ⟨rfl, trivial⟩ h)
   ·have h := bF h9 h
    refine LWP.exit (hN3 o1009 _ ⟨rfl, trivial⟩ ⟨rfl, trivial⟩ h)

def m_spec_PairsJoined_j4 (o1008 : (List S_impl_Pair)) : Option (List S_impl_Pair) :=
  (m_spec_l26With ([] : (List S_impl_Pair)) o1008).bind fun x35 =>
  some x35
def m_spec_PairsJoined_j3 (k1 : (List S_impl_Pair) → (List S_impl_Pair) → Int → (List S_impl_Pair) → Option (List S_impl_Pair)) (t0 : (List S_impl_Pair)) (t1 : (List S_impl_Pair)) (t6 : Int) (o1008 : (List S_impl_Pair)) : Option (List S_impl_Pair) :=
  (ckI (t6 + (1 : Int))).bind fun x33 =>
  k1 t0 t1 x33 o1008
def m_spec_PairsJoined_j2 (k1 : (List S_impl_Pair) → (List S_impl_Pair) → Int → (List S_impl_Pair) → Option (List S_impl_Pair)) (k2 : (List S_impl_Pair) → (List S_impl_Pair) → Int → Int → (List S_impl_Pair) → Option (List S_impl_Pair)) (t0 : (List S_impl_Pair)) (t1 : (List S_impl_Pair)) (t6 : Int) (t7 : Int) (o1008 : (List S_impl_Pair)) : Option (List S_impl_Pair) :=
  (ckI (t7 + (1 : Int))).bind fun x32 =>
  k2 t0 t1 t6 x32 o1008
def m_spec_PairsJoined_l2 (k1 : (List S_impl_Pair) → (List S_impl_Pair) → Int → (List S_impl_Pair) → Option (List S_impl_Pair)) : Nat → (List S_impl_Pair) → (List S_impl_Pair) → Int → Int → (List S_impl_Pair) → Option (List S_impl_Pair)
  | 0, _, _, _, _, _ => none
  | n2 + 1, t0, t1, t6, t7, o1008 =>
    bif decide (t7 < (t1.length : Int)) then ((at? t0 t6).bind fun x26 =>
    (at? t1 t7).bind fun x27 =>
    bif (x26.To == x27.From) then ((at? t0 t6).bind fun x29 =>
      (at? t1 t7).bind fun x30 =>
      (app? o1008 ([(⟨x29.From, x30.To⟩ : S_impl_Pair)] : (List S_impl_Pair))).bind fun x31 =>
      m_spec_PairsJoined_j2  k1 (m_spec_PairsJoined_l2  k1 n2) t0 t1 t6 t7 x31)
    else (m_spec_PairsJoined_j2  k1 (m_spec_PairsJoined_l2  k1 n2) t0 t1 t6 t7 o1008))
    else (m_spec_PairsJoined_j3  k1 t0 t1 t6 o1008)
def m_spec_PairsJoined_l1 : Nat → (List S_impl_Pair) → (List S_impl_Pair) → Int → (List S_impl_Pair) → Option (List S_impl_Pair)
  | 0, _, _, _, _ => none
  | n1 + 1, t0, t1, t6, o1008 =>
    bif decide (t6 < (t0.length : Int)) then (m_spec_PairsJoined_l2  (m_spec_PairsJoined_l1  n1) (((t1.length : Int) - (0 : Int)).toNat + 1) t0 t1 t6 (0 : Int) o1008)
    else (m_spec_PairsJoined_j4  o1008)
def m_spec_PairsJoined_j1 (t0 : (List S_impl_Pair)) (t1 : (List S_impl_Pair)) (t16 : Bool) (o1008 : (List S_impl_Pair)) : Option (List S_impl_Pair) :=
  bif t16 then (some o1008)
  else (m_spec_PairsJoined_l1  (((t0.length : Int) - (0 : Int)).toNat + 1) t0 t1 (0 : Int) o1008)
def m_spec_PairsJoined (a0 : (List S_impl_Pair)) (a1 : (List S_impl_Pair)) : Option (List S_impl_Pair) :=
  (m_spec_PairsOk a0).bind fun x5 =>
  bif (!x5) then (m_spec_PairsJoined_j1  a0 a1 true ([] : (List S_impl_Pair)))
  else ((m_spec_PairsOk a1).bind fun x7 =>
    m_spec_PairsJoined_j1  a0 a1 (!x7) ([] : (List S_impl_Pair)))
theorem c_spec_PairsJoined (a0 : (List S_impl_Pair)) (a1 : (List S_impl_Pair)) (r : (List S_impl_Pair)) (h : m_spec_PairsJoined a0 a1 = some r) : Ret Try.prog f_spec_PairsJoined [e_Limpl_Pair a0, e_Limpl_Pair a1] (.nw 2 (r.map e_impl_Pair) false) := by
  refine Does.goG [] F_spec_PairsJoined rfl e_spec_PairsJoined n_spec_PairsJoined rfl (rvs := [.tmp 4]) rfl rfl ?_
  intro w0 ok0 lent ρ0
  refine LWP.seq_k fun N1 hN1 => ?_
  refine LWP.region (l := [_]) ?_
  refine LWo.assign _ rfl (hn := ?_)
  refine LWo.ownNil 4 1004 2 rfl rfl rfl ?_
  refine LWo.known 4 (.own 1004 0 ([] : (List S_impl_Pair)).length) rfl ?_
  refine LWo.nil (hN1 _ ?_)
  refine LWP.seq_k fun N2 hN2 => ?_
  refine LWP.region (l := [_,_]) ?_
  refine LWo.lit0 1008 u_Limpl_Pair s_impl_Pair z_impl_Pair (hn := ?_)
  refine LWo.known 8 (.own 1008 0 ([] : (List S_impl_Pair)).length) rfl ?_
  refine LWo.assign (.own 1008 0 (([] : (List S_impl_Pair))).length) rfl (hn := ?_)
  refine LWo.nil (hN2 _ ?_)
  refine LWP.seq_k fun N3 hN3 => ?_
  refine LWP.join (α := (List S_impl_Pair) × (List S_impl_Pair) × Bool × (List S_impl_Pair)) (fun z : (List S_impl_Pair) × (List S_impl_Pair) × Bool × (List S_impl_Pair) => [(0, (e_Limpl_Pair z.1)), (1, (e_Limpl_Pair z.2.1)), (5, (.own 1008 0 (z.2.2.2).length)), (16, (e_bool z.2.2.1))]) (fun z : (List S_impl_Pair) × (List S_impl_Pair) × Bool × (List S_impl_Pair) => [(1008, (lob 2 e_impl_Pair z.2.2.2))]) (fun z : (List S_impl_Pair) × (List S_impl_Pair) × Bool × (List S_impl_Pair) => m_spec_PairsJoined_j1  z.1 z.2.1 z.2.2.1 z.2.2.2) r (fun _ => by simp [hkeys]) ?_ ?_
  ·rintro ⟨t0, t1, t16, o1008⟩ h
   replace h : m_spec_PairsJoined_j1  t0 t1 t16 o1008 = some _ := h
   refine LWP.cond_split rfl (fun h8 => ?_) (fun h8 => ?_)
   ·have h := bT h8 h
    refine LWP.seq_k fun N9 hN9 => ?_
    refine LWP.region (l := [_,_]) ?_
    refine LWo.move (.own 1008 0 (o1008).length) rfl (hn := ?_)
    refine LWo.assign (.own 1008 0 (o1008).length) rfl (hn := ?_)
    refine LWo.nil (hN9 _ ?_)
    obtain rfl := Option.some.inj h
    refine LWP.ret (QG.mk (.inr rfl) (.cons (.tmp (x := (.own 1008 0 (o1008).length)) rfl) (.nil)) (RetOK.one0 (.nwM rfl rfl) (by decide)) rfl rfl)
   ·have h := bF h8 h
    refine LWP.skip (hN3 _ ?_)
    refine LWP.join (α := (List S_impl_Pair)) (fun z : (List S_impl_Pair) => [(5, (.own 1008 0 (z).length))]) (fun z : (List S_impl_Pair) => [(1008, (lob 2 e_impl_Pair z))]) (fun z : (List S_impl_Pair) => m_spec_PairsJoined_j4  z) r (fun _ => by simp [hkeys]) ?_ ?_
    ·rintro o1008 h
     replace h : m_spec_PairsJoined_j4  o1008 = some _ := h
     refine LWP.seq_k fun N34 hN34 => ?_
     refine LWP.region (l := [_,_,_,_]) ?_
     refine LWo.lit0 1055 u_Limpl_Pair s_impl_Pair z_impl_Pair (hn := ?_)
     refine LWo.known 55 (.own 1055 0 ([] : (List S_impl_Pair)).length) rfl ?_
     refine LWo.frzL (f := e_impl_Pair) (l := ([] : (List S_impl_Pair))) [55] 1055 rfl rfl ⟨rfl, trivial⟩ ?_
     refine LWo.move (.own 1008 0 (o1008).length) rfl (hn := ?_)
     refine bk h fun x35 e35 h => ?_
     refine LWo.frzL (f := e_impl_Pair) (l := o1008) [5, 56] 1008 rfl rfl ⟨rfl, rfl, trivial⟩ ?_
     refine LWo.ncall (e := e_impl_Pair) 1057 rfl rfl (c_spec_l26With _ _ _ e35) (.same (.same (.nil))) rfl (hn := ?_)
     refine LWo.assign (.own 1057 0 (x35).length) rfl (hn := ?_)
     refine LWo.nil (hN34 _ ?_)
     obtain rfl := Option.some.inj h
     refine LWP.ret (QG.mk (.inr rfl) (.cons (.tmp (x := (.own 1057 0 (x35).length)) rfl) (.nil)) (RetOK.one0 (.nwM rfl rfl) (by decide)) rfl rfl)
    ·intro N10 hN10
     refine LWP.seq_k fun N11 hN11 => ?_
     refine LWP.region (l := [_]) ?_
     refine LWo.assign (e_int (0 : Int)) rfl (hn := ?_)
     refine LWo.nil (hN11 _ ?_)
     refine LWP.block ?_
     refine LWP.loopM (α := (List S_impl_Pair) × (List S_impl_Pair) × Int × (List S_impl_Pair)) (fun z : (List S_impl_Pair) × (List S_impl_Pair) × Int × (List S_impl_Pair) => [(0, (e_Limpl_Pair z.1)), (1, (e_Limpl_Pair z.2.1)), (5, (.own 1008 0 (z.2.2.2).length)), (6, (e_int z.2.2.1))]) (fun z : (List S_impl_Pair) × (List S_impl_Pair) × Int × (List S_impl_Pair) => [(1008, (lob 2 e_impl_Pair z.2.2.2))]) (fun n1 (z : (List S_impl_Pair) × (List S_impl_Pair) × Int × (List S_impl_Pair)) => m_spec_PairsJoined_l1  n1 z.1 z.2.1 z.2.2.1 z.2.2.2) r _ (t0, t1, (0 : Int), o1008) h (fun _ => rfl) (fun _ => by simp [hkeys]) ⟨rfl, rfl, rfl, rfl, trivial⟩ ⟨rfl, trivial⟩ ?_
     rintro n1 ⟨t0, t1, t6, o1008⟩ h N12 hN12
     replace h : m_spec_PairsJoined_l1  (n1 + 1) t0 t1 t6 o1008 = some _ := h
     refine LWP.seq_k fun N14 hN14 => ?_
     refine LWP.seq_k fun N15 hN15 => ?_
     refine LWP.region (l := [_,_,_,_]) ?_
     refine LWo.move (e_int t6) rfl (hn := ?_)
     refine LWo.move (e_Limpl_Pair t0) rfl (hn := ?_)
     refine LWo.lenM (f := e_impl_Pair) (l := t0) u_Limpl_Pair rfl (hn := ?_)
     refine LWo.int _ rfl rfl rfl (hn := ?_)
     refine LWo.nil (hN15 _ ?_)
     refine LWP.cond_split rfl (fun h16 => ?_) (fun h16 => ?_)
     ·have h := bT h16 h
      refine LWP.skip (hN14 _ ?_)
      refine LWP.join (α := (List S_impl_Pair) × (List S_impl_Pair) × Int × (List S_impl_Pair)) (fun z : (List S_impl_Pair) × (List S_impl_Pair) × Int × (List S_impl_Pair) => [(0, (e_Limpl_Pair z.1)), (1, (e_Limpl_Pair z.2.1)), (5, (.own 1008 0 (z.2.2.2).length)), (6, (e_int z.2.2.1))]) (fun z : (List S_impl_Pair) × (List S_impl_Pair) × Int × (List S_impl_Pair) => [(1008, (lob 2 e_impl_Pair z.2.2.2))]) (fun z : (List S_impl_Pair) × (List S_impl_Pair) × Int × (List S_impl_Pair) => m_spec_PairsJoined_j3  (m_spec_PairsJoined_l1  n1) z.1 z.2.1 z.2.2.1 z.2.2.2) r (fun _ => by simp [hkeys]) ?_ ?_
      ·rintro ⟨t0, t1, t6, o1008⟩ h
       replace h : m_spec_PairsJoined_j3  (m_spec_PairsJoined_l1  n1) t0 t1 t6 o1008 = some _ := h
       refine LWP.region (l := [_,_,_]) ?_
       refine LWo.move (e_int t6) rfl (hn := ?_)
       refine bk h fun x33 e33 h => ?_
       refine LWo.int _ rfl rfl (add_ck e33) (hn := ?_)
       refine LWo.assign (e_int x33) rfl (hn := ?_)
       refine LWo.nil (hN12 (t0, t1, x33, o1008) _ ⟨rfl, rfl, rfl, rfl, trivial⟩ ⟨rfl, trivial⟩ h)
      ·intro N17 hN17
       refine LWP.block ?_
       refine LWP.seq_k fun N18 hN18 => ?_
       refine LWP.region (l := [_]) ?_
       refine LWo.assign (e_int (0 : Int)) rfl (hn := ?_)
       refine LWo.nil (hN18 _ ?_)
       refine LWP.block ?_
       refine LWP.loopM (α := (List S_impl_Pair) × (List S_impl_Pair) × Int × Int × (List S_impl_Pair)) (fun z : (List S_impl_Pair) × (List S_impl_Pair) × Int × Int × (List S_impl_Pair) => [(0, (e_Limpl_Pair z.1)), (1, (e_Limpl_Pair z.2.1)), (5, (.own 1008 0 (z.2.2.2.2).length)), (6, (e_int z.2.2.1)), (7, (e_int z.2.2.2.1))]) (fun z : (List S_impl_Pair) × (List S_impl_Pair) × Int × Int × (List S_impl_Pair) => [(1008, (lob 2 e_impl_Pair z.2.2.2.2))]) (fun n2 (z : (List S_impl_Pair) × (List S_impl_Pair) × Int × Int × (List S_impl_Pair)) => m_spec_PairsJoined_l2  (m_spec_PairsJoined_l1  n1) n2 z.1 z.2.1 z.2.2.1 z.2.2.2.1 z.2.2.2.2) r _ (t0, t1, t6, (0 : Int), o1008) h (fun _ => rfl) (fun _ => by simp [hkeys]) ⟨rfl, rfl, rfl, rfl, rfl, trivial⟩ ⟨rfl, trivial⟩ ?_
       rintro n2 ⟨t0, t1, t6, t7, o1008⟩ h N19 hN19
       replace h : m_spec_PairsJoined_l2  (m_spec_PairsJoined_l1  n1) (n2 + 1) t0 t1 t6 t7 o1008 = some _ := h
       refine LWP.seq_k fun N21 hN21 => ?_
       refine LWP.seq_k fun N22 hN22 => ?_
       refine LWP.region (l := [_,_,_,_]) ?_
       refine LWo.move (e_int t7) rfl (hn := ?_)
       refine LWo.move (e_Limpl_Pair t1) rfl (hn := ?_)
       refine LWo.lenM (f := e_impl_Pair) (l := t1) u_Limpl_Pair rfl (hn := ?_)
       refine LWo.int _ rfl rfl rfl (hn := ?_)
       refine LWo.nil (hN22 _ ?_)
       refine LWP.cond_split rfl (fun h23 => ?_) (fun h23 => ?_)
       ·have h := bT h23 h
        refine LWP.skip (hN21 _ ?_)
        refine LWP.join (α := (List S_impl_Pair) × (List S_impl_Pair) × Int × Int × (List S_impl_Pair)) (fun z : (List S_impl_Pair) × (List S_impl_Pair) × Int × Int × (List S_impl_Pair) => [(0, (e_Limpl_Pair z.1)), (1, (e_Limpl_Pair z.2.1)), (5, (.own 1008 0 (z.2.2.2.2).length)), (6, (e_int z.2.2.1)), (7, (e_int z.2.2.2.1))]) (fun z : (List S_impl_Pair) × (List S_impl_Pair) × Int × Int × (List S_impl_Pair) => [(1008, (lob 2 e_impl_Pair z.2.2.2.2))]) (fun z : (List S_impl_Pair) × (List S_impl_Pair) × Int × Int × (List S_impl_Pair) => m_spec_PairsJoined_j2  (m_spec_PairsJoined_l1  n1) (m_spec_PairsJoined_l2  (m_spec_PairsJoined_l1  n1) n2) z.1 z.2.1 z.2.2.1 z.2.2.2.1 z.2.2.2.2) r (fun _ => by simp [hkeys]) ?_ ?_
        ·rintro ⟨t0, t1, t6, t7, o1008⟩ h
         replace h : m_spec_PairsJoined_j2  (m_spec_PairsJoined_l1  n1) (m_spec_PairsJoined_l2  (m_spec_PairsJoined_l1  n1) n2) t0 t1 t6 t7 o1008 = some _ := h
         refine LWP.region (l := [_,_,_]) ?_
         refine LWo.move (e_int t7) rfl (hn := ?_)
         refine bk h fun x32 e32 h => ?_
         refine LWo.int _ rfl rfl (add_ck e32) (hn := ?_)
         refine LWo.assign (e_int x32) rfl (hn := ?_)
         refine LWo.nil (hN19 (t0, t1, t6, x32, o1008) _ ⟨rfl, rfl, rfl, rfl, rfl, trivial⟩ ⟨rfl, trivial⟩ h)
        ·intro N24 hN24
         refine LWP.block ?_
         refine LWP.seq_k fun N25 hN25 => ?_
         refine bk h fun x26 e26 h => ?_
         refine bk h fun x27 e27 h => ?_
         refine LWP.drawF (l := [_,_,_,_,_,_,_,_,_,_,_]) [] [0, 1, 5, 6, 7] [([0], []), ([6], []), ([30, 31], []), ([32], []), ([33], []), ([1], []), ([7], []), ([35, 36], []), ([37], []), ([38], []), ([34, 39], [])] [0, 1, 5, 6, 7, 40] [1008] mixed (by kernel_rfl) rfl (by decide) ?_
         refine dq 30 rfl (fun _ g u h => LWo.move (e_Limpl_Pair t0) u.1 (hn := .nil (zn g))) ?_
         refine dq 31 rfl (fun _ g u h => LWo.move (e_int t6) u.1 (hn := .nil (zn g))) ?_
         refine dq 32 rfl (fun _ g u h => LWo.indexM (f := e_impl_Pair) e26 u_Limpl_Pair s_impl_Pair u.1 u.2.1 (hn := .nil (zn g))) ?_
         refine dq 33 rfl (fun _ g u h => LWo.fieldAddr _ u_impl_Pair rfl s_int u.1 rfl (hn := .nil (zn g))) ?_
         refine dq 34 rfl (fun _ g u h => LWo.load1 (c := (e_int x26.To)) g_int u.1 (hn := .nil (zn g))) ?_
         refine dq 35 rfl (fun _ g u h => LWo.move (e_Limpl_Pair t1) u.1 (hn := .nil (zn g))) ?_
         refine dq 36 rfl (fun _ g u h => LWo.move (e_int t7) u.1 (hn := .nil (zn g))) ?_
         refine dq 37 rfl (fun _ g u h => LWo.indexM (f := e_impl_Pair) e27 u_Limpl_Pair s_impl_Pair u.1 u.2.1 (hn := .nil (zn g))) ?_
         refine dq 38 rfl (fun _ g u h => LWo.fieldAddr _ u_impl_Pair rfl s_int u.1 rfl (hn := .nil (zn g))) ?_
         refine dq 39 rfl (fun _ g u h => LWo.load1 (c := (e_int x27.From)) g_int u.1 (hn := .nil (zn g))) ?_
         refine dq 40 rfl (fun _ g u h => LWo.int _ u.1 u.2.1 rfl (hn := .nil (zn g))) ?_
         refine ⟨rfl, by kernel_rfl, hN25 _ ?_⟩
         refine LWP.cond_split rfl (fun h28 => ?_) (fun h28 => ?_)
         ·have h := bT h28 h
          refine bk h fun x29 e29 h => ?_
          refine bk h fun x30 e30 h => ?_
          refine bk h fun x31 e31 h => ?_
          refine LWP.drawF (l := [_,_,_,_,_,_,_,_,_,_,_,_,_,_,_]) [(1008, 1008)] [0, 1, 5, 6, 7] [([5], []), ([0], []), ([6], []), ([42, 43], []), ([44], []), ([45], []), ([1], []), ([7], []), ([47, 48], []), ([49], []), ([50], []), ([46, 51], []), ([52], []), ([41, 53], [1008]), ([54], [])] [0, 1, 5, 6, 7] [1008] mixed (by kernel_rfl) rfl (by decide) ?_
          refine dq 41 rfl (fun _ g u h => LWo.move (.own 1008 0 (o1008).length) u.1 (hn := .nil (zn g))) ?_
          refine dq 42 rfl (fun _ g u h => LWo.move (e_Limpl_Pair t0) u.1 (hn := .nil (zn g))) ?_
          refine dq 43 rfl (fun _ g u h => LWo.move (e_int t6) u.1 (hn := .nil (zn g))) ?_
          refine dq 44 rfl (fun _ g u h => LWo.indexM (f := e_impl_Pair) e29 u_Limpl_Pair s_impl_Pair u.1 u.2.1 (hn := .nil (zn g))) ?_
          refine dq 45 rfl (fun _ g u h => LWo.fieldAddr _ u_impl_Pair rfl s_int u.1 rfl (hn := .nil (zn g))) ?_
          refine dq 46 rfl (fun _ g u h => LWo.load1 (c := (e_int x29.From)) g_int u.1 (hn := .nil (zn g))) ?_
          refine dq 47 rfl (fun _ g u h => LWo.move (e_Limpl_Pair t1) u.1 (hn := .nil (zn g))) ?_
          refine dq 48 rfl (fun _ g u h => LWo.move (e_int t7) u.1 (hn := .nil (zn g))) ?_
          refine dq 49 rfl (fun _ g u h => LWo.indexM (f := e_impl_Pair) e30 u_Limpl_Pair s_impl_Pair u.1 u.2.1 (hn := .nil (zn g))) ?_
          refine dq 50 rfl (fun _ g u h => LWo.fieldAddr _ u_impl_Pair rfl s_int u.1 rfl (hn := .nil (zn g))) ?_
          refine dq 51 rfl (fun _ g u h => LWo.load1 (c := (e_int x30.To)) g_int u.1 (hn := .nil (zn g))) ?_
          refine dq 52 rfl (fun _ g u h => LWo.build_impl_Pair (parts := [_, _]) (⟨x29.From, x30.To⟩ : S_impl_Pair) (pv2 u.1 u.2.1) rfl rfl .refl (hn := .nil (zn g))) ?_
          refine dq 53 rfl (fun _ g u h => LWo.lit (ops := [_]) [(e_impl_Pair (⟨x29.From, x30.To⟩ : S_impl_Pair))] u_Limpl_Pair s_impl_Pair z_impl_Pair (lv1 u.1) rfl rfl rfl rfl rfl (hn := .nil (zn g))) ?_
          refine ⟨rfl, .make 54 _ 1008 _, (by exact (goodC rfl goodN)), fun _ g u h => LWo.appendM (f := e_impl_Pair) e31 rfl u_Limpl_Pair u_Limpl_Pair (fun _ h => by cases h) s_impl_Pair i_impl_Pair rfl u.1 h.1 (.sl u.2.1) (lone_of g rfl) rfl (hn := LWo.nil ⟨rfl, .inl rfl, Ef.good_ok (e := .make 54 _ 1008 _) (by exact (goodC rfl goodN)) g⟩), ?_⟩
          refine dq 5 rfl (fun _ g u h => LWo.assign (.own 1008 0 (x31).length) u.1 (hn := .nil (zn g))) ?_
          refine ⟨rfl, by kernel_rfl, hN24 (t0, t1, t6, t7, x31) _ ⟨rfl, rfl, rfl, rfl, rfl, trivial⟩ ⟨rfl, trivial⟩ h⟩
         ·have h := bF h28 h
          refine LWP.skip (hN24 (t0, t1, t6, t7, o1008) _ ⟨rfl, rfl, rfl, rfl, rfl, trivial⟩ ⟨rfl, trivial⟩ h)
       ·have h := bF h23 h
        refine LWP.exit (hN17 (t0, t1, t6, o1008) _ ⟨rfl, rfl, rfl, rfl, trivial⟩ ⟨rfl, trivial⟩ h)
     ·have h := bF h16 h
      refine LWP.exit (hN10 o1008 _ ⟨rfl, trivial⟩ ⟨rfl, trivial⟩ h)
  ·intro N4 hN4
   refine LWP.region (l := [_,_,_,_,_,_,_,_]) ?_
   refine LWo.move (e_Limpl_Pair a0) rfl (hn := ?_)
   refine bk h fun x5 e5 h => ?_
   refine LWo.vcall rfl rfl (c_spec_PairsOk _ _ e5) (.same (.nil)) (hn := ?_)
   refine LWo.not rfl (hn := ?_)
   refine LWo.move (e_bool (!x5)) rfl (hn := ?_)
   refine LWo.byCases (t := 12) _ rfl (fun h6 => ?_) (fun h6 => ?_)
   ·have h := bT h6 h
    refine LWo.guardNU (t := 12) rfl h6 rfl rfl rfl rfl rfl ?_
    refine LWo.guardNU (t := 12) rfl h6 rfl rfl rfl rfl rfl ?_
    refine LWo.guardNU (t := 12) rfl h6 rfl rfl rfl rfl rfl ?_
    refine LWo.pickTM (e_bool true) rfl h6 rfl (hn := ?_)
    refine LWo.nil (hN4 (a0, a1, true, ([] : (List S_impl_Pair))) _ ⟨rfl, rfl, rfl, rfl, trivial⟩ ⟨rfl, trivial⟩ h)
   ·have h := bF h6 h
    refine LWo.guardY (t := 12) rfl h6 rfl rfl ?_
    refine LWo.move (e_Limpl_Pair a1) rfl (hn := ?_)
    refine bk h fun x7 e7 h => ?_
    refine LWo.guardY (t := 12) rfl h6 rfl rfl ?_
    refine LWo.vcall rfl rfl (c_spec_PairsOk _ _ e7) (.same (.nil)) (hn := ?_)
    refine LWo.guardY (t := 12) rfl h6 rfl rfl ?_
    refine LWo.not rfl (hn := ?_)
    refine LWo.pickFM (e_bool (!x7)) rfl h6 rfl (hn := ?_)
    refine LWo.nil (hN4 (a0, a1, (!x7), ([] : (List S_impl_Pair))) _ ⟨rfl, rfl, rfl, rfl, trivial⟩ ⟨rfl, trivial⟩ h)

def m_spec_ClosureOf_j1 (o1012 : (List S_impl_Pair)) : Option (List S_impl_Pair) :=
  some o1012
def m_spec_ClosureOf_l1 : Nat → (List S_impl_Pair) → Bool → (List S_impl_Pair) → Option (List S_impl_Pair)
  | 0, _, _, _ => none
  | n1 + 1, t0, t4, o1012 =>
    bif t4 then ((m_spec_PairsJoined o1012 t0).bind fun x17 =>
    (m_spec_l26With o1012 x17).bind fun x18 =>
    (m_spec_ClosureOf_l1  n1) t0 (decide ((x18.length : Int) > (o1012.length : Int))) x18)
    else (m_spec_ClosureOf_j1  o1012)
def m_spec_ClosureOf (a0 : (List S_impl_Pair)) : Option (List S_impl_Pair) :=
  (m_spec_PairsOk a0).bind fun x4 =>
  bif (!x4) then (some ([] : (List S_impl_Pair)))
  else ((m_spec_l26With a0 ([] : (List S_impl_Pair))).bind fun x8 =>
  m_spec_ClosureOf_l1  (1000000000) a0 true x8)
theorem c_spec_ClosureOf (a0 : (List S_impl_Pair)) (r : (List S_impl_Pair)) (h : m_spec_ClosureOf a0 = some r) : Ret Try.prog f_spec_ClosureOf [e_Limpl_Pair a0] (.nw 2 (r.map e_impl_Pair) false) := by
  refine Does.goG [] F_spec_ClosureOf rfl e_spec_ClosureOf n_spec_ClosureOf rfl (rvs := [.tmp 2]) rfl rfl ?_
  intro w0 ok0 lent ρ0
  refine LWP.seq_k fun N1 hN1 => ?_
  refine LWP.region (l := [_]) ?_
  refine LWo.assign _ rfl (hn := ?_)
  refine LWo.ownNil 2 1002 2 rfl rfl rfl ?_
  refine LWo.known 2 (.own 1002 0 ([] : (List S_impl_Pair)).length) rfl ?_
  refine LWo.nil (hN1 _ ?_)
  refine LWP.seq_k fun N2 hN2 => ?_
  refine LWP.seq_k fun N3 hN3 => ?_
  refine LWP.region (l := [_,_,_]) ?_
  refine LWo.move (e_Limpl_Pair a0) rfl (hn := ?_)
  refine bk h fun x4 e4 h => ?_
  refine LWo.vcall rfl rfl (c_spec_PairsOk _ _ e4) (.same (.nil)) (hn := ?_)
  refine LWo.not rfl (hn := ?_)
  refine LWo.nil (hN3 _ ?_)
  refine LWP.cond_split rfl (fun h5 => ?_) (fun h5 => ?_)
  ·have h := bT h5 h
   refine LWP.seq_k fun N6 hN6 => ?_
   refine LWP.region (l := [_,_]) ?_
   refine LWo.lit0 1009 u_Limpl_Pair s_impl_Pair z_impl_Pair (hn := ?_)
   refine LWo.known 9 (.own 1009 0 ([] : (List S_impl_Pair)).length) rfl ?_
   refine LWo.assign (.own 1009 0 (([] : (List S_impl_Pair))).length) rfl (hn := ?_)
   refine LWo.nil (hN6 _ ?_)
   obtain rfl := Option.some.inj h
   refine LWP.ret (QG.mk (.inr rfl) (.cons (.tmp (x := (.own 1009 0 (([] : (List S_impl_Pair))).length)) rfl) (.nil)) (RetOK.one0 (.nwM rfl rfl) (by decide)) rfl rfl)
  ·have h := bF h5 h
   refine LWP.skip (hN2 _ ?_)
   refine LWP.seq_k fun N7 hN7 => ?_
   refine LWP.region (l := [_,_,_,_]) ?_
   refine LWo.move (e_Limpl_Pair a0) rfl (hn := ?_)
   refine LWo.lit0 1011 u_Limpl_Pair s_impl_Pair z_impl_Pair (hn := ?_)
   refine LWo.known 11 (.own 1011 0 ([] : (List S_impl_Pair)).length) rfl ?_
   refine LWo.frzL (f := e_impl_Pair) (l := ([] : (List S_impl_Pair))) [11] 1011 rfl rfl ⟨rfl, trivial⟩ ?_
   refine bk h fun x8 e8 h => ?_
   refine LWo.ncall (e := e_impl_Pair) 1012 rfl rfl (c_spec_l26With _ _ _ e8) (.same (.same (.nil))) rfl (hn := ?_)
   refine LWo.assign (.own 1012 0 (x8).length) rfl (hn := ?_)
   refine LWo.nil (hN7 _ ?_)
   refine LWP.join (α := (List S_impl_Pair)) (fun z : (List S_impl_Pair) => [(3, (.own 1012 0 (z).length))]) (fun z : (List S_impl_Pair) => [(1012, (lob 2 e_impl_Pair z))]) (fun z : (List S_impl_Pair) => m_spec_ClosureOf_j1  z) r (fun _ => by simp [hkeys]) ?_ ?_
   ·rintro o1012 h
    replace h : m_spec_ClosureOf_j1  o1012 = some _ := h
    refine LWP.seq_k fun N20 hN20 => ?_
    refine LWP.region (l := [_,_]) ?_
    refine LWo.move (.own 1012 0 (o1012).length) rfl (hn := ?_)
    refine LWo.assign (.own 1012 0 (o1012).length) rfl (hn := ?_)
    refine LWo.nil (hN20 _ ?_)
    obtain rfl := Option.some.inj h
    refine LWP.ret (QG.mk (.inr rfl) (.cons (.tmp (x := (.own 1012 0 (o1012).length)) rfl) (.nil)) (RetOK.one0 (.nwM rfl rfl) (by decide)) rfl rfl)
   ·intro N9 hN9
    refine LWP.seq_k fun N10 hN10 => ?_
    refine LWP.region (l := [_]) ?_
    refine LWo.assign (e_bool true) rfl (hn := ?_)
    refine LWo.nil (hN10 _ ?_)
    refine LWP.block ?_
    refine LWP.loopM (α := (List S_impl_Pair) × Bool × (List S_impl_Pair)) (fun z : (List S_impl_Pair) × Bool × (List S_impl_Pair) => [(0, (e_Limpl_Pair z.1)), (3, (.own 1012 0 (z.2.2).length)), (4, (e_bool z.2.1))]) (fun z : (List S_impl_Pair) × Bool × (List S_impl_Pair) => [(1012, (lob 2 e_impl_Pair z.2.2))]) (fun n1 (z : (List S_impl_Pair) × Bool × (List S_impl_Pair)) => m_spec_ClosureOf_l1  n1 z.1 z.2.1 z.2.2) r _ (a0, true, x8) h (fun _ => rfl) (fun _ => by simp [hkeys]) ⟨rfl, rfl, rfl, trivial⟩ ⟨rfl, trivial⟩ ?_
    rintro n1 ⟨t0, t4, o1012⟩ h N11 hN11
    replace h : m_spec_ClosureOf_l1  (n1 + 1) t0 t4 o1012 = some _ := h
    refine LWP.seq_k fun N13 hN13 => ?_
    refine LWP.seq_k fun N14 hN14 => ?_
    refine LWP.region (l := [_]) ?_
    refine LWo.move (e_bool t4) rfl (hn := ?_)
    refine LWo.nil (hN14 _ ?_)
    refine LWP.cond_split rfl (fun h15 => ?_) (fun h15 => ?_)
    ·have h := bT h15 h
     refine LWP.skip (hN13 _ ?_)
     refine LWP.block ?_
     refine LWP.seq_k fun N16 hN16 => ?_
     refine LWP.region (l := [_,_,_,_,_,_]) ?_
     refine LWo.move (.own 1012 0 (o1012).length) rfl (hn := ?_)
     refine LWo.move (.own 1012 0 (o1012).length) rfl (hn := ?_)
     refine LWo.move (e_Limpl_Pair t0) rfl (hn := ?_)
     refine bk h fun x17 e17 h => ?_
     refine LWo.frzL (f := e_impl_Pair) (l := o1012) [3, 14, 15] 1012 rfl rfl ⟨rfl, rfl, rfl, trivial⟩ ?_
     refine LWo.vcall rfl rfl (c_spec_PairsJoined _ _ _ e17) (.same (.same (.nil))) (hn := ?_)
     refine bk h fun x18 e18 h => ?_
     refine LWo.ncall (e := e_impl_Pair) 1018 rfl rfl (c_spec_l26With _ _ _ e18) (.same (.same (.nil))) rfl (hn := ?_)
     refine LWo.assign (.own 1018 0 (x18).length) rfl (hn := ?_)
     refine LWo.nil (hN16 _ ?_)
     refine LWP.seq_k fun N19 hN19 => ?_
     refine LWP.region (l := [_,_,_,_,_,_]) ?_
     refine LWo.move (.own 1018 0 (x18).length) rfl (hn := ?_)
     refine LWo.lenO u_Limpl_Pair rfl (hn := ?_)
     refine LWo.move (e_Limpl_Pair o1012) rfl (hn := ?_)
     refine LWo.lenM (f := e_impl_Pair) (l := o1012) u_Limpl_Pair rfl (hn := ?_)
     refine LWo.int _ rfl rfl rfl (hn := ?_)
     refine LWo.assign (e_bool (decide ((x18.length : Int) > (o1012.length : Int)))) rfl (hn := ?_)
     refine LWo.nil (hN19 _ ?_)
     refine LWP.region (l := [_,_]) ?_
     refine LWo.move (.own 1018 0 (x18).length) rfl (hn := ?_)
     refine LWo.assign (.own 1018 0 (x18).length) rfl (hn := ?_)
     refine LWo.rekey 3 1018 1012 rfl rfl rfl rfl rfl rfl ?_
     refine LWo.nil (hN11 (t0, decide ((x18.length : Int) > (o1012.length : Int)), x18) _ ⟨rfl, rfl, rfl, trivial⟩ ⟨rfl, trivial⟩ h)
    ·have h := bF h15 h
     refine LWP.exit (hN9 o1012 _ ⟨rfl, trivial⟩ ⟨rfl, trivial⟩ h)

def m_spec_ClosureMore_j7 (t0 : (List S_impl_Pair)) (o1034 : (List S_impl_Pair)) : Option (List S_impl_Pair) :=
  (m_spec_l26With t0 o1034).bind fun x42 =>
  some x42
def m_spec_ClosureMore_j6 (k1 : (List S_impl_Pair) → S_impl_Pair → Int → (List S_impl_Pair) → Option (List S_impl_Pair)) (t0 : (List S_impl_Pair)) (t3 : S_impl_Pair) (t6 : Int) (o1034 : (List S_impl_Pair)) : Option (List S_impl_Pair) :=
  (ckI (t6 + (1 : Int))).bind fun x40 =>
  k1 t0 t3 x40 o1034
def m_spec_ClosureMore_j5 (k1 : (List S_impl_Pair) → S_impl_Pair → Int → (List S_impl_Pair) → Option (List S_impl_Pair)) (k2 : (List S_impl_Pair) → S_impl_Pair → Int → Int → (List S_impl_Pair) → Option (List S_impl_Pair)) (t0 : (List S_impl_Pair)) (t3 : S_impl_Pair) (t6 : Int) (t7 : Int) (o1034 : (List S_impl_Pair)) : Option (List S_impl_Pair) :=
  (ckI (t7 + (1 : Int))).bind fun x39 =>
  k2 t0 t3 t6 x39 o1034
def m_spec_ClosureMore_j4 (k1 : (List S_impl_Pair) → S_impl_Pair → Int → (List S_impl_Pair) → Option (List S_impl_Pair)) (k2 : (List S_impl_Pair) → S_impl_Pair → Int → Int → (List S_impl_Pair) → Option (List S_impl_Pair)) (t0 : (List S_impl_Pair)) (t3 : S_impl_Pair) (t6 : Int) (t7 : Int) (t70 : Bool) (o1034 : (List S_impl_Pair)) : Option (List S_impl_Pair) :=
  bif t70 then ((app? o1034 ([(⟨t6, t7⟩ : S_impl_Pair)] : (List S_impl_Pair))).bind fun x38 =>
    m_spec_ClosureMore_j5  k1 k2 t0 t3 t6 t7 x38)
  else (m_spec_ClosureMore_j5  k1 k2 t0 t3 t6 t7 o1034)
def m_spec_ClosureMore_j3 (k1 : (List S_impl_Pair) → S_impl_Pair → Int → (List S_impl_Pair) → Option (List S_impl_Pair)) (k2 : (List S_impl_Pair) → S_impl_Pair → Int → Int → (List S_impl_Pair) → Option (List S_impl_Pair)) (t0 : (List S_impl_Pair)) (t3 : S_impl_Pair) (t6 : Int) (t7 : Int) (t8 : Bool) (t9 : Bool) (o1034 : (List S_impl_Pair)) : Option (List S_impl_Pair) :=
  bif t8 then (m_spec_ClosureMore_j4  k1 k2 t0 t3 t6 t7 t9 o1034)
  else (m_spec_ClosureMore_j4  k1 k2 t0 t3 t6 t7 false o1034)
def m_spec_ClosureMore_j2 (k1 : (List S_impl_Pair) → S_impl_Pair → Int → (List S_impl_Pair) → Option (List S_impl_Pair)) (k2 : (List S_impl_Pair) → S_impl_Pair → Int → Int → (List S_impl_Pair) → Option (List S_impl_Pair)) (t0 : (List S_impl_Pair)) (t3 : S_impl_Pair) (t6 : Int) (t7 : Int) (t8 : Bool) (o1034 : (List S_impl_Pair)) : Option (List S_impl_Pair) :=
  bif (t7 == t3.To) then (m_spec_ClosureMore_j3  k1 k2 t0 t3 t6 t7 t8 true o1034)
  else ((m_spec_l26Has t0 (⟨t3.To, t7⟩ : S_impl_Pair)).bind fun x34 =>
    m_spec_ClosureMore_j3  k1 k2 t0 t3 t6 t7 t8 x34 o1034)
def m_spec_ClosureMore_l2 (k1 : (List S_impl_Pair) → S_impl_Pair → Int → (List S_impl_Pair) → Option (List S_impl_Pair)) : Nat → (List S_impl_Pair) → S_impl_Pair → Int → Int → (List S_impl_Pair) → Option (List S_impl_Pair)
  | 0, _, _, _, _, _ => none
  | n2 + 1, t0, t3, t6, t7, o1034 =>
    bif decide (t7 < (7 : Int)) then (bif (t6 == t3.From) then (m_spec_ClosureMore_j2  k1 (m_spec_ClosureMore_l2  k1 n2) t0 t3 t6 t7 true o1034)
    else ((m_spec_l26Has t0 (⟨t6, t3.From⟩ : S_impl_Pair)).bind fun x31 =>
      m_spec_ClosureMore_j2  k1 (m_spec_ClosureMore_l2  k1 n2) t0 t3 t6 t7 x31 o1034))
    else (m_spec_ClosureMore_j6  k1 t0 t3 t6 o1034)
def m_spec_ClosureMore_l1 : Nat → (List S_impl_Pair) → S_impl_Pair → Int → (List S_impl_Pair) → Option (List S_impl_Pair)
  | 0, _, _, _, _ => none
  | n1 + 1, t0, t3, t6, o1034 =>
    bif decide (t6 < (7 : Int)) then (m_spec_ClosureMore_l2  (m_spec_ClosureMore_l1  n1) (((7 : Int) - (0 : Int)).toNat + 1) t0 t3 t6 (0 : Int) o1034)
    else (m_spec_ClosureMore_j7  t0 o1034)
def m_spec_ClosureMore_j1 (t0 : (List S_impl_Pair)) (t3 : S_impl_Pair) (t32 : Bool) : Option (List S_impl_Pair) :=
  bif t32 then (some ([] : (List S_impl_Pair)))
  else (m_spec_ClosureMore_l1  (((7 : Int) - (0 : Int)).toNat + 1) t0 t3 (0 : Int) ([] : (List S_impl_Pair)))
def m_spec_ClosureMore (a0 : (List S_impl_Pair)) (a1 : S_impl_Pair) : Option (List S_impl_Pair) :=
  (m_spec_PairsOk a0).bind fun x4 =>
  bif (!x4) then (m_spec_ClosureMore_j1  a0 a1 true)
  else ((m_spec_ClosureOf a0).bind fun x6 =>
    bif ((x6.length : Int) != (a0.length : Int)) then (m_spec_ClosureMore_j1  a0 a1 true)
    else ((m_spec_l1In a1.From (0 : Int) (6 : Int)).bind fun x8 =>
      bif (!x8) then (m_spec_ClosureMore_j1  a0 a1 true)
      else ((m_spec_l1In a1.To (0 : Int) (6 : Int)).bind fun x10 =>
        m_spec_ClosureMore_j1  a0 a1 (!x10))))
theorem c_spec_ClosureMore (a0 : (List S_impl_Pair)) (a1 : S_impl_Pair) (r : (List S_impl_Pair)) (h : m_spec_ClosureMore a0 a1 = some r) : Ret Try.prog f_spec_ClosureMore [e_Limpl_Pair a0, e_impl_Pair a1] (.nw 2 (r.map e_impl_Pair) false) := by
  refine Does.goG [] F_spec_ClosureMore rfl e_spec_ClosureMore n_spec_ClosureMore rfl (rvs := [.tmp 4]) rfl rfl ?_
  intro w0 ok0 lent ρ0
  refine LWP.seq_k fun N1 hN1 => ?_
  refine LWP.region (l := [_,_]) ?_
  refine LWo.boxF (e_impl_Pair a1) rfl rfl rfl (hn := ?_)
  refine LWo.assign _ rfl (hn := ?_)
  refine LWo.ownNil 4 1004 2 rfl rfl rfl ?_
  refine LWo.known 4 (.own 1004 0 ([] : (List S_impl_Pair)).length) rfl ?_
  refine LWo.nil (hN1 _ ?_)
  refine LWP.seq_k fun N2 hN2 => ?_
  refine LWP.join (α := (List S_impl_Pair) × S_impl_Pair × Bool) (fun z : (List S_impl_Pair) × S_impl_Pair × Bool => [(0, (e_Limpl_Pair z.1)), (3, (.fp (e_impl_Pair z.2.1).cells)), (32, (e_bool z.2.2))]) (fun z : (List S_impl_Pair) × S_impl_Pair × Bool => []) (fun z : (List S_impl_Pair) × S_impl_Pair × Bool => m_spec_ClosureMore_j1  z.1 z.2.1 z.2.2) r (fun _ => by simp [hkeys]) ?_ ?_
  ·rintro ⟨t0, t3, t32⟩ h
   replace h : m_spec_ClosureMore_j1  t0 t3 t32 = some _ := h
   refine LWP.cond_split rfl (fun h11 => ?_) (fun h11 => ?_)
   ·have h := bT h11 h
    refine LWP.seq_k fun N12 hN12 => ?_
    refine LWP.region (l := [_,_]) ?_
    refine LWo.lit0 1033 u_Limpl_Pair s_impl_Pair z_impl_Pair (hn := ?_)
    refine LWo.known 33 (.own 1033 0 ([] : (List S_impl_Pair)).length) rfl ?_
    refine LWo.assign (.own 1033 0 (([] : (List S_impl_Pair))).length) rfl (hn := ?_)
    refine LWo.nil (hN12 _ ?_)
    obtain rfl := Option.some.inj h
    refine LWP.ret (QG.mk (.inr rfl) (.cons (.tmp (x := (.own 1033 0 (([] : (List S_impl_Pair))).length)) rfl) (.nil)) (RetOK.one0 (.nwM rfl rfl) (by decide)) rfl rfl)
   ·have h := bF h11 h
    refine LWP.skip (hN2 _ ?_)
    refine LWP.seq_k fun N13 hN13 => ?_
    refine LWP.region (l := [_,_]) ?_
    refine LWo.lit0 1034 u_Limpl_Pair s_impl_Pair z_impl_Pair (hn := ?_)
    refine LWo.known 34 (.own 1034 0 ([] : (List S_impl_Pair)).length) rfl ?_
    refine LWo.assign (.own 1034 0 (([] : (List S_impl_Pair))).length) rfl (hn := ?_)
    refine LWo.nil (hN13 _ ?_)
    refine LWP.join (α := (List S_impl_Pair) × (List S_impl_Pair)) (fun z : (List S_impl_Pair) × (List S_impl_Pair) => [(0, (e_Limpl_Pair z.1)), (5, (.own 1034 0 (z.2).length))]) (fun z : (List S_impl_Pair) × (List S_impl_Pair) => [(1034, (lob 2 e_impl_Pair z.2))]) (fun z : (List S_impl_Pair) × (List S_impl_Pair) => m_spec_ClosureMore_j7  z.1 z.2) r (fun _ => by simp [hkeys]) ?_ ?_
    ·rintro ⟨t0, o1034⟩ h
     replace h : m_spec_ClosureMore_j7  t0 o1034 = some _ := h
     refine LWP.seq_k fun N41 hN41 => ?_
     refine LWP.region (l := [_,_,_,_]) ?_
     refine LWo.move (e_Limpl_Pair t0) rfl (hn := ?_)
     refine LWo.move (.own 1034 0 (o1034).length) rfl (hn := ?_)
     refine bk h fun x42 e42 h => ?_
     refine LWo.frzL (f := e_impl_Pair) (l := o1034) [5, 78] 1034 rfl rfl ⟨rfl, rfl, trivial⟩ ?_
     refine LWo.ncall (e := e_impl_Pair) 1079 rfl rfl (c_spec_l26With _ _ _ e42) (.same (.same (.nil))) rfl (hn := ?_)
     refine LWo.assign (.own 1079 0 (x42).length) rfl (hn := ?_)
     refine LWo.nil (hN41 _ ?_)
     obtain rfl := Option.some.inj h
     refine LWP.ret (QG.mk (.inr rfl) (.cons (.tmp (x := (.own 1079 0 (x42).length)) rfl) (.nil)) (RetOK.one0 (.nwM rfl rfl) (by decide)) rfl rfl)
    ·intro N14 hN14
     refine LWP.seq_k fun N15 hN15 => ?_
     refine LWP.region (l := [_]) ?_
     refine LWo.assign (e_int (0 : Int)) rfl (hn := ?_)
     refine LWo.nil (hN15 _ ?_)
     refine LWP.block ?_
     refine LWP.loopM (α := (List S_impl_Pair) × S_impl_Pair × Int × (List S_impl_Pair)) (fun z : (List S_impl_Pair) × S_impl_Pair × Int × (List S_impl_Pair) => [(0, (e_Limpl_Pair z.1)), (3, (.fp (e_impl_Pair z.2.1).cells)), (5, (.own 1034 0 (z.2.2.2).length)), (6, (e_int z.2.2.1))]) (fun z : (List S_impl_Pair) × S_impl_Pair × Int × (List S_impl_Pair) => [(1034, (lob 2 e_impl_Pair z.2.2.2))]) (fun n1 (z : (List S_impl_Pair) × S_impl_Pair × Int × (List S_impl_Pair)) => m_spec_ClosureMore_l1  n1 z.1 z.2.1 z.2.2.1 z.2.2.2) r _ (t0, t3, (0 : Int), ([] : (List S_impl_Pair))) h (fun _ => rfl) (fun _ => by simp [hkeys]) ⟨rfl, rfl, rfl, rfl, trivial⟩ ⟨rfl, trivial⟩ ?_
     rintro n1 ⟨t0, t3, t6, o1034⟩ h N16 hN16
     replace h : m_spec_ClosureMore_l1  (n1 + 1) t0 t3 t6 o1034 = some _ := h
     refine LWP.seq_k fun N18 hN18 => ?_
     refine LWP.seq_k fun N19 hN19 => ?_
     refine LWP.region (l := [_,_]) ?_
     refine LWo.move (e_int t6) rfl (hn := ?_)
     refine LWo.int _ rfl rfl rfl (hn := ?_)
     refine LWo.nil (hN19 _ ?_)
     refine LWP.cond_split rfl (fun h20 => ?_) (fun h20 => ?_)
     ·have h := bT h20 h
      refine LWP.skip (hN18 _ ?_)
      refine LWP.join (α := (List S_impl_Pair) × S_impl_Pair × Int × (List S_impl_Pair)) (fun z : (List S_impl_Pair) × S_impl_Pair × Int × (List S_impl_Pair) => [(0, (e_Limpl_Pair z.1)), (3, (.fp (e_impl_Pair z.2.1).cells)), (5, (.own 1034 0 (z.2.2.2).length)), (6, (e_int z.2.2.1))]) (fun z : (List S_impl_Pair) × S_impl_Pair × Int × (List S_impl_Pair) => [(1034, (lob 2 e_impl_Pair z.2.2.2))]) (fun z : (List S_impl_Pair) × S_impl_Pair × Int × (List S_impl_Pair) => m_spec_ClosureMore_j6  (m_spec_ClosureMore_l1  n1) z.1 z.2.1 z.2.2.1 z.2.2.2) r (fun _ => by simp [hkeys]) ?_ ?_
      ·rintro ⟨t0, t3, t6, o1034⟩ h
       replace h : m_spec_ClosureMore_j6  (m_spec_ClosureMore_l1  n1) t0 t3 t6 o1034 = some _ := h
       refine LWP.region (l := [_,_,_]) ?_
       refine LWo.move (e_int t6) rfl (hn := ?_)
       refine bk h fun x40 e40 h => ?_
       refine LWo.int _ rfl rfl (add_ck e40) (hn := ?_)
       refine LWo.assign (e_int x40) rfl (hn := ?_)
       refine LWo.nil (hN16 (t0, t3, x40, o1034) _ ⟨rfl, rfl, rfl, rfl, trivial⟩ ⟨rfl, trivial⟩ h)
      ·intro N21 hN21
       refine LWP.block ?_
       refine LWP.seq_k fun N22 hN22 => ?_
       refine LWP.region (l := [_]) ?_
       refine LWo.assign (e_int (0 : Int)) rfl (hn := ?_)
       refine LWo.nil (hN22 _ ?_)
       refine LWP.block ?_
       refine LWP.loopM (α := (List S_impl_Pair) × S_impl_Pair × Int × Int × (List S_impl_Pair)) (fun z : (List S_impl_Pair) × S_impl_Pair × Int × Int × (List S_impl_Pair) => [(0, (e_Limpl_Pair z.1)), (3, (.fp (e_impl_Pair z.2.1).cells)), (5, (.own 1034 0 (z.2.2.2.2).length)), (6, (e_int z.2.2.1)), (7, (e_int z.2.2.2.1))]) (fun z : (List S_impl_Pair) × S_impl_Pair × Int × Int × (List S_impl_Pair) => [(1034, (lob 2 e_impl_Pair z.2.2.2.2))]) (fun n2 (z : (List S_impl_Pair) × S_impl_Pair × Int × Int × (List S_impl_Pair)) => m_spec_ClosureMore_l2  (m_spec_ClosureMore_l1  n1) n2 z.1 z.2.1 z.2.2.1 z.2.2.2.1 z.2.2.2.2) r _ (t0, t3, t6, (0 : Int), o1034) h (fun _ => rfl) (fun _ => by simp [hkeys]) ⟨rfl, rfl, rfl, rfl, rfl, trivial⟩ ⟨rfl, trivial⟩ ?_
       rintro n2 ⟨t0, t3, t6, t7, o1034⟩ h N23 hN23
       replace h : m_spec_ClosureMore_l2  (m_spec_ClosureMore_l1  n1) (n2 + 1) t0 t3 t6 t7 o1034 = some _ := h
       refine LWP.seq_k fun N25 hN25 => ?_
       refine LWP.seq_k fun N26 hN26 => ?_
       refine LWP.region (l := [_,_]) ?_
       refine LWo.move (e_int t7) rfl (hn := ?_)
       refine LWo.int _ rfl rfl rfl (hn := ?_)
       refine LWo.nil (hN26 _ ?_)
       refine LWP.cond_split rfl (fun h27 => ?_) (fun h27 => ?_)
       ·have h := bT h27 h
        refine LWP.skip (hN25 _ ?_)
        refine LWP.join (α := (List S_impl_Pair) × S_impl_Pair × Int × Int × (List S_impl_Pair)) (fun z : (List S_impl_Pair) × S_impl_Pair × Int × Int × (List S_impl_Pair) => [(0, (e_Limpl_Pair z.1)), (3, (.fp (e_impl_Pair z.2.1).cells)), (5, (.own 1034 0 (z.2.2.2.2).length)), (6, (e_int z.2.2.1)), (7, (e_int z.2.2.2.1))]) (fun z : (List S_impl_Pair) × S_impl_Pair × Int × Int × (List S_impl_Pair) => [(1034, (lob 2 e_impl_Pair z.2.2.2.2))]) (fun z : (List S_impl_Pair) × S_impl_Pair × Int × Int × (List S_impl_Pair) => m_spec_ClosureMore_j5  (m_spec_ClosureMore_l1  n1) (m_spec_ClosureMore_l2  (m_spec_ClosureMore_l1  n1) n2) z.1 z.2.1 z.2.2.1 z.2.2.2.1 z.2.2.2.2) r (fun _ => by simp [hkeys]) ?_ ?_
        ·rintro ⟨t0, t3, t6, t7, o1034⟩ h
         replace h : m_spec_ClosureMore_j5  (m_spec_ClosureMore_l1  n1) (m_spec_ClosureMore_l2  (m_spec_ClosureMore_l1  n1) n2) t0 t3 t6 t7 o1034 = some _ := h
         refine LWP.region (l := [_,_,_]) ?_
         refine LWo.move (e_int t7) rfl (hn := ?_)
         refine bk h fun x39 e39 h => ?_
         refine LWo.int _ rfl rfl (add_ck e39) (hn := ?_)
         refine LWo.assign (e_int x39) rfl (hn := ?_)
         refine LWo.nil (hN23 (t0, t3, t6, x39, o1034) _ ⟨rfl, rfl, rfl, rfl, rfl, trivial⟩ ⟨rfl, trivial⟩ h)
        ·intro N28 hN28
         refine LWP.block ?_
         refine LWP.join (α := (List S_impl_Pair) × S_impl_Pair × Int × Int × Bool × (List S_impl_Pair)) (fun z : (List S_impl_Pair) × S_impl_Pair × Int × Int × Bool × (List S_impl_Pair) => [(0, (e_Limpl_Pair z.1)), (3, (.fp (e_impl_Pair z.2.1).cells)), (5, (.own 1034 0 (z.2.2.2.2.2).length)), (6, (e_int z.2.2.1)), (7, (e_int z.2.2.2.1)), (8, (e_bool z.2.2.2.2.1))]) (fun z : (List S_impl_Pair) × S_impl_Pair × Int × Int × Bool × (List S_impl_Pair) => [(1034, (lob 2 e_impl_Pair z.2.2.2.2.2))]) (fun z : (List S_impl_Pair) × S_impl_Pair × Int × Int × Bool × (List S_impl_Pair) => m_spec_ClosureMore_j2  (m_spec_ClosureMore_l1  n1) (m_spec_ClosureMore_l2  (m_spec_ClosureMore_l1  n1) n2) z.1 z.2.1 z.2.2.1 z.2.2.2.1 z.2.2.2.2.1 z.2.2.2.2.2) r (fun _ => by simp [hkeys]) ?_ ?_
         ·rintro ⟨t0, t3, t6, t7, t8, o1034⟩ h
          replace h : m_spec_ClosureMore_j2  (m_spec_ClosureMore_l1  n1) (m_spec_ClosureMore_l2  (m_spec_ClosureMore_l1  n1) n2) t0 t3 t6 t7 t8 o1034 = some _ := h
          refine LWP.join (α := (List S_impl_Pair) × S_impl_Pair × Int × Int × Bool × Bool × (List S_impl_Pair)) (fun z : (List S_impl_Pair) × S_impl_Pair × Int × Int × Bool × Bool × (List S_impl_Pair) => [(0, (e_Limpl_Pair z.1)), (3, (.fp (e_impl_Pair z.2.1).cells)), (5, (.own 1034 0 (z.2.2.2.2.2.2).length)), (6, (e_int z.2.2.1)), (7, (e_int z.2.2.2.1)), (8, (e_bool z.2.2.2.2.1)), (9, (e_bool z.2.2.2.2.2.1))]) (fun z : (List S_impl_Pair) × S_impl_Pair × Int × Int × Bool × Bool × (List S_impl_Pair) => [(1034, (lob 2 e_impl_Pair z.2.2.2.2.2.2))]) (fun z : (List S_impl_Pair) × S_impl_Pair × Int × Int × Bool × Bool × (List S_impl_Pair) => m_spec_ClosureMore_j3  (m_spec_ClosureMore_l1  n1) (m_spec_ClosureMore_l2  (m_spec_ClosureMore_l1  n1) n2) z.1 z.2.1 z.2.2.1 z.2.2.2.1 z.2.2.2.2.1 z.2.2.2.2.2.1 z.2.2.2.2.2.2) r (fun _ => by simp [hkeys]) ?_ ?_
          ·rintro ⟨t0, t3, t6, t7, t8, t9, o1034⟩ h
           replace h : m_spec_ClosureMore_j3  (m_spec_ClosureMore_l1  n1) (m_spec_ClosureMore_l2  (m_spec_ClosureMore_l1  n1) n2) t0 t3 t6 t7 t8 t9 o1034 = some _ := h
           refine LWP.join (α := (List S_impl_Pair) × S_impl_Pair × Int × Int × Bool × (List S_impl_Pair)) (fun z : (List S_impl_Pair) × S_impl_Pair × Int × Int × Bool × (List S_impl_Pair) => [(0, (e_Limpl_Pair z.1)), (3, (.fp (e_impl_Pair z.2.1).cells)), (5, (.own 1034 0 (z.2.2.2.2.2).length)), (6, (e_int z.2.2.1)), (7, (e_int z.2.2.2.1)), (70, (e_bool z.2.2.2.2.1))]) (fun z : (List S_impl_Pair) × S_impl_Pair × Int × Int × Bool × (List S_impl_Pair) => [(1034, (lob 2 e_impl_Pair z.2.2.2.2.2))]) (fun z : (List S_impl_Pair) × S_impl_Pair × Int × Int × Bool × (List S_impl_Pair) => m_spec_ClosureMore_j4  (m_spec_ClosureMore_l1  n1) (m_spec_ClosureMore_l2  (m_spec_ClosureMore_l1  n1) n2) z.1 z.2.1 z.2.2.1 z.2.2.2.1 z.2.2.2.2.1 z.2.2.2.2.2) r (fun _ => by simp [hkeys]) ?_ ?_
           ·rintro ⟨t0, t3, t6, t7, t70, o1034⟩ h
            replace h : m_spec_ClosureMore_j4  (m_spec_ClosureMore_l1  n1) (m_spec_ClosureMore_l2  (m_spec_ClosureMore_l1  n1) n2) t0 t3 t6 t7 t70 o1034 = some _ := h
            refine LWP.cond_split rfl (fun h37 => ?_) (fun h37 => ?_)
            ·have h := bT h37 h
             refine LWP.region (l := [_,_,_,_,_,_,_]) ?_
             refine LWo.move (.own 1034 0 (o1034).length) rfl (hn := ?_)
             refine LWo.move (e_int t6) rfl (hn := ?_)
             refine LWo.move (e_int t7) rfl (hn := ?_)
             refine LWo.build_impl_Pair (parts := [_, _]) (⟨t6, t7⟩ : S_impl_Pair) rfl rfl rfl .refl (hn := ?_)
             refine LWo.lit (ops := [_]) [(e_impl_Pair (⟨t6, t7⟩ : S_impl_Pair))] u_Limpl_Pair s_impl_Pair z_impl_Pair rfl rfl rfl rfl rfl rfl (hn := ?_)
             refine bk h fun x38 e38 h => ?_
             refine LWo.appendM (f := e_impl_Pair) e38 rfl u_Limpl_Pair u_Limpl_Pair (fun _ h => by cases h) s_impl_Pair i_impl_Pair rfl rfl rfl (.sl rfl) rfl rfl (hn := ?_)
             refine LWo.assign (.own 1034 0 (x38).length) rfl (hn := ?_)
             refine LWo.nil (hN28 (t0, t3, t6, t7, x38) _ ⟨rfl, rfl, rfl, rfl, rfl, trivial⟩ ⟨rfl, trivial⟩ h)
            ·have h := bF h37 h
             refine LWP.skip (hN28 (t0, t3, t6, t7, o1034) _ ⟨rfl, rfl, rfl, rfl, rfl, trivial⟩ ⟨rfl, trivial⟩ h)
           ·intro N35 hN35
            refine LWP.region (l := [_,_,_,_]) ?_
            refine LWo.move (e_bool t8) rfl (hn := ?_)
            refine LWo.move (e_bool t8) rfl (hn := ?_)
            refine LWo.byCases (t := 68) _ rfl (fun h36 => ?_) (fun h36 => ?_)
            ·have h := bT h36 h
             refine LWo.guardY (t := 68) rfl h36 rfl rfl ?_
             refine LWo.move (e_bool t9) rfl (hn := ?_)
             refine LWo.pickTM (e_bool t9) rfl h36 rfl (hn := ?_)
             refine LWo.nil (hN35 (t0, t3, t6, t7, t9, o1034) _ ⟨rfl, rfl, rfl, rfl, rfl, rfl, trivial⟩ ⟨rfl, trivial⟩ h)
            ·have h := bF h36 h
             refine LWo.guardNU (t := 68) rfl h36 rfl rfl rfl rfl rfl ?_
             refine LWo.pickFM (e_bool false) rfl h36 rfl (hn := ?_)
             refine LWo.nil (hN35 (t0, t3, t6, t7, false, o1034) _ ⟨rfl, rfl, rfl, rfl, rfl, rfl, trivial⟩ ⟨rfl, trivial⟩ h)
          ·intro N32 hN32
           refine LWP.region (l := [_,_,_,_,_,_,_,_,_,_,_,_,_]) ?_
           refine LWo.move (e_int t7) rfl (hn := ?_)
           refine LWo.fieldAddr _ u_impl_Pair rfl s_int rfl rfl (hn := ?_)
           refine LWo.load1 (c := (e_int t3.To)) g_int rfl (hn := ?_)
           refine LWo.int _ rfl rfl rfl (hn := ?_)
           refine LWo.move (e_bool (t7 == t3.To)) rfl (hn := ?_)
           refine LWo.byCases (t := 59) _ rfl (fun h33 => ?_) (fun h33 => ?_)
           ·have h := bT h33 h
            refine LWo.guardNU (t := 59) rfl h33 rfl rfl rfl rfl rfl ?_
            refine LWo.guardNU (t := 59) rfl h33 rfl rfl rfl rfl rfl ?_
            refine LWo.guardNU (t := 59) rfl h33 rfl rfl rfl rfl rfl ?_
            refine LWo.guardNU (t := 59) rfl h33 rfl rfl rfl rfl rfl ?_
            refine LWo.guardNU (t := 59) rfl h33 rfl rfl rfl rfl rfl ?_
            refine LWo.guardNU (t := 59) rfl h33 rfl rfl rfl rfl rfl ?_
            refine LWo.pickTM (e_bool true) rfl h33 rfl (hn := ?_)
            refine LWo.assign (e_bool true) rfl (hn := ?_)
            refine LWo.nil (hN32 (t0, t3, t6, t7, t8, true, o1034) _ ⟨rfl, rfl, rfl, rfl, rfl, rfl, rfl, trivial⟩ ⟨rfl, trivial⟩ h)
           ·have h := bF h33 h
            refine LWo.guardY (t := 59) rfl h33 rfl rfl ?_
            refine LWo.move (e_Limpl_Pair t0) rfl (hn := ?_)
            refine LWo.guardY (t := 59) rfl h33 rfl rfl ?_
            refine LWo.fieldAddr _ u_impl_Pair rfl s_int rfl rfl (hn := ?_)
            refine LWo.guardY (t := 59) rfl h33 rfl rfl ?_
            refine LWo.load1 (c := (e_int t3.To)) g_int rfl (hn := ?_)
            refine LWo.guardY (t := 59) rfl h33 rfl rfl ?_
            refine LWo.move (e_int t7) rfl (hn := ?_)
            refine LWo.guardY (t := 59) rfl h33 rfl rfl ?_
            refine LWo.build_impl_Pair (parts := [_, _]) (⟨t3.To, t7⟩ : S_impl_Pair) rfl rfl rfl .refl (hn := ?_)
            refine bk h fun x34 e34 h => ?_
            refine LWo.guardY (t := 59) rfl h33 rfl rfl ?_
            refine LWo.vcall rfl rfl (c_spec_l26Has _ _ _ e34) (.same (.same (.nil))) (hn := ?_)
            refine LWo.pickFM (e_bool x34) rfl h33 rfl (hn := ?_)
            refine LWo.assign (e_bool x34) rfl (hn := ?_)
            refine LWo.nil (hN32 (t0, t3, t6, t7, t8, x34, o1034) _ ⟨rfl, rfl, rfl, rfl, rfl, rfl, rfl, trivial⟩ ⟨rfl, trivial⟩ h)
         ·intro N29 hN29
          refine LWP.region (l := [_,_,_,_,_,_,_,_,_,_,_,_,_]) ?_
          refine LWo.move (e_int t6) rfl (hn := ?_)
          refine LWo.fieldAddr _ u_impl_Pair rfl s_int rfl rfl (hn := ?_)
          refine LWo.load1 (c := (e_int t3.From)) g_int rfl (hn := ?_)
          refine LWo.int _ rfl rfl rfl (hn := ?_)
          refine LWo.move (e_bool (t6 == t3.From)) rfl (hn := ?_)
          refine LWo.byCases (t := 47) _ rfl (fun h30 => ?_) (fun h30 => ?_)
          ·have h := bT h30 h
           refine LWo.guardNU (t := 47) rfl h30 rfl rfl rfl rfl rfl ?_
           refine LWo.guardNU (t := 47) rfl h30 rfl rfl rfl rfl rfl ?_
           refine LWo.guardNU (t := 47) rfl h30 rfl rfl rfl rfl rfl ?_
           refine LWo.guardNU (t := 47) rfl h30 rfl rfl rfl rfl rfl ?_
           refine LWo.guardNU (t := 47) rfl h30 rfl rfl rfl rfl rfl ?_
           refine LWo.guardNU (t := 47) rfl h30 rfl rfl rfl rfl rfl ?_
           refine LWo.pickTM (e_bool true) rfl h30 rfl (hn := ?_)
           refine LWo.assign (e_bool true) rfl (hn := ?_)
           refine LWo.nil (hN29 (t0, t3, t6, t7, true, o1034) _ ⟨rfl, rfl, rfl, rfl, rfl, rfl, trivial⟩ ⟨rfl, trivial⟩ h)
          ·have h := bF h30 h
           refine LWo.guardY (t := 47) rfl h30 rfl rfl ?_
           refine LWo.move (e_Limpl_Pair t0) rfl (hn := ?_)
           refine LWo.guardY (t := 47) rfl h30 rfl rfl ?_
           refine LWo.move (e_int t6) rfl (hn := ?_)
           refine LWo.guardY (t := 47) rfl h30 rfl rfl ?_
           refine LWo.fieldAddr _ u_impl_Pair rfl s_int rfl rfl (hn := ?_)
           refine LWo.guardY (t := 47) rfl h30 rfl rfl ?_
           refine LWo.load1 (c := (e_int t3.From)) g_int rfl (hn := ?_)
           refine LWo.guardY (t := 47) rfl h30 rfl rfl ?_
           refine LWo.build_impl_Pair (parts := [_, _]) (⟨t6, t3.From⟩ : S_impl_Pair) rfl rfl rfl .refl (hn := ?_)
           refine bk h fun x31 e31 h => ?_
           refine LWo.guardY (t := 47) rfl h30 rfl rfl ?_
           refine LWo.vcall rfl rfl (c_spec_l26Has _ _ _ e31) (.same (.same (.nil))) (hn := ?_)
           refine LWo.pickFM (e_bool x31) rfl h30 rfl (hn := ?_)
           refine LWo.assign (e_bool x31) rfl (hn := ?_)
           refine LWo.nil (hN29 (t0, t3, t6, t7, x31, o1034) _ ⟨rfl, rfl, rfl, rfl, rfl, rfl, trivial⟩ ⟨rfl, trivial⟩ h)
       ·have h := bF h27 h
        refine LWP.exit (hN21 (t0, t3, t6, o1034) _ ⟨rfl, rfl, rfl, rfl, trivial⟩ ⟨rfl, trivial⟩ h)
     ·have h := bF h20 h
      refine LWP.exit (hN14 (t0, o1034) _ ⟨rfl, rfl, trivial⟩ ⟨rfl, trivial⟩ h)
  ·intro N3 hN3
   refine LWP.region (l := [_,_,_,_,_,_,_,_,_,_,_,_,_,_,_,_,_,_,_,_,_,_,_]) ?_
   refine LWo.move (e_Limpl_Pair a0) rfl (hn := ?_)
   refine bk h fun x4 e4 h => ?_
   refine LWo.vcall rfl rfl (c_spec_PairsOk _ _ e4) (.same (.nil)) (hn := ?_)
   refine LWo.not rfl (hn := ?_)
   refine LWo.move (e_bool (!x4)) rfl (hn := ?_)
   refine LWo.byCases (t := 13) _ rfl (fun h5 => ?_) (fun h5 => ?_)
   ·have h := bT h5 h
    refine LWo.guardNU (t := 13) rfl h5 rfl rfl rfl rfl rfl ?_
    refine LWo.guardNU (t := 13) rfl h5 rfl rfl rfl rfl rfl ?_
    refine LWo.guardNU (t := 13) rfl h5 rfl rfl rfl rfl rfl ?_
    refine LWo.guardNU (t := 13) rfl h5 rfl rfl rfl rfl rfl ?_
    refine LWo.guardNU (t := 13) rfl h5 rfl rfl rfl rfl rfl ?_
    refine LWo.guardNU (t := 13) rfl h5 rfl rfl rfl rfl rfl ?_
    refine LWo.pickTM (e_bool true) rfl h5 rfl (hn := ?_)
    refine LWo.move (e_bool true) rfl (hn := ?_)
    refine LWo.guardNU (t := 21) rfl rfl rfl rfl rfl rfl rfl ?_
    refine LWo.guardNU (t := 21) rfl rfl rfl rfl rfl rfl rfl ?_
    refine LWo.guardNU (t := 21) rfl rfl rfl rfl rfl rfl rfl ?_
    refine LWo.guardNU (t := 21) rfl rfl rfl rfl rfl rfl rfl ?_
    refine LWo.pickTM (e_bool true) rfl rfl rfl (hn := ?_)
    refine LWo.move (e_bool true) rfl (hn := ?_)
    refine LWo.guardNU (t := 27) rfl rfl rfl rfl rfl rfl rfl ?_
    refine LWo.guardNU (t := 27) rfl rfl rfl rfl rfl rfl rfl ?_
    refine LWo.guardNU (t := 27) rfl rfl rfl rfl rfl rfl rfl ?_
    refine LWo.guardNU (t := 27) rfl rfl rfl rfl rfl rfl rfl ?_
    refine LWo.pickTM (e_bool true) rfl rfl rfl (hn := ?_)
    refine LWo.nil (hN3 (a0, a1, true) _ ⟨rfl, rfl, rfl, trivial⟩ trivial h)
   ·have h := bF h5 h
    refine LWo.guardY (t := 13) rfl h5 rfl rfl ?_
    refine LWo.move (e_Limpl_Pair a0) rfl (hn := ?_)
    refine bk h fun x6 e6 h => ?_
    refine LWo.guardY (t := 13) rfl h5 rfl rfl ?_
    refine LWo.vcall rfl rfl (c_spec_ClosureOf _ _ e6) (.same (.nil)) (hn := ?_)
    refine LWo.guardY (t := 13) rfl h5 rfl rfl ?_
    refine LWo.lenM (f := e_impl_Pair) (l := x6) u_Limpl_Pair rfl (hn := ?_)
    refine LWo.guardY (t := 13) rfl h5 rfl rfl ?_
    refine LWo.move (e_Limpl_Pair a0) rfl (hn := ?_)
    refine LWo.guardY (t := 13) rfl h5 rfl rfl ?_
    refine LWo.lenM (f := e_impl_Pair) (l := a0) u_Limpl_Pair rfl (hn := ?_)
    refine LWo.guardY (t := 13) rfl h5 rfl rfl ?_
    refine LWo.int _ rfl rfl rfl (hn := ?_)
    refine LWo.pickFM (e_bool ((x6.length : Int) != (a0.length : Int))) rfl h5 rfl (hn := ?_)
    refine LWo.move (e_bool ((x6.length : Int) != (a0.length : Int))) rfl (hn := ?_)
    refine LWo.byCases (t := 21) _ rfl (fun h7 => ?_) (fun h7 => ?_)
    ·have h := bT h7 h
     refine LWo.guardNU (t := 21) rfl h7 rfl rfl rfl rfl rfl ?_
     refine LWo.guardNU (t := 21) rfl h7 rfl rfl rfl rfl rfl ?_
     refine LWo.guardNU (t := 21) rfl h7 rfl rfl rfl rfl rfl ?_
     refine LWo.guardNU (t := 21) rfl h7 rfl rfl rfl rfl rfl ?_
     refine LWo.pickTM (e_bool true) rfl h7 rfl (hn := ?_)
     refine LWo.move (e_bool true) rfl (hn := ?_)
     refine LWo.guardNU (t := 27) rfl rfl rfl rfl rfl rfl rfl ?_
     refine LWo.guardNU (t := 27) rfl rfl rfl rfl rfl rfl rfl ?_
     refine LWo.guardNU (t := 27) rfl rfl rfl rfl rfl rfl rfl ?_
     refine LWo.guardNU (t := 27) rfl rfl rfl rfl rfl rfl rfl ?_
     refine LWo.pickTM (e_bool true) rfl rfl rfl (hn := ?_)
     refine LWo.nil (hN3 (a0, a1, true) _ ⟨rfl, rfl, rfl, trivial⟩ trivial h)
    ·have h := bF h7 h
     refine LWo.guardY (t := 21) rfl h7 rfl rfl ?_
     refine LWo.fieldAddr _ u_impl_Pair rfl s_int rfl rfl (hn := ?_)
     refine LWo.guardY (t := 21) rfl h7 rfl rfl ?_
     refine LWo.load1 (c := (e_int a1.From)) g_int rfl (hn := ?_)
     refine bk h fun x8 e8 h => ?_
     refine LWo.guardY (t := 21) rfl h7 rfl rfl ?_
     refine LWo.vcall rfl rfl (c_spec_l1In _ _ _ _ e8) (.same (.same (.same (.nil)))) (hn := ?_)
     refine LWo.guardY (t := 21) rfl h7 rfl rfl ?_
     refine LWo.not rfl (hn := ?_)
     refine LWo.pickFM (e_bool (!x8)) rfl h7 rfl (hn := ?_)
     refine LWo.move (e_bool (!x8)) rfl (hn := ?_)
     refine LWo.byCases (t := 27) _ rfl (fun h9 => ?_) (fun h9 => ?_)
     ·have h := bT h9 h
      refine LWo.guardNU (t := 27) rfl h9 rfl rfl rfl rfl rfl ?_
      refine LWo.guardNU (t := 27) rfl h9 rfl rfl rfl rfl rfl ?_
      refine LWo.guardNU (t := 27) rfl h9 rfl rfl rfl rfl rfl ?_
      refine LWo.guardNU (t := 27) rfl h9 rfl rfl rfl rfl rfl ?_
      refine LWo.pickTM (e_bool true) rfl h9 rfl (hn := ?_)
      refine LWo.nil (hN3 (a0, a1, true) _ ⟨rfl, rfl, rfl, trivial⟩ trivial h)
     ·have h := bF h9 h
      refine LWo.guardY (t := 27) rfl h9 rfl rfl ?_
      refine LWo.fieldAddr _ u_impl_Pair rfl s_int rfl rfl (hn := ?_)
      refine LWo.guardY (t := 27) rfl h9 rfl rfl ?_
      refine LWo.load1 (c := (e_int a1.To)) g_int rfl (hn := ?_)
      refine bk h fun x10 e10 h => ?_
      refine LWo.guardY (t := 27) rfl h9 rfl rfl ?_
      refine LWo.vcall rfl rfl (c_spec_l1In _ _ _ _ e10) (.same (.same (.same (.nil)))) (hn := ?_)
      refine LWo.guardY (t := 27) rfl h9 rfl rfl ?_
      refine LWo.not rfl (hn := ?_)
      refine LWo.pickFM (e_bool (!x10)) rfl h9 rfl (hn := ?_)
      refine LWo.nil (hN3 (a0, a1, (!x10)) _ ⟨rfl, rfl, rfl, trivial⟩ trivial h)

def m_impl_between_j1 (t6 : Bool) : Option Bool :=
  some t6
def m_impl_between (a0 : Int) (a1 : Int) (a2 : Int) : Option Bool :=
  bif decide (a0 ≥ a1) then (m_impl_between_j1  (decide (a0 ≤ a2)))
  else (m_impl_between_j1  false)
theorem c_impl_between (a0 : Int) (a1 : Int) (a2 : Int) (r : Bool) (h : m_impl_between a0 a1 a2 = some r) : Ret Try.prog f_impl_between [e_int a0, e_int a1, e_int a2] (e_bool r) := by
  refine Does.goG [] F_impl_between rfl e_impl_between n_impl_between rfl (rvs := [.tmp 6]) rfl rfl ?_
  intro w0 ok0 lent ρ0
  refine LWP.seq_k fun N1 hN1 => ?_
  refine LWP.region (l := [_]) ?_
  refine LWo.assign (e_bool false) rfl (hn := ?_)
  refine LWo.nil (hN1 _ ?_)
  refine LWP.join (α := Bool) (fun z : Bool => [(6, (e_bool z))]) (fun z : Bool => []) (fun z : Bool => m_impl_between_j1  z) r (fun _ => by simp [hkeys]) ?_ ?_
  ·rintro t6 h
   replace h : m_impl_between_j1  t6 = some _ := h
   obtain rfl := Option.some.inj h
   refine LWP.ret (QG.mk (.inr rfl) (.cons (.tmp (x := (e_bool t6)) rfl) (.nil)) (RetOK.one0 (.pure rfl) (by decide)) rfl rfl)
  ·intro N2 hN2
   refine LWP.region (l := [_,_,_,_,_,_,_,_,_]) ?_
   refine LWo.move (e_int a0) rfl (hn := ?_)
   refine LWo.move (e_int a1) rfl (hn := ?_)
   refine LWo.int _ rfl rfl rfl (hn := ?_)
   refine LWo.move (e_bool (decide (a0 ≥ a1))) rfl (hn := ?_)
   refine LWo.byCases (t := 10) _ rfl (fun h3 => ?_) (fun h3 => ?_)
   ·have h := bT h3 h
    refine LWo.guardY (t := 10) rfl h3 rfl rfl ?_
    refine LWo.move (e_int a0) rfl (hn := ?_)
    refine LWo.guardY (t := 10) rfl h3 rfl rfl ?_
    refine LWo.move (e_int a2) rfl (hn := ?_)
    refine LWo.guardY (t := 10) rfl h3 rfl rfl ?_
    refine LWo.int _ rfl rfl rfl (hn := ?_)
    refine LWo.pickTM (e_bool (decide (a0 ≤ a2))) rfl h3 rfl (hn := ?_)
    refine LWo.assign (e_bool (decide (a0 ≤ a2))) rfl (hn := ?_)
    refine LWo.nil (hN2 (decide (a0 ≤ a2)) _ ⟨rfl, trivial⟩ trivial h)
   ·have h := bF h3 h
    refine LWo.guardNU (t := 10) rfl h3 rfl rfl rfl rfl rfl ?_
    refine LWo.guardNU (t := 10) rfl h3 rfl rfl rfl rfl rfl ?_
    refine LWo.guardNU (t := 10) rfl h3 rfl rfl rfl rfl rfl ?_
    refine LWo.pickFM (e_bool false) rfl h3 rfl (hn := ?_)
    refine LWo.assign (e_bool false) rfl (hn := ?_)
    refine LWo.nil (hN2 false _ ⟨rfl, trivial⟩ trivial h)

def m_impl_Pair_ok_j1 (t2 : Bool) : Option Bool :=
  some t2
def m_impl_Pair_ok (a0 : S_impl_Pair) : Option Bool :=
  (m_impl_between a0.From (0 : Int) (6 : Int)).bind fun x3 =>
  bif x3 then ((m_impl_between a0.To (0 : Int) (6 : Int)).bind fun x5 =>
    m_impl_Pair_ok_j1  x5)
  else (m_impl_Pair_ok_j1  false)
theorem c_impl_Pair_ok (a0 : S_impl_Pair) (r : Bool) (h : m_impl_Pair_ok a0 = some r) : Ret Try.prog f_impl_Pair_ok [e_impl_Pair a0] (e_bool r) := by
  refine Does.goG [] F_impl_Pair_ok rfl e_impl_Pair_ok n_impl_Pair_ok rfl (rvs := [.tmp 2]) rfl rfl ?_
  intro w0 ok0 lent ρ0
  refine LWP.seq_k fun N1 hN1 => ?_
  refine LWP.region (l := [_,_]) ?_
  refine LWo.boxF (e_impl_Pair a0) rfl rfl rfl (hn := ?_)
  refine LWo.assign (e_bool false) rfl (hn := ?_)
  refine LWo.nil (hN1 _ ?_)
  refine LWP.join (α := Bool) (fun z : Bool => [(2, (e_bool z))]) (fun z : Bool => []) (fun z : Bool => m_impl_Pair_ok_j1  z) r (fun _ => by simp [hkeys]) ?_ ?_
  ·rintro t2 h
   replace h : m_impl_Pair_ok_j1  t2 = some _ := h
   obtain rfl := Option.some.inj h
   refine LWP.ret (QG.mk (.inr rfl) (.cons (.tmp (x := (e_bool t2)) rfl) (.nil)) (RetOK.one0 (.pure rfl) (by decide)) rfl rfl)
  ·intro N2 hN2
   refine LWP.region (l := [_,_,_,_,_,_,_,_,_]) ?_
   refine LWo.fieldAddr _ u_impl_Pair rfl s_int rfl rfl (hn := ?_)
   refine LWo.load1 (c := (e_int a0.From)) g_int rfl (hn := ?_)
   refine bk h fun x3 e3 h => ?_
   refine LWo.vcall rfl rfl (c_impl_between _ _ _ _ e3) (.same (.same (.same (.nil)))) (hn := ?_)
   refine LWo.move (e_bool x3) rfl (hn := ?_)
   refine LWo.byCases (t := 6) _ rfl (fun h4 => ?_) (fun h4 => ?_)
   ·have h := bT h4 h
    refine LWo.guardY (t := 6) rfl h4 rfl rfl ?_
    refine LWo.fieldAddr _ u_impl_Pair rfl s_int rfl rfl (hn := ?_)
    refine LWo.guardY (t := 6) rfl h4 rfl rfl ?_
    refine LWo.load1 (c := (e_int a0.To)) g_int rfl (hn := ?_)
    refine bk h fun x5 e5 h => ?_
    refine LWo.guardY (t := 6) rfl h4 rfl rfl ?_
    refine LWo.vcall rfl rfl (c_impl_between _ _ _ _ e5) (.same (.same (.same (.nil)))) (hn := ?_)
    refine LWo.pickTM (e_bool x5) rfl h4 rfl (hn := ?_)
    refine LWo.assign (e_bool x5) rfl (hn := ?_)
    refine LWo.nil (hN2 x5 _ ⟨rfl, trivial⟩ trivial h)
   ·have h := bF h4 h
    refine LWo.guardNU (t := 6) rfl h4 rfl rfl rfl rfl rfl ?_
    refine LWo.guardNU (t := 6) rfl h4 rfl rfl rfl rfl rfl ?_
    refine LWo.guardNU (t := 6) rfl h4 rfl rfl rfl rfl rfl ?_
    refine LWo.pickFM (e_bool false) rfl h4 rfl (hn := ?_)
    refine LWo.assign (e_bool false) rfl (hn := ?_)
    refine LWo.nil (hN2 false _ ⟨rfl, trivial⟩ trivial h)

def m_cmp_isNaN_int (a0 : Int) : Option Bool :=
  some (a0 != a0)
theorem c_cmp_isNaN_int (a0 : Int) (r : Bool) (h : m_cmp_isNaN_int a0 = some r) : Ret Try.prog f_cmp_isNaN_int [e_int a0] (e_bool r) := by
  refine Does.goG [] F_cmp_isNaN_int rfl e_cmp_isNaN_int n_cmp_isNaN_int rfl (rvs := [.tmp 2]) rfl rfl ?_
  intro w0 ok0 lent ρ0
  refine LWP.seq_k fun N1 hN1 => ?_
  refine LWP.region (l := [_]) ?_
  refine LWo.assign (e_bool false) rfl (hn := ?_)
  refine LWo.nil (hN1 _ ?_)
  refine LWP.seq_k fun N2 hN2 => ?_
  refine LWP.region (l := [_,_,_,_]) ?_
  refine LWo.move (e_int a0) rfl (hn := ?_)
  refine LWo.move (e_int a0) rfl (hn := ?_)
  refine LWo.int _ rfl rfl rfl (hn := ?_)
  refine LWo.assign (e_bool (a0 != a0)) rfl (hn := ?_)
  refine LWo.nil (hN2 _ ?_)
  obtain rfl := Option.some.inj h
  refine LWP.ret (QG.mk (.inr rfl) (.cons (.tmp (x := (e_bool (a0 != a0))) rfl) (.nil)) (RetOK.one0 (.pure rfl) (by decide)) rfl rfl)

def m_cmp_Compare_int (a0 : Int) (a1 : Int) : Option Int :=
  (m_cmp_isNaN_int a0).bind fun x3 =>
  (m_cmp_isNaN_int a1).bind fun x5 =>
  bif x3 then (bif x5 then (some (0 : Int))
    else (some (-1 : Int)))
  else (bif x5 then (some (1 : Int))
  else (bif decide (a0 < a1) then (some (-1 : Int))
  else (bif decide (a0 > a1) then (some (1 : Int))
  else (some (0 : Int)))))
theorem c_cmp_Compare_int (a0 : Int) (a1 : Int) (r : Int) (h : m_cmp_Compare_int a0 a1 = some r) : Ret Try.prog f_cmp_Compare_int [e_int a0, e_int a1] (e_int r) := by
  refine Does.goG [] F_cmp_Compare_int rfl e_cmp_Compare_int n_cmp_Compare_int rfl (rvs := [.tmp 4]) rfl rfl ?_
  intro w0 ok0 lent ρ0
  refine LWP.seq_k fun N1 hN1 => ?_
  refine LWP.region (l := [_]) ?_
  refine LWo.assign (e_int (0 : Int)) rfl (hn := ?_)
  refine LWo.nil (hN1 _ ?_)
  refine LWP.seq_k fun N2 hN2 => ?_
  refine LWP.region (l := [_,_,_]) ?_
  refine LWo.move (e_int a0) rfl (hn := ?_)
  refine bk h fun x3 e3 h => ?_
  refine LWo.vcall rfl rfl (c_cmp_isNaN_int _ _ e3) (.same (.nil)) (hn := ?_)
  refine LWo.assign (e_bool x3) rfl (hn := ?_)
  refine LWo.nil (hN2 _ ?_)
  refine LWP.seq_k fun N4 hN4 => ?_
  refine LWP.region (l := [_,_,_]) ?_
  refine LWo.move (e_int a1) rfl (hn := ?_)
  refine bk h fun x5 e5 h => ?_
  refine LWo.vcall rfl rfl (c_cmp_isNaN_int _ _ e5) (.same (.nil)) (hn := ?_)
  refine LWo.assign (e_bool x5) rfl (hn := ?_)
  refine LWo.nil (hN4 _ ?_)
  refine LWP.seq_k fun N6 hN6 => ?_
  refine LWP.seq_k fun N7 hN7 => ?_
  refine LWP.region (l := [_]) ?_
  refine LWo.move (e_bool x3) rfl (hn := ?_)
  refine LWo.nil (hN7 _ ?_)
  refine LWP.cond_split rfl (fun h8 => ?_) (fun h8 => ?_)
  ·have h := bT h8 h
   refine LWP.seq_k fun N9 hN9 => ?_
   refine LWP.seq_k fun N10 hN10 => ?_
   refine LWP.region (l := [_]) ?_
   refine LWo.move (e_bool x5) rfl (hn := ?_)
   refine LWo.nil (hN10 _ ?_)
   refine LWP.cond_split rfl (fun h11 => ?_) (fun h11 => ?_)
   ·have h := bT h11 h
    refine LWP.seq_k fun N12 hN12 => ?_
    refine LWP.region (l := [_]) ?_
    refine LWo.assign (e_int (0 : Int)) rfl (hn := ?_)
    refine LWo.nil (hN12 _ ?_)
    obtain rfl := Option.some.inj h
    refine LWP.ret (QG.mk (.inr rfl) (.cons (.tmp (x := (e_int (0 : Int))) rfl) (.nil)) (RetOK.one0 (.pure rfl) (by decide)) rfl rfl)
   ·have h := bF h11 h
    refine LWP.skip (hN9 _ ?_)
    refine LWP.seq_k fun N13 hN13 => ?_
    refine LWP.region (l := [_]) ?_
    refine LWo.assign (e_int (-1 : Int)) rfl (hn := ?_)
    refine LWo.nil (hN13 _ ?_)
    obtain rfl := Option.some.inj h
    refine LWP.ret (QG.mk (.inr rfl) (.cons (.tmp (x := (e_int (-1 : Int))) rfl) (.nil)) (RetOK.one0 (.pure rfl) (by decide)) rfl rfl)
  ·have h := bF h8 h
   refine LWP.skip (hN6 _ ?_)
   refine LWP.seq_k fun N14 hN14 => ?_
   refine LWP.seq_k fun N15 hN15 => ?_
   refine LWP.region (l := [_]) ?_
   refine LWo.move (e_bool x5) rfl (hn := ?_)
   refine LWo.nil (hN15 _ ?_)
   refine LWP.cond_split rfl (fun h16 => ?_) (fun h16 => ?_)
   ·have h := bT h16 h
    refine LWP.seq_k fun N17 hN17 => ?_
    refine LWP.region (l := [_]) ?_
    refine LWo.assign (e_int (1 : Int)) rfl (hn := ?_)
    refine LWo.nil (hN17 _ ?_)
    obtain rfl := Option.some.inj h
    refine LWP.ret (QG.mk (.inr rfl) (.cons (.tmp (x := (e_int (1 : Int))) rfl) (.nil)) (RetOK.one0 (.pure rfl) (by decide)) rfl rfl)
   ·have h := bF h16 h
    refine LWP.skip (hN14 _ ?_)
    refine LWP.seq_k fun N18 hN18 => ?_
    refine LWP.seq_k fun N19 hN19 => ?_
    refine LWP.region (l := [_,_,_]) ?_
    refine LWo.move (e_int a0) rfl (hn := ?_)
    refine LWo.move (e_int a1) rfl (hn := ?_)
    refine LWo.int _ rfl rfl rfl (hn := ?_)
    refine LWo.nil (hN19 _ ?_)
    refine LWP.cond_split rfl (fun h20 => ?_) (fun h20 => ?_)
    ·have h := bT h20 h
     refine LWP.seq_k fun N21 hN21 => ?_
     refine LWP.region (l := [_]) ?_
     refine LWo.assign (e_int (-1 : Int)) rfl (hn := ?_)
     refine LWo.nil (hN21 _ ?_)
     obtain rfl := Option.some.inj h
     refine LWP.ret (QG.mk (.inr rfl) (.cons (.tmp (x := (e_int (-1 : Int))) rfl) (.nil)) (RetOK.one0 (.pure rfl) (by decide)) rfl rfl)
    ·have h := bF h20 h
     refine LWP.skip (hN18 _ ?_)
     refine LWP.seq_k fun N22 hN22 => ?_
     refine LWP.seq_k fun N23 hN23 => ?_
     refine LWP.region (l := [_,_,_]) ?_
     refine LWo.move (e_int a0) rfl (hn := ?_)
     refine LWo.move (e_int a1) rfl (hn := ?_)
     refine LWo.int _ rfl rfl rfl (hn := ?_)
     refine LWo.nil (hN23 _ ?_)
     refine LWP.cond_split rfl (fun h24 => ?_) (fun h24 => ?_)
     ·have h := bT h24 h
      refine LWP.seq_k fun N25 hN25 => ?_
      refine LWP.region (l := [_]) ?_
      refine LWo.assign (e_int (1 : Int)) rfl (hn := ?_)
      refine LWo.nil (hN25 _ ?_)
      obtain rfl := Option.some.inj h
      refine LWP.ret (QG.mk (.inr rfl) (.cons (.tmp (x := (e_int (1 : Int))) rfl) (.nil)) (RetOK.one0 (.pure rfl) (by decide)) rfl rfl)
     ·have h := bF h24 h
      refine LWP.skip (hN22 _ ?_)
      refine LWP.seq_k fun N26 hN26 => ?_
      refine LWP.region (l := [_]) ?_
      refine LWo.assign (e_int (0 : Int)) rfl (hn := ?_)
      refine LWo.nil (hN26 _ ?_)
      obtain rfl := Option.some.inj h
      refine LWP.ret (QG.mk (.inr rfl) (.cons (.tmp (x := (e_int (0 : Int))) rfl) (.nil)) (RetOK.one0 (.pure rfl) (by decide)) rfl rfl)
end Go.Proofs.Ytkgmomocjkmipaa
