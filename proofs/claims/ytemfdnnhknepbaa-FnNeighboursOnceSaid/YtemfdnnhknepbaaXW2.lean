/- Mirrors of functions, and that the functions return what the mirrors say. -/
import Derived.Test.YtemfdnnhknepbaaXW1
set_option linter.unusedVariables false
set_option linter.unusedSimpArgs false
set_option linter.unnecessarySimpa false
namespace Go.Proofs.Ytemfdnnhknepbaa
open Go.Proofs Go.Lift Go.RowKit
def m_spec_RowOk_j1 (t0 : (List S_impl_Value)) : Option Bool :=
  some (decide ((t0.length : Int) ≤ (4 : Int)))
def m_spec_RowOk_l1 : Nat → (List S_impl_Value) → Int → Option Bool
  | 0, _, _ => none
  | n1 + 1, t0, t3 =>
    bif decide (t3 < (t0.length : Int)) then ((at? t0 t3).bind fun x11 =>
    (m_spec_ValueOk x11).bind fun x12 =>
    bif (!x12) then (some false)
    else ((ckI (t3 + (1 : Int))).bind fun x15 =>
    (m_spec_RowOk_l1  n1) t0 x15))
    else (m_spec_RowOk_j1  t0)
def m_spec_RowOk (a0 : (List S_impl_Value)) : Option Bool :=
  m_spec_RowOk_l1  (((a0.length : Int) - (0 : Int)).toNat + 1) a0 (0 : Int)
theorem c_spec_RowOk (a0 : (List S_impl_Value)) (r : Bool) (h : m_spec_RowOk a0 = some r) : Ret Try.prog f_spec_RowOk [e_Limpl_Value a0] (e_bool r) := by
  refine Does.goG [] F_spec_RowOk rfl e_spec_RowOk n_spec_RowOk rfl (rvs := [.tmp 2]) rfl rfl ?_
  intro w0 ok0 lent ρ0
  refine LWP.seq_k fun N1 hN1 => ?_
  refine LWP.region (l := [_]) ?_
  refine LWo.assign (e_bool false) rfl (hn := ?_)
  refine LWo.nil (hN1 _ ?_)
  refine LWP.join (α := (List S_impl_Value)) (fun z : (List S_impl_Value) => [(0, (e_Limpl_Value z))]) (fun z : (List S_impl_Value) => []) (fun z : (List S_impl_Value) => m_spec_RowOk_j1  z) r (fun _ => by simp [hkeys]) ?_ ?_
  · rintro t0 h
    replace h : m_spec_RowOk_j1  t0 = some _ := h
    refine LWP.seq_k fun N16 hN16 => ?_
    refine LWP.region (l := [_,_,_,_]) ?_
    refine LWo.move (e_Limpl_Value t0) rfl (hn := ?_)
    refine LWo.lenM (f := e_impl_Value) (l := t0) u_Limpl_Value rfl (hn := ?_)
    refine LWo.int _ rfl rfl rfl (hn := ?_)
    refine LWo.assign (e_bool (decide ((t0.length : Int) ≤ (4 : Int)))) rfl (hn := ?_)
    refine LWo.nil (hN16 _ ?_)
    obtain rfl := Option.some.inj h
    refine LWP.ret (QG.mk (.inr rfl) (.cons (.tmp (x := (e_bool (decide ((t0.length : Int) ≤ (4 : Int))))) rfl) (.nil)) (RetOK.one0 (.pure rfl) (by decide)) rfl rfl)
  · intro N2 hN2
    refine LWP.seq_k fun N3 hN3 => ?_
    refine LWP.region (l := [_]) ?_
    refine LWo.assign (e_int (0 : Int)) rfl (hn := ?_)
    refine LWo.nil (hN3 _ ?_)
    refine LWP.block ?_
    refine LWP.loopM (α := (List S_impl_Value) × Int) (fun z : (List S_impl_Value) × Int => [(0, (e_Limpl_Value z.1)), (3, (e_int z.2))]) (fun z : (List S_impl_Value) × Int => []) (fun n1 (z : (List S_impl_Value) × Int) => m_spec_RowOk_l1  n1 z.1 z.2) r _ (a0, (0 : Int)) h (fun _ => rfl) (fun _ => by simp [hkeys]) ⟨rfl, rfl, trivial⟩ trivial ?_
    rintro n1 ⟨t0, t3⟩ h N4 hN4
    replace h : m_spec_RowOk_l1  (n1 + 1) t0 t3 = some _ := h
    refine LWP.seq_k fun N6 hN6 => ?_
    refine LWP.seq_k fun N7 hN7 => ?_
    refine LWP.region (l := [_,_,_,_]) ?_
    refine LWo.move (e_int t3) rfl (hn := ?_)
    refine LWo.move (e_Limpl_Value t0) rfl (hn := ?_)
    refine LWo.lenM (f := e_impl_Value) (l := t0) u_Limpl_Value rfl (hn := ?_)
    refine LWo.int _ rfl rfl rfl (hn := ?_)
    refine LWo.nil (hN7 _ ?_)
    refine LWP.cond_split rfl (fun h8 => ?_) (fun h8 => ?_)
    · have h := bT h8 h
      refine LWP.skip (hN6 _ ?_)
      refine LWP.seq_k fun N9 hN9 => ?_
      refine LWP.block ?_
      refine LWP.seq_k fun N10 hN10 => ?_
      refine LWP.region (l := [_,_,_,_,_,_]) ?_
      refine LWo.move (e_Limpl_Value t0) rfl (hn := ?_)
      refine LWo.move (e_int t3) rfl (hn := ?_)
      refine bk h fun x11 e11 h => ?_
      refine LWo.indexM (f := e_impl_Value) e11 u_Limpl_Value s_impl_Value rfl rfl (hn := ?_)
      refine LWo.loadN ((e_impl_Value x11)).cells g_impl_Value s_impl_Value rfl (Nat.le_of_ble_eq_true rfl) rfl (hn := ?_)
      refine bk h fun x12 e12 h => ?_
      refine LWo.vcall rfl rfl (c_spec_ValueOk _ _ e12) (.same (.nil)) (hn := ?_)
      refine LWo.not rfl (hn := ?_)
      refine LWo.nil (hN10 _ ?_)
      refine LWP.cond_split rfl (fun h13 => ?_) (fun h13 => ?_)
      · have h := bT h13 h
        refine LWP.seq_k fun N14 hN14 => ?_
        refine LWP.region (l := [_]) ?_
        refine LWo.assign (e_bool false) rfl (hn := ?_)
        refine LWo.nil (hN14 _ ?_)
        obtain rfl := Option.some.inj h
        refine LWP.ret (QG.mk (.inr rfl) (.cons (.tmp (x := (e_bool false)) rfl) (.nil)) (RetOK.one0 (.pure rfl) (by decide)) rfl rfl)
      · have h := bF h13 h
        refine LWP.skip (hN9 _ ?_)
        refine LWP.region (l := [_,_,_]) ?_
        refine LWo.move (e_int t3) rfl (hn := ?_)
        refine bk h fun x15 e15 h => ?_
        refine LWo.int _ rfl rfl (add_ck e15) (hn := ?_)
        refine LWo.assign (e_int x15) rfl (hn := ?_)
        refine LWo.nil (hN4 (t0, x15) _ ⟨rfl, rfl, trivial⟩ trivial h)
    · have h := bF h8 h
      refine LWP.exit (hN2 t0 _ ⟨rfl, trivial⟩ trivial h)

def m_spec_l1Less (a0 : Int) (a1 : Int) : Option Int :=
  bif decide (a0 < a1) then (some (1 : Int))
  else (some (0 : Int))
theorem c_spec_l1Less (a0 : Int) (a1 : Int) (r : Int) (h : m_spec_l1Less a0 a1 = some r) : Ret Try.prog f_spec_l1Less [e_int a0, e_int a1] (e_int r) := by
  refine Does.goG [] F_spec_l1Less rfl e_spec_l1Less n_spec_l1Less rfl (rvs := [.tmp 4]) rfl rfl ?_
  intro w0 ok0 lent ρ0
  refine LWP.seq_k fun N1 hN1 => ?_
  refine LWP.region (l := [_]) ?_
  refine LWo.assign (e_int (0 : Int)) rfl (hn := ?_)
  refine LWo.nil (hN1 _ ?_)
  refine LWP.seq_k fun N2 hN2 => ?_
  refine LWP.seq_k fun N3 hN3 => ?_
  refine LWP.region (l := [_,_,_]) ?_
  refine LWo.move (e_int a0) rfl (hn := ?_)
  refine LWo.move (e_int a1) rfl (hn := ?_)
  refine LWo.int _ rfl rfl rfl (hn := ?_)
  refine LWo.nil (hN3 _ ?_)
  refine LWP.cond_split rfl (fun h4 => ?_) (fun h4 => ?_)
  · have h := bT h4 h
    refine LWP.seq_k fun N5 hN5 => ?_
    refine LWP.region (l := [_]) ?_
    refine LWo.assign (e_int (1 : Int)) rfl (hn := ?_)
    refine LWo.nil (hN5 _ ?_)
    obtain rfl := Option.some.inj h
    refine LWP.ret (QG.mk (.inr rfl) (.cons (.tmp (x := (e_int (1 : Int))) rfl) (.nil)) (RetOK.one0 (.pure rfl) (by decide)) rfl rfl)
  · have h := bF h4 h
    refine LWP.skip (hN2 _ ?_)
    refine LWP.seq_k fun N6 hN6 => ?_
    refine LWP.region (l := [_]) ?_
    refine LWo.assign (e_int (0 : Int)) rfl (hn := ?_)
    refine LWo.nil (hN6 _ ?_)
    obtain rfl := Option.some.inj h
    refine LWP.ret (QG.mk (.inr rfl) (.cons (.tmp (x := (e_int (0 : Int))) rfl) (.nil)) (RetOK.one0 (.pure rfl) (by decide)) rfl rfl)

def m_spec_l1Cmp (a0 : ByteArray) (a1 : ByteArray) : Option Int :=
  bif (sLt a0 a1) then (some (-1 : Int))
  else (bif (!(sLt a0 a1 || sEq a0 a1)) then (some (1 : Int))
  else (some (0 : Int)))
theorem c_spec_l1Cmp (a0 : ByteArray) (a1 : ByteArray) (r : Int) (h : m_spec_l1Cmp a0 a1 = some r) : Ret Try.prog f_spec_l1Cmp [e_string a0, e_string a1] (e_int r) := by
  refine Does.goG [] F_spec_l1Cmp rfl e_spec_l1Cmp n_spec_l1Cmp rfl (rvs := [.tmp 4]) rfl rfl ?_
  intro w0 ok0 lent ρ0
  refine LWP.seq_k fun N1 hN1 => ?_
  refine LWP.region (l := [_]) ?_
  refine LWo.assign (e_int (0 : Int)) rfl (hn := ?_)
  refine LWo.nil (hN1 _ ?_)
  refine LWP.seq_k fun N2 hN2 => ?_
  refine LWP.seq_k fun N3 hN3 => ?_
  refine LWP.region (l := [_,_,_]) ?_
  refine LWo.move (e_string a0) rfl (hn := ?_)
  refine LWo.move (e_string a1) rfl (hn := ?_)
  refine LWo.str _ rfl rfl rfl (hn := ?_)
  refine LWo.nil (hN3 _ ?_)
  refine LWP.cond_split rfl (fun h4 => ?_) (fun h4 => ?_)
  · have h := bT h4 h
    refine LWP.seq_k fun N5 hN5 => ?_
    refine LWP.region (l := [_]) ?_
    refine LWo.assign (e_int (-1 : Int)) rfl (hn := ?_)
    refine LWo.nil (hN5 _ ?_)
    obtain rfl := Option.some.inj h
    refine LWP.ret (QG.mk (.inr rfl) (.cons (.tmp (x := (e_int (-1 : Int))) rfl) (.nil)) (RetOK.one0 (.pure rfl) (by decide)) rfl rfl)
  · have h := bF h4 h
    refine LWP.skip (hN2 _ ?_)
    refine LWP.seq_k fun N6 hN6 => ?_
    refine LWP.seq_k fun N7 hN7 => ?_
    refine LWP.region (l := [_,_,_]) ?_
    refine LWo.move (e_string a0) rfl (hn := ?_)
    refine LWo.move (e_string a1) rfl (hn := ?_)
    refine LWo.str _ rfl rfl rfl (hn := ?_)
    refine LWo.nil (hN7 _ ?_)
    refine LWP.cond_split rfl (fun h8 => ?_) (fun h8 => ?_)
    · have h := bT h8 h
      refine LWP.seq_k fun N9 hN9 => ?_
      refine LWP.region (l := [_]) ?_
      refine LWo.assign (e_int (1 : Int)) rfl (hn := ?_)
      refine LWo.nil (hN9 _ ?_)
      obtain rfl := Option.some.inj h
      refine LWP.ret (QG.mk (.inr rfl) (.cons (.tmp (x := (e_int (1 : Int))) rfl) (.nil)) (RetOK.one0 (.pure rfl) (by decide)) rfl rfl)
    · have h := bF h8 h
      refine LWP.skip (hN6 _ ?_)
      refine LWP.seq_k fun N10 hN10 => ?_
      refine LWP.region (l := [_]) ?_
      refine LWo.assign (e_int (0 : Int)) rfl (hn := ?_)
      refine LWo.nil (hN10 _ ?_)
      obtain rfl := Option.some.inj h
      refine LWP.ret (QG.mk (.inr rfl) (.cons (.tmp (x := (e_int (0 : Int))) rfl) (.nil)) (RetOK.one0 (.pure rfl) (by decide)) rfl rfl)

def m_spec_ValueOrder_j1 (t2 : S_impl_Value) (t3 : S_impl_Value) (t12 : Bool) : Option Int :=
  bif t12 then (some (0 : Int))
  else (bif (t2.Kind != t3.Kind) then ((m_spec_l1Less t3.Kind t2.Kind).bind fun x13 =>
  (ckI ((2 : Int) * x13)).bind fun x14 =>
  (ckI (x14 - (1 : Int))).bind fun x15 =>
  some x15)
  else (bif (t2.N != t3.N) then ((m_spec_l1Less t3.N t2.N).bind fun x19 =>
    (ckI ((2 : Int) * x19)).bind fun x20 =>
    (ckI (x20 - (1 : Int))).bind fun x21 =>
    some x21)
  else ((m_spec_l1Cmp t2.S t3.S).bind fun x23 =>
  some x23)))
def m_spec_ValueOrder (a0 : S_impl_Value) (a1 : S_impl_Value) : Option Int :=
  (m_spec_ValueOk a0).bind fun x4 =>
  bif (!x4) then (m_spec_ValueOrder_j1  a0 a1 true)
  else ((m_spec_ValueOk a1).bind fun x6 =>
    m_spec_ValueOrder_j1  a0 a1 (!x6))
theorem c_spec_ValueOrder (a0 : S_impl_Value) (a1 : S_impl_Value) (r : Int) (h : m_spec_ValueOrder a0 a1 = some r) : Ret Try.prog f_spec_ValueOrder [e_impl_Value a0, e_impl_Value a1] (e_int r) := by
  refine Does.goG [] F_spec_ValueOrder rfl e_spec_ValueOrder n_spec_ValueOrder rfl (rvs := [.tmp 4]) rfl rfl ?_
  intro w0 ok0 lent ρ0
  refine LWP.seq_k fun N1 hN1 => ?_
  refine LWP.region (l := [_,_,_]) ?_
  refine LWo.boxF (e_impl_Value a0) rfl rfl rfl (hn := ?_)
  refine LWo.boxF (e_impl_Value a1) rfl rfl rfl (hn := ?_)
  refine LWo.assign (e_int (0 : Int)) rfl (hn := ?_)
  refine LWo.nil (hN1 _ ?_)
  refine LWP.seq_k fun N2 hN2 => ?_
  refine LWP.join (α := S_impl_Value × S_impl_Value × Bool) (fun z : S_impl_Value × S_impl_Value × Bool => [(2, (.fp (e_impl_Value z.1).cells)), (3, (.fp (e_impl_Value z.2.1).cells)), (12, (e_bool z.2.2))]) (fun z : S_impl_Value × S_impl_Value × Bool => []) (fun z : S_impl_Value × S_impl_Value × Bool => m_spec_ValueOrder_j1  z.1 z.2.1 z.2.2) r (fun _ => by simp [hkeys]) ?_ ?_
  · rintro ⟨t2, t3, t12⟩ h
    replace h : m_spec_ValueOrder_j1  t2 t3 t12 = some _ := h
    refine LWP.cond_split rfl (fun h7 => ?_) (fun h7 => ?_)
    · have h := bT h7 h
      refine LWP.seq_k fun N8 hN8 => ?_
      refine LWP.region (l := [_]) ?_
      refine LWo.assign (e_int (0 : Int)) rfl (hn := ?_)
      refine LWo.nil (hN8 _ ?_)
      obtain rfl := Option.some.inj h
      refine LWP.ret (QG.mk (.inr rfl) (.cons (.tmp (x := (e_int (0 : Int))) rfl) (.nil)) (RetOK.one0 (.pure rfl) (by decide)) rfl rfl)
    · have h := bF h7 h
      refine LWP.skip (hN2 _ ?_)
      refine LWP.seq_k fun N9 hN9 => ?_
      refine LWP.block ?_
      refine LWP.seq_k fun N10 hN10 => ?_
      refine LWP.region (l := [_,_,_,_,_,_]) ?_
      refine LWo.fieldAddr _ u_impl_Value rfl s_int rfl rfl (hn := ?_)
      refine LWo.load1 (c := (e_int t2.Kind)) g_int rfl (hn := ?_)
      refine LWo.fieldAddr _ u_impl_Value rfl s_int rfl rfl (hn := ?_)
      refine LWo.load1 (c := (e_int t3.Kind)) g_int rfl (hn := ?_)
      refine LWo.int _ rfl rfl rfl (hn := ?_)
      refine LWo.assign (e_bool (t2.Kind != t3.Kind)) rfl (hn := ?_)
      refine LWo.nil (hN10 _ ?_)
      refine LWP.cond_split rfl (fun h11 => ?_) (fun h11 => ?_)
      · have h := bT h11 h
        refine LWP.seq_k fun N12 hN12 => ?_
        refine LWP.region (l := [_,_,_,_,_,_,_,_]) ?_
        refine LWo.fieldAddr _ u_impl_Value rfl s_int rfl rfl (hn := ?_)
        refine LWo.load1 (c := (e_int t3.Kind)) g_int rfl (hn := ?_)
        refine LWo.fieldAddr _ u_impl_Value rfl s_int rfl rfl (hn := ?_)
        refine LWo.load1 (c := (e_int t2.Kind)) g_int rfl (hn := ?_)
        refine bk h fun x13 e13 h => ?_
        refine LWo.vcall rfl rfl (c_spec_l1Less _ _ _ e13) (.same (.same (.nil))) (hn := ?_)
        refine bk h fun x14 e14 h => ?_
        refine LWo.int _ rfl rfl (mul_ck e14) (hn := ?_)
        refine bk h fun x15 e15 h => ?_
        refine LWo.int _ rfl rfl (sub_ck e15) (hn := ?_)
        refine LWo.assign (e_int x15) rfl (hn := ?_)
        refine LWo.nil (hN12 _ ?_)
        obtain rfl := Option.some.inj h
        refine LWP.ret (QG.mk (.inr rfl) (.cons (.tmp (x := (e_int x15)) rfl) (.nil)) (RetOK.one0 (.pure rfl) (by decide)) rfl rfl)
      · have h := bF h11 h
        refine LWP.seq_k fun N16 hN16 => ?_
        refine LWP.region (l := [_,_,_,_,_,_]) ?_
        refine LWo.fieldAddr _ u_impl_Value rfl s_int rfl rfl (hn := ?_)
        refine LWo.load1 (c := (e_int t2.N)) g_int rfl (hn := ?_)
        refine LWo.fieldAddr _ u_impl_Value rfl s_int rfl rfl (hn := ?_)
        refine LWo.load1 (c := (e_int t3.N)) g_int rfl (hn := ?_)
        refine LWo.int _ rfl rfl rfl (hn := ?_)
        refine LWo.assign (e_bool (t2.N != t3.N)) rfl (hn := ?_)
        refine LWo.nil (hN16 _ ?_)
        refine LWP.cond_split rfl (fun h17 => ?_) (fun h17 => ?_)
        · have h := bT h17 h
          refine LWP.seq_k fun N18 hN18 => ?_
          refine LWP.region (l := [_,_,_,_,_,_,_,_]) ?_
          refine LWo.fieldAddr _ u_impl_Value rfl s_int rfl rfl (hn := ?_)
          refine LWo.load1 (c := (e_int t3.N)) g_int rfl (hn := ?_)
          refine LWo.fieldAddr _ u_impl_Value rfl s_int rfl rfl (hn := ?_)
          refine LWo.load1 (c := (e_int t2.N)) g_int rfl (hn := ?_)
          refine bk h fun x19 e19 h => ?_
          refine LWo.vcall rfl rfl (c_spec_l1Less _ _ _ e19) (.same (.same (.nil))) (hn := ?_)
          refine bk h fun x20 e20 h => ?_
          refine LWo.int _ rfl rfl (mul_ck e20) (hn := ?_)
          refine bk h fun x21 e21 h => ?_
          refine LWo.int _ rfl rfl (sub_ck e21) (hn := ?_)
          refine LWo.assign (e_int x21) rfl (hn := ?_)
          refine LWo.nil (hN18 _ ?_)
          obtain rfl := Option.some.inj h
          refine LWP.ret (QG.mk (.inr rfl) (.cons (.tmp (x := (e_int x21)) rfl) (.nil)) (RetOK.one0 (.pure rfl) (by decide)) rfl rfl)
        · have h := bF h17 h
          refine LWP.skip (hN9 _ ?_)
          refine LWP.seq_k fun N22 hN22 => ?_
          refine LWP.region (l := [_,_,_,_,_,_]) ?_
          refine LWo.fieldAddr _ u_impl_Value rfl s_string rfl rfl (hn := ?_)
          refine LWo.load1 (c := (e_string t2.S)) g_string rfl (hn := ?_)
          refine LWo.fieldAddr _ u_impl_Value rfl s_string rfl rfl (hn := ?_)
          refine LWo.load1 (c := (e_string t3.S)) g_string rfl (hn := ?_)
          refine bk h fun x23 e23 h => ?_
          refine LWo.vcall rfl rfl (c_spec_l1Cmp _ _ _ e23) (.same (.same (.nil))) (hn := ?_)
          refine LWo.assign (e_int x23) rfl (hn := ?_)
          refine LWo.nil (hN22 _ ?_)
          obtain rfl := Option.some.inj h
          refine LWP.ret (QG.mk (.inr rfl) (.cons (.tmp (x := (e_int x23)) rfl) (.nil)) (RetOK.one0 (.pure rfl) (by decide)) rfl rfl)
  · intro N3 hN3
    refine LWP.region (l := [_,_,_,_,_,_,_,_]) ?_
    refine LWo.loadN ((e_impl_Value a0)).cells g_impl_Value s_impl_Value rfl (Nat.le_of_ble_eq_true rfl) rfl (hn := ?_)
    refine bk h fun x4 e4 h => ?_
    refine LWo.vcall rfl rfl (c_spec_ValueOk _ _ e4) (.same (.nil)) (hn := ?_)
    refine LWo.not rfl (hn := ?_)
    refine LWo.move (e_bool (!x4)) rfl (hn := ?_)
    refine LWo.byCases (t := 8) _ rfl (fun h5 => ?_) (fun h5 => ?_)
    · have h := bT h5 h
      refine LWo.guardNU (t := 8) rfl h5 rfl rfl rfl rfl rfl ?_
      refine LWo.guardNU (t := 8) rfl h5 rfl rfl rfl rfl rfl ?_
      refine LWo.guardNU (t := 8) rfl h5 rfl rfl rfl rfl rfl ?_
      refine LWo.pickTM (e_bool true) rfl h5 rfl (hn := ?_)
      refine LWo.nil (hN3 (a0, a1, true) _ ⟨rfl, rfl, rfl, trivial⟩ trivial h)
    · have h := bF h5 h
      refine LWo.guardY (t := 8) rfl h5 rfl rfl ?_
      refine LWo.loadN ((e_impl_Value a1)).cells g_impl_Value s_impl_Value rfl (Nat.le_of_ble_eq_true rfl) rfl (hn := ?_)
      refine bk h fun x6 e6 h => ?_
      refine LWo.guardY (t := 8) rfl h5 rfl rfl ?_
      refine LWo.vcall rfl rfl (c_spec_ValueOk _ _ e6) (.same (.nil)) (hn := ?_)
      refine LWo.guardY (t := 8) rfl h5 rfl rfl ?_
      refine LWo.not rfl (hn := ?_)
      refine LWo.pickFM (e_bool (!x6)) rfl h5 rfl (hn := ?_)
      refine LWo.nil (hN3 (a0, a1, (!x6)) _ ⟨rfl, rfl, rfl, trivial⟩ trivial h)

def m_spec_RowOrder_j3 (t0 : (List S_impl_Value)) (t1 : (List S_impl_Value)) : Option Int :=
  (m_spec_l1Less (t1.length : Int) (t0.length : Int)).bind fun x27 =>
  (m_spec_l1Less (t0.length : Int) (t1.length : Int)).bind fun x28 =>
  (ckI (x27 - x28)).bind fun x29 =>
  some x29
def m_spec_RowOrder_j2 (k1 : (List S_impl_Value) → (List S_impl_Value) → Int → Option Int) (t0 : (List S_impl_Value)) (t1 : (List S_impl_Value)) (t5 : Int) (t24 : Bool) : Option Int :=
  bif t24 then ((at? t0 t5).bind fun x19 =>
  (at? t1 t5).bind fun x20 =>
  (m_spec_ValueOrder x19 x20).bind fun x21 =>
  bif (x21 != (0 : Int)) then (some x21)
  else ((ckI (t5 + (1 : Int))).bind fun x25 =>
  k1 t0 t1 x25))
  else (m_spec_RowOrder_j3  t0 t1)
def m_spec_RowOrder_l1 : Nat → (List S_impl_Value) → (List S_impl_Value) → Int → Option Int
  | 0, _, _, _ => none
  | n1 + 1, t0, t1, t5 =>
    bif decide (t5 < (t0.length : Int)) then (m_spec_RowOrder_j2  (m_spec_RowOrder_l1  n1) t0 t1 t5 (decide (t5 < (t1.length : Int))))
    else (m_spec_RowOrder_j2  (m_spec_RowOrder_l1  n1) t0 t1 t5 false)
def m_spec_RowOrder_j1 (t0 : (List S_impl_Value)) (t1 : (List S_impl_Value)) (t14 : Bool) : Option Int :=
  bif t14 then (some (0 : Int))
  else (m_spec_RowOrder_l1  (1000000000) t0 t1 (0 : Int))
def m_spec_RowOrder (a0 : (List S_impl_Value)) (a1 : (List S_impl_Value)) : Option Int :=
  (m_spec_RowOk a0).bind fun x4 =>
  bif (!x4) then (m_spec_RowOrder_j1  a0 a1 true)
  else ((m_spec_RowOk a1).bind fun x6 =>
    m_spec_RowOrder_j1  a0 a1 (!x6))
theorem c_spec_RowOrder (a0 : (List S_impl_Value)) (a1 : (List S_impl_Value)) (r : Int) (h : m_spec_RowOrder a0 a1 = some r) : Ret Try.prog f_spec_RowOrder [e_Limpl_Value a0, e_Limpl_Value a1] (e_int r) := by
  refine Does.goG [] F_spec_RowOrder rfl e_spec_RowOrder n_spec_RowOrder rfl (rvs := [.tmp 4]) rfl rfl ?_
  intro w0 ok0 lent ρ0
  refine LWP.seq_k fun N1 hN1 => ?_
  refine LWP.region (l := [_]) ?_
  refine LWo.assign (e_int (0 : Int)) rfl (hn := ?_)
  refine LWo.nil (hN1 _ ?_)
  refine LWP.seq_k fun N2 hN2 => ?_
  refine LWP.join (α := (List S_impl_Value) × (List S_impl_Value) × Bool) (fun z : (List S_impl_Value) × (List S_impl_Value) × Bool => [(0, (e_Limpl_Value z.1)), (1, (e_Limpl_Value z.2.1)), (14, (e_bool z.2.2))]) (fun z : (List S_impl_Value) × (List S_impl_Value) × Bool => []) (fun z : (List S_impl_Value) × (List S_impl_Value) × Bool => m_spec_RowOrder_j1  z.1 z.2.1 z.2.2) r (fun _ => by simp [hkeys]) ?_ ?_
  · rintro ⟨t0, t1, t14⟩ h
    replace h : m_spec_RowOrder_j1  t0 t1 t14 = some _ := h
    refine LWP.cond_split rfl (fun h7 => ?_) (fun h7 => ?_)
    · have h := bT h7 h
      refine LWP.seq_k fun N8 hN8 => ?_
      refine LWP.region (l := [_]) ?_
      refine LWo.assign (e_int (0 : Int)) rfl (hn := ?_)
      refine LWo.nil (hN8 _ ?_)
      obtain rfl := Option.some.inj h
      refine LWP.ret (QG.mk (.inr rfl) (.cons (.tmp (x := (e_int (0 : Int))) rfl) (.nil)) (RetOK.one0 (.pure rfl) (by decide)) rfl rfl)
    · have h := bF h7 h
      refine LWP.skip (hN2 _ ?_)
      refine LWP.join (α := (List S_impl_Value) × (List S_impl_Value)) (fun z : (List S_impl_Value) × (List S_impl_Value) => [(0, (e_Limpl_Value z.1)), (1, (e_Limpl_Value z.2))]) (fun z : (List S_impl_Value) × (List S_impl_Value) => []) (fun z : (List S_impl_Value) × (List S_impl_Value) => m_spec_RowOrder_j3  z.1 z.2) r (fun _ => by simp [hkeys]) ?_ ?_
      · rintro ⟨t0, t1⟩ h
        replace h : m_spec_RowOrder_j3  t0 t1 = some _ := h
        refine LWP.seq_k fun N26 hN26 => ?_
        refine LWP.region (l := [_,_,_,_,_,_,_,_,_,_,_,_]) ?_
        refine LWo.move (e_Limpl_Value t1) rfl (hn := ?_)
        refine LWo.lenM (f := e_impl_Value) (l := t1) u_Limpl_Value rfl (hn := ?_)
        refine LWo.move (e_Limpl_Value t0) rfl (hn := ?_)
        refine LWo.lenM (f := e_impl_Value) (l := t0) u_Limpl_Value rfl (hn := ?_)
        refine bk h fun x27 e27 h => ?_
        refine LWo.vcall rfl rfl (c_spec_l1Less _ _ _ e27) (.same (.same (.nil))) (hn := ?_)
        refine LWo.move (e_Limpl_Value t0) rfl (hn := ?_)
        refine LWo.lenM (f := e_impl_Value) (l := t0) u_Limpl_Value rfl (hn := ?_)
        refine LWo.move (e_Limpl_Value t1) rfl (hn := ?_)
        refine LWo.lenM (f := e_impl_Value) (l := t1) u_Limpl_Value rfl (hn := ?_)
        refine bk h fun x28 e28 h => ?_
        refine LWo.vcall rfl rfl (c_spec_l1Less _ _ _ e28) (.same (.same (.nil))) (hn := ?_)
        refine bk h fun x29 e29 h => ?_
        refine LWo.int _ rfl rfl (sub_ck e29) (hn := ?_)
        refine LWo.assign (e_int x29) rfl (hn := ?_)
        refine LWo.nil (hN26 _ ?_)
        obtain rfl := Option.some.inj h
        refine LWP.ret (QG.mk (.inr rfl) (.cons (.tmp (x := (e_int x29)) rfl) (.nil)) (RetOK.one0 (.pure rfl) (by decide)) rfl rfl)
      · intro N9 hN9
        refine LWP.seq_k fun N10 hN10 => ?_
        refine LWP.region (l := [_]) ?_
        refine LWo.assign (e_int (0 : Int)) rfl (hn := ?_)
        refine LWo.nil (hN10 _ ?_)
        refine LWP.block ?_
        refine LWP.loopM (α := (List S_impl_Value) × (List S_impl_Value) × Int) (fun z : (List S_impl_Value) × (List S_impl_Value) × Int => [(0, (e_Limpl_Value z.1)), (1, (e_Limpl_Value z.2.1)), (5, (e_int z.2.2))]) (fun z : (List S_impl_Value) × (List S_impl_Value) × Int => []) (fun n1 (z : (List S_impl_Value) × (List S_impl_Value) × Int) => m_spec_RowOrder_l1  n1 z.1 z.2.1 z.2.2) r _ (t0, t1, (0 : Int)) h (fun _ => rfl) (fun _ => by simp [hkeys]) ⟨rfl, rfl, rfl, trivial⟩ trivial ?_
        rintro n1 ⟨t0, t1, t5⟩ h N11 hN11
        replace h : m_spec_RowOrder_l1  (n1 + 1) t0 t1 t5 = some _ := h
        refine LWP.seq_k fun N13 hN13 => ?_
        refine LWP.join (α := (List S_impl_Value) × (List S_impl_Value) × Int × Bool) (fun z : (List S_impl_Value) × (List S_impl_Value) × Int × Bool => [(0, (e_Limpl_Value z.1)), (1, (e_Limpl_Value z.2.1)), (5, (e_int z.2.2.1)), (24, (e_bool z.2.2.2))]) (fun z : (List S_impl_Value) × (List S_impl_Value) × Int × Bool => []) (fun z : (List S_impl_Value) × (List S_impl_Value) × Int × Bool => m_spec_RowOrder_j2  (m_spec_RowOrder_l1  n1) z.1 z.2.1 z.2.2.1 z.2.2.2) r (fun _ => by simp [hkeys]) ?_ ?_
        · rintro ⟨t0, t1, t5, t24⟩ h
          replace h : m_spec_RowOrder_j2  (m_spec_RowOrder_l1  n1) t0 t1 t5 t24 = some _ := h
          refine LWP.cond_split rfl (fun h16 => ?_) (fun h16 => ?_)
          · have h := bT h16 h
            refine LWP.skip (hN13 _ ?_)
            refine LWP.seq_k fun N17 hN17 => ?_
            refine LWP.block ?_
            refine LWP.seq_k fun N18 hN18 => ?_
            refine bk h fun x19 e19 h => ?_
            refine bk h fun x20 e20 h => ?_
            refine bk h fun x21 e21 h => ?_
            refine LWP.drawE (l := [_,_,_,_,_,_,_,_,_,_]) [] [0, 1, 5] [([0], []), ([5], []), ([27, 28], []), ([29], []), ([1], []), ([5], []), ([31, 32], []), ([33], []), ([30, 34], []), ([35], [])] [0, 1, 5, 6] [] mixed (by kernel_rfl) rfl (by decide) ?_
            refine ⟨rfl, .put 27 _, trivial, fun u hg hu hh => LWo.move (e_Limpl_Value t0) hu.1 (hn := LWo.nil ⟨rfl, .inl rfl, hg⟩), ?_⟩
            refine ⟨rfl, .put 28 _, trivial, fun u hg hu hh => LWo.move (e_int t5) hu.1 (hn := LWo.nil ⟨rfl, .inl rfl, hg⟩), ?_⟩
            refine ⟨rfl, .put 29 _, trivial, fun u hg hu hh => LWo.indexM (f := e_impl_Value) e19 u_Limpl_Value s_impl_Value hu.1 hu.2.1 (hn := LWo.nil ⟨rfl, .inl rfl, hg⟩), ?_⟩
            refine ⟨rfl, .put 30 _, trivial, fun u hg hu hh => LWo.loadN ((e_impl_Value x19)).cells g_impl_Value s_impl_Value hu.1 (Nat.le_of_ble_eq_true rfl) rfl (hn := LWo.nil ⟨rfl, .inl rfl, hg⟩), ?_⟩
            refine ⟨rfl, .put 31 _, trivial, fun u hg hu hh => LWo.move (e_Limpl_Value t1) hu.1 (hn := LWo.nil ⟨rfl, .inl rfl, hg⟩), ?_⟩
            refine ⟨rfl, .put 32 _, trivial, fun u hg hu hh => LWo.move (e_int t5) hu.1 (hn := LWo.nil ⟨rfl, .inl rfl, hg⟩), ?_⟩
            refine ⟨rfl, .put 33 _, trivial, fun u hg hu hh => LWo.indexM (f := e_impl_Value) e20 u_Limpl_Value s_impl_Value hu.1 hu.2.1 (hn := LWo.nil ⟨rfl, .inl rfl, hg⟩), ?_⟩
            refine ⟨rfl, .put 34 _, trivial, fun u hg hu hh => LWo.loadN ((e_impl_Value x20)).cells g_impl_Value s_impl_Value hu.1 (Nat.le_of_ble_eq_true rfl) rfl (hn := LWo.nil ⟨rfl, .inl rfl, hg⟩), ?_⟩
            refine ⟨rfl, .put 35 _, trivial, fun u hg hu hh => LWo.vcall rfl (av2 hu.1 hu.2.1) (c_spec_ValueOrder _ _ _ e21) (.same (.same (.nil))) (hn := LWo.nil ⟨rfl, .inl rfl, hg⟩), ?_⟩
            refine ⟨rfl, .put 6 _, trivial, fun u hg hu hh => LWo.assign (e_int x21) hu.1 (hn := LWo.nil ⟨rfl, .inl rfl, hg⟩), ?_⟩
            refine ⟨rfl, by kernel_rfl, hN18 _ ?_⟩
            refine LWP.seq_k fun N22 hN22 => ?_
            refine LWP.region (l := [_,_]) ?_
            refine LWo.move (e_int x21) rfl (hn := ?_)
            refine LWo.int _ rfl rfl rfl (hn := ?_)
            refine LWo.nil (hN22 _ ?_)
            refine LWP.cond_split rfl (fun h23 => ?_) (fun h23 => ?_)
            · have h := bT h23 h
              refine LWP.seq_k fun N24 hN24 => ?_
              refine LWP.region (l := [_,_]) ?_
              refine LWo.move (e_int x21) rfl (hn := ?_)
              refine LWo.assign (e_int x21) rfl (hn := ?_)
              refine LWo.nil (hN24 _ ?_)
              obtain rfl := Option.some.inj h
              refine LWP.ret (QG.mk (.inr rfl) (.cons (.tmp (x := (e_int x21)) rfl) (.nil)) (RetOK.one0 (.pure rfl) (by decide)) rfl rfl)
            · have h := bF h23 h
              refine LWP.skip (hN17 _ ?_)
              refine LWP.region (l := [_,_,_]) ?_
              refine LWo.move (e_int t5) rfl (hn := ?_)
              refine bk h fun x25 e25 h => ?_
              refine LWo.int _ rfl rfl (add_ck e25) (hn := ?_)
              refine LWo.assign (e_int x25) rfl (hn := ?_)
              refine LWo.nil (hN11 (t0, t1, x25) _ ⟨rfl, rfl, rfl, trivial⟩ trivial h)
          · have h := bF h16 h
            refine LWP.exit (hN9 (t0, t1) _ ⟨rfl, rfl, trivial⟩ trivial h)
        · intro N14 hN14
          refine LWP.region (l := [_,_,_,_,_,_,_,_,_,_]) ?_
          refine LWo.move (e_int t5) rfl (hn := ?_)
          refine LWo.move (e_Limpl_Value t0) rfl (hn := ?_)
          refine LWo.lenM (f := e_impl_Value) (l := t0) u_Limpl_Value rfl (hn := ?_)
          refine LWo.int _ rfl rfl rfl (hn := ?_)
          refine LWo.move (e_bool (decide (t5 < (t0.length : Int)))) rfl (hn := ?_)
          refine LWo.byCases (t := 19) _ rfl (fun h15 => ?_) (fun h15 => ?_)
          · have h := bT h15 h
            refine LWo.guardY (t := 19) rfl h15 rfl rfl ?_
            refine LWo.move (e_int t5) rfl (hn := ?_)
            refine LWo.guardY (t := 19) rfl h15 rfl rfl ?_
            refine LWo.move (e_Limpl_Value t1) rfl (hn := ?_)
            refine LWo.guardY (t := 19) rfl h15 rfl rfl ?_
            refine LWo.lenM (f := e_impl_Value) (l := t1) u_Limpl_Value rfl (hn := ?_)
            refine LWo.guardY (t := 19) rfl h15 rfl rfl ?_
            refine LWo.int _ rfl rfl rfl (hn := ?_)
            refine LWo.pickTM (e_bool (decide (t5 < (t1.length : Int)))) rfl h15 rfl (hn := ?_)
            refine LWo.nil (hN14 (t0, t1, t5, decide (t5 < (t1.length : Int))) _ ⟨rfl, rfl, rfl, rfl, trivial⟩ trivial h)
          · have h := bF h15 h
            refine LWo.guardNU (t := 19) rfl h15 rfl rfl rfl rfl rfl ?_
            refine LWo.guardNU (t := 19) rfl h15 rfl rfl rfl rfl rfl ?_
            refine LWo.guardNU (t := 19) rfl h15 rfl rfl rfl rfl rfl ?_
            refine LWo.guardNU (t := 19) rfl h15 rfl rfl rfl rfl rfl ?_
            refine LWo.pickFM (e_bool false) rfl h15 rfl (hn := ?_)
            refine LWo.nil (hN14 (t0, t1, t5, false) _ ⟨rfl, rfl, rfl, rfl, trivial⟩ trivial h)
  · intro N3 hN3
    refine LWP.region (l := [_,_,_,_,_,_,_,_]) ?_
    refine LWo.move (e_Limpl_Value a0) rfl (hn := ?_)
    refine bk h fun x4 e4 h => ?_
    refine LWo.vcall rfl rfl (c_spec_RowOk _ _ e4) (.same (.nil)) (hn := ?_)
    refine LWo.not rfl (hn := ?_)
    refine LWo.move (e_bool (!x4)) rfl (hn := ?_)
    refine LWo.byCases (t := 10) _ rfl (fun h5 => ?_) (fun h5 => ?_)
    · have h := bT h5 h
      refine LWo.guardNU (t := 10) rfl h5 rfl rfl rfl rfl rfl ?_
      refine LWo.guardNU (t := 10) rfl h5 rfl rfl rfl rfl rfl ?_
      refine LWo.guardNU (t := 10) rfl h5 rfl rfl rfl rfl rfl ?_
      refine LWo.pickTM (e_bool true) rfl h5 rfl (hn := ?_)
      refine LWo.nil (hN3 (a0, a1, true) _ ⟨rfl, rfl, rfl, trivial⟩ trivial h)
    · have h := bF h5 h
      refine LWo.guardY (t := 10) rfl h5 rfl rfl ?_
      refine LWo.move (e_Limpl_Value a1) rfl (hn := ?_)
      refine bk h fun x6 e6 h => ?_
      refine LWo.guardY (t := 10) rfl h5 rfl rfl ?_
      refine LWo.vcall rfl rfl (c_spec_RowOk _ _ e6) (.same (.nil)) (hn := ?_)
      refine LWo.guardY (t := 10) rfl h5 rfl rfl ?_
      refine LWo.not rfl (hn := ?_)
      refine LWo.pickFM (e_bool (!x6)) rfl h5 rfl (hn := ?_)
      refine LWo.nil (hN3 (a0, a1, (!x6)) _ ⟨rfl, rfl, rfl, trivial⟩ trivial h)

def m_spec_RowsSorted_j4 (o1007 : (List (List S_impl_Value))) : Option (List (List S_impl_Value)) :=
  some o1007
def m_spec_RowsSorted_j3 (k1 : (List (List S_impl_Value)) → Int → (List (List S_impl_Value)) → Option (List (List S_impl_Value))) (t0 : (List (List S_impl_Value))) (t4 : Int) (o1033 : (List (List S_impl_Value))) : Option (List (List S_impl_Value)) :=
  (ckI (t4 + (1 : Int))).bind fun x33 =>
  k1 t0 x33 o1033
def m_spec_RowsSorted_j2 (k1 : (List (List S_impl_Value)) → Int → (List (List S_impl_Value)) → Option (List (List S_impl_Value))) (t0 : (List (List S_impl_Value))) (t4 : Int) (t5 : Int) (o1007 : (List (List S_impl_Value))) : Option (List (List S_impl_Value)) :=
  (cut? o1007 (0 : Int) t5).bind fun x26 =>
  (app? ([] : (List (List S_impl_Value))) x26).bind fun x27 =>
  (at? t0 t4).bind fun x28 =>
  (m_spec_l3Own x28).bind fun x29 =>
  (app? x27 ([x29] : (List (List S_impl_Value)))).bind fun x30 =>
  (cut? o1007 t5 (o1007.length : Int)).bind fun x31 =>
  (app? x30 x31).bind fun x32 =>
  m_spec_RowsSorted_j3  k1 t0 t4 x32
def m_spec_RowsSorted_j1 (k1 : (List (List S_impl_Value)) → Int → (List (List S_impl_Value)) → Option (List (List S_impl_Value))) (k2 : (List (List S_impl_Value)) → Int → Int → (List (List S_impl_Value)) → Option (List (List S_impl_Value))) (t0 : (List (List S_impl_Value))) (t4 : Int) (t5 : Int) (t30 : Bool) (o1007 : (List (List S_impl_Value))) : Option (List (List S_impl_Value)) :=
  bif t30 then ((ckI (t5 - (1 : Int))).bind fun x24 =>
  k2 t0 t4 x24 o1007)
  else (m_spec_RowsSorted_j2  k1 t0 t4 t5 o1007)
def m_spec_RowsSorted_l2 (k1 : (List (List S_impl_Value)) → Int → (List (List S_impl_Value)) → Option (List (List S_impl_Value))) : Nat → (List (List S_impl_Value)) → Int → Int → (List (List S_impl_Value)) → Option (List (List S_impl_Value))
  | 0, _, _, _, _ => none
  | n2 + 1, t0, t4, t5, o1007 =>
    bif decide (t5 > (0 : Int)) then ((ckI (t5 - (1 : Int))).bind fun x18 =>
      (at? o1007 x18).bind fun x19 =>
      (at? o1007 x18).bind fun x20 =>
      (at? t0 t4).bind fun x21 =>
      (m_spec_RowOrder x20 x21).bind fun x22 =>
      m_spec_RowsSorted_j1  k1 (m_spec_RowsSorted_l2  k1 n2) t0 t4 t5 (decide (x22 > (0 : Int))) o1007)
    else (m_spec_RowsSorted_j1  k1 (m_spec_RowsSorted_l2  k1 n2) t0 t4 t5 false o1007)
def m_spec_RowsSorted_l1 : Nat → (List (List S_impl_Value)) → Int → (List (List S_impl_Value)) → Option (List (List S_impl_Value))
  | 0, _, _, _ => none
  | n1 + 1, t0, t4, o1007 =>
    bif decide (t4 < (t0.length : Int)) then (m_spec_RowsSorted_l2  (m_spec_RowsSorted_l1  n1) (1000000000) t0 t4 (o1007.length : Int) o1007)
    else (m_spec_RowsSorted_j4  o1007)
def m_spec_RowsSorted (a0 : (List (List S_impl_Value))) : Option (List (List S_impl_Value)) :=
  m_spec_RowsSorted_l1  (((a0.length : Int) - (0 : Int)).toNat + 1) a0 (0 : Int) ([] : (List (List S_impl_Value)))
theorem c_spec_RowsSorted (a0 : (List (List S_impl_Value))) (r : (List (List S_impl_Value))) (h : m_spec_RowsSorted a0 = some r) : Ret Try.prog f_spec_RowsSorted [e_LLimpl_Value a0] (.nw 1 (r.map e_Limpl_Value) false) := by
  refine Does.goG [] F_spec_RowsSorted rfl e_spec_RowsSorted n_spec_RowsSorted rfl (rvs := [.tmp 2]) rfl rfl ?_
  intro w0 ok0 lent ρ0
  refine LWP.seq_k fun N1 hN1 => ?_
  refine LWP.region (l := [_]) ?_
  refine LWo.assign _ rfl (hn := ?_)
  refine LWo.ownNil 2 1002 1 rfl rfl rfl ?_
  refine LWo.known 2 (.own 1002 0 ([] : (List (List S_impl_Value))).length) rfl ?_
  refine LWo.nil (hN1 _ ?_)
  refine LWP.seq_k fun N2 hN2 => ?_
  refine LWP.region (l := [_,_]) ?_
  refine LWo.lit0 1007 u_LLimpl_Value s_Limpl_Value z_Limpl_Value (hn := ?_)
  refine LWo.known 7 (.own 1007 0 ([] : (List (List S_impl_Value))).length) rfl ?_
  refine LWo.assign (.own 1007 0 (([] : (List (List S_impl_Value)))).length) rfl (hn := ?_)
  refine LWo.nil (hN2 _ ?_)
  refine LWP.join (α := (List (List S_impl_Value))) (fun z : (List (List S_impl_Value)) => [(3, (.own 1007 0 (z).length))]) (fun z : (List (List S_impl_Value)) => [(1007, (lob 1 e_Limpl_Value z))]) (fun z : (List (List S_impl_Value)) => m_spec_RowsSorted_j4  z) r (fun _ => by simp [hkeys]) ?_ ?_
  · rintro o1007 h
    replace h : m_spec_RowsSorted_j4  o1007 = some _ := h
    refine LWP.seq_k fun N34 hN34 => ?_
    refine LWP.region (l := [_,_]) ?_
    refine LWo.move (.own 1007 0 (o1007).length) rfl (hn := ?_)
    refine LWo.assign (.own 1007 0 (o1007).length) rfl (hn := ?_)
    refine LWo.nil (hN34 _ ?_)
    obtain rfl := Option.some.inj h
    refine LWP.ret (QG.mk (.inr rfl) (.cons (.tmp (x := (.own 1007 0 (o1007).length)) rfl) (.nil)) (RetOK.one0 (.nwM rfl rfl) (by decide)) rfl rfl)
  · intro N3 hN3
    refine LWP.seq_k fun N4 hN4 => ?_
    refine LWP.region (l := [_]) ?_
    refine LWo.assign (e_int (0 : Int)) rfl (hn := ?_)
    refine LWo.nil (hN4 _ ?_)
    refine LWP.block ?_
    refine LWP.loopM (α := (List (List S_impl_Value)) × Int × (List (List S_impl_Value))) (fun z : (List (List S_impl_Value)) × Int × (List (List S_impl_Value)) => [(0, (e_LLimpl_Value z.1)), (3, (.own 1007 0 (z.2.2).length)), (4, (e_int z.2.1))]) (fun z : (List (List S_impl_Value)) × Int × (List (List S_impl_Value)) => [(1007, (lob 1 e_Limpl_Value z.2.2))]) (fun n1 (z : (List (List S_impl_Value)) × Int × (List (List S_impl_Value))) => m_spec_RowsSorted_l1  n1 z.1 z.2.1 z.2.2) r _ (a0, (0 : Int), ([] : (List (List S_impl_Value)))) h (fun _ => rfl) (fun _ => by simp [hkeys]) ⟨rfl, rfl, rfl, trivial⟩ ⟨rfl, trivial⟩ ?_
    rintro n1 ⟨t0, t4, o1007⟩ h N5 hN5
    replace h : m_spec_RowsSorted_l1  (n1 + 1) t0 t4 o1007 = some _ := h
    refine LWP.seq_k fun N7 hN7 => ?_
    refine LWP.seq_k fun N8 hN8 => ?_
    refine LWP.region (l := [_,_,_,_]) ?_
    refine LWo.move (e_int t4) rfl (hn := ?_)
    refine LWo.move (e_LLimpl_Value t0) rfl (hn := ?_)
    refine LWo.lenM (f := e_Limpl_Value) (l := t0) u_LLimpl_Value rfl (hn := ?_)
    refine LWo.int _ rfl rfl rfl (hn := ?_)
    refine LWo.nil (hN8 _ ?_)
    refine LWP.cond_split rfl (fun h9 => ?_) (fun h9 => ?_)
    · have h := bT h9 h
      refine LWP.skip (hN7 _ ?_)
      refine LWP.join (α := (List (List S_impl_Value)) × Int × (List (List S_impl_Value))) (fun z : (List (List S_impl_Value)) × Int × (List (List S_impl_Value)) => [(0, (e_LLimpl_Value z.1)), (3, (.own 1033 0 (z.2.2).length)), (4, (e_int z.2.1))]) (fun z : (List (List S_impl_Value)) × Int × (List (List S_impl_Value)) => [(1033, (lob 1 e_Limpl_Value z.2.2))]) (fun z : (List (List S_impl_Value)) × Int × (List (List S_impl_Value)) => m_spec_RowsSorted_j3  (m_spec_RowsSorted_l1  n1) z.1 z.2.1 z.2.2) r (fun _ => by simp [hkeys]) ?_ ?_
      · rintro ⟨t0, t4, o1033⟩ h
        replace h : m_spec_RowsSorted_j3  (m_spec_RowsSorted_l1  n1) t0 t4 o1033 = some _ := h
        refine LWP.region (l := [_,_,_]) ?_
        refine LWo.move (e_int t4) rfl (hn := ?_)
        refine bk h fun x33 e33 h => ?_
        refine LWo.int _ rfl rfl (add_ck e33) (hn := ?_)
        refine LWo.assign (e_int x33) rfl (hn := ?_)
        refine LWo.rekey 3 1033 1007 rfl rfl rfl rfl rfl rfl ?_
        refine LWo.nil (hN5 (t0, x33, o1033) _ ⟨rfl, rfl, rfl, trivial⟩ ⟨rfl, trivial⟩ h)
      · intro N10 hN10
        refine LWP.block ?_
        refine LWP.seq_k fun N11 hN11 => ?_
        refine LWP.region (l := [_,_,_]) ?_
        refine LWo.move (.own 1007 0 (o1007).length) rfl (hn := ?_)
        refine LWo.lenO u_LLimpl_Value rfl (hn := ?_)
        refine LWo.assign (e_int (o1007.length : Int)) rfl (hn := ?_)
        refine LWo.nil (hN11 _ ?_)
        refine LWP.join (α := (List (List S_impl_Value)) × Int × Int × (List (List S_impl_Value))) (fun z : (List (List S_impl_Value)) × Int × Int × (List (List S_impl_Value)) => [(0, (e_LLimpl_Value z.1)), (3, (.own 1007 0 (z.2.2.2).length)), (4, (e_int z.2.1)), (5, (e_int z.2.2.1))]) (fun z : (List (List S_impl_Value)) × Int × Int × (List (List S_impl_Value)) => [(1007, (lob 1 e_Limpl_Value z.2.2.2))]) (fun z : (List (List S_impl_Value)) × Int × Int × (List (List S_impl_Value)) => m_spec_RowsSorted_j2  (m_spec_RowsSorted_l1  n1) z.1 z.2.1 z.2.2.1 z.2.2.2) r (fun _ => by simp [hkeys]) ?_ ?_
        · rintro ⟨t0, t4, t5, o1007⟩ h
          replace h : m_spec_RowsSorted_j2  (m_spec_RowsSorted_l1  n1) t0 t4 t5 o1007 = some _ := h
          refine LWP.seq_k fun N25 hN25 => ?_
          refine LWP.region (l := [_,_,_,_,_,_]) ?_
          refine LWo.lit0 1033 u_LLimpl_Value s_Limpl_Value z_Limpl_Value (hn := ?_)
          refine LWo.known 33 (.own 1033 0 ([] : (List (List S_impl_Value))).length) rfl ?_
          refine LWo.move (.own 1007 0 (o1007).length) rfl (hn := ?_)
          refine LWo.move (e_int t5) rfl (hn := ?_)
          refine bk h fun x26 e26 h => ?_
          refine LWo.frzL (f := e_Limpl_Value) (l := o1007) [3, 34] 1007 rfl rfl ⟨rfl, rfl, trivial⟩ ?_
          refine LWo.cutM (f := e_Limpl_Value) e26 u_LLimpl_Value s_Limpl_Value rfl rfl ⟨_, rfl⟩ (hn := ?_)
          refine bk h fun x27 e27 h => ?_
          refine LWo.appendM (f := e_Limpl_Value) e27 rfl u_LLimpl_Value u_LLimpl_Value (fun _ h => by cases h) s_Limpl_Value i_Limpl_Value rfl rfl rfl (.sl rfl) rfl rfl (hn := ?_)
          refine LWo.assign (.own 1033 0 (x27).length) rfl (hn := ?_)
          refine LWo.nil (hN25 _ ?_)
          refine bk h fun x28 e28 h => ?_
          refine bk h fun x29 e29 h => ?_
          refine bk h fun x30 e30 h => ?_
          refine bk h fun x31 e31 h => ?_
          refine bk h fun x32 e32 h => ?_
          refine LWP.drawE (l := [_,_,_,_,_,_,_,_,_,_,_,_,_]) [1033] [0, 3, 4, 5, 6] [([6], []), ([0], []), ([4], []), ([39, 40], []), ([41], []), ([42], []), ([43], []), ([38, 44], [1033]), ([3], []), ([5], []), ([46, 47], []), ([45, 48], [1033]), ([49], [])] [0, 3, 4] [1033] mixed (by kernel_rfl) rfl (by decide) ?_
          refine ⟨rfl, .put 38 _, trivial, fun u hg hu hh => LWo.move (.own 1033 0 (x27).length) hu.1 (hn := LWo.nil ⟨rfl, .inl rfl, hg⟩), ?_⟩
          refine ⟨rfl, .put 39 _, trivial, fun u hg hu hh => LWo.move (e_LLimpl_Value t0) hu.1 (hn := LWo.nil ⟨rfl, .inl rfl, hg⟩), ?_⟩
          refine ⟨rfl, .put 40 _, trivial, fun u hg hu hh => LWo.move (e_int t4) hu.1 (hn := LWo.nil ⟨rfl, .inl rfl, hg⟩), ?_⟩
          refine ⟨rfl, .put 41 _, trivial, fun u hg hu hh => LWo.indexM (f := e_Limpl_Value) e28 u_LLimpl_Value s_Limpl_Value hu.1 hu.2.1 (hn := LWo.nil ⟨rfl, .inl rfl, hg⟩), ?_⟩
          refine ⟨rfl, .put 42 _, trivial, fun u hg hu hh => LWo.load1 (c := (e_Limpl_Value x28)) g_Limpl_Value hu.1 (hn := LWo.nil ⟨rfl, .inl rfl, hg⟩), ?_⟩
          refine ⟨rfl, .put 43 _, trivial, fun u hg hu hh => LWo.vcall rfl (av1 hu.1) (c_spec_l3Own _ _ e29) (.same (.nil)) (hn := LWo.nil ⟨rfl, .inl rfl, hg⟩), ?_⟩
          refine ⟨rfl, .put 44 _, trivial, fun u hg hu hh => LWo.lit (ops := [_]) [(e_Limpl_Value x29)] u_LLimpl_Value s_Limpl_Value z_Limpl_Value (lv1 hu.1) rfl rfl rfl rfl rfl (hn := LWo.nil ⟨rfl, .inl rfl, hg⟩), ?_⟩
          refine ⟨rfl, .make 45 _ 1033 _, (by exact (goodC rfl goodN)), fun u hg hu hh => LWo.appendM (f := e_Limpl_Value) e30 rfl u_LLimpl_Value u_LLimpl_Value (fun _ h => by cases h) s_Limpl_Value i_Limpl_Value rfl hu.1 hh.1 (.sl hu.2.1) (lone_of hg rfl) rfl (hn := LWo.nil ⟨rfl, .inl rfl, Ef.good_ok (e := .make 45 _ 1033 _) (by exact (goodC rfl goodN)) hg⟩), ?_⟩
          refine ⟨rfl, .put 46 _, trivial, fun u hg hu hh => LWo.move (e_LLimpl_Value o1007) hu.1 (hn := LWo.nil ⟨rfl, .inl rfl, hg⟩), ?_⟩
          refine ⟨rfl, .put 47 _, trivial, fun u hg hu hh => LWo.move (e_int t5) hu.1 (hn := LWo.nil ⟨rfl, .inl rfl, hg⟩), ?_⟩
          refine ⟨rfl, .put 48 _, trivial, fun u hg hu hh => LWo.cutM (f := e_Limpl_Value) e31 u_LLimpl_Value s_Limpl_Value hu.1 ⟨_, hu.2.1⟩ rfl (hn := LWo.nil ⟨rfl, .inl rfl, hg⟩), ?_⟩
          refine ⟨rfl, .make 49 _ 1033 _, (by exact (goodC rfl goodN)), fun u hg hu hh => LWo.appendM (f := e_Limpl_Value) e32 rfl u_LLimpl_Value u_LLimpl_Value (fun _ h => by cases h) s_Limpl_Value i_Limpl_Value rfl hu.1 hh.1 (.sl hu.2.1) (lone_of hg rfl) rfl (hn := LWo.nil ⟨rfl, .inl rfl, Ef.good_ok (e := .make 49 _ 1033 _) (by exact (goodC rfl goodN)) hg⟩), ?_⟩
          refine ⟨rfl, .put 3 _, trivial, fun u hg hu hh => LWo.assign (.own 1033 0 (x32).length) hu.1 (hn := LWo.nil ⟨rfl, .inl rfl, hg⟩), ?_⟩
          refine ⟨rfl, by kernel_rfl, hN10 (t0, t4, x32) _ ⟨rfl, rfl, rfl, trivial⟩ ⟨rfl, trivial⟩ h⟩
        · intro N12 hN12
          refine LWP.block ?_
          refine LWP.loopM (α := (List (List S_impl_Value)) × Int × Int × (List (List S_impl_Value))) (fun z : (List (List S_impl_Value)) × Int × Int × (List (List S_impl_Value)) => [(0, (e_LLimpl_Value z.1)), (3, (.own 1007 0 (z.2.2.2).length)), (4, (e_int z.2.1)), (5, (e_int z.2.2.1))]) (fun z : (List (List S_impl_Value)) × Int × Int × (List (List S_impl_Value)) => [(1007, (lob 1 e_Limpl_Value z.2.2.2))]) (fun n2 (z : (List (List S_impl_Value)) × Int × Int × (List (List S_impl_Value))) => m_spec_RowsSorted_l2  (m_spec_RowsSorted_l1  n1) n2 z.1 z.2.1 z.2.2.1 z.2.2.2) r _ (t0, t4, (o1007.length : Int), o1007) h (fun _ => rfl) (fun _ => by simp [hkeys]) ⟨rfl, rfl, rfl, rfl, trivial⟩ ⟨rfl, trivial⟩ ?_
          rintro n2 ⟨t0, t4, t5, o1007⟩ h N13 hN13
          replace h : m_spec_RowsSorted_l2  (m_spec_RowsSorted_l1  n1) (n2 + 1) t0 t4 t5 o1007 = some _ := h
          refine LWP.seq_k fun N15 hN15 => ?_
          refine LWP.join (α := (List (List S_impl_Value)) × Int × Int × Bool × (List (List S_impl_Value))) (fun z : (List (List S_impl_Value)) × Int × Int × Bool × (List (List S_impl_Value)) => [(0, (e_LLimpl_Value z.1)), (3, (.own 1007 0 (z.2.2.2.2).length)), (4, (e_int z.2.1)), (5, (e_int z.2.2.1)), (30, (e_bool z.2.2.2.1))]) (fun z : (List (List S_impl_Value)) × Int × Int × Bool × (List (List S_impl_Value)) => [(1007, (lob 1 e_Limpl_Value z.2.2.2.2))]) (fun z : (List (List S_impl_Value)) × Int × Int × Bool × (List (List S_impl_Value)) => m_spec_RowsSorted_j1  (m_spec_RowsSorted_l1  n1) (m_spec_RowsSorted_l2  (m_spec_RowsSorted_l1  n1) n2) z.1 z.2.1 z.2.2.1 z.2.2.2.1 z.2.2.2.2) r (fun _ => by simp [hkeys]) ?_ ?_
          · rintro ⟨t0, t4, t5, t30, o1007⟩ h
            replace h : m_spec_RowsSorted_j1  (m_spec_RowsSorted_l1  n1) (m_spec_RowsSorted_l2  (m_spec_RowsSorted_l1  n1) n2) t0 t4 t5 t30 o1007 = some _ := h
            refine LWP.cond_split rfl (fun h23 => ?_) (fun h23 => ?_)
            · have h := bT h23 h
              refine LWP.skip (hN15 _ ?_)
              refine LWP.block ?_
              refine LWP.region (l := [_,_,_]) ?_
              refine LWo.move (e_int t5) rfl (hn := ?_)
              refine bk h fun x24 e24 h => ?_
              refine LWo.int _ rfl rfl (sub_ck e24) (hn := ?_)
              refine LWo.assign (e_int x24) rfl (hn := ?_)
              refine LWo.nil (hN13 (t0, t4, x24, o1007) _ ⟨rfl, rfl, rfl, rfl, trivial⟩ ⟨rfl, trivial⟩ h)
            · have h := bF h23 h
              refine LWP.exit (hN12 (t0, t4, t5, o1007) _ ⟨rfl, rfl, rfl, rfl, trivial⟩ ⟨rfl, trivial⟩ h)
          · intro N16 hN16
            refine bS (decide (t5 > (0 : Int))) (fun h17 => ?_) (fun h17 => ?_)
            · have h := bT h17 h
              refine bk h fun x18 e18 h => ?_
              refine bk h fun x19 e19 h => ?_
              refine bk h fun x20 e20 h => ?_
              refine bk h fun x21 e21 h => ?_
              refine bk h fun x22 e22 h => ?_
              refine LWP.drawE (l := [_,_,_,_,_,_,_,_,_,_,_,_,_,_,_]) [] [0, 3, 4, 5] [([5], []), ([16], []), ([17], []), ([3, 18], []), ([5, 18], []), ([18, 20], []), ([18, 19, 21], [1007]), ([18, 22], [1007]), ([0, 18], []), ([4, 18], []), ([18, 24, 25], []), ([18, 26], []), ([18, 23, 27], []), ([18, 28], []), ([18, 29], [])] [0, 3, 4, 5, 30] [1007] mixed (by kernel_rfl) rfl (by decide) ?_
              refine ⟨rfl, .put 16 _, trivial, fun u hg hu hh => LWo.move (e_int t5) hu.1 (hn := LWo.nil ⟨rfl, .inl rfl, hg⟩), ?_⟩
              refine ⟨rfl, .put 17 _, trivial, fun u hg hu hh => LWo.int _ hu.1 rfl rfl (hn := LWo.nil ⟨rfl, .inl rfl, hg⟩), ?_⟩
              refine ⟨rfl, .put 18 _, trivial, fun u hg hu hh => LWo.move (e_bool (decide (t5 > (0 : Int)))) hu.1 (hn := LWo.nil ⟨rfl, .inl rfl, hg⟩), ?_⟩
              refine ⟨rfl, .put 19 _, trivial, fun u hg hu hh => LWo.guardY (t := 18) hu.2.1 h17 rfl rfl (LWo.move (.own 1007 0 (o1007).length) hu.1 (hn := LWo.nil ⟨rfl, .inl rfl, hg⟩)), ?_⟩
              refine ⟨rfl, .put 20 _, trivial, fun u hg hu hh => LWo.guardY (t := 18) hu.2.1 h17 rfl rfl (LWo.move (e_int t5) hu.1 (hn := LWo.nil ⟨rfl, .inl rfl, hg⟩)), ?_⟩
              refine ⟨rfl, .put 21 _, trivial, fun u hg hu hh => LWo.guardY (t := 18) hu.1 h17 rfl rfl (LWo.int _ hu.2.1 rfl (sub_ck e18) (hn := LWo.nil ⟨rfl, .inl rfl, hg⟩)), ?_⟩
              refine ⟨rfl, .put 22 _, trivial, fun u hg hu hh => LWo.guardY (t := 18) hu.1 h17 rfl rfl (LWo.indexO e19 rfl u_LLimpl_Value s_Limpl_Value hu.2.1 hu.2.2.1 hh.1 (hn := LWo.nil ⟨rfl, .inl rfl, hg⟩)), ?_⟩
              refine ⟨rfl, .put 23 _, trivial, fun u hg hu hh => LWo.guardY (t := 18) hu.1 h17 rfl rfl (LWo.loadO1 (e_Limpl_Value x20) e20 g_Limpl_Value hu.2.1 hh.1 rfl (hn := LWo.nil ⟨rfl, .inl rfl, hg⟩)), ?_⟩
              refine ⟨rfl, .put 24 _, trivial, fun u hg hu hh => LWo.guardY (t := 18) hu.2.1 h17 rfl rfl (LWo.move (e_LLimpl_Value t0) hu.1 (hn := LWo.nil ⟨rfl, .inl rfl, hg⟩)), ?_⟩
              refine ⟨rfl, .put 25 _, trivial, fun u hg hu hh => LWo.guardY (t := 18) hu.2.1 h17 rfl rfl (LWo.move (e_int t4) hu.1 (hn := LWo.nil ⟨rfl, .inl rfl, hg⟩)), ?_⟩
              refine ⟨rfl, .put 26 _, trivial, fun u hg hu hh => LWo.guardY (t := 18) hu.1 h17 rfl rfl (LWo.indexM (f := e_Limpl_Value) e21 u_LLimpl_Value s_Limpl_Value hu.2.1 hu.2.2.1 (hn := LWo.nil ⟨rfl, .inl rfl, hg⟩)), ?_⟩
              refine ⟨rfl, .put 27 _, trivial, fun u hg hu hh => LWo.guardY (t := 18) hu.1 h17 rfl rfl (LWo.load1 (c := (e_Limpl_Value x21)) g_Limpl_Value hu.2.1 (hn := LWo.nil ⟨rfl, .inl rfl, hg⟩)), ?_⟩
              refine ⟨rfl, .put 28 _, trivial, fun u hg hu hh => LWo.guardY (t := 18) hu.1 h17 rfl rfl (LWo.vcall rfl (av2 hu.2.1 hu.2.2.1) (c_spec_RowOrder _ _ _ e22) (.same (.same (.nil))) (hn := LWo.nil ⟨rfl, .inl rfl, hg⟩)), ?_⟩
              refine ⟨rfl, .put 29 _, trivial, fun u hg hu hh => LWo.guardY (t := 18) hu.1 h17 rfl rfl (LWo.int _ hu.2.1 rfl rfl (hn := LWo.nil ⟨rfl, .inl rfl, hg⟩)), ?_⟩
              refine ⟨rfl, .put 30 _, trivial, fun u hg hu hh => LWo.pickTM (e_bool (decide (x22 > (0 : Int)))) hu.1 h17 hu.2.1 (hn := LWo.nil ⟨rfl, .inl rfl, hg⟩), ?_⟩
              refine ⟨rfl, by kernel_rfl, hN16 (t0, t4, t5, decide (x22 > (0 : Int)), o1007) _ ⟨rfl, rfl, rfl, rfl, rfl, trivial⟩ ⟨rfl, trivial⟩ h⟩
            · have h := bF h17 h
              refine LWP.drawE (l := [_,_,_,_,_,_,_,_,_,_,_,_,_,_,_]) [] [0, 3, 4, 5] [([5], []), ([16], []), ([17], []), ([3, 18], []), ([5, 18], []), ([18, 20], []), ([18, 19, 21], []), ([18, 22], []), ([0, 18], []), ([4, 18], []), ([18, 24, 25], []), ([18, 26], []), ([18, 23, 27], []), ([18, 28], []), ([18, 29], [])] [0, 3, 4, 5, 30] [1007] mixed (by kernel_rfl) rfl (by decide) ?_
              refine ⟨rfl, .put 16 _, trivial, fun u hg hu hh => LWo.move (e_int t5) hu.1 (hn := LWo.nil ⟨rfl, .inl rfl, hg⟩), ?_⟩
              refine ⟨rfl, .put 17 _, trivial, fun u hg hu hh => LWo.int _ hu.1 rfl rfl (hn := LWo.nil ⟨rfl, .inl rfl, hg⟩), ?_⟩
              refine ⟨rfl, .put 18 _, trivial, fun u hg hu hh => LWo.move (e_bool (decide (t5 > (0 : Int)))) hu.1 (hn := LWo.nil ⟨rfl, .inl rfl, hg⟩), ?_⟩
              refine ⟨rfl, .put 19 _, trivial, fun u hg hu hh => LWo.guardNU (t := 18) hu.2.1 h17 rfl rfl rfl rfl rfl (LWo.nil ⟨rfl, .inl rfl, hg⟩), ?_⟩
              refine ⟨rfl, .put 20 _, trivial, fun u hg hu hh => LWo.guardNU (t := 18) hu.2.1 h17 rfl rfl rfl rfl rfl (LWo.nil ⟨rfl, .inl rfl, hg⟩), ?_⟩
              refine ⟨rfl, .put 21 _, trivial, fun u hg hu hh => LWo.guardNU (t := 18) hu.1 h17 rfl rfl rfl rfl rfl (LWo.nil ⟨rfl, .inl rfl, hg⟩), ?_⟩
              refine ⟨rfl, .put 22 _, trivial, fun u hg hu hh => LWo.guardNU (t := 18) hu.1 h17 rfl rfl rfl rfl rfl (LWo.nil ⟨rfl, .inl rfl, hg⟩), ?_⟩
              refine ⟨rfl, .put 23 _, trivial, fun u hg hu hh => LWo.guardNU (t := 18) hu.1 h17 rfl rfl rfl rfl rfl (LWo.nil ⟨rfl, .inl rfl, hg⟩), ?_⟩
              refine ⟨rfl, .put 24 _, trivial, fun u hg hu hh => LWo.guardNU (t := 18) hu.2.1 h17 rfl rfl rfl rfl rfl (LWo.nil ⟨rfl, .inl rfl, hg⟩), ?_⟩
              refine ⟨rfl, .put 25 _, trivial, fun u hg hu hh => LWo.guardNU (t := 18) hu.2.1 h17 rfl rfl rfl rfl rfl (LWo.nil ⟨rfl, .inl rfl, hg⟩), ?_⟩
              refine ⟨rfl, .put 26 _, trivial, fun u hg hu hh => LWo.guardNU (t := 18) hu.1 h17 rfl rfl rfl rfl rfl (LWo.nil ⟨rfl, .inl rfl, hg⟩), ?_⟩
              refine ⟨rfl, .put 27 _, trivial, fun u hg hu hh => LWo.guardNU (t := 18) hu.1 h17 rfl rfl rfl rfl rfl (LWo.nil ⟨rfl, .inl rfl, hg⟩), ?_⟩
              refine ⟨rfl, .put 28 _, trivial, fun u hg hu hh => LWo.guardNU (t := 18) hu.1 h17 rfl rfl rfl rfl rfl (LWo.nil ⟨rfl, .inl rfl, hg⟩), ?_⟩
              refine ⟨rfl, .put 29 _, trivial, fun u hg hu hh => LWo.guardNU (t := 18) hu.1 h17 rfl rfl rfl rfl rfl (LWo.nil ⟨rfl, .inl rfl, hg⟩), ?_⟩
              refine ⟨rfl, .put 30 _, trivial, fun u hg hu hh => LWo.pickFM (e_bool false) hu.1 h17 rfl (hn := LWo.nil ⟨rfl, .inl rfl, hg⟩), ?_⟩
              refine ⟨rfl, by kernel_rfl, hN16 (t0, t4, t5, false, o1007) _ ⟨rfl, rfl, rfl, rfl, rfl, trivial⟩ ⟨rfl, trivial⟩ h⟩
    · have h := bF h9 h
      refine LWP.exit (hN3 o1007 _ ⟨rfl, trivial⟩ ⟨rfl, trivial⟩ h)

def m_spec_DrawNeighboursOnce_j1 (t4 : (List (List S_impl_Value))) : Option (List (List S_impl_Value)) :=
  some t4
def m_spec_DrawNeighboursOnce (a0 : (List UInt8)) : Option (List (List S_impl_Value)) :=
  (m_spec_l20Open a0).bind fun x3 =>
  (m_spec_l20Much x3 (60 : Int)).bind fun x5 =>
  (m_Pspec_l20Rd_pick x5.2 (8 : Int)).bind fun x8 =>
  bif decide (x8.1 > (0 : Int)) then ((m_spec_RowsSorted x5.1).bind fun x10 =>
    m_spec_DrawNeighboursOnce_j1  x10)
  else (m_spec_DrawNeighboursOnce_j1  x5.1)
theorem c_spec_DrawNeighboursOnce (a0 : (List UInt8)) (r : (List (List S_impl_Value))) (h : m_spec_DrawNeighboursOnce a0 = some r) : Ret Try.prog f_spec_DrawNeighboursOnce [e_Luint8 a0] (e_LLimpl_Value r) := by
  refine Does.goG [] F_spec_DrawNeighboursOnce rfl e_spec_DrawNeighboursOnce n_spec_DrawNeighboursOnce rfl (rvs := [.tmp 2]) rfl rfl ?_
  intro w0 ok0 lent ρ0
  refine LWP.seq_k fun N1 hN1 => ?_
  refine LWP.region (l := [_]) ?_
  refine LWo.assign _ rfl (hn := ?_)
  refine LWo.weakT 2 (e_LLimpl_Value ([] : (List (List S_impl_Value)))) rfl .nil ?_
  refine LWo.nil (hN1 _ ?_)
  refine LWP.seq_k fun N2 hN2 => ?_
  refine LWP.region (l := [_,_,_]) ?_
  refine LWo.move (e_Luint8 a0) rfl (hn := ?_)
  refine bk h fun x3 e3 h => ?_
  refine LWo.bcallM (e := e_spec_l20Rd) 6 rfl rfl (c_spec_l20Open _ _ e3) (.same (.nil)) rfl rfl rfl (hn := ?_)
  refine LWo.assign (.ptr 6 0 0) rfl (hn := ?_)
  refine LWo.nil (hN2 _ ?_)
  refine LWP.seq_k fun N4 hN4 => ?_
  refine LWP.region (l := [_,_,_]) ?_
  refine LWo.move (.ptr 6 0 0) rfl (hn := ?_)
  refine bk h fun x5 e5 h => ?_
  refine LWo.lcall rfl rfl (k_spec_l20Much _ _ _ e5 6) rfl rfl rfl (hn := ?_)
  refine LWo.assign (e_LLimpl_Value x5.1) rfl (hn := ?_)
  refine LWo.nil (hN4 _ ?_)
  refine LWP.join (α := (List (List S_impl_Value))) (fun z : (List (List S_impl_Value)) => [(4, (e_LLimpl_Value z))]) (fun z : (List (List S_impl_Value)) => []) (fun z : (List (List S_impl_Value)) => m_spec_DrawNeighboursOnce_j1  z) r (fun _ => by simp [hkeys]) ?_ ?_
  · rintro t4 h
    replace h : m_spec_DrawNeighboursOnce_j1  t4 = some _ := h
    refine LWP.seq_k fun N11 hN11 => ?_
    refine LWP.region (l := [_,_]) ?_
    refine LWo.move (e_LLimpl_Value t4) rfl (hn := ?_)
    refine LWo.assign (e_LLimpl_Value t4) rfl (hn := ?_)
    refine LWo.nil (hN11 _ ?_)
    obtain rfl := Option.some.inj h
    refine LWP.ret (QG.mk (.inr rfl) (.cons (.tmp (x := (e_LLimpl_Value t4)) rfl) (.nil)) (RetOK.one0 (.pure rfl) (by decide)) rfl rfl)
  · intro N6 hN6
    refine LWP.seq_k fun N7 hN7 => ?_
    refine LWP.region (l := [_,_,_]) ?_
    refine LWo.move (.ptr 6 0 0) rfl (hn := ?_)
    refine bk h fun x8 e8 h => ?_
    refine LWo.lcall rfl rfl (k_Pspec_l20Rd_pick _ _ _ e8 6) rfl rfl rfl (hn := ?_)
    refine LWo.int _ rfl rfl rfl (hn := ?_)
    refine LWo.nil (hN7 _ ?_)
    refine LWP.cond_split rfl (fun h9 => ?_) (fun h9 => ?_)
    · have h := bT h9 h
      refine LWP.region (l := [_,_,_]) ?_
      refine LWo.move (e_LLimpl_Value x5.1) rfl (hn := ?_)
      refine bk h fun x10 e10 h => ?_
      refine LWo.vcall rfl rfl (c_spec_RowsSorted _ _ e10) (.same (.nil)) (hn := ?_)
      refine LWo.assign (e_LLimpl_Value x10) rfl (hn := ?_)
      refine LWo.nil (hN6 x10 _ ⟨rfl, trivial⟩ trivial h)
    · have h := bF h9 h
      refine LWP.skip (hN6 x5.1 _ ⟨rfl, trivial⟩ trivial h)

def m_slices_IndexFunc_LLimpl_Value_Limpl_Value_j1 (p1 : (List S_impl_Value) → Option Bool)  : Option Int :=
  some (-1 : Int)
def m_slices_IndexFunc_LLimpl_Value_Limpl_Value_l1 (p1 : (List S_impl_Value) → Option Bool) : Nat → (List (List S_impl_Value)) → Int → Int → Option Int
  | 0, _, _, _ => none
  | n1 + 1, t0, t7, t8 =>
    bif decide (t8 < t7) then ((at? t0 t8).bind fun x12 =>
    (p1 x12).bind fun x13 =>
    bif x13 then (some t8)
    else ((ckI (t8 + (1 : Int))).bind fun x16 =>
    (m_slices_IndexFunc_LLimpl_Value_Limpl_Value_l1 p1 n1) t0 t7 x16))
    else (m_slices_IndexFunc_LLimpl_Value_Limpl_Value_j1 p1 )
def m_slices_IndexFunc_LLimpl_Value_Limpl_Value (a0 : (List (List S_impl_Value))) (p1 : (List S_impl_Value) → Option Bool) : Option Int :=
  m_slices_IndexFunc_LLimpl_Value_Limpl_Value_l1 p1 (((a0.length : Int) - (0 : Int)).toNat + 1) a0 (a0.length : Int) (0 : Int)
theorem c_slices_IndexFunc_LLimpl_Value_Limpl_Value (a0 : (List (List S_impl_Value))) (p1 : (List S_impl_Value) → Option Bool) (f1 : FuncId) (q1 : List LV) (hq1 : ∀ k, LV.at?.atL k q1 = false) (hf1 : ∀ a0 v, p1 a0 = some v → Ret Try.prog f1 (e_Limpl_Value a0 :: q1) (e_bool v)) (r : Int) (h : m_slices_IndexFunc_LLimpl_Value_Limpl_Value a0 p1 = some r) : Ret Try.prog f_slices_IndexFunc_LLimpl_Value_Limpl_Value [e_LLimpl_Value a0, .clo f1 q1] (e_int r) := by
  refine Does.goG [] F_slices_IndexFunc_LLimpl_Value_Limpl_Value rfl e_slices_IndexFunc_LLimpl_Value_Limpl_Value n_slices_IndexFunc_LLimpl_Value_Limpl_Value rfl (rvs := [.tmp 4]) rfl rfl ?_
  intro w0 ok0 lent ρ0
  refine LWP.seq_k fun N1 hN1 => ?_
  refine LWP.region (l := [_]) ?_
  refine LWo.assign (e_int (0 : Int)) rfl (hn := ?_)
  refine LWo.nil (hN1 _ ?_)
  refine LWP.join (α := Unit) (fun z : Unit => []) (fun z : Unit => []) (fun z : Unit => m_slices_IndexFunc_LLimpl_Value_Limpl_Value_j1 p1 ) r (fun _ => by simp [hkeys]) ?_ ?_
  · rintro _ h
    replace h : m_slices_IndexFunc_LLimpl_Value_Limpl_Value_j1 p1  = some _ := h
    refine LWP.seq_k fun N17 hN17 => ?_
    refine LWP.region (l := [_]) ?_
    refine LWo.assign (e_int (-1 : Int)) rfl (hn := ?_)
    refine LWo.nil (hN17 _ ?_)
    obtain rfl := Option.some.inj h
    refine LWP.ret (QG.mk (.inr rfl) (.cons (.tmp (x := (e_int (-1 : Int))) rfl) (.nil)) (RetOK.one0 (.pure rfl) (by decide)) rfl rfl)
  · intro N2 hN2
    refine LWP.seq_k fun N3 hN3 => ?_
    refine LWP.region (l := [_,_,_]) ?_
    refine LWo.move (e_LLimpl_Value a0) rfl (hn := ?_)
    refine LWo.lenM (f := e_Limpl_Value) (l := a0) u_LLimpl_Value rfl (hn := ?_)
    refine LWo.move (e_int (0 : Int)) rfl (hn := ?_)
    refine LWo.nil (hN3 _ ?_)
    refine LWP.block ?_
    refine LWP.loopM (α := (List (List S_impl_Value)) × Int × Int) (fun z : (List (List S_impl_Value)) × Int × Int => [(0, (e_LLimpl_Value z.1)), (1, (.clo f1 q1)), (7, (e_int z.2.1)), (8, (e_int z.2.2))]) (fun z : (List (List S_impl_Value)) × Int × Int => []) (fun n1 (z : (List (List S_impl_Value)) × Int × Int) => m_slices_IndexFunc_LLimpl_Value_Limpl_Value_l1 p1 n1 z.1 z.2.1 z.2.2) r _ (a0, (a0.length : Int), (0 : Int)) h (fun _ => rfl) (fun _ => by simp [hkeys]) ⟨rfl, rfl, rfl, rfl, trivial⟩ trivial ?_
    rintro n1 ⟨t0, t7, t8⟩ h N4 hN4
    replace h : m_slices_IndexFunc_LLimpl_Value_Limpl_Value_l1 p1 (n1 + 1) t0 t7 t8 = some _ := h
    refine LWP.seq_k fun N6 hN6 => ?_
    refine LWP.region (l := [_]) ?_
    refine LWo.int _ rfl rfl rfl (hn := ?_)
    refine LWo.nil (hN6 _ ?_)
    refine LWP.seq_k fun N7 hN7 => ?_
    refine LWP.cond_split rfl (fun h8 => ?_) (fun h8 => ?_)
    · have h := bT h8 h
      refine LWP.skip (hN7 _ ?_)
      refine LWP.seq_k fun N9 hN9 => ?_
      refine LWP.block ?_
      refine LWP.seq_k fun N10 hN10 => ?_
      refine LWP.region (l := [_,_]) ?_
      refine LWo.move (e_int t8) rfl (hn := ?_)
      refine LWo.assign (e_int t8) rfl (hn := ?_)
      refine LWo.nil (hN10 _ ?_)
      refine LWP.seq_k fun N11 hN11 => ?_
      refine LWP.region (l := [_,_,_,_,_,_]) ?_
      refine LWo.move (.clo f1 q1) rfl (hn := ?_)
      refine LWo.move (e_LLimpl_Value t0) rfl (hn := ?_)
      refine LWo.move (e_int t8) rfl (hn := ?_)
      refine bk h fun x12 e12 h => ?_
      refine LWo.indexM (f := e_Limpl_Value) e12 u_LLimpl_Value s_Limpl_Value rfl rfl (hn := ?_)
      refine LWo.load1 (c := (e_Limpl_Value x12)) g_Limpl_Value rfl (hn := ?_)
      refine bk h fun x13 e13 h => ?_
      refine LWo.vcall rfl rfl (hf1 _ _ e13) .refl (hn := ?_)
      refine LWo.nil (hN11 _ ?_)
      refine LWP.cond_split rfl (fun h14 => ?_) (fun h14 => ?_)
      · have h := bT h14 h
        refine LWP.seq_k fun N15 hN15 => ?_
        refine LWP.region (l := [_,_]) ?_
        refine LWo.move (e_int t8) rfl (hn := ?_)
        refine LWo.assign (e_int t8) rfl (hn := ?_)
        refine LWo.nil (hN15 _ ?_)
        obtain rfl := Option.some.inj h
        refine LWP.ret (QG.mk (.inr rfl) (.cons (.tmp (x := (e_int t8)) rfl) (.nil)) (RetOK.one0 (.pure rfl) (by decide)) rfl rfl)
      · have h := bF h14 h
        refine LWP.skip (hN9 _ ?_)
        refine LWP.region (l := [_,_]) ?_
        refine bk h fun x16 e16 h => ?_
        refine LWo.int _ rfl rfl (add_ck e16) (hn := ?_)
        refine LWo.move (e_int x16) rfl (hn := ?_)
        refine LWo.nil (hN4 (t0, t7, x16) _ ⟨rfl, rfl, rfl, rfl, trivial⟩ trivial h)
    · have h := bF h8 h
      refine LWP.exit (hN2 () _ trivial trivial h)

def m_slices_ContainsFunc_LLimpl_Value_Limpl_Value (a0 : (List (List S_impl_Value))) (p1 : (List S_impl_Value) → Option Bool) : Option Bool :=
  (m_slices_IndexFunc_LLimpl_Value_Limpl_Value a0 p1).bind fun x3 =>
  some (decide (x3 ≥ (0 : Int)))
theorem c_slices_ContainsFunc_LLimpl_Value_Limpl_Value (a0 : (List (List S_impl_Value))) (p1 : (List S_impl_Value) → Option Bool) (f1 : FuncId) (q1 : List LV) (hq1 : ∀ k, LV.at?.atL k q1 = false) (hf1 : ∀ a0 v, p1 a0 = some v → Ret Try.prog f1 (e_Limpl_Value a0 :: q1) (e_bool v)) (r : Bool) (h : m_slices_ContainsFunc_LLimpl_Value_Limpl_Value a0 p1 = some r) : Ret Try.prog f_slices_ContainsFunc_LLimpl_Value_Limpl_Value [e_LLimpl_Value a0, .clo f1 q1] (e_bool r) := by
  refine Does.goG [] F_slices_ContainsFunc_LLimpl_Value_Limpl_Value rfl e_slices_ContainsFunc_LLimpl_Value_Limpl_Value n_slices_ContainsFunc_LLimpl_Value_Limpl_Value rfl (rvs := [.tmp 4]) rfl rfl ?_
  intro w0 ok0 lent ρ0
  refine LWP.seq_k fun N1 hN1 => ?_
  refine LWP.region (l := [_]) ?_
  refine LWo.assign (e_bool false) rfl (hn := ?_)
  refine LWo.nil (hN1 _ ?_)
  refine LWP.seq_k fun N2 hN2 => ?_
  refine LWP.region (l := [_,_,_,_,_]) ?_
  refine LWo.move (e_LLimpl_Value a0) rfl (hn := ?_)
  refine LWo.move (.clo f1 q1) rfl (hn := ?_)
  refine bk h fun x3 e3 h => ?_
  refine LWo.vcall rfl rfl (c_slices_IndexFunc_LLimpl_Value_Limpl_Value _ _ f1 q1 hq1 hf1 _ e3) (.same (.same (.nil))) (hn := ?_)
  refine LWo.int _ rfl rfl rfl (hn := ?_)
  refine LWo.assign (e_bool (decide (x3 ≥ (0 : Int)))) rfl (hn := ?_)
  refine LWo.nil (hN2 _ ?_)
  obtain rfl := Option.some.inj h
  refine LWP.ret (QG.mk (.inr rfl) (.cons (.tmp (x := (e_bool (decide (x3 ≥ (0 : Int))))) rfl) (.nil)) (RetOK.one0 (.pure rfl) (by decide)) rfl rfl)

def m_slices_IndexFunc_Limpl_Value_impl_Value_j1 (p1 : S_impl_Value → Option Bool)  : Option Int :=
  some (-1 : Int)
def m_slices_IndexFunc_Limpl_Value_impl_Value_l1 (p1 : S_impl_Value → Option Bool) : Nat → (List S_impl_Value) → Int → Int → Option Int
  | 0, _, _, _ => none
  | n1 + 1, t0, t7, t8 =>
    bif decide (t8 < t7) then ((at? t0 t8).bind fun x12 =>
    (p1 x12).bind fun x13 =>
    bif x13 then (some t8)
    else ((ckI (t8 + (1 : Int))).bind fun x16 =>
    (m_slices_IndexFunc_Limpl_Value_impl_Value_l1 p1 n1) t0 t7 x16))
    else (m_slices_IndexFunc_Limpl_Value_impl_Value_j1 p1 )
def m_slices_IndexFunc_Limpl_Value_impl_Value (a0 : (List S_impl_Value)) (p1 : S_impl_Value → Option Bool) : Option Int :=
  m_slices_IndexFunc_Limpl_Value_impl_Value_l1 p1 (((a0.length : Int) - (0 : Int)).toNat + 1) a0 (a0.length : Int) (0 : Int)
theorem c_slices_IndexFunc_Limpl_Value_impl_Value (a0 : (List S_impl_Value)) (p1 : S_impl_Value → Option Bool) (f1 : FuncId) (q1 : List LV) (hq1 : ∀ k, LV.at?.atL k q1 = false) (hf1 : ∀ a0 v, p1 a0 = some v → Ret Try.prog f1 (e_impl_Value a0 :: q1) (e_bool v)) (r : Int) (h : m_slices_IndexFunc_Limpl_Value_impl_Value a0 p1 = some r) : Ret Try.prog f_slices_IndexFunc_Limpl_Value_impl_Value [e_Limpl_Value a0, .clo f1 q1] (e_int r) := by
  refine Does.goG [] F_slices_IndexFunc_Limpl_Value_impl_Value rfl e_slices_IndexFunc_Limpl_Value_impl_Value n_slices_IndexFunc_Limpl_Value_impl_Value rfl (rvs := [.tmp 4]) rfl rfl ?_
  intro w0 ok0 lent ρ0
  refine LWP.seq_k fun N1 hN1 => ?_
  refine LWP.region (l := [_]) ?_
  refine LWo.assign (e_int (0 : Int)) rfl (hn := ?_)
  refine LWo.nil (hN1 _ ?_)
  refine LWP.join (α := Unit) (fun z : Unit => []) (fun z : Unit => []) (fun z : Unit => m_slices_IndexFunc_Limpl_Value_impl_Value_j1 p1 ) r (fun _ => by simp [hkeys]) ?_ ?_
  · rintro _ h
    replace h : m_slices_IndexFunc_Limpl_Value_impl_Value_j1 p1  = some _ := h
    refine LWP.seq_k fun N17 hN17 => ?_
    refine LWP.region (l := [_]) ?_
    refine LWo.assign (e_int (-1 : Int)) rfl (hn := ?_)
    refine LWo.nil (hN17 _ ?_)
    obtain rfl := Option.some.inj h
    refine LWP.ret (QG.mk (.inr rfl) (.cons (.tmp (x := (e_int (-1 : Int))) rfl) (.nil)) (RetOK.one0 (.pure rfl) (by decide)) rfl rfl)
  · intro N2 hN2
    refine LWP.seq_k fun N3 hN3 => ?_
    refine LWP.region (l := [_,_,_]) ?_
    refine LWo.move (e_Limpl_Value a0) rfl (hn := ?_)
    refine LWo.lenM (f := e_impl_Value) (l := a0) u_Limpl_Value rfl (hn := ?_)
    refine LWo.move (e_int (0 : Int)) rfl (hn := ?_)
    refine LWo.nil (hN3 _ ?_)
    refine LWP.block ?_
    refine LWP.loopM (α := (List S_impl_Value) × Int × Int) (fun z : (List S_impl_Value) × Int × Int => [(0, (e_Limpl_Value z.1)), (1, (.clo f1 q1)), (7, (e_int z.2.1)), (8, (e_int z.2.2))]) (fun z : (List S_impl_Value) × Int × Int => []) (fun n1 (z : (List S_impl_Value) × Int × Int) => m_slices_IndexFunc_Limpl_Value_impl_Value_l1 p1 n1 z.1 z.2.1 z.2.2) r _ (a0, (a0.length : Int), (0 : Int)) h (fun _ => rfl) (fun _ => by simp [hkeys]) ⟨rfl, rfl, rfl, rfl, trivial⟩ trivial ?_
    rintro n1 ⟨t0, t7, t8⟩ h N4 hN4
    replace h : m_slices_IndexFunc_Limpl_Value_impl_Value_l1 p1 (n1 + 1) t0 t7 t8 = some _ := h
    refine LWP.seq_k fun N6 hN6 => ?_
    refine LWP.region (l := [_]) ?_
    refine LWo.int _ rfl rfl rfl (hn := ?_)
    refine LWo.nil (hN6 _ ?_)
    refine LWP.seq_k fun N7 hN7 => ?_
    refine LWP.cond_split rfl (fun h8 => ?_) (fun h8 => ?_)
    · have h := bT h8 h
      refine LWP.skip (hN7 _ ?_)
      refine LWP.seq_k fun N9 hN9 => ?_
      refine LWP.block ?_
      refine LWP.seq_k fun N10 hN10 => ?_
      refine LWP.region (l := [_,_]) ?_
      refine LWo.move (e_int t8) rfl (hn := ?_)
      refine LWo.assign (e_int t8) rfl (hn := ?_)
      refine LWo.nil (hN10 _ ?_)
      refine LWP.seq_k fun N11 hN11 => ?_
      refine LWP.region (l := [_,_,_,_,_,_]) ?_
      refine LWo.move (.clo f1 q1) rfl (hn := ?_)
      refine LWo.move (e_Limpl_Value t0) rfl (hn := ?_)
      refine LWo.move (e_int t8) rfl (hn := ?_)
      refine bk h fun x12 e12 h => ?_
      refine LWo.indexM (f := e_impl_Value) e12 u_Limpl_Value s_impl_Value rfl rfl (hn := ?_)
      refine LWo.loadN ((e_impl_Value x12)).cells g_impl_Value s_impl_Value rfl (Nat.le_of_ble_eq_true rfl) rfl (hn := ?_)
      refine bk h fun x13 e13 h => ?_
      refine LWo.vcall rfl rfl (hf1 _ _ e13) .refl (hn := ?_)
      refine LWo.nil (hN11 _ ?_)
      refine LWP.cond_split rfl (fun h14 => ?_) (fun h14 => ?_)
      · have h := bT h14 h
        refine LWP.seq_k fun N15 hN15 => ?_
        refine LWP.region (l := [_,_]) ?_
        refine LWo.move (e_int t8) rfl (hn := ?_)
        refine LWo.assign (e_int t8) rfl (hn := ?_)
        refine LWo.nil (hN15 _ ?_)
        obtain rfl := Option.some.inj h
        refine LWP.ret (QG.mk (.inr rfl) (.cons (.tmp (x := (e_int t8)) rfl) (.nil)) (RetOK.one0 (.pure rfl) (by decide)) rfl rfl)
      · have h := bF h14 h
        refine LWP.skip (hN9 _ ?_)
        refine LWP.region (l := [_,_]) ?_
        refine bk h fun x16 e16 h => ?_
        refine LWo.int _ rfl rfl (add_ck e16) (hn := ?_)
        refine LWo.move (e_int x16) rfl (hn := ?_)
        refine LWo.nil (hN4 (t0, t7, x16) _ ⟨rfl, rfl, rfl, rfl, trivial⟩ trivial h)
    · have h := bF h8 h
      refine LWP.exit (hN2 () _ trivial trivial h)

def m_slices_ContainsFunc_Limpl_Value_impl_Value (a0 : (List S_impl_Value)) (p1 : S_impl_Value → Option Bool) : Option Bool :=
  (m_slices_IndexFunc_Limpl_Value_impl_Value a0 p1).bind fun x3 =>
  some (decide (x3 ≥ (0 : Int)))
theorem c_slices_ContainsFunc_Limpl_Value_impl_Value (a0 : (List S_impl_Value)) (p1 : S_impl_Value → Option Bool) (f1 : FuncId) (q1 : List LV) (hq1 : ∀ k, LV.at?.atL k q1 = false) (hf1 : ∀ a0 v, p1 a0 = some v → Ret Try.prog f1 (e_impl_Value a0 :: q1) (e_bool v)) (r : Bool) (h : m_slices_ContainsFunc_Limpl_Value_impl_Value a0 p1 = some r) : Ret Try.prog f_slices_ContainsFunc_Limpl_Value_impl_Value [e_Limpl_Value a0, .clo f1 q1] (e_bool r) := by
  refine Does.goG [] F_slices_ContainsFunc_Limpl_Value_impl_Value rfl e_slices_ContainsFunc_Limpl_Value_impl_Value n_slices_ContainsFunc_Limpl_Value_impl_Value rfl (rvs := [.tmp 4]) rfl rfl ?_
  intro w0 ok0 lent ρ0
  refine LWP.seq_k fun N1 hN1 => ?_
  refine LWP.region (l := [_]) ?_
  refine LWo.assign (e_bool false) rfl (hn := ?_)
  refine LWo.nil (hN1 _ ?_)
  refine LWP.seq_k fun N2 hN2 => ?_
  refine LWP.region (l := [_,_,_,_,_]) ?_
  refine LWo.move (e_Limpl_Value a0) rfl (hn := ?_)
  refine LWo.move (.clo f1 q1) rfl (hn := ?_)
  refine bk h fun x3 e3 h => ?_
  refine LWo.vcall rfl rfl (c_slices_IndexFunc_Limpl_Value_impl_Value _ _ f1 q1 hq1 hf1 _ e3) (.same (.same (.nil))) (hn := ?_)
  refine LWo.int _ rfl rfl rfl (hn := ?_)
  refine LWo.assign (e_bool (decide (x3 ≥ (0 : Int)))) rfl (hn := ?_)
  refine LWo.nil (hN2 _ ?_)
  obtain rfl := Option.some.inj h
  refine LWP.ret (QG.mk (.inr rfl) (.cons (.tmp (x := (e_bool (decide (x3 ≥ (0 : Int))))) rfl) (.nil)) (RetOK.one0 (.pure rfl) (by decide)) rfl rfl)

def m_impl_between_j1 (t6 : Bool) : Option Bool :=
  some t6
def m_impl_between (a0 : Int) (a1 : Int) (a2 : Int) : Option Bool :=
  bif decide (a0 ≥ a1) then (m_impl_between_j1  (decide (a0 ≤ a2)))
  else (m_impl_between_j1  false)
theorem c_impl_between (a0 : Int) (a1 : Int) (a2 : Int) (r : Bool) (h : m_impl_between a0 a1 a2 = some r) : Ret Try.prog f_impl_between [e_int a0, e_int a1, e_int a2] (e_bool r) := by
  refine Does.goG [] F_impl_between rfl e_impl_between n_impl_between rfl (rvs := [.tmp 6]) rfl rfl ?_
  intro w0 ok0 lent ρ0
  refine LWP.seq_k fun N1 hN1 => ?_
  refine LWP.region (l := [_]) ?_
  refine LWo.assign (e_bool false) rfl (hn := ?_)
  refine LWo.nil (hN1 _ ?_)
  refine LWP.join (α := Bool) (fun z : Bool => [(6, (e_bool z))]) (fun z : Bool => []) (fun z : Bool => m_impl_between_j1  z) r (fun _ => by simp [hkeys]) ?_ ?_
  · rintro t6 h
    replace h : m_impl_between_j1  t6 = some _ := h
    obtain rfl := Option.some.inj h
    refine LWP.ret (QG.mk (.inr rfl) (.cons (.tmp (x := (e_bool t6)) rfl) (.nil)) (RetOK.one0 (.pure rfl) (by decide)) rfl rfl)
  · intro N2 hN2
    refine LWP.region (l := [_,_,_,_,_,_,_,_,_]) ?_
    refine LWo.move (e_int a0) rfl (hn := ?_)
    refine LWo.move (e_int a1) rfl (hn := ?_)
    refine LWo.int _ rfl rfl rfl (hn := ?_)
    refine LWo.move (e_bool (decide (a0 ≥ a1))) rfl (hn := ?_)
    refine LWo.byCases (t := 10) _ rfl (fun h3 => ?_) (fun h3 => ?_)
    · have h := bT h3 h
      refine LWo.guardY (t := 10) rfl h3 rfl rfl ?_
      refine LWo.move (e_int a0) rfl (hn := ?_)
      refine LWo.guardY (t := 10) rfl h3 rfl rfl ?_
      refine LWo.move (e_int a2) rfl (hn := ?_)
      refine LWo.guardY (t := 10) rfl h3 rfl rfl ?_
      refine LWo.int _ rfl rfl rfl (hn := ?_)
      refine LWo.pickTM (e_bool (decide (a0 ≤ a2))) rfl h3 rfl (hn := ?_)
      refine LWo.assign (e_bool (decide (a0 ≤ a2))) rfl (hn := ?_)
      refine LWo.nil (hN2 (decide (a0 ≤ a2)) _ ⟨rfl, trivial⟩ trivial h)
    · have h := bF h3 h
      refine LWo.guardNU (t := 10) rfl h3 rfl rfl rfl rfl rfl ?_
      refine LWo.guardNU (t := 10) rfl h3 rfl rfl rfl rfl rfl ?_
      refine LWo.guardNU (t := 10) rfl h3 rfl rfl rfl rfl rfl ?_
      refine LWo.pickFM (e_bool false) rfl h3 rfl (hn := ?_)
      refine LWo.assign (e_bool false) rfl (hn := ?_)
      refine LWo.nil (hN2 false _ ⟨rfl, trivial⟩ trivial h)

def m_impl_letters_j1  : Option Bool :=
  some true
def m_impl_letters_l1 : Nat → (List UInt8) → Int → Int → Option Bool
  | 0, _, _, _ => none
  | n1 + 1, t6, t7, t8 =>
    bif decide (t8 < t7) then ((at? t6 t8).bind fun x12 =>
    (m_impl_between (x12.toNat : Int) (97 : Int) (122 : Int)).bind fun x14 =>
    bif (!x14) then (some false)
    else ((ckI (t8 + (1 : Int))).bind fun x17 =>
    (m_impl_letters_l1  n1) t6 t7 x17))
    else (m_impl_letters_j1  )
def m_impl_letters (a0 : ByteArray) : Option Bool :=
  (sBytes? a0).bind fun x4 =>
  m_impl_letters_l1  (((x4.length : Int) - (0 : Int)).toNat + 1) x4 (x4.length : Int) (0 : Int)
theorem c_impl_letters (a0 : ByteArray) (r : Bool) (h : m_impl_letters a0 = some r) : Ret Try.prog f_impl_letters [e_string a0] (e_bool r) := by
  refine Does.goG [] F_impl_letters rfl e_impl_letters n_impl_letters rfl (rvs := [.tmp 2]) rfl rfl ?_
  intro w0 ok0 lent ρ0
  refine LWP.seq_k fun N1 hN1 => ?_
  refine LWP.region (l := [_]) ?_
  refine LWo.assign (e_bool false) rfl (hn := ?_)
  refine LWo.nil (hN1 _ ?_)
  refine LWP.join (α := Unit) (fun z : Unit => []) (fun z : Unit => []) (fun z : Unit => m_impl_letters_j1  ) r (fun _ => by simp [hkeys]) ?_ ?_
  · rintro _ h
    replace h : m_impl_letters_j1   = some _ := h
    refine LWP.seq_k fun N18 hN18 => ?_
    refine LWP.region (l := [_]) ?_
    refine LWo.assign (e_bool true) rfl (hn := ?_)
    refine LWo.nil (hN18 _ ?_)
    obtain rfl := Option.some.inj h
    refine LWP.ret (QG.mk (.inr rfl) (.cons (.tmp (x := (e_bool true)) rfl) (.nil)) (RetOK.one0 (.pure rfl) (by decide)) rfl rfl)
  · intro N2 hN2
    refine LWP.seq_k fun N3 hN3 => ?_
    refine LWP.region (l := [_,_,_,_]) ?_
    refine LWo.move (e_string a0) rfl (hn := ?_)
    refine bk h fun x4 e4 h => ?_
    refine LWo.bytesM e4 u_string u_Luint8 u_uint8 rfl (hn := ?_)
    refine LWo.lenM (f := e_uint8) (l := x4) u_Luint8 rfl (hn := ?_)
    refine LWo.move (e_int (0 : Int)) rfl (hn := ?_)
    refine LWo.nil (hN3 _ ?_)
    refine LWP.block ?_
    refine LWP.loopM (α := (List UInt8) × Int × Int) (fun z : (List UInt8) × Int × Int => [(6, (e_Luint8 z.1)), (7, (e_int z.2.1)), (8, (e_int z.2.2))]) (fun z : (List UInt8) × Int × Int => []) (fun n1 (z : (List UInt8) × Int × Int) => m_impl_letters_l1  n1 z.1 z.2.1 z.2.2) r _ (x4, (x4.length : Int), (0 : Int)) h (fun _ => rfl) (fun _ => by simp [hkeys]) ⟨rfl, rfl, rfl, trivial⟩ trivial ?_
    rintro n1 ⟨t6, t7, t8⟩ h N5 hN5
    replace h : m_impl_letters_l1  (n1 + 1) t6 t7 t8 = some _ := h
    refine LWP.seq_k fun N7 hN7 => ?_
    refine LWP.region (l := [_]) ?_
    refine LWo.int _ rfl rfl rfl (hn := ?_)
    refine LWo.nil (hN7 _ ?_)
    refine LWP.seq_k fun N8 hN8 => ?_
    refine LWP.cond_split rfl (fun h9 => ?_) (fun h9 => ?_)
    · have h := bT h9 h
      refine LWP.skip (hN8 _ ?_)
      refine LWP.seq_k fun N10 hN10 => ?_
      refine LWP.block ?_
      refine LWP.seq_k fun N11 hN11 => ?_
      refine LWP.region (l := [_,_,_]) ?_
      refine bk h fun x12 e12 h => ?_
      refine LWo.indexM (f := e_uint8) e12 u_Luint8 s_uint8 rfl rfl (hn := ?_)
      refine LWo.load1 (c := (e_uint8 x12)) g_uint8 rfl (hn := ?_)
      refine LWo.assign (e_uint8 x12) rfl (hn := ?_)
      refine LWo.nil (hN11 _ ?_)
      refine LWP.seq_k fun N13 hN13 => ?_
      refine LWP.region (l := [_,_,_,_]) ?_
      refine LWo.move (e_uint8 x12) rfl (hn := ?_)
      refine LWo.convByte _ u_uint8 u_int rfl (hn := ?_)
      refine bk h fun x14 e14 h => ?_
      refine LWo.vcall rfl rfl (c_impl_between _ _ _ _ e14) (.same (.same (.same (.nil)))) (hn := ?_)
      refine LWo.not rfl (hn := ?_)
      refine LWo.nil (hN13 _ ?_)
      refine LWP.cond_split rfl (fun h15 => ?_) (fun h15 => ?_)
      · have h := bT h15 h
        refine LWP.seq_k fun N16 hN16 => ?_
        refine LWP.region (l := [_]) ?_
        refine LWo.assign (e_bool false) rfl (hn := ?_)
        refine LWo.nil (hN16 _ ?_)
        obtain rfl := Option.some.inj h
        refine LWP.ret (QG.mk (.inr rfl) (.cons (.tmp (x := (e_bool false)) rfl) (.nil)) (RetOK.one0 (.pure rfl) (by decide)) rfl rfl)
      · have h := bF h15 h
        refine LWP.skip (hN10 _ ?_)
        refine LWP.region (l := [_,_]) ?_
        refine bk h fun x17 e17 h => ?_
        refine LWo.int _ rfl rfl (add_ck e17) (hn := ?_)
        refine LWo.move (e_int x17) rfl (hn := ?_)
        refine LWo.nil (hN5 (t6, t7, x17) _ ⟨rfl, rfl, rfl, trivial⟩ trivial h)
    · have h := bF h9 h
      refine LWP.exit (hN2 () _ trivial trivial h)

def m_impl_Value_ok_j1 (t2 : Bool) : Option Bool :=
  some t2
def m_impl_Value_ok_j2 (t2 : Bool) : Option Bool :=
  some t2
def m_impl_Value_ok_j3 (t2 : Bool) : Option Bool :=
  some t2
def m_impl_Value_ok (a0 : S_impl_Value) : Option Bool :=
  bif (a0.Kind == (0 : Int)) then (some (decide (a0 = (⟨(0 : Int), (0 : Int), (⟨#[]⟩ : ByteArray)⟩ : S_impl_Value))))
  else (bif (a0.Kind == (1 : Int)) then (bif (sEq a0.S (⟨#[]⟩ : ByteArray)) then ((m_impl_between a0.N (-9999 : Int) (9999 : Int)).bind fun x11 =>
        m_impl_Value_ok_j1  x11)
      else (m_impl_Value_ok_j1  false))
    else (bif (a0.Kind == (2 : Int)) then (bif (a0.N == (0 : Int)) then (bif decide ((a0.S.size : Int) ≤ (6 : Int)) then ((m_impl_letters a0.S).bind fun x17 =>
            m_impl_Value_ok_j2  x17)
          else (m_impl_Value_ok_j2  false))
        else (m_impl_Value_ok_j2  false))
      else (bif (a0.Kind == (3 : Int)) then (bif (sEq a0.S (⟨#[]⟩ : ByteArray)) then ((m_impl_between a0.N (0 : Int) (1 : Int)).bind fun x22 =>
            m_impl_Value_ok_j3  x22)
          else (m_impl_Value_ok_j3  false))
        else (some false))))
theorem c_impl_Value_ok (a0 : S_impl_Value) (r : Bool) (h : m_impl_Value_ok a0 = some r) : Ret Try.prog f_impl_Value_ok [e_impl_Value a0] (e_bool r) := by
  refine Does.goG [] F_impl_Value_ok rfl e_impl_Value_ok n_impl_Value_ok rfl (rvs := [.tmp 2]) rfl rfl ?_
  intro w0 ok0 lent ρ0
  refine LWP.seq_k fun N1 hN1 => ?_
  refine LWP.region (l := [_,_]) ?_
  refine LWo.boxF (e_impl_Value a0) rfl rfl rfl (hn := ?_)
  refine LWo.assign (e_bool false) rfl (hn := ?_)
  refine LWo.nil (hN1 _ ?_)
  refine LWP.seq_k fun N2 hN2 => ?_
  refine LWP.seq_k fun N3 hN3 => ?_
  refine LWP.region (l := [_,_]) ?_
  refine LWo.fieldAddr _ u_impl_Value rfl s_int rfl rfl (hn := ?_)
  refine LWo.load1 (c := (e_int a0.Kind)) g_int rfl (hn := ?_)
  refine LWo.nil (hN3 _ ?_)
  refine LWP.block ?_
  refine LWP.seq_k fun N4 hN4 => ?_
  refine LWP.region (l := [_,_]) ?_
  refine LWo.int _ rfl rfl rfl (hn := ?_)
  refine LWo.assign (e_bool (a0.Kind == (0 : Int))) rfl (hn := ?_)
  refine LWo.nil (hN4 _ ?_)
  refine LWP.cond_split rfl (fun h5 => ?_) (fun h5 => ?_)
  · have h := bT h5 h
    refine LWP.seq_k fun N6 hN6 => ?_
    refine LWP.region (l := [_,_,_,_]) ?_
    refine LWo.loadN ((e_impl_Value a0)).cells g_impl_Value s_impl_Value rfl (Nat.le_of_ble_eq_true rfl) rfl (hn := ?_)
    refine LWo.build_impl_Value (parts := []) (⟨(0 : Int), (0 : Int), (⟨#[]⟩ : ByteArray)⟩ : S_impl_Value) rfl rfl rfl .refl (hn := ?_)
    refine LWo.eq_impl_Value _ _ rfl rfl (hn := ?_)
    refine LWo.assign (e_bool (decide (a0 = (⟨(0 : Int), (0 : Int), (⟨#[]⟩ : ByteArray)⟩ : S_impl_Value)))) rfl (hn := ?_)
    refine LWo.nil (hN6 _ ?_)
    obtain rfl := Option.some.inj h
    refine LWP.ret (QG.mk (.inr rfl) (.cons (.tmp (x := (e_bool (decide (a0 = (⟨(0 : Int), (0 : Int), (⟨#[]⟩ : ByteArray)⟩ : S_impl_Value))))) rfl) (.nil)) (RetOK.one0 (.pure rfl) (by decide)) rfl rfl)
  · have h := bF h5 h
    refine LWP.seq_k fun N7 hN7 => ?_
    refine LWP.region (l := [_,_]) ?_
    refine LWo.int _ rfl rfl rfl (hn := ?_)
    refine LWo.assign (e_bool (a0.Kind == (1 : Int))) rfl (hn := ?_)
    refine LWo.nil (hN7 _ ?_)
    refine LWP.cond_split rfl (fun h8 => ?_) (fun h8 => ?_)
    · have h := bT h8 h
      refine LWP.join (α := Bool) (fun z : Bool => [(2, (e_bool z))]) (fun z : Bool => []) (fun z : Bool => m_impl_Value_ok_j1  z) r (fun _ => by simp [hkeys]) ?_ ?_
      · rintro t2 h
        replace h : m_impl_Value_ok_j1  t2 = some _ := h
        obtain rfl := Option.some.inj h
        refine LWP.ret (QG.mk (.inr rfl) (.cons (.tmp (x := (e_bool t2)) rfl) (.nil)) (RetOK.one0 (.pure rfl) (by decide)) rfl rfl)
      · intro N9 hN9
        refine LWP.region (l := [_,_,_,_,_,_,_,_,_]) ?_
        refine LWo.fieldAddr _ u_impl_Value rfl s_string rfl rfl (hn := ?_)
        refine LWo.load1 (c := (e_string a0.S)) g_string rfl (hn := ?_)
        refine LWo.str _ rfl rfl rfl (hn := ?_)
        refine LWo.move (e_bool (sEq a0.S (⟨#[]⟩ : ByteArray))) rfl (hn := ?_)
        refine LWo.byCases (t := 15) _ rfl (fun h10 => ?_) (fun h10 => ?_)
        · have h := bT h10 h
          refine LWo.guardY (t := 15) rfl h10 rfl rfl ?_
          refine LWo.fieldAddr _ u_impl_Value rfl s_int rfl rfl (hn := ?_)
          refine LWo.guardY (t := 15) rfl h10 rfl rfl ?_
          refine LWo.load1 (c := (e_int a0.N)) g_int rfl (hn := ?_)
          refine bk h fun x11 e11 h => ?_
          refine LWo.guardY (t := 15) rfl h10 rfl rfl ?_
          refine LWo.vcall rfl rfl (c_impl_between _ _ _ _ e11) (.same (.same (.same (.nil)))) (hn := ?_)
          refine LWo.pickTM (e_bool x11) rfl h10 rfl (hn := ?_)
          refine LWo.assign (e_bool x11) rfl (hn := ?_)
          refine LWo.nil (hN9 x11 _ ⟨rfl, trivial⟩ trivial h)
        · have h := bF h10 h
          refine LWo.guardNU (t := 15) rfl h10 rfl rfl rfl rfl rfl ?_
          refine LWo.guardNU (t := 15) rfl h10 rfl rfl rfl rfl rfl ?_
          refine LWo.guardNU (t := 15) rfl h10 rfl rfl rfl rfl rfl ?_
          refine LWo.pickFM (e_bool false) rfl h10 rfl (hn := ?_)
          refine LWo.assign (e_bool false) rfl (hn := ?_)
          refine LWo.nil (hN9 false _ ⟨rfl, trivial⟩ trivial h)
    · have h := bF h8 h
      refine LWP.seq_k fun N12 hN12 => ?_
      refine LWP.region (l := [_,_]) ?_
      refine LWo.int _ rfl rfl rfl (hn := ?_)
      refine LWo.assign (e_bool (a0.Kind == (2 : Int))) rfl (hn := ?_)
      refine LWo.nil (hN12 _ ?_)
      refine LWP.cond_split rfl (fun h13 => ?_) (fun h13 => ?_)
      · have h := bT h13 h
        refine LWP.join (α := Bool) (fun z : Bool => [(2, (e_bool z))]) (fun z : Bool => []) (fun z : Bool => m_impl_Value_ok_j2  z) r (fun _ => by simp [hkeys]) ?_ ?_
        · rintro t2 h
          replace h : m_impl_Value_ok_j2  t2 = some _ := h
          obtain rfl := Option.some.inj h
          refine LWP.ret (QG.mk (.inr rfl) (.cons (.tmp (x := (e_bool t2)) rfl) (.nil)) (RetOK.one0 (.pure rfl) (by decide)) rfl rfl)
        · intro N14 hN14
          refine LWP.region (l := [_,_,_,_,_,_,_,_,_,_,_,_,_,_,_]) ?_
          refine LWo.fieldAddr _ u_impl_Value rfl s_int rfl rfl (hn := ?_)
          refine LWo.load1 (c := (e_int a0.N)) g_int rfl (hn := ?_)
          refine LWo.int _ rfl rfl rfl (hn := ?_)
          refine LWo.move (e_bool (a0.N == (0 : Int))) rfl (hn := ?_)
          refine LWo.byCases (t := 25) _ rfl (fun h15 => ?_) (fun h15 => ?_)
          · have h := bT h15 h
            refine LWo.guardY (t := 25) rfl h15 rfl rfl ?_
            refine LWo.fieldAddr _ u_impl_Value rfl s_string rfl rfl (hn := ?_)
            refine LWo.guardY (t := 25) rfl h15 rfl rfl ?_
            refine LWo.load1 (c := (e_string a0.S)) g_string rfl (hn := ?_)
            refine LWo.guardY (t := 25) rfl h15 rfl rfl ?_
            refine LWo.lenS u_string rfl (hn := ?_)
            refine LWo.guardY (t := 25) rfl h15 rfl rfl ?_
            refine LWo.int _ rfl rfl rfl (hn := ?_)
            refine LWo.pickTM (e_bool (decide ((a0.S.size : Int) ≤ (6 : Int)))) rfl h15 rfl (hn := ?_)
            refine LWo.move (e_bool (decide ((a0.S.size : Int) ≤ (6 : Int)))) rfl (hn := ?_)
            refine LWo.byCases (t := 31) _ rfl (fun h16 => ?_) (fun h16 => ?_)
            · have h := bT h16 h
              refine LWo.guardY (t := 31) rfl h16 rfl rfl ?_
              refine LWo.fieldAddr _ u_impl_Value rfl s_string rfl rfl (hn := ?_)
              refine LWo.guardY (t := 31) rfl h16 rfl rfl ?_
              refine LWo.load1 (c := (e_string a0.S)) g_string rfl (hn := ?_)
              refine bk h fun x17 e17 h => ?_
              refine LWo.guardY (t := 31) rfl h16 rfl rfl ?_
              refine LWo.vcall rfl rfl (c_impl_letters _ _ e17) (.same (.nil)) (hn := ?_)
              refine LWo.pickTM (e_bool x17) rfl h16 rfl (hn := ?_)
              refine LWo.assign (e_bool x17) rfl (hn := ?_)
              refine LWo.nil (hN14 x17 _ ⟨rfl, trivial⟩ trivial h)
            · have h := bF h16 h
              refine LWo.guardNU (t := 31) rfl h16 rfl rfl rfl rfl rfl ?_
              refine LWo.guardNU (t := 31) rfl h16 rfl rfl rfl rfl rfl ?_
              refine LWo.guardNU (t := 31) rfl h16 rfl rfl rfl rfl rfl ?_
              refine LWo.pickFM (e_bool false) rfl h16 rfl (hn := ?_)
              refine LWo.assign (e_bool false) rfl (hn := ?_)
              refine LWo.nil (hN14 false _ ⟨rfl, trivial⟩ trivial h)
          · have h := bF h15 h
            refine LWo.guardNU (t := 25) rfl h15 rfl rfl rfl rfl rfl ?_
            refine LWo.guardNU (t := 25) rfl h15 rfl rfl rfl rfl rfl ?_
            refine LWo.guardNU (t := 25) rfl h15 rfl rfl rfl rfl rfl ?_
            refine LWo.guardNU (t := 25) rfl h15 rfl rfl rfl rfl rfl ?_
            refine LWo.pickFM (e_bool false) rfl h15 rfl (hn := ?_)
            refine LWo.move (e_bool false) rfl (hn := ?_)
            refine LWo.guardNU (t := 31) rfl rfl rfl rfl rfl rfl rfl ?_
            refine LWo.guardNU (t := 31) rfl rfl rfl rfl rfl rfl rfl ?_
            refine LWo.guardNU (t := 31) rfl rfl rfl rfl rfl rfl rfl ?_
            refine LWo.pickFM (e_bool false) rfl rfl rfl (hn := ?_)
            refine LWo.assign (e_bool false) rfl (hn := ?_)
            refine LWo.nil (hN14 false _ ⟨rfl, trivial⟩ trivial h)
      · have h := bF h13 h
        refine LWP.seq_k fun N18 hN18 => ?_
        refine LWP.region (l := [_,_]) ?_
        refine LWo.int _ rfl rfl rfl (hn := ?_)
        refine LWo.assign (e_bool (a0.Kind == (3 : Int))) rfl (hn := ?_)
        refine LWo.nil (hN18 _ ?_)
        refine LWP.cond_split rfl (fun h19 => ?_) (fun h19 => ?_)
        · have h := bT h19 h
          refine LWP.join (α := Bool) (fun z : Bool => [(2, (e_bool z))]) (fun z : Bool => []) (fun z : Bool => m_impl_Value_ok_j3  z) r (fun _ => by simp [hkeys]) ?_ ?_
          · rintro t2 h
            replace h : m_impl_Value_ok_j3  t2 = some _ := h
            obtain rfl := Option.some.inj h
            refine LWP.ret (QG.mk (.inr rfl) (.cons (.tmp (x := (e_bool t2)) rfl) (.nil)) (RetOK.one0 (.pure rfl) (by decide)) rfl rfl)
          · intro N20 hN20
            refine LWP.region (l := [_,_,_,_,_,_,_,_,_]) ?_
            refine LWo.fieldAddr _ u_impl_Value rfl s_string rfl rfl (hn := ?_)
            refine LWo.load1 (c := (e_string a0.S)) g_string rfl (hn := ?_)
            refine LWo.str _ rfl rfl rfl (hn := ?_)
            refine LWo.move (e_bool (sEq a0.S (⟨#[]⟩ : ByteArray))) rfl (hn := ?_)
            refine LWo.byCases (t := 41) _ rfl (fun h21 => ?_) (fun h21 => ?_)
            · have h := bT h21 h
              refine LWo.guardY (t := 41) rfl h21 rfl rfl ?_
              refine LWo.fieldAddr _ u_impl_Value rfl s_int rfl rfl (hn := ?_)
              refine LWo.guardY (t := 41) rfl h21 rfl rfl ?_
              refine LWo.load1 (c := (e_int a0.N)) g_int rfl (hn := ?_)
              refine bk h fun x22 e22 h => ?_
              refine LWo.guardY (t := 41) rfl h21 rfl rfl ?_
              refine LWo.vcall rfl rfl (c_impl_between _ _ _ _ e22) (.same (.same (.same (.nil)))) (hn := ?_)
              refine LWo.pickTM (e_bool x22) rfl h21 rfl (hn := ?_)
              refine LWo.assign (e_bool x22) rfl (hn := ?_)
              refine LWo.nil (hN20 x22 _ ⟨rfl, trivial⟩ trivial h)
            · have h := bF h21 h
              refine LWo.guardNU (t := 41) rfl h21 rfl rfl rfl rfl rfl ?_
              refine LWo.guardNU (t := 41) rfl h21 rfl rfl rfl rfl rfl ?_
              refine LWo.guardNU (t := 41) rfl h21 rfl rfl rfl rfl rfl ?_
              refine LWo.pickFM (e_bool false) rfl h21 rfl (hn := ?_)
              refine LWo.assign (e_bool false) rfl (hn := ?_)
              refine LWo.nil (hN20 false _ ⟨rfl, trivial⟩ trivial h)
        · have h := bF h19 h
          refine LWP.skip (hN2 _ ?_)
          refine LWP.seq_k fun N23 hN23 => ?_
          refine LWP.region (l := [_]) ?_
          refine LWo.assign (e_bool false) rfl (hn := ?_)
          refine LWo.nil (hN23 _ ?_)
          obtain rfl := Option.some.inj h
          refine LWP.ret (QG.mk (.inr rfl) (.cons (.tmp (x := (e_bool false)) rfl) (.nil)) (RetOK.one0 (.pure rfl) (by decide)) rfl rfl)

def m_impl_RowOk_1 (a0 : S_impl_Value) : Option Bool :=
  (m_impl_Value_ok a0).bind fun x3 =>
  some (!x3)
theorem c_impl_RowOk_1 (a0 : S_impl_Value) (r : Bool) (h : m_impl_RowOk_1 a0 = some r) : Ret Try.prog f_impl_RowOk_1 [e_impl_Value a0] (e_bool r) := by
  refine Does.goG [] F_impl_RowOk_1 rfl e_impl_RowOk_1 n_impl_RowOk_1 rfl (rvs := [.tmp 2]) rfl rfl ?_
  intro w0 ok0 lent ρ0
  refine LWP.seq_k fun N1 hN1 => ?_
  refine LWP.region (l := [_,_]) ?_
  refine LWo.boxF (e_impl_Value a0) rfl rfl rfl (hn := ?_)
  refine LWo.assign (e_bool false) rfl (hn := ?_)
  refine LWo.nil (hN1 _ ?_)
  refine LWP.seq_k fun N2 hN2 => ?_
  refine LWP.region (l := [_,_,_,_]) ?_
  refine LWo.loadN ((e_impl_Value a0)).cells g_impl_Value s_impl_Value rfl (Nat.le_of_ble_eq_true rfl) rfl (hn := ?_)
  refine bk h fun x3 e3 h => ?_
  refine LWo.vcall rfl rfl (c_impl_Value_ok _ _ e3) (.same (.nil)) (hn := ?_)
  refine LWo.not rfl (hn := ?_)
  refine LWo.assign (e_bool (!x3)) rfl (hn := ?_)
  refine LWo.nil (hN2 _ ?_)
  obtain rfl := Option.some.inj h
  refine LWP.ret (QG.mk (.inr rfl) (.cons (.tmp (x := (e_bool (!x3))) rfl) (.nil)) (RetOK.one0 (.pure rfl) (by decide)) rfl rfl)

def m_impl_RowOk_j1 (t2 : Bool) : Option Bool :=
  some t2
def m_impl_RowOk (a0 : (List S_impl_Value)) : Option Bool :=
  bif decide ((a0.length : Int) ≤ (4 : Int)) then ((m_slices_ContainsFunc_Limpl_Value_impl_Value a0 (fun b0_ => m_impl_RowOk_1 b0_ )).bind fun x4 =>
    m_impl_RowOk_j1  (!x4))
  else (m_impl_RowOk_j1  false)
theorem c_impl_RowOk (a0 : (List S_impl_Value)) (r : Bool) (h : m_impl_RowOk a0 = some r) : Ret Try.prog f_impl_RowOk [e_Limpl_Value a0] (e_bool r) := by
  refine Does.goG [] F_impl_RowOk rfl e_impl_RowOk n_impl_RowOk rfl (rvs := [.tmp 2]) rfl rfl ?_
  intro w0 ok0 lent ρ0
  refine LWP.seq_k fun N1 hN1 => ?_
  refine LWP.region (l := [_]) ?_
  refine LWo.assign (e_bool false) rfl (hn := ?_)
  refine LWo.nil (hN1 _ ?_)
  refine LWP.join (α := Bool) (fun z : Bool => [(2, (e_bool z))]) (fun z : Bool => []) (fun z : Bool => m_impl_RowOk_j1  z) r (fun _ => by simp [hkeys]) ?_ ?_
  · rintro t2 h
    replace h : m_impl_RowOk_j1  t2 = some _ := h
    obtain rfl := Option.some.inj h
    refine LWP.ret (QG.mk (.inr rfl) (.cons (.tmp (x := (e_bool t2)) rfl) (.nil)) (RetOK.one0 (.pure rfl) (by decide)) rfl rfl)
  · intro N2 hN2
    refine LWP.region (l := [_,_,_,_,_,_,_,_,_]) ?_
    refine LWo.move (e_Limpl_Value a0) rfl (hn := ?_)
    refine LWo.lenM (f := e_impl_Value) (l := a0) u_Limpl_Value rfl (hn := ?_)
    refine LWo.int _ rfl rfl rfl (hn := ?_)
    refine LWo.move (e_bool (decide ((a0.length : Int) ≤ (4 : Int)))) rfl (hn := ?_)
    refine LWo.byCases (t := 6) _ rfl (fun h3 => ?_) (fun h3 => ?_)
    · have h := bT h3 h
      refine LWo.guardY (t := 6) rfl h3 rfl rfl ?_
      refine LWo.move (e_Limpl_Value a0) rfl (hn := ?_)
      refine bk h fun x4 e4 h => ?_
      refine LWo.guardY (t := 6) rfl h3 rfl rfl ?_
      refine LWo.vcall rfl rfl (c_slices_ContainsFunc_Limpl_Value_impl_Value _ _ f_impl_RowOk_1 [] (fun _ => rfl) (fun b0_ v hv => c_impl_RowOk_1 b0_  v hv) _ e4) (.same (.same (.nil))) (hn := ?_)
      refine LWo.guardY (t := 6) rfl h3 rfl rfl ?_
      refine LWo.not rfl (hn := ?_)
      refine LWo.pickTM (e_bool (!x4)) rfl h3 rfl (hn := ?_)
      refine LWo.assign (e_bool (!x4)) rfl (hn := ?_)
      refine LWo.nil (hN2 (!x4) _ ⟨rfl, trivial⟩ trivial h)
    · have h := bF h3 h
      refine LWo.guardNU (t := 6) rfl h3 rfl rfl rfl rfl rfl ?_
      refine LWo.guardNU (t := 6) rfl h3 rfl rfl rfl rfl rfl ?_
      refine LWo.guardNU (t := 6) rfl h3 rfl rfl rfl rfl rfl ?_
      refine LWo.pickFM (e_bool false) rfl h3 rfl (hn := ?_)
      refine LWo.assign (e_bool false) rfl (hn := ?_)
      refine LWo.nil (hN2 false _ ⟨rfl, trivial⟩ trivial h)

def m_impl_allOk_1 (a0 : (List S_impl_Value)) : Option Bool :=
  (m_impl_RowOk a0).bind fun x3 =>
  some (!x3)
theorem c_impl_allOk_1 (a0 : (List S_impl_Value)) (r : Bool) (h : m_impl_allOk_1 a0 = some r) : Ret Try.prog f_impl_allOk_1 [e_Limpl_Value a0] (e_bool r) := by
  refine Does.goG [] F_impl_allOk_1 rfl e_impl_allOk_1 n_impl_allOk_1 rfl (rvs := [.tmp 2]) rfl rfl ?_
  intro w0 ok0 lent ρ0
  refine LWP.seq_k fun N1 hN1 => ?_
  refine LWP.region (l := [_]) ?_
  refine LWo.assign (e_bool false) rfl (hn := ?_)
  refine LWo.nil (hN1 _ ?_)
  refine LWP.seq_k fun N2 hN2 => ?_
  refine LWP.region (l := [_,_,_,_]) ?_
  refine LWo.move (e_Limpl_Value a0) rfl (hn := ?_)
  refine bk h fun x3 e3 h => ?_
  refine LWo.vcall rfl rfl (c_impl_RowOk _ _ e3) (.same (.nil)) (hn := ?_)
  refine LWo.not rfl (hn := ?_)
  refine LWo.assign (e_bool (!x3)) rfl (hn := ?_)
  refine LWo.nil (hN2 _ ?_)
  obtain rfl := Option.some.inj h
  refine LWP.ret (QG.mk (.inr rfl) (.cons (.tmp (x := (e_bool (!x3))) rfl) (.nil)) (RetOK.one0 (.pure rfl) (by decide)) rfl rfl)

def m_impl_allOk (a0 : (List (List S_impl_Value))) : Option Bool :=
  (m_slices_ContainsFunc_LLimpl_Value_Limpl_Value a0 (fun b0_ => m_impl_allOk_1 b0_ )).bind fun x3 =>
  some (!x3)
theorem c_impl_allOk (a0 : (List (List S_impl_Value))) (r : Bool) (h : m_impl_allOk a0 = some r) : Ret Try.prog f_impl_allOk [e_LLimpl_Value a0] (e_bool r) := by
  refine Does.goG [] F_impl_allOk rfl e_impl_allOk n_impl_allOk rfl (rvs := [.tmp 2]) rfl rfl ?_
  intro w0 ok0 lent ρ0
  refine LWP.seq_k fun N1 hN1 => ?_
  refine LWP.region (l := [_]) ?_
  refine LWo.assign (e_bool false) rfl (hn := ?_)
  refine LWo.nil (hN1 _ ?_)
  refine LWP.seq_k fun N2 hN2 => ?_
  refine LWP.region (l := [_,_,_,_]) ?_
  refine LWo.move (e_LLimpl_Value a0) rfl (hn := ?_)
  refine bk h fun x3 e3 h => ?_
  refine LWo.vcall rfl rfl (c_slices_ContainsFunc_LLimpl_Value_Limpl_Value _ _ f_impl_allOk_1 [] (fun _ => rfl) (fun b0_ v hv => c_impl_allOk_1 b0_  v hv) _ e3) (.same (.same (.nil))) (hn := ?_)
  refine LWo.not rfl (hn := ?_)
  refine LWo.assign (e_bool (!x3)) rfl (hn := ?_)
  refine LWo.nil (hN2 _ ?_)
  obtain rfl := Option.some.inj h
  refine LWP.ret (QG.mk (.inr rfl) (.cons (.tmp (x := (e_bool (!x3))) rfl) (.nil)) (RetOK.one0 (.pure rfl) (by decide)) rfl rfl)

def m_slices_IsSortedFunc_LLimpl_Value_Limpl_Value_j1 (p1 : (List S_impl_Value) → (List S_impl_Value) → Option Int)  : Option Bool :=
  some true
def m_slices_IsSortedFunc_LLimpl_Value_Limpl_Value_l1 (p1 : (List S_impl_Value) → (List S_impl_Value) → Option Int) : Nat → (List (List S_impl_Value)) → Int → Option Bool
  | 0, _, _ => none
  | n1 + 1, t0, t5 =>
    bif decide (t5 > (0 : Int)) then ((at? t0 t5).bind fun x12 =>
    (ckI (t5 - (1 : Int))).bind fun x13 =>
    (at? t0 x13).bind fun x14 =>
    (p1 x12 x14).bind fun x15 =>
    bif decide (x15 < (0 : Int)) then (some false)
    else ((ckI (t5 - (1 : Int))).bind fun x18 =>
    (m_slices_IsSortedFunc_LLimpl_Value_Limpl_Value_l1 p1 n1) t0 x18))
    else (m_slices_IsSortedFunc_LLimpl_Value_Limpl_Value_j1 p1 )
def m_slices_IsSortedFunc_LLimpl_Value_Limpl_Value (a0 : (List (List S_impl_Value))) (p1 : (List S_impl_Value) → (List S_impl_Value) → Option Int) : Option Bool :=
  (ckI ((a0.length : Int) - (1 : Int))).bind fun x4 =>
  m_slices_IsSortedFunc_LLimpl_Value_Limpl_Value_l1 p1 ((x4 - (0 : Int)).toNat + 1) a0 x4
theorem c_slices_IsSortedFunc_LLimpl_Value_Limpl_Value (a0 : (List (List S_impl_Value))) (p1 : (List S_impl_Value) → (List S_impl_Value) → Option Int) (f1 : FuncId) (q1 : List LV) (hq1 : ∀ k, LV.at?.atL k q1 = false) (hf1 : ∀ a0 a1 v, p1 a0 a1 = some v → Ret Try.prog f1 (e_Limpl_Value a0 :: e_Limpl_Value a1 :: q1) (e_int v)) (r : Bool) (h : m_slices_IsSortedFunc_LLimpl_Value_Limpl_Value a0 p1 = some r) : Ret Try.prog f_slices_IsSortedFunc_LLimpl_Value_Limpl_Value [e_LLimpl_Value a0, .clo f1 q1] (e_bool r) := by
  refine Does.goG [] F_slices_IsSortedFunc_LLimpl_Value_Limpl_Value rfl e_slices_IsSortedFunc_LLimpl_Value_Limpl_Value n_slices_IsSortedFunc_LLimpl_Value_Limpl_Value rfl (rvs := [.tmp 4]) rfl rfl ?_
  intro w0 ok0 lent ρ0
  refine LWP.seq_k fun N1 hN1 => ?_
  refine LWP.region (l := [_]) ?_
  refine LWo.assign (e_bool false) rfl (hn := ?_)
  refine LWo.nil (hN1 _ ?_)
  refine LWP.join (α := Unit) (fun z : Unit => []) (fun z : Unit => []) (fun z : Unit => m_slices_IsSortedFunc_LLimpl_Value_Limpl_Value_j1 p1 ) r (fun _ => by simp [hkeys]) ?_ ?_
  · rintro _ h
    replace h : m_slices_IsSortedFunc_LLimpl_Value_Limpl_Value_j1 p1  = some _ := h
    refine LWP.seq_k fun N19 hN19 => ?_
    refine LWP.region (l := [_]) ?_
    refine LWo.assign (e_bool true) rfl (hn := ?_)
    refine LWo.nil (hN19 _ ?_)
    obtain rfl := Option.some.inj h
    refine LWP.ret (QG.mk (.inr rfl) (.cons (.tmp (x := (e_bool true)) rfl) (.nil)) (RetOK.one0 (.pure rfl) (by decide)) rfl rfl)
  · intro N2 hN2
    refine LWP.seq_k fun N3 hN3 => ?_
    refine LWP.region (l := [_,_,_,_]) ?_
    refine LWo.move (e_LLimpl_Value a0) rfl (hn := ?_)
    refine LWo.lenM (f := e_Limpl_Value) (l := a0) u_LLimpl_Value rfl (hn := ?_)
    refine bk h fun x4 e4 h => ?_
    refine LWo.int _ rfl rfl (sub_ck e4) (hn := ?_)
    refine LWo.assign (e_int x4) rfl (hn := ?_)
    refine LWo.nil (hN3 _ ?_)
    refine LWP.block ?_
    refine LWP.loopM (α := (List (List S_impl_Value)) × Int) (fun z : (List (List S_impl_Value)) × Int => [(0, (e_LLimpl_Value z.1)), (1, (.clo f1 q1)), (5, (e_int z.2))]) (fun z : (List (List S_impl_Value)) × Int => []) (fun n1 (z : (List (List S_impl_Value)) × Int) => m_slices_IsSortedFunc_LLimpl_Value_Limpl_Value_l1 p1 n1 z.1 z.2) r _ (a0, x4) h (fun _ => rfl) (fun _ => by simp [hkeys]) ⟨rfl, rfl, rfl, trivial⟩ trivial ?_
    rintro n1 ⟨t0, t5⟩ h N5 hN5
    replace h : m_slices_IsSortedFunc_LLimpl_Value_Limpl_Value_l1 p1 (n1 + 1) t0 t5 = some _ := h
    refine LWP.seq_k fun N7 hN7 => ?_
    refine LWP.seq_k fun N8 hN8 => ?_
    refine LWP.region (l := [_,_]) ?_
    refine LWo.move (e_int t5) rfl (hn := ?_)
    refine LWo.int _ rfl rfl rfl (hn := ?_)
    refine LWo.nil (hN8 _ ?_)
    refine LWP.cond_split rfl (fun h9 => ?_) (fun h9 => ?_)
    · have h := bT h9 h
      refine LWP.skip (hN7 _ ?_)
      refine LWP.seq_k fun N10 hN10 => ?_
      refine LWP.block ?_
      refine LWP.seq_k fun N11 hN11 => ?_
      refine bk h fun x12 e12 h => ?_
      refine bk h fun x13 e13 h => ?_
      refine bk h fun x14 e14 h => ?_
      refine bk h fun x15 e15 h => ?_
      refine LWP.drawE (l := [_,_,_,_,_,_,_,_,_,_,_,_]) [] [0, 1, 5] [([1], []), ([0], []), ([5], []), ([14, 15], []), ([16], []), ([0], []), ([5], []), ([19], []), ([18, 20], []), ([21], []), ([13, 17, 22], []), ([23], [])] [0, 1, 5, 24] [] mixed (by kernel_rfl) rfl (by decide) ?_
      refine ⟨rfl, .put 13 _, trivial, fun u hg hu hh => LWo.move (.clo f1 q1) hu.1 (hn := LWo.nil ⟨rfl, .inl rfl, hg⟩), ?_⟩
      refine ⟨rfl, .put 14 _, trivial, fun u hg hu hh => LWo.move (e_LLimpl_Value t0) hu.1 (hn := LWo.nil ⟨rfl, .inl rfl, hg⟩), ?_⟩
      refine ⟨rfl, .put 15 _, trivial, fun u hg hu hh => LWo.move (e_int t5) hu.1 (hn := LWo.nil ⟨rfl, .inl rfl, hg⟩), ?_⟩
      refine ⟨rfl, .put 16 _, trivial, fun u hg hu hh => LWo.indexM (f := e_Limpl_Value) e12 u_LLimpl_Value s_Limpl_Value hu.1 hu.2.1 (hn := LWo.nil ⟨rfl, .inl rfl, hg⟩), ?_⟩
      refine ⟨rfl, .put 17 _, trivial, fun u hg hu hh => LWo.load1 (c := (e_Limpl_Value x12)) g_Limpl_Value hu.1 (hn := LWo.nil ⟨rfl, .inl rfl, hg⟩), ?_⟩
      refine ⟨rfl, .put 18 _, trivial, fun u hg hu hh => LWo.move (e_LLimpl_Value t0) hu.1 (hn := LWo.nil ⟨rfl, .inl rfl, hg⟩), ?_⟩
      refine ⟨rfl, .put 19 _, trivial, fun u hg hu hh => LWo.move (e_int t5) hu.1 (hn := LWo.nil ⟨rfl, .inl rfl, hg⟩), ?_⟩
      refine ⟨rfl, .put 20 _, trivial, fun u hg hu hh => LWo.int _ hu.1 rfl (sub_ck e13) (hn := LWo.nil ⟨rfl, .inl rfl, hg⟩), ?_⟩
      refine ⟨rfl, .put 21 _, trivial, fun u hg hu hh => LWo.indexM (f := e_Limpl_Value) e14 u_LLimpl_Value s_Limpl_Value hu.1 hu.2.1 (hn := LWo.nil ⟨rfl, .inl rfl, hg⟩), ?_⟩
      refine ⟨rfl, .put 22 _, trivial, fun u hg hu hh => LWo.load1 (c := (e_Limpl_Value x14)) g_Limpl_Value hu.1 (hn := LWo.nil ⟨rfl, .inl rfl, hg⟩), ?_⟩
      refine ⟨rfl, .put 23 _, trivial, fun u hg hu hh => LWo.vcall hu.1 (avq2 hu.2.1 hu.2.2.1) (hf1 _ _ _ e15) .refl (hn := LWo.nil ⟨rfl, .inl rfl, hg⟩), ?_⟩
      refine ⟨rfl, .put 24 _, trivial, fun u hg hu hh => LWo.int _ hu.1 rfl rfl (hn := LWo.nil ⟨rfl, .inl rfl, hg⟩), ?_⟩
      refine ⟨rfl, by kernel_rfl, hN11 _ ?_⟩
      refine LWP.cond_split rfl (fun h16 => ?_) (fun h16 => ?_)
      · have h := bT h16 h
        refine LWP.seq_k fun N17 hN17 => ?_
        refine LWP.region (l := [_]) ?_
        refine LWo.assign (e_bool false) rfl (hn := ?_)
        refine LWo.nil (hN17 _ ?_)
        obtain rfl := Option.some.inj h
        refine LWP.ret (QG.mk (.inr rfl) (.cons (.tmp (x := (e_bool false)) rfl) (.nil)) (RetOK.one0 (.pure rfl) (by decide)) rfl rfl)
      · have h := bF h16 h
        refine LWP.skip (hN10 _ ?_)
        refine LWP.region (l := [_,_,_]) ?_
        refine LWo.move (e_int t5) rfl (hn := ?_)
        refine bk h fun x18 e18 h => ?_
        refine LWo.int _ rfl rfl (sub_ck e18) (hn := ?_)
        refine LWo.assign (e_int x18) rfl (hn := ?_)
        refine LWo.nil (hN5 (t0, x18) _ ⟨rfl, rfl, rfl, trivial⟩ trivial h)
    · have h := bF h9 h
      refine LWP.exit (hN2 () _ trivial trivial h)

def m_slices_CompareFunc_Limpl_Value_Limpl_Value_impl_Value_impl_Value_j1 (p2 : S_impl_Value → S_impl_Value → Option Int) (t0 : (List S_impl_Value)) (t1 : (List S_impl_Value)) : Option Int :=
  bif decide ((t0.length : Int) < (t1.length : Int)) then (some (-1 : Int))
  else (some (0 : Int))
def m_slices_CompareFunc_Limpl_Value_Limpl_Value_impl_Value_impl_Value_l1 (p2 : S_impl_Value → S_impl_Value → Option Int) : Nat → (List S_impl_Value) → (List S_impl_Value) → (List S_impl_Value) → Int → Int → Option Int
  | 0, _, _, _, _, _ => none
  | n1 + 1, t0, t1, t11, t12, t13 =>
    bif decide (t13 < t12) then ((at? t11 t13).bind fun x11 =>
    lt (x11) fun y12 =>
    bif decide (t13 ≥ (t1.length : Int)) then (some (1 : Int))
    else ((at? t1 t13).bind fun x18 =>
    lt (x18) fun y19 =>
    (p2 y12 y19).bind fun x21 =>
    bif (x21 != (0 : Int)) then (some x21)
    else ((ckI (t13 + (1 : Int))).bind fun x25 =>
    (m_slices_CompareFunc_Limpl_Value_Limpl_Value_impl_Value_impl_Value_l1 p2 n1) t0 t1 t11 t12 x25)))
    else (m_slices_CompareFunc_Limpl_Value_Limpl_Value_impl_Value_impl_Value_j1 p2 t0 t1)
def m_slices_CompareFunc_Limpl_Value_Limpl_Value_impl_Value_impl_Value (a0 : (List S_impl_Value)) (a1 : (List S_impl_Value)) (p2 : S_impl_Value → S_impl_Value → Option Int) : Option Int :=
  m_slices_CompareFunc_Limpl_Value_Limpl_Value_impl_Value_impl_Value_l1 p2 (((a0.length : Int) - (0 : Int)).toNat + 1) a0 a1 a0 (a0.length : Int) (0 : Int)
theorem c_slices_CompareFunc_Limpl_Value_Limpl_Value_impl_Value_impl_Value (a0 : (List S_impl_Value)) (a1 : (List S_impl_Value)) (p2 : S_impl_Value → S_impl_Value → Option Int) (f2 : FuncId) (q2 : List LV) (hq2 : ∀ k, LV.at?.atL k q2 = false) (hf2 : ∀ a0 a1 v, p2 a0 a1 = some v → Ret Try.prog f2 (e_impl_Value a0 :: e_impl_Value a1 :: q2) (e_int v)) (r : Int) (h : m_slices_CompareFunc_Limpl_Value_Limpl_Value_impl_Value_impl_Value a0 a1 p2 = some r) : Ret Try.prog f_slices_CompareFunc_Limpl_Value_Limpl_Value_impl_Value_impl_Value [e_Limpl_Value a0, e_Limpl_Value a1, .clo f2 q2] (e_int r) := by
  refine Does.goG [] F_slices_CompareFunc_Limpl_Value_Limpl_Value_impl_Value_impl_Value rfl e_slices_CompareFunc_Limpl_Value_Limpl_Value_impl_Value_impl_Value n_slices_CompareFunc_Limpl_Value_Limpl_Value_impl_Value_impl_Value rfl (rvs := [.tmp 6]) rfl rfl ?_
  intro w0 ok0 lent ρ0
  refine LWP.seq_k fun N1 hN1 => ?_
  refine LWP.region (l := [_]) ?_
  refine LWo.assign (e_int (0 : Int)) rfl (hn := ?_)
  refine LWo.nil (hN1 _ ?_)
  refine LWP.join (α := (List S_impl_Value) × (List S_impl_Value)) (fun z : (List S_impl_Value) × (List S_impl_Value) => [(0, (e_Limpl_Value z.1)), (1, (e_Limpl_Value z.2))]) (fun z : (List S_impl_Value) × (List S_impl_Value) => []) (fun z : (List S_impl_Value) × (List S_impl_Value) => m_slices_CompareFunc_Limpl_Value_Limpl_Value_impl_Value_impl_Value_j1 p2 z.1 z.2) r (fun _ => by simp [hkeys]) ?_ ?_
  · rintro ⟨t0, t1⟩ h
    replace h : m_slices_CompareFunc_Limpl_Value_Limpl_Value_impl_Value_impl_Value_j1 p2 t0 t1 = some _ := h
    refine LWP.seq_k fun N26 hN26 => ?_
    refine LWP.seq_k fun N27 hN27 => ?_
    refine LWP.region (l := [_,_,_,_,_]) ?_
    refine LWo.move (e_Limpl_Value t0) rfl (hn := ?_)
    refine LWo.lenM (f := e_impl_Value) (l := t0) u_Limpl_Value rfl (hn := ?_)
    refine LWo.move (e_Limpl_Value t1) rfl (hn := ?_)
    refine LWo.lenM (f := e_impl_Value) (l := t1) u_Limpl_Value rfl (hn := ?_)
    refine LWo.int _ rfl rfl rfl (hn := ?_)
    refine LWo.nil (hN27 _ ?_)
    refine LWP.cond_split rfl (fun h28 => ?_) (fun h28 => ?_)
    · have h := bT h28 h
      refine LWP.seq_k fun N29 hN29 => ?_
      refine LWP.region (l := [_]) ?_
      refine LWo.assign (e_int (-1 : Int)) rfl (hn := ?_)
      refine LWo.nil (hN29 _ ?_)
      obtain rfl := Option.some.inj h
      refine LWP.ret (QG.mk (.inr rfl) (.cons (.tmp (x := (e_int (-1 : Int))) rfl) (.nil)) (RetOK.one0 (.pure rfl) (by decide)) rfl rfl)
    · have h := bF h28 h
      refine LWP.skip (hN26 _ ?_)
      refine LWP.seq_k fun N30 hN30 => ?_
      refine LWP.region (l := [_]) ?_
      refine LWo.assign (e_int (0 : Int)) rfl (hn := ?_)
      refine LWo.nil (hN30 _ ?_)
      obtain rfl := Option.some.inj h
      refine LWP.ret (QG.mk (.inr rfl) (.cons (.tmp (x := (e_int (0 : Int))) rfl) (.nil)) (RetOK.one0 (.pure rfl) (by decide)) rfl rfl)
  · intro N2 hN2
    refine LWP.seq_k fun N3 hN3 => ?_
    refine LWP.region (l := [_,_,_]) ?_
    refine LWo.move (e_Limpl_Value a0) rfl (hn := ?_)
    refine LWo.lenM (f := e_impl_Value) (l := a0) u_Limpl_Value rfl (hn := ?_)
    refine LWo.move (e_int (0 : Int)) rfl (hn := ?_)
    refine LWo.nil (hN3 _ ?_)
    refine LWP.block ?_
    refine LWP.loopM (α := (List S_impl_Value) × (List S_impl_Value) × (List S_impl_Value) × Int × Int) (fun z : (List S_impl_Value) × (List S_impl_Value) × (List S_impl_Value) × Int × Int => [(0, (e_Limpl_Value z.1)), (1, (e_Limpl_Value z.2.1)), (2, (.clo f2 q2)), (11, (e_Limpl_Value z.2.2.1)), (12, (e_int z.2.2.2.1)), (13, (e_int z.2.2.2.2))]) (fun z : (List S_impl_Value) × (List S_impl_Value) × (List S_impl_Value) × Int × Int => []) (fun n1 (z : (List S_impl_Value) × (List S_impl_Value) × (List S_impl_Value) × Int × Int) => m_slices_CompareFunc_Limpl_Value_Limpl_Value_impl_Value_impl_Value_l1 p2 n1 z.1 z.2.1 z.2.2.1 z.2.2.2.1 z.2.2.2.2) r _ (a0, a1, a0, (a0.length : Int), (0 : Int)) h (fun _ => rfl) (fun _ => by simp [hkeys]) ⟨rfl, rfl, rfl, rfl, rfl, rfl, trivial⟩ trivial ?_
    rintro n1 ⟨t0, t1, t11, t12, t13⟩ h N4 hN4
    replace h : m_slices_CompareFunc_Limpl_Value_Limpl_Value_impl_Value_impl_Value_l1 p2 (n1 + 1) t0 t1 t11 t12 t13 = some _ := h
    refine LWP.seq_k fun N6 hN6 => ?_
    refine LWP.region (l := [_]) ?_
    refine LWo.int _ rfl rfl rfl (hn := ?_)
    refine LWo.nil (hN6 _ ?_)
    refine LWP.seq_k fun N7 hN7 => ?_
    refine LWP.cond_split rfl (fun h8 => ?_) (fun h8 => ?_)
    · have h := bT h8 h
      refine LWP.skip (hN7 _ ?_)
      refine LWP.seq_k fun N9 hN9 => ?_
      refine LWP.block ?_
      refine LWP.seq_k fun N10 hN10 => ?_
      refine LWP.region (l := [_,_,_,_,_,_]) ?_
      refine LWo.move (e_int t13) rfl (hn := ?_)
      refine bk h fun x11 e11 h => ?_
      refine LWo.indexM (f := e_impl_Value) e11 u_Limpl_Value s_impl_Value rfl rfl (hn := ?_)
      refine LWo.loadN ((e_impl_Value x11)).cells g_impl_Value s_impl_Value rfl (Nat.le_of_ble_eq_true rfl) rfl (hn := ?_)
      refine LWo.alloc_impl_Value 8 rfl (hn := ?_)
      refine LWo.known 2 (.clo f2 q2) (get_kill_of rfl (hq2 8)) ?_
      refine LWo.assign (e_int t13) rfl (hn := ?_)
      refine lk h fun y12 e12 h => ?_
      refine LWo.storeW (y := (⟨(0 : Int), (0 : Int), (⟨#[]⟩ : ByteArray)⟩ : S_impl_Value)) y12 s_impl_Value rfl rfl rfl rfl rfl rfl (by rw [e12]; exact .refl) rfl (hn := ?_)
      refine LWo.nil (hN10 _ ?_)
      refine LWP.seq_k fun N13 hN13 => ?_
      refine LWP.seq_k fun N14 hN14 => ?_
      refine LWP.region (l := [_,_,_,_]) ?_
      refine LWo.move (e_int t13) rfl (hn := ?_)
      refine LWo.move (e_Limpl_Value t1) rfl (hn := ?_)
      refine LWo.lenM (f := e_impl_Value) (l := t1) u_Limpl_Value rfl (hn := ?_)
      refine LWo.int _ rfl rfl rfl (hn := ?_)
      refine LWo.nil (hN14 _ ?_)
      refine LWP.cond_split rfl (fun h15 => ?_) (fun h15 => ?_)
      · have h := bT h15 h
        refine LWP.seq_k fun N16 hN16 => ?_
        refine LWP.region (l := [_]) ?_
        refine LWo.assign (e_int (1 : Int)) rfl (hn := ?_)
        refine LWo.nil (hN16 _ ?_)
        obtain rfl := Option.some.inj h
        refine LWP.ret (QG.mk (.inr rfl) (.cons (.tmp (x := (e_int (1 : Int))) rfl) (.nil)) (RetOK.one0 (.pure rfl) (by decide)) rfl rfl)
      · have h := bF h15 h
        refine LWP.skip (hN13 _ ?_)
        refine LWP.seq_k fun N17 hN17 => ?_
        refine LWP.region (l := [_,_,_,_,_,_]) ?_
        refine LWo.move (e_Limpl_Value t1) rfl (hn := ?_)
        refine LWo.move (e_int t13) rfl (hn := ?_)
        refine bk h fun x18 e18 h => ?_
        refine LWo.indexM (f := e_impl_Value) e18 u_Limpl_Value s_impl_Value rfl rfl (hn := ?_)
        refine LWo.loadN ((e_impl_Value x18)).cells g_impl_Value s_impl_Value rfl (Nat.le_of_ble_eq_true rfl) rfl (hn := ?_)
        refine LWo.alloc_impl_Value 9 rfl (hn := ?_)
        refine LWo.known 2 (.clo f2 q2) (get_kill_of rfl (hq2 9)) ?_
        refine lk h fun y19 e19 h => ?_
        refine LWo.storeW (y := (⟨(0 : Int), (0 : Int), (⟨#[]⟩ : ByteArray)⟩ : S_impl_Value)) y19 s_impl_Value rfl rfl rfl rfl rfl rfl (by rw [e19]; exact .refl) rfl (hn := ?_)
        refine LWo.nil (hN17 _ ?_)
        refine LWP.seq_k fun N20 hN20 => ?_
        refine LWP.region (l := [_,_,_,_,_]) ?_
        refine LWo.move (.clo f2 q2) rfl (hn := ?_)
        refine LWo.loadVN ((e_impl_Value y12)).cells  g_impl_Value s_impl_Value rfl rfl rfl rfl (hn := ?_)
        refine LWo.loadVN ((e_impl_Value y19)).cells  g_impl_Value s_impl_Value rfl rfl rfl rfl (hn := ?_)
        refine bk h fun x21 e21 h => ?_
        refine LWo.vcall rfl rfl (hf2 _ _ _ e21) .refl (hn := ?_)
        refine LWo.assign (e_int x21) rfl (hn := ?_)
        refine LWo.nil (hN20 _ ?_)
        refine LWP.seq_k fun N22 hN22 => ?_
        refine LWP.region (l := [_,_]) ?_
        refine LWo.move (e_int x21) rfl (hn := ?_)
        refine LWo.int _ rfl rfl rfl (hn := ?_)
        refine LWo.nil (hN22 _ ?_)
        refine LWP.cond_split rfl (fun h23 => ?_) (fun h23 => ?_)
        · have h := bT h23 h
          refine LWP.seq_k fun N24 hN24 => ?_
          refine LWP.region (l := [_,_]) ?_
          refine LWo.move (e_int x21) rfl (hn := ?_)
          refine LWo.assign (e_int x21) rfl (hn := ?_)
          refine LWo.nil (hN24 _ ?_)
          obtain rfl := Option.some.inj h
          refine LWP.ret (QG.mk (.inr rfl) (.cons (.tmp (x := (e_int x21)) rfl) (.nil)) (RetOK.one0 (.pure rfl) (by decide)) rfl rfl)
        · have h := bF h23 h
          refine LWP.skip (hN9 _ ?_)
          refine LWP.region (l := [_,_]) ?_
          refine bk h fun x25 e25 h => ?_
          refine LWo.int _ rfl rfl (add_ck e25) (hn := ?_)
          refine LWo.move (e_int x25) rfl (hn := ?_)
          refine LWo.nil (hN4 (t0, t1, t11, t12, x25) _ ⟨rfl, rfl, rfl, rfl, rfl, rfl, trivial⟩ trivial h)
    · have h := bF h8 h
      refine LWP.exit (hN2 (t0, t1) _ ⟨rfl, rfl, trivial⟩ trivial h)

def m_cmp_isNaN_int (a0 : Int) : Option Bool :=
  some (a0 != a0)
theorem c_cmp_isNaN_int (a0 : Int) (r : Bool) (h : m_cmp_isNaN_int a0 = some r) : Ret Try.prog f_cmp_isNaN_int [e_int a0] (e_bool r) := by
  refine Does.goG [] F_cmp_isNaN_int rfl e_cmp_isNaN_int n_cmp_isNaN_int rfl (rvs := [.tmp 2]) rfl rfl ?_
  intro w0 ok0 lent ρ0
  refine LWP.seq_k fun N1 hN1 => ?_
  refine LWP.region (l := [_]) ?_
  refine LWo.assign (e_bool false) rfl (hn := ?_)
  refine LWo.nil (hN1 _ ?_)
  refine LWP.seq_k fun N2 hN2 => ?_
  refine LWP.region (l := [_,_,_,_]) ?_
  refine LWo.move (e_int a0) rfl (hn := ?_)
  refine LWo.move (e_int a0) rfl (hn := ?_)
  refine LWo.int _ rfl rfl rfl (hn := ?_)
  refine LWo.assign (e_bool (a0 != a0)) rfl (hn := ?_)
  refine LWo.nil (hN2 _ ?_)
  obtain rfl := Option.some.inj h
  refine LWP.ret (QG.mk (.inr rfl) (.cons (.tmp (x := (e_bool (a0 != a0))) rfl) (.nil)) (RetOK.one0 (.pure rfl) (by decide)) rfl rfl)

def m_cmp_Compare_int (a0 : Int) (a1 : Int) : Option Int :=
  (m_cmp_isNaN_int a0).bind fun x3 =>
  (m_cmp_isNaN_int a1).bind fun x5 =>
  bif x3 then (bif x5 then (some (0 : Int))
    else (some (-1 : Int)))
  else (bif x5 then (some (1 : Int))
  else (bif decide (a0 < a1) then (some (-1 : Int))
  else (bif decide (a0 > a1) then (some (1 : Int))
  else (some (0 : Int)))))
theorem c_cmp_Compare_int (a0 : Int) (a1 : Int) (r : Int) (h : m_cmp_Compare_int a0 a1 = some r) : Ret Try.prog f_cmp_Compare_int [e_int a0, e_int a1] (e_int r) := by
  refine Does.goG [] F_cmp_Compare_int rfl e_cmp_Compare_int n_cmp_Compare_int rfl (rvs := [.tmp 4]) rfl rfl ?_
  intro w0 ok0 lent ρ0
  refine LWP.seq_k fun N1 hN1 => ?_
  refine LWP.region (l := [_]) ?_
  refine LWo.assign (e_int (0 : Int)) rfl (hn := ?_)
  refine LWo.nil (hN1 _ ?_)
  refine LWP.seq_k fun N2 hN2 => ?_
  refine LWP.region (l := [_,_,_]) ?_
  refine LWo.move (e_int a0) rfl (hn := ?_)
  refine bk h fun x3 e3 h => ?_
  refine LWo.vcall rfl rfl (c_cmp_isNaN_int _ _ e3) (.same (.nil)) (hn := ?_)
  refine LWo.assign (e_bool x3) rfl (hn := ?_)
  refine LWo.nil (hN2 _ ?_)
  refine LWP.seq_k fun N4 hN4 => ?_
  refine LWP.region (l := [_,_,_]) ?_
  refine LWo.move (e_int a1) rfl (hn := ?_)
  refine bk h fun x5 e5 h => ?_
  refine LWo.vcall rfl rfl (c_cmp_isNaN_int _ _ e5) (.same (.nil)) (hn := ?_)
  refine LWo.assign (e_bool x5) rfl (hn := ?_)
  refine LWo.nil (hN4 _ ?_)
  refine LWP.seq_k fun N6 hN6 => ?_
  refine LWP.seq_k fun N7 hN7 => ?_
  refine LWP.region (l := [_]) ?_
  refine LWo.move (e_bool x3) rfl (hn := ?_)
  refine LWo.nil (hN7 _ ?_)
  refine LWP.cond_split rfl (fun h8 => ?_) (fun h8 => ?_)
  · have h := bT h8 h
    refine LWP.seq_k fun N9 hN9 => ?_
    refine LWP.seq_k fun N10 hN10 => ?_
    refine LWP.region (l := [_]) ?_
    refine LWo.move (e_bool x5) rfl (hn := ?_)
    refine LWo.nil (hN10 _ ?_)
    refine LWP.cond_split rfl (fun h11 => ?_) (fun h11 => ?_)
    · have h := bT h11 h
      refine LWP.seq_k fun N12 hN12 => ?_
      refine LWP.region (l := [_]) ?_
      refine LWo.assign (e_int (0 : Int)) rfl (hn := ?_)
      refine LWo.nil (hN12 _ ?_)
      obtain rfl := Option.some.inj h
      refine LWP.ret (QG.mk (.inr rfl) (.cons (.tmp (x := (e_int (0 : Int))) rfl) (.nil)) (RetOK.one0 (.pure rfl) (by decide)) rfl rfl)
    · have h := bF h11 h
      refine LWP.skip (hN9 _ ?_)
      refine LWP.seq_k fun N13 hN13 => ?_
      refine LWP.region (l := [_]) ?_
      refine LWo.assign (e_int (-1 : Int)) rfl (hn := ?_)
      refine LWo.nil (hN13 _ ?_)
      obtain rfl := Option.some.inj h
      refine LWP.ret (QG.mk (.inr rfl) (.cons (.tmp (x := (e_int (-1 : Int))) rfl) (.nil)) (RetOK.one0 (.pure rfl) (by decide)) rfl rfl)
  · have h := bF h8 h
    refine LWP.skip (hN6 _ ?_)
    refine LWP.seq_k fun N14 hN14 => ?_
    refine LWP.seq_k fun N15 hN15 => ?_
    refine LWP.region (l := [_]) ?_
    refine LWo.move (e_bool x5) rfl (hn := ?_)
    refine LWo.nil (hN15 _ ?_)
    refine LWP.cond_split rfl (fun h16 => ?_) (fun h16 => ?_)
    · have h := bT h16 h
      refine LWP.seq_k fun N17 hN17 => ?_
      refine LWP.region (l := [_]) ?_
      refine LWo.assign (e_int (1 : Int)) rfl (hn := ?_)
      refine LWo.nil (hN17 _ ?_)
      obtain rfl := Option.some.inj h
      refine LWP.ret (QG.mk (.inr rfl) (.cons (.tmp (x := (e_int (1 : Int))) rfl) (.nil)) (RetOK.one0 (.pure rfl) (by decide)) rfl rfl)
    · have h := bF h16 h
      refine LWP.skip (hN14 _ ?_)
      refine LWP.seq_k fun N18 hN18 => ?_
      refine LWP.seq_k fun N19 hN19 => ?_
      refine LWP.region (l := [_,_,_]) ?_
      refine LWo.move (e_int a0) rfl (hn := ?_)
      refine LWo.move (e_int a1) rfl (hn := ?_)
      refine LWo.int _ rfl rfl rfl (hn := ?_)
      refine LWo.nil (hN19 _ ?_)
      refine LWP.cond_split rfl (fun h20 => ?_) (fun h20 => ?_)
      · have h := bT h20 h
        refine LWP.seq_k fun N21 hN21 => ?_
        refine LWP.region (l := [_]) ?_
        refine LWo.assign (e_int (-1 : Int)) rfl (hn := ?_)
        refine LWo.nil (hN21 _ ?_)
        obtain rfl := Option.some.inj h
        refine LWP.ret (QG.mk (.inr rfl) (.cons (.tmp (x := (e_int (-1 : Int))) rfl) (.nil)) (RetOK.one0 (.pure rfl) (by decide)) rfl rfl)
      · have h := bF h20 h
        refine LWP.skip (hN18 _ ?_)
        refine LWP.seq_k fun N22 hN22 => ?_
        refine LWP.seq_k fun N23 hN23 => ?_
        refine LWP.region (l := [_,_,_]) ?_
        refine LWo.move (e_int a0) rfl (hn := ?_)
        refine LWo.move (e_int a1) rfl (hn := ?_)
        refine LWo.int _ rfl rfl rfl (hn := ?_)
        refine LWo.nil (hN23 _ ?_)
        refine LWP.cond_split rfl (fun h24 => ?_) (fun h24 => ?_)
        · have h := bT h24 h
          refine LWP.seq_k fun N25 hN25 => ?_
          refine LWP.region (l := [_]) ?_
          refine LWo.assign (e_int (1 : Int)) rfl (hn := ?_)
          refine LWo.nil (hN25 _ ?_)
          obtain rfl := Option.some.inj h
          refine LWP.ret (QG.mk (.inr rfl) (.cons (.tmp (x := (e_int (1 : Int))) rfl) (.nil)) (RetOK.one0 (.pure rfl) (by decide)) rfl rfl)
        · have h := bF h24 h
          refine LWP.skip (hN22 _ ?_)
          refine LWP.seq_k fun N26 hN26 => ?_
          refine LWP.region (l := [_]) ?_
          refine LWo.assign (e_int (0 : Int)) rfl (hn := ?_)
          refine LWo.nil (hN26 _ ?_)
          obtain rfl := Option.some.inj h
          refine LWP.ret (QG.mk (.inr rfl) (.cons (.tmp (x := (e_int (0 : Int))) rfl) (.nil)) (RetOK.one0 (.pure rfl) (by decide)) rfl rfl)

def m_cmp_isNaN_string (a0 : ByteArray) : Option Bool :=
  some (!(sEq a0 a0))
theorem c_cmp_isNaN_string (a0 : ByteArray) (r : Bool) (h : m_cmp_isNaN_string a0 = some r) : Ret Try.prog f_cmp_isNaN_string [e_string a0] (e_bool r) := by
  refine Does.goG [] F_cmp_isNaN_string rfl e_cmp_isNaN_string n_cmp_isNaN_string rfl (rvs := [.tmp 2]) rfl rfl ?_
  intro w0 ok0 lent ρ0
  refine LWP.seq_k fun N1 hN1 => ?_
  refine LWP.region (l := [_]) ?_
  refine LWo.assign (e_bool false) rfl (hn := ?_)
  refine LWo.nil (hN1 _ ?_)
  refine LWP.seq_k fun N2 hN2 => ?_
  refine LWP.region (l := [_,_,_,_]) ?_
  refine LWo.move (e_string a0) rfl (hn := ?_)
  refine LWo.move (e_string a0) rfl (hn := ?_)
  refine LWo.str _ rfl rfl rfl (hn := ?_)
  refine LWo.assign (e_bool (!(sEq a0 a0))) rfl (hn := ?_)
  refine LWo.nil (hN2 _ ?_)
  obtain rfl := Option.some.inj h
  refine LWP.ret (QG.mk (.inr rfl) (.cons (.tmp (x := (e_bool (!(sEq a0 a0)))) rfl) (.nil)) (RetOK.one0 (.pure rfl) (by decide)) rfl rfl)

def m_cmp_Compare_string (a0 : ByteArray) (a1 : ByteArray) : Option Int :=
  (m_cmp_isNaN_string a0).bind fun x3 =>
  (m_cmp_isNaN_string a1).bind fun x5 =>
  bif x3 then (bif x5 then (some (0 : Int))
    else (some (-1 : Int)))
  else (bif x5 then (some (1 : Int))
  else (bif (sLt a0 a1) then (some (-1 : Int))
  else (bif (!(sLt a0 a1 || sEq a0 a1)) then (some (1 : Int))
  else (some (0 : Int)))))
theorem c_cmp_Compare_string (a0 : ByteArray) (a1 : ByteArray) (r : Int) (h : m_cmp_Compare_string a0 a1 = some r) : Ret Try.prog f_cmp_Compare_string [e_string a0, e_string a1] (e_int r) := by
  refine Does.goG [] F_cmp_Compare_string rfl e_cmp_Compare_string n_cmp_Compare_string rfl (rvs := [.tmp 4]) rfl rfl ?_
  intro w0 ok0 lent ρ0
  refine LWP.seq_k fun N1 hN1 => ?_
  refine LWP.region (l := [_]) ?_
  refine LWo.assign (e_int (0 : Int)) rfl (hn := ?_)
  refine LWo.nil (hN1 _ ?_)
  refine LWP.seq_k fun N2 hN2 => ?_
  refine LWP.region (l := [_,_,_]) ?_
  refine LWo.move (e_string a0) rfl (hn := ?_)
  refine bk h fun x3 e3 h => ?_
  refine LWo.vcall rfl rfl (c_cmp_isNaN_string _ _ e3) (.same (.nil)) (hn := ?_)
  refine LWo.assign (e_bool x3) rfl (hn := ?_)
  refine LWo.nil (hN2 _ ?_)
  refine LWP.seq_k fun N4 hN4 => ?_
  refine LWP.region (l := [_,_,_]) ?_
  refine LWo.move (e_string a1) rfl (hn := ?_)
  refine bk h fun x5 e5 h => ?_
  refine LWo.vcall rfl rfl (c_cmp_isNaN_string _ _ e5) (.same (.nil)) (hn := ?_)
  refine LWo.assign (e_bool x5) rfl (hn := ?_)
  refine LWo.nil (hN4 _ ?_)
  refine LWP.seq_k fun N6 hN6 => ?_
  refine LWP.seq_k fun N7 hN7 => ?_
  refine LWP.region (l := [_]) ?_
  refine LWo.move (e_bool x3) rfl (hn := ?_)
  refine LWo.nil (hN7 _ ?_)
  refine LWP.cond_split rfl (fun h8 => ?_) (fun h8 => ?_)
  · have h := bT h8 h
    refine LWP.seq_k fun N9 hN9 => ?_
    refine LWP.seq_k fun N10 hN10 => ?_
    refine LWP.region (l := [_]) ?_
    refine LWo.move (e_bool x5) rfl (hn := ?_)
    refine LWo.nil (hN10 _ ?_)
    refine LWP.cond_split rfl (fun h11 => ?_) (fun h11 => ?_)
    · have h := bT h11 h
      refine LWP.seq_k fun N12 hN12 => ?_
      refine LWP.region (l := [_]) ?_
      refine LWo.assign (e_int (0 : Int)) rfl (hn := ?_)
      refine LWo.nil (hN12 _ ?_)
      obtain rfl := Option.some.inj h
      refine LWP.ret (QG.mk (.inr rfl) (.cons (.tmp (x := (e_int (0 : Int))) rfl) (.nil)) (RetOK.one0 (.pure rfl) (by decide)) rfl rfl)
    · have h := bF h11 h
      refine LWP.skip (hN9 _ ?_)
      refine LWP.seq_k fun N13 hN13 => ?_
      refine LWP.region (l := [_]) ?_
      refine LWo.assign (e_int (-1 : Int)) rfl (hn := ?_)
      refine LWo.nil (hN13 _ ?_)
      obtain rfl := Option.some.inj h
      refine LWP.ret (QG.mk (.inr rfl) (.cons (.tmp (x := (e_int (-1 : Int))) rfl) (.nil)) (RetOK.one0 (.pure rfl) (by decide)) rfl rfl)
  · have h := bF h8 h
    refine LWP.skip (hN6 _ ?_)
    refine LWP.seq_k fun N14 hN14 => ?_
    refine LWP.seq_k fun N15 hN15 => ?_
    refine LWP.region (l := [_]) ?_
    refine LWo.move (e_bool x5) rfl (hn := ?_)
    refine LWo.nil (hN15 _ ?_)
    refine LWP.cond_split rfl (fun h16 => ?_) (fun h16 => ?_)
    · have h := bT h16 h
      refine LWP.seq_k fun N17 hN17 => ?_
      refine LWP.region (l := [_]) ?_
      refine LWo.assign (e_int (1 : Int)) rfl (hn := ?_)
      refine LWo.nil (hN17 _ ?_)
      obtain rfl := Option.some.inj h
      refine LWP.ret (QG.mk (.inr rfl) (.cons (.tmp (x := (e_int (1 : Int))) rfl) (.nil)) (RetOK.one0 (.pure rfl) (by decide)) rfl rfl)
    · have h := bF h16 h
      refine LWP.skip (hN14 _ ?_)
      refine LWP.seq_k fun N18 hN18 => ?_
      refine LWP.seq_k fun N19 hN19 => ?_
      refine LWP.region (l := [_,_,_]) ?_
      refine LWo.move (e_string a0) rfl (hn := ?_)
      refine LWo.move (e_string a1) rfl (hn := ?_)
      refine LWo.str _ rfl rfl rfl (hn := ?_)
      refine LWo.nil (hN19 _ ?_)
      refine LWP.cond_split rfl (fun h20 => ?_) (fun h20 => ?_)
      · have h := bT h20 h
        refine LWP.seq_k fun N21 hN21 => ?_
        refine LWP.region (l := [_]) ?_
        refine LWo.assign (e_int (-1 : Int)) rfl (hn := ?_)
        refine LWo.nil (hN21 _ ?_)
        obtain rfl := Option.some.inj h
        refine LWP.ret (QG.mk (.inr rfl) (.cons (.tmp (x := (e_int (-1 : Int))) rfl) (.nil)) (RetOK.one0 (.pure rfl) (by decide)) rfl rfl)
      · have h := bF h20 h
        refine LWP.skip (hN18 _ ?_)
        refine LWP.seq_k fun N22 hN22 => ?_
        refine LWP.seq_k fun N23 hN23 => ?_
        refine LWP.region (l := [_,_,_]) ?_
        refine LWo.move (e_string a0) rfl (hn := ?_)
        refine LWo.move (e_string a1) rfl (hn := ?_)
        refine LWo.str _ rfl rfl rfl (hn := ?_)
        refine LWo.nil (hN23 _ ?_)
        refine LWP.cond_split rfl (fun h24 => ?_) (fun h24 => ?_)
        · have h := bT h24 h
          refine LWP.seq_k fun N25 hN25 => ?_
          refine LWP.region (l := [_]) ?_
          refine LWo.assign (e_int (1 : Int)) rfl (hn := ?_)
          refine LWo.nil (hN25 _ ?_)
          obtain rfl := Option.some.inj h
          refine LWP.ret (QG.mk (.inr rfl) (.cons (.tmp (x := (e_int (1 : Int))) rfl) (.nil)) (RetOK.one0 (.pure rfl) (by decide)) rfl rfl)
        · have h := bF h24 h
          refine LWP.skip (hN22 _ ?_)
          refine LWP.seq_k fun N26 hN26 => ?_
          refine LWP.region (l := [_]) ?_
          refine LWo.assign (e_int (0 : Int)) rfl (hn := ?_)
          refine LWo.nil (hN26 _ ?_)
          obtain rfl := Option.some.inj h
          refine LWP.ret (QG.mk (.inr rfl) (.cons (.tmp (x := (e_int (0 : Int))) rfl) (.nil)) (RetOK.one0 (.pure rfl) (by decide)) rfl rfl)
end Go.Proofs.Ytemfdnnhknepbaa
