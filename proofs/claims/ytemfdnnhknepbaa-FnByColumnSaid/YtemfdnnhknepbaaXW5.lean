/- Mirrors of functions, and that the functions return what the mirrors say. -/
import Derived.Test.YtemfdnnhknepbaaXW4
set_option linter.unusedVariables false
set_option linter.unusedSimpArgs false
namespace Go.Proofs.Ytemfdnnhknepbaa
open Go.Proofs Go.Lift Go.RowKit
def m_impl_RowMany_j2 (t5 : Int) : Option Int :=
  some t5
def m_impl_RowMany_j1 (k1 : (List S_impl_Value) → Int → (List (List S_impl_Value)) → Int → Int → Option Int) (t1 : (List S_impl_Value)) (t5 : Int) (t8 : (List (List S_impl_Value))) (t9 : Int) (t10 : Int) : Option Int :=
  (ckI (t10 + (1 : Int))).bind fun x17 =>
  k1 t1 t5 t8 t9 x17
def m_impl_RowMany_l1 : Nat → (List S_impl_Value) → Int → (List (List S_impl_Value)) → Int → Int → Option Int
  | 0, _, _, _, _, _ => none
  | n1 + 1, t1, t5, t8, t9, t10 =>
    bif decide (t10 < t9) then ((at? t8 t10).bind fun x12 =>
    (m_slices_Equal_Limpl_Value_impl_Value x12 t1).bind fun x14 =>
    bif x14 then ((ckI (t5 + (1 : Int))).bind fun x16 =>
      m_impl_RowMany_j1  (m_impl_RowMany_l1  n1) t1 x16 t8 t9 t10)
    else (m_impl_RowMany_j1  (m_impl_RowMany_l1  n1) t1 t5 t8 t9 t10))
    else (m_impl_RowMany_j2  t5)
def m_impl_RowMany (a0 : (List (List S_impl_Value))) (a1 : (List S_impl_Value)) : Option Int :=
  m_impl_RowMany_l1  (((a0.length : Int) - (0 : Int)).toNat + 1) a1 (0 : Int) a0 (a0.length : Int) (0 : Int)
theorem c_impl_RowMany (a0 : (List (List S_impl_Value))) (a1 : (List S_impl_Value)) (r : Int) (h : m_impl_RowMany a0 a1 = some r) : Ret Try.prog f_impl_RowMany [e_LLimpl_Value a0, e_Limpl_Value a1] (e_int r) := by
  refine Does.goG [] F_impl_RowMany rfl e_impl_RowMany n_impl_RowMany rfl (rvs := [.tmp 4]) rfl rfl ?_
  intro w0 ok0 lent ρ0
  refine LWP.seq_k fun N1 hN1 => ?_
  refine LWP.region (l := [_]) ?_
  refine LWo.assign (e_int (0 : Int)) rfl (hn := ?_)
  refine LWo.nil (hN1 _ ?_)
  refine LWP.seq_k fun N2 hN2 => ?_
  refine LWP.region (l := [_]) ?_
  refine LWo.assign (e_int (0 : Int)) rfl (hn := ?_)
  refine LWo.nil (hN2 _ ?_)
  refine LWP.join (α := Int) (fun z : Int => [(5, (e_int z))]) (fun z : Int => []) (fun z : Int => m_impl_RowMany_j2  z) r (fun _ => by simp [hkeys]) ?_ ?_
  · rintro t5 h
    replace h : m_impl_RowMany_j2  t5 = some _ := h
    refine LWP.seq_k fun N18 hN18 => ?_
    refine LWP.region (l := [_,_]) ?_
    refine LWo.move (e_int t5) rfl (hn := ?_)
    refine LWo.assign (e_int t5) rfl (hn := ?_)
    refine LWo.nil (hN18 _ ?_)
    obtain rfl := Option.some.inj h
    refine LWP.ret (QG.mk (.inr rfl) (.cons (.tmp (x := (e_int t5)) rfl) (.nil)) (RetOK.one0 (.pure rfl) (by decide)) rfl rfl)
  · intro N3 hN3
    refine LWP.seq_k fun N4 hN4 => ?_
    refine LWP.region (l := [_,_,_]) ?_
    refine LWo.move (e_LLimpl_Value a0) rfl (hn := ?_)
    refine LWo.lenM (f := e_Limpl_Value) (l := a0) u_LLimpl_Value rfl (hn := ?_)
    refine LWo.move (e_int (0 : Int)) rfl (hn := ?_)
    refine LWo.nil (hN4 _ ?_)
    refine LWP.block ?_
    refine LWP.loopM (α := (List S_impl_Value) × Int × (List (List S_impl_Value)) × Int × Int) (fun z : (List S_impl_Value) × Int × (List (List S_impl_Value)) × Int × Int => [(1, (e_Limpl_Value z.1)), (5, (e_int z.2.1)), (8, (e_LLimpl_Value z.2.2.1)), (9, (e_int z.2.2.2.1)), (10, (e_int z.2.2.2.2))]) (fun z : (List S_impl_Value) × Int × (List (List S_impl_Value)) × Int × Int => []) (fun n1 (z : (List S_impl_Value) × Int × (List (List S_impl_Value)) × Int × Int) => m_impl_RowMany_l1  n1 z.1 z.2.1 z.2.2.1 z.2.2.2.1 z.2.2.2.2) r _ (a1, (0 : Int), a0, (a0.length : Int), (0 : Int)) h (fun _ => rfl) (fun _ => by simp [hkeys]) ⟨rfl, rfl, rfl, rfl, rfl, trivial⟩ trivial ?_
    rintro n1 ⟨t1, t5, t8, t9, t10⟩ h N5 hN5
    replace h : m_impl_RowMany_l1  (n1 + 1) t1 t5 t8 t9 t10 = some _ := h
    refine LWP.seq_k fun N7 hN7 => ?_
    refine LWP.region (l := [_]) ?_
    refine LWo.int _ rfl rfl rfl (hn := ?_)
    refine LWo.nil (hN7 _ ?_)
    refine LWP.seq_k fun N8 hN8 => ?_
    refine LWP.cond_split rfl (fun h9 => ?_) (fun h9 => ?_)
    · have h := bT h9 h
      refine LWP.skip (hN8 _ ?_)
      refine LWP.join (α := (List S_impl_Value) × Int × (List (List S_impl_Value)) × Int × Int) (fun z : (List S_impl_Value) × Int × (List (List S_impl_Value)) × Int × Int => [(1, (e_Limpl_Value z.1)), (5, (e_int z.2.1)), (8, (e_LLimpl_Value z.2.2.1)), (9, (e_int z.2.2.2.1)), (10, (e_int z.2.2.2.2))]) (fun z : (List S_impl_Value) × Int × (List (List S_impl_Value)) × Int × Int => []) (fun z : (List S_impl_Value) × Int × (List (List S_impl_Value)) × Int × Int => m_impl_RowMany_j1  (m_impl_RowMany_l1  n1) z.1 z.2.1 z.2.2.1 z.2.2.2.1 z.2.2.2.2) r (fun _ => by simp [hkeys]) ?_ ?_
      · rintro ⟨t1, t5, t8, t9, t10⟩ h
        replace h : m_impl_RowMany_j1  (m_impl_RowMany_l1  n1) t1 t5 t8 t9 t10 = some _ := h
        refine LWP.region (l := [_,_]) ?_
        refine bk h fun x17 e17 h => ?_
        refine LWo.int _ rfl rfl (add_ck e17) (hn := ?_)
        refine LWo.move (e_int x17) rfl (hn := ?_)
        refine LWo.nil (hN5 (t1, t5, t8, t9, x17) _ ⟨rfl, rfl, rfl, rfl, rfl, trivial⟩ trivial h)
      · intro N10 hN10
        refine LWP.block ?_
        refine LWP.seq_k fun N11 hN11 => ?_
        refine LWP.region (l := [_,_,_]) ?_
        refine bk h fun x12 e12 h => ?_
        refine LWo.indexM (f := e_Limpl_Value) e12 u_LLimpl_Value s_Limpl_Value rfl rfl (hn := ?_)
        refine LWo.load1 (c := (e_Limpl_Value x12)) g_Limpl_Value rfl (hn := ?_)
        refine LWo.assign (e_Limpl_Value x12) rfl (hn := ?_)
        refine LWo.nil (hN11 _ ?_)
        refine LWP.seq_k fun N13 hN13 => ?_
        refine LWP.region (l := [_,_,_]) ?_
        refine LWo.move (e_Limpl_Value x12) rfl (hn := ?_)
        refine LWo.move (e_Limpl_Value t1) rfl (hn := ?_)
        refine bk h fun x14 e14 h => ?_
        refine LWo.vcall rfl rfl (c_slices_Equal_Limpl_Value_impl_Value _ _ _ e14) (.same (.same (.nil))) (hn := ?_)
        refine LWo.nil (hN13 _ ?_)
        refine LWP.cond_split rfl (fun h15 => ?_) (fun h15 => ?_)
        · have h := bT h15 h
          refine LWP.region (l := [_,_,_]) ?_
          refine LWo.move (e_int t5) rfl (hn := ?_)
          refine bk h fun x16 e16 h => ?_
          refine LWo.int _ rfl rfl (add_ck e16) (hn := ?_)
          refine LWo.assign (e_int x16) rfl (hn := ?_)
          refine LWo.nil (hN10 (t1, x16, t8, t9, t10) _ ⟨rfl, rfl, rfl, rfl, rfl, trivial⟩ trivial h)
        · have h := bF h15 h
          refine LWP.skip (hN10 (t1, t5, t8, t9, t10) _ ⟨rfl, rfl, rfl, rfl, rfl, trivial⟩ trivial h)
    · have h := bF h9 h
      refine LWP.exit (hN3 t5 _ ⟨rfl, trivial⟩ trivial h)

def m_impl_SameBag_j1  : Option Bool :=
  some true
def m_impl_SameBag_l1 : Nat → (List (List S_impl_Value)) → (List (List S_impl_Value)) → (List (List S_impl_Value)) → Int → Int → Option Bool
  | 0, _, _, _, _, _ => none
  | n1 + 1, t0, t1, t10, t11, t12 =>
    bif decide (t12 < t11) then ((at? t10 t12).bind fun x12 =>
    (m_impl_RowMany t0 x12).bind fun x14 =>
    (m_impl_RowMany t1 x12).bind fun x15 =>
    bif (x14 != x15) then (some false)
    else ((ckI (t12 + (1 : Int))).bind fun x18 =>
    (m_impl_SameBag_l1  n1) t0 t1 t10 t11 x18))
    else (m_impl_SameBag_j1  )
def m_impl_SameBag (a0 : (List (List S_impl_Value))) (a1 : (List (List S_impl_Value))) : Option Bool :=
  (m_slices_Concat_LLimpl_Value_Limpl_Value ([a0, a1] : (List (List (List S_impl_Value))))).bind fun x4 =>
  m_impl_SameBag_l1  (((x4.length : Int) - (0 : Int)).toNat + 1) a0 a1 x4 (x4.length : Int) (0 : Int)
theorem c_impl_SameBag (a0 : (List (List S_impl_Value))) (a1 : (List (List S_impl_Value))) (r : Bool) (h : m_impl_SameBag a0 a1 = some r) : Ret Try.prog f_impl_SameBag [e_LLimpl_Value a0, e_LLimpl_Value a1] (e_bool r) := by
  refine Does.goG [] F_impl_SameBag rfl e_impl_SameBag n_impl_SameBag rfl (rvs := [.tmp 4]) rfl rfl ?_
  intro w0 ok0 lent ρ0
  refine LWP.seq_k fun N1 hN1 => ?_
  refine LWP.region (l := [_]) ?_
  refine LWo.assign (e_bool false) rfl (hn := ?_)
  refine LWo.nil (hN1 _ ?_)
  refine LWP.join (α := Unit) (fun z : Unit => []) (fun z : Unit => []) (fun z : Unit => m_impl_SameBag_j1  ) r (fun _ => by simp [hkeys]) ?_ ?_
  · rintro _ h
    replace h : m_impl_SameBag_j1   = some _ := h
    refine LWP.seq_k fun N19 hN19 => ?_
    refine LWP.region (l := [_]) ?_
    refine LWo.assign (e_bool true) rfl (hn := ?_)
    refine LWo.nil (hN19 _ ?_)
    obtain rfl := Option.some.inj h
    refine LWP.ret (QG.mk (.inr rfl) (.cons (.tmp (x := (e_bool true)) rfl) (.nil)) (RetOK.one0 (.pure rfl) (by decide)) rfl rfl)
  · intro N2 hN2
    refine LWP.seq_k fun N3 hN3 => ?_
    refine LWP.region (l := [_,_,_,_,_,_]) ?_
    refine LWo.move (e_LLimpl_Value a0) rfl (hn := ?_)
    refine LWo.move (e_LLimpl_Value a1) rfl (hn := ?_)
    refine LWo.lit (ops := [_, _]) [(e_LLimpl_Value a0), (e_LLimpl_Value a1)] u_LLLimpl_Value s_LLimpl_Value z_LLimpl_Value rfl rfl rfl rfl rfl rfl (hn := ?_)
    refine bk h fun x4 e4 h => ?_
    refine LWo.vcall rfl rfl (c_slices_Concat_LLimpl_Value_Limpl_Value _ _ e4) (.same (.nil)) (hn := ?_)
    refine LWo.lenM (f := e_Limpl_Value) (l := x4) u_LLimpl_Value rfl (hn := ?_)
    refine LWo.move (e_int (0 : Int)) rfl (hn := ?_)
    refine LWo.nil (hN3 _ ?_)
    refine LWP.block ?_
    refine LWP.loopM (α := (List (List S_impl_Value)) × (List (List S_impl_Value)) × (List (List S_impl_Value)) × Int × Int) (fun z : (List (List S_impl_Value)) × (List (List S_impl_Value)) × (List (List S_impl_Value)) × Int × Int => [(0, (e_LLimpl_Value z.1)), (1, (e_LLimpl_Value z.2.1)), (10, (e_LLimpl_Value z.2.2.1)), (11, (e_int z.2.2.2.1)), (12, (e_int z.2.2.2.2))]) (fun z : (List (List S_impl_Value)) × (List (List S_impl_Value)) × (List (List S_impl_Value)) × Int × Int => []) (fun n1 (z : (List (List S_impl_Value)) × (List (List S_impl_Value)) × (List (List S_impl_Value)) × Int × Int) => m_impl_SameBag_l1  n1 z.1 z.2.1 z.2.2.1 z.2.2.2.1 z.2.2.2.2) r _ (a0, a1, x4, (x4.length : Int), (0 : Int)) h (fun _ => rfl) (fun _ => by simp [hkeys]) ⟨rfl, rfl, rfl, rfl, rfl, trivial⟩ trivial ?_
    rintro n1 ⟨t0, t1, t10, t11, t12⟩ h N5 hN5
    replace h : m_impl_SameBag_l1  (n1 + 1) t0 t1 t10 t11 t12 = some _ := h
    refine LWP.seq_k fun N7 hN7 => ?_
    refine LWP.region (l := [_]) ?_
    refine LWo.int _ rfl rfl rfl (hn := ?_)
    refine LWo.nil (hN7 _ ?_)
    refine LWP.seq_k fun N8 hN8 => ?_
    refine LWP.cond_split rfl (fun h9 => ?_) (fun h9 => ?_)
    · have h := bT h9 h
      refine LWP.skip (hN8 _ ?_)
      refine LWP.seq_k fun N10 hN10 => ?_
      refine LWP.block ?_
      refine LWP.seq_k fun N11 hN11 => ?_
      refine LWP.region (l := [_,_,_]) ?_
      refine bk h fun x12 e12 h => ?_
      refine LWo.indexM (f := e_Limpl_Value) e12 u_LLimpl_Value s_Limpl_Value rfl rfl (hn := ?_)
      refine LWo.load1 (c := (e_Limpl_Value x12)) g_Limpl_Value rfl (hn := ?_)
      refine LWo.assign (e_Limpl_Value x12) rfl (hn := ?_)
      refine LWo.nil (hN11 _ ?_)
      refine LWP.seq_k fun N13 hN13 => ?_
      refine LWP.region (l := [_,_,_,_,_,_,_]) ?_
      refine LWo.move (e_LLimpl_Value t0) rfl (hn := ?_)
      refine LWo.move (e_Limpl_Value x12) rfl (hn := ?_)
      refine bk h fun x14 e14 h => ?_
      refine LWo.vcall rfl rfl (c_impl_RowMany _ _ _ e14) (.same (.same (.nil))) (hn := ?_)
      refine LWo.move (e_LLimpl_Value t1) rfl (hn := ?_)
      refine LWo.move (e_Limpl_Value x12) rfl (hn := ?_)
      refine bk h fun x15 e15 h => ?_
      refine LWo.vcall rfl rfl (c_impl_RowMany _ _ _ e15) (.same (.same (.nil))) (hn := ?_)
      refine LWo.int _ rfl rfl rfl (hn := ?_)
      refine LWo.nil (hN13 _ ?_)
      refine LWP.cond_split rfl (fun h16 => ?_) (fun h16 => ?_)
      · have h := bT h16 h
        refine LWP.seq_k fun N17 hN17 => ?_
        refine LWP.region (l := [_]) ?_
        refine LWo.assign (e_bool false) rfl (hn := ?_)
        refine LWo.nil (hN17 _ ?_)
        obtain rfl := Option.some.inj h
        refine LWP.ret (QG.mk (.inr rfl) (.cons (.tmp (x := (e_bool false)) rfl) (.nil)) (RetOK.one0 (.pure rfl) (by decide)) rfl rfl)
      · have h := bF h16 h
        refine LWP.skip (hN10 _ ?_)
        refine LWP.region (l := [_,_]) ?_
        refine bk h fun x18 e18 h => ?_
        refine LWo.int _ rfl rfl (add_ck e18) (hn := ?_)
        refine LWo.move (e_int x18) rfl (hn := ?_)
        refine LWo.nil (hN5 (t0, t1, t10, t11, x18) _ ⟨rfl, rfl, rfl, rfl, rfl, trivial⟩ trivial h)
    · have h := bF h9 h
      refine LWP.exit (hN2 () _ trivial trivial h)

def m_laws_FnByColumn_j4 (t2 : Bool) : Option Bool :=
  some t2
def m_laws_FnByColumn_j3 (t3 : (List S_impl_Column)) (t4 : (List (List S_impl_Value))) (t5 : Int) (t6 : (List (List S_impl_Value))) : Option Bool :=
  (m_impl_SameBag t6 t4).bind fun x44 =>
  bif x44 then ((m_impl_ByColumn t3 t6 t5).bind fun x46 =>
    (m_laws_sameRows x46 t6).bind fun x47 =>
    bif x47 then ((m_laws_alive ).bind fun x49 =>
      m_laws_FnByColumn_j4  x49)
    else (m_laws_FnByColumn_j4  false))
  else (m_laws_FnByColumn_j4  false)
def m_laws_FnByColumn_l1 : Nat → (List S_impl_Column) → (List (List S_impl_Value)) → Int → (List (List S_impl_Value)) → Int → Option Bool
  | 0, _, _, _, _, _ => none
  | n1 + 1, t3, t4, t5, t6, t7 =>
    bif decide (t7 < (t6.length : Int)) then ((ckI (t7 - (1 : Int))).bind fun x34 =>
    (at? t6 x34).bind fun x35 =>
    (at? x35 t5).bind fun x36 =>
    (at? t6 t7).bind fun x37 =>
    (at? x37 t5).bind fun x38 =>
    (m_impl_ValueOrder x36 x38).bind fun x39 =>
    bif decide (x39 > (0 : Int)) then (some false)
    else ((ckI (t7 + (1 : Int))).bind fun x42 =>
    (m_laws_FnByColumn_l1  n1) t3 t4 t5 t6 x42))
    else (m_laws_FnByColumn_j3  t3 t4 t5 t6)
def m_laws_FnByColumn_j2 (t2 : Bool) : Option Bool :=
  some t2
def m_laws_FnByColumn_j1 (t3 : (List S_impl_Column)) (t4 : (List (List S_impl_Value))) (t5 : Int) (t6 : (List (List S_impl_Value))) (t41 : Bool) : Option Bool :=
  bif t41 then (bif ((t6.length : Int) == (0 : Int)) then ((m_laws_alive ).bind fun x24 =>
      m_laws_FnByColumn_j2  x24)
    else (m_laws_FnByColumn_j2  false))
  else (m_laws_FnByColumn_l1  (((t6.length : Int) - (1 : Int)).toNat + 1) t3 t4 t5 t6 (1 : Int))
def m_laws_FnByColumn (a0 : (List UInt8)) : Option Bool :=
  bif decide ((a0.length : Int) > (1048576 : Int)) then (some true)
  else ((m_spec_DrawByColumn a0).bind fun x7 =>
  (m_impl_ByColumn x7.1 x7.2.1 x7.2.2).bind fun x9 =>
  (m_spec_ByColumn x7.1 x7.2.1 x7.2.2).bind fun x12 =>
  (m_laws_sameRows x9 x12).bind fun x13 =>
  bif (!x13) then (some false)
  else ((m_impl_RowsOk x7.1 x7.2.1).bind fun x18 =>
  bif (!x18) then (m_laws_FnByColumn_j1  x7.1 x7.2.1 x7.2.2 x9 true)
  else (bif decide (x7.2.2 < (0 : Int)) then (m_laws_FnByColumn_j1  x7.1 x7.2.1 x7.2.2 x9 true)
    else (m_laws_FnByColumn_j1  x7.1 x7.2.1 x7.2.2 x9 (decide (x7.2.2 ≥ (x7.1.length : Int)))))))
theorem c_laws_FnByColumn (a0 : (List UInt8)) (r : Bool) (h : m_laws_FnByColumn a0 = some r) : Ret Try.prog f_laws_FnByColumn [e_Luint8 a0] (e_bool r) := by
  refine Does.goG [] F_laws_FnByColumn rfl e_laws_FnByColumn n_laws_FnByColumn rfl (rvs := [.tmp 2]) rfl rfl ?_
  intro w0 ok0 lent ρ0
  refine LWP.seq_k fun N1 hN1 => ?_
  refine LWP.region (l := [_]) ?_
  refine LWo.assign (e_bool false) rfl (hn := ?_)
  refine LWo.nil (hN1 _ ?_)
  refine LWP.seq_k fun N2 hN2 => ?_
  refine LWP.seq_k fun N3 hN3 => ?_
  refine LWP.region (l := [_,_,_]) ?_
  refine LWo.move (e_Luint8 a0) rfl (hn := ?_)
  refine LWo.lenM (f := e_uint8) (l := a0) u_Luint8 rfl (hn := ?_)
  refine LWo.int _ rfl rfl rfl (hn := ?_)
  refine LWo.nil (hN3 _ ?_)
  refine LWP.cond_split rfl (fun h4 => ?_) (fun h4 => ?_)
  · have h := bT h4 h
    refine LWP.seq_k fun N5 hN5 => ?_
    refine LWP.region (l := [_]) ?_
    refine LWo.assign (e_bool true) rfl (hn := ?_)
    refine LWo.nil (hN5 _ ?_)
    obtain rfl := Option.some.inj h
    refine LWP.ret (QG.mk (.inr rfl) (.cons (.tmp (x := (e_bool true)) rfl) (.nil)) (RetOK.one0 (.pure rfl) (by decide)) rfl rfl)
  · have h := bF h4 h
    refine LWP.skip (hN2 _ ?_)
    refine LWP.seq_k fun N6 hN6 => ?_
    refine LWP.region (l := [_,_,_,_,_,_,_,_,_]) ?_
    refine LWo.move (e_Luint8 a0) rfl (hn := ?_)
    refine bk h fun x7 e7 h => ?_
    refine LWo.vcall rfl rfl (c_spec_DrawByColumn _ _ e7) (.same (.nil)) (hn := ?_)
    refine LWo.move (.tup [(e_Limpl_Column x7.1), (e_LLimpl_Value x7.2.1), (e_int x7.2.2)]) rfl (hn := ?_)
    refine LWo.extract (e_Limpl_Column x7.1) rfl rfl (hn := ?_)
    refine LWo.extract (e_LLimpl_Value x7.2.1) rfl rfl (hn := ?_)
    refine LWo.extract (e_int x7.2.2) rfl rfl (hn := ?_)
    refine LWo.assign (e_Limpl_Column x7.1) rfl (hn := ?_)
    refine LWo.assign (e_LLimpl_Value x7.2.1) rfl (hn := ?_)
    refine LWo.assign (e_int x7.2.2) rfl (hn := ?_)
    refine LWo.nil (hN6 _ ?_)
    refine LWP.seq_k fun N8 hN8 => ?_
    refine LWP.region (l := [_,_,_,_,_]) ?_
    refine LWo.move (e_Limpl_Column x7.1) rfl (hn := ?_)
    refine LWo.move (e_LLimpl_Value x7.2.1) rfl (hn := ?_)
    refine LWo.move (e_int x7.2.2) rfl (hn := ?_)
    refine bk h fun x9 e9 h => ?_
    refine LWo.vcall rfl rfl (c_impl_ByColumn _ _ _ _ e9) (.same (.same (.same (.nil)))) (hn := ?_)
    refine LWo.assign (e_LLimpl_Value x9) rfl (hn := ?_)
    refine LWo.nil (hN8 _ ?_)
    refine LWP.seq_k fun N10 hN10 => ?_
    refine LWP.seq_k fun N11 hN11 => ?_
    refine LWP.region (l := [_,_,_,_,_,_,_]) ?_
    refine LWo.move (e_LLimpl_Value x9) rfl (hn := ?_)
    refine LWo.move (e_Limpl_Column x7.1) rfl (hn := ?_)
    refine LWo.move (e_LLimpl_Value x7.2.1) rfl (hn := ?_)
    refine LWo.move (e_int x7.2.2) rfl (hn := ?_)
    refine bk h fun x12 e12 h => ?_
    refine LWo.vcall rfl rfl (c_spec_ByColumn _ _ _ _ e12) (.same (.same (.same (.nil)))) (hn := ?_)
    refine bk h fun x13 e13 h => ?_
    refine LWo.vcall rfl rfl (c_laws_sameRows _ _ _ e13) (.same (.same (.nil))) (hn := ?_)
    refine LWo.not rfl (hn := ?_)
    refine LWo.nil (hN11 _ ?_)
    refine LWP.cond_split rfl (fun h14 => ?_) (fun h14 => ?_)
    · have h := bT h14 h
      refine LWP.seq_k fun N15 hN15 => ?_
      refine LWP.region (l := [_]) ?_
      refine LWo.assign (e_bool false) rfl (hn := ?_)
      refine LWo.nil (hN15 _ ?_)
      obtain rfl := Option.some.inj h
      refine LWP.ret (QG.mk (.inr rfl) (.cons (.tmp (x := (e_bool false)) rfl) (.nil)) (RetOK.one0 (.pure rfl) (by decide)) rfl rfl)
    · have h := bF h14 h
      refine LWP.skip (hN10 _ ?_)
      refine LWP.seq_k fun N16 hN16 => ?_
      refine LWP.join (α := (List S_impl_Column) × (List (List S_impl_Value)) × Int × (List (List S_impl_Value)) × Bool) (fun z : (List S_impl_Column) × (List (List S_impl_Value)) × Int × (List (List S_impl_Value)) × Bool => [(3, (e_Limpl_Column z.1)), (4, (e_LLimpl_Value z.2.1)), (5, (e_int z.2.2.1)), (6, (e_LLimpl_Value z.2.2.2.1)), (41, (e_bool z.2.2.2.2))]) (fun z : (List S_impl_Column) × (List (List S_impl_Value)) × Int × (List (List S_impl_Value)) × Bool => []) (fun z : (List S_impl_Column) × (List (List S_impl_Value)) × Int × (List (List S_impl_Value)) × Bool => m_laws_FnByColumn_j1  z.1 z.2.1 z.2.2.1 z.2.2.2.1 z.2.2.2.2) r (fun _ => by simp [hkeys]) ?_ ?_
      · rintro ⟨t3, t4, t5, t6, t41⟩ h
        replace h : m_laws_FnByColumn_j1  t3 t4 t5 t6 t41 = some _ := h
        refine LWP.cond_split rfl (fun h21 => ?_) (fun h21 => ?_)
        · have h := bT h21 h
          refine LWP.join (α := Bool) (fun z : Bool => [(2, (e_bool z))]) (fun z : Bool => []) (fun z : Bool => m_laws_FnByColumn_j2  z) r (fun _ => by simp [hkeys]) ?_ ?_
          · rintro t2 h
            replace h : m_laws_FnByColumn_j2  t2 = some _ := h
            obtain rfl := Option.some.inj h
            refine LWP.ret (QG.mk (.inr rfl) (.cons (.tmp (x := (e_bool t2)) rfl) (.nil)) (RetOK.one0 (.pure rfl) (by decide)) rfl rfl)
          · intro N22 hN22
            refine LWP.region (l := [_,_,_,_,_,_,_]) ?_
            refine LWo.move (e_LLimpl_Value t6) rfl (hn := ?_)
            refine LWo.lenM (f := e_Limpl_Value) (l := t6) u_LLimpl_Value rfl (hn := ?_)
            refine LWo.int _ rfl rfl rfl (hn := ?_)
            refine LWo.move (e_bool ((t6.length : Int) == (0 : Int))) rfl (hn := ?_)
            refine LWo.byCases (t := 45) _ rfl (fun h23 => ?_) (fun h23 => ?_)
            · have h := bT h23 h
              refine bk h fun x24 e24 h => ?_
              refine LWo.guardY (t := 45) rfl h23 rfl rfl ?_
              refine LWo.vcall rfl rfl (c_laws_alive  _ e24) (.nil) (hn := ?_)
              refine LWo.pickTM (e_bool x24) rfl h23 rfl (hn := ?_)
              refine LWo.assign (e_bool x24) rfl (hn := ?_)
              refine LWo.nil (hN22 x24 _ ⟨rfl, trivial⟩ trivial h)
            · have h := bF h23 h
              refine LWo.guardNU (t := 45) rfl h23 rfl rfl rfl rfl rfl ?_
              refine LWo.pickFM (e_bool false) rfl h23 rfl (hn := ?_)
              refine LWo.assign (e_bool false) rfl (hn := ?_)
              refine LWo.nil (hN22 false _ ⟨rfl, trivial⟩ trivial h)
        · have h := bF h21 h
          refine LWP.skip (hN16 _ ?_)
          refine LWP.join (α := (List S_impl_Column) × (List (List S_impl_Value)) × Int × (List (List S_impl_Value))) (fun z : (List S_impl_Column) × (List (List S_impl_Value)) × Int × (List (List S_impl_Value)) => [(3, (e_Limpl_Column z.1)), (4, (e_LLimpl_Value z.2.1)), (5, (e_int z.2.2.1)), (6, (e_LLimpl_Value z.2.2.2))]) (fun z : (List S_impl_Column) × (List (List S_impl_Value)) × Int × (List (List S_impl_Value)) => []) (fun z : (List S_impl_Column) × (List (List S_impl_Value)) × Int × (List (List S_impl_Value)) => m_laws_FnByColumn_j3  z.1 z.2.1 z.2.2.1 z.2.2.2) r (fun _ => by simp [hkeys]) ?_ ?_
          · rintro ⟨t3, t4, t5, t6⟩ h
            replace h : m_laws_FnByColumn_j3  t3 t4 t5 t6 = some _ := h
            refine LWP.join (α := Bool) (fun z : Bool => [(2, (e_bool z))]) (fun z : Bool => []) (fun z : Bool => m_laws_FnByColumn_j4  z) r (fun _ => by simp [hkeys]) ?_ ?_
            · rintro t2 h
              replace h : m_laws_FnByColumn_j4  t2 = some _ := h
              obtain rfl := Option.some.inj h
              refine LWP.ret (QG.mk (.inr rfl) (.cons (.tmp (x := (e_bool t2)) rfl) (.nil)) (RetOK.one0 (.pure rfl) (by decide)) rfl rfl)
            · intro N43 hN43
              refine LWP.region (l := [_,_,_,_,_,_,_,_,_,_,_,_,_,_,_]) ?_
              refine LWo.move (e_LLimpl_Value t6) rfl (hn := ?_)
              refine LWo.move (e_LLimpl_Value t4) rfl (hn := ?_)
              refine bk h fun x44 e44 h => ?_
              refine LWo.vcall rfl rfl (c_impl_SameBag _ _ _ e44) (.same (.same (.nil))) (hn := ?_)
              refine LWo.move (e_bool x44) rfl (hn := ?_)
              refine LWo.byCases (t := 74) _ rfl (fun h45 => ?_) (fun h45 => ?_)
              · have h := bT h45 h
                refine LWo.guardY (t := 74) rfl h45 rfl rfl ?_
                refine LWo.move (e_Limpl_Column t3) rfl (hn := ?_)
                refine LWo.guardY (t := 74) rfl h45 rfl rfl ?_
                refine LWo.move (e_LLimpl_Value t6) rfl (hn := ?_)
                refine LWo.guardY (t := 74) rfl h45 rfl rfl ?_
                refine LWo.move (e_int t5) rfl (hn := ?_)
                refine bk h fun x46 e46 h => ?_
                refine LWo.guardY (t := 74) rfl h45 rfl rfl ?_
                refine LWo.vcall rfl rfl (c_impl_ByColumn _ _ _ _ e46) (.same (.same (.same (.nil)))) (hn := ?_)
                refine LWo.guardY (t := 74) rfl h45 rfl rfl ?_
                refine LWo.move (e_LLimpl_Value t6) rfl (hn := ?_)
                refine bk h fun x47 e47 h => ?_
                refine LWo.guardY (t := 74) rfl h45 rfl rfl ?_
                refine LWo.vcall rfl rfl (c_laws_sameRows _ _ _ e47) (.same (.same (.nil))) (hn := ?_)
                refine LWo.pickTM (e_bool x47) rfl h45 rfl (hn := ?_)
                refine LWo.move (e_bool x47) rfl (hn := ?_)
                refine LWo.byCases (t := 82) _ rfl (fun h48 => ?_) (fun h48 => ?_)
                · have h := bT h48 h
                  refine bk h fun x49 e49 h => ?_
                  refine LWo.guardY (t := 82) rfl h48 rfl rfl ?_
                  refine LWo.vcall rfl rfl (c_laws_alive  _ e49) (.nil) (hn := ?_)
                  refine LWo.pickTM (e_bool x49) rfl h48 rfl (hn := ?_)
                  refine LWo.assign (e_bool x49) rfl (hn := ?_)
                  refine LWo.nil (hN43 x49 _ ⟨rfl, trivial⟩ trivial h)
                · have h := bF h48 h
                  refine LWo.guardNU (t := 82) rfl h48 rfl rfl rfl rfl rfl ?_
                  refine LWo.pickFM (e_bool false) rfl h48 rfl (hn := ?_)
                  refine LWo.assign (e_bool false) rfl (hn := ?_)
                  refine LWo.nil (hN43 false _ ⟨rfl, trivial⟩ trivial h)
              · have h := bF h45 h
                refine LWo.guardNU (t := 74) rfl h45 rfl rfl rfl rfl rfl ?_
                refine LWo.guardNU (t := 74) rfl h45 rfl rfl rfl rfl rfl ?_
                refine LWo.guardNU (t := 74) rfl h45 rfl rfl rfl rfl rfl ?_
                refine LWo.guardNU (t := 74) rfl h45 rfl rfl rfl rfl rfl ?_
                refine LWo.guardNU (t := 74) rfl h45 rfl rfl rfl rfl rfl ?_
                refine LWo.guardNU (t := 74) rfl h45 rfl rfl rfl rfl rfl ?_
                refine LWo.pickFM (e_bool false) rfl h45 rfl (hn := ?_)
                refine LWo.move (e_bool false) rfl (hn := ?_)
                refine LWo.guardNU (t := 82) rfl rfl rfl rfl rfl rfl rfl ?_
                refine LWo.pickFM (e_bool false) rfl rfl rfl (hn := ?_)
                refine LWo.assign (e_bool false) rfl (hn := ?_)
                refine LWo.nil (hN43 false _ ⟨rfl, trivial⟩ trivial h)
          · intro N25 hN25
            refine LWP.seq_k fun N26 hN26 => ?_
            refine LWP.region (l := [_]) ?_
            refine LWo.assign (e_int (1 : Int)) rfl (hn := ?_)
            refine LWo.nil (hN26 _ ?_)
            refine LWP.block ?_
            refine LWP.loopM (α := (List S_impl_Column) × (List (List S_impl_Value)) × Int × (List (List S_impl_Value)) × Int) (fun z : (List S_impl_Column) × (List (List S_impl_Value)) × Int × (List (List S_impl_Value)) × Int => [(3, (e_Limpl_Column z.1)), (4, (e_LLimpl_Value z.2.1)), (5, (e_int z.2.2.1)), (6, (e_LLimpl_Value z.2.2.2.1)), (7, (e_int z.2.2.2.2))]) (fun z : (List S_impl_Column) × (List (List S_impl_Value)) × Int × (List (List S_impl_Value)) × Int => []) (fun n1 (z : (List S_impl_Column) × (List (List S_impl_Value)) × Int × (List (List S_impl_Value)) × Int) => m_laws_FnByColumn_l1  n1 z.1 z.2.1 z.2.2.1 z.2.2.2.1 z.2.2.2.2) r _ (t3, t4, t5, t6, (1 : Int)) h (fun _ => rfl) (fun _ => by simp [hkeys]) ⟨rfl, rfl, rfl, rfl, rfl, trivial⟩ trivial ?_
            rintro n1 ⟨t3, t4, t5, t6, t7⟩ h N27 hN27
            replace h : m_laws_FnByColumn_l1  (n1 + 1) t3 t4 t5 t6 t7 = some _ := h
            refine LWP.seq_k fun N29 hN29 => ?_
            refine LWP.seq_k fun N30 hN30 => ?_
            refine LWP.region (l := [_,_,_,_]) ?_
            refine LWo.move (e_int t7) rfl (hn := ?_)
            refine LWo.move (e_LLimpl_Value t6) rfl (hn := ?_)
            refine LWo.lenM (f := e_Limpl_Value) (l := t6) u_LLimpl_Value rfl (hn := ?_)
            refine LWo.int _ rfl rfl rfl (hn := ?_)
            refine LWo.nil (hN30 _ ?_)
            refine LWP.cond_split rfl (fun h31 => ?_) (fun h31 => ?_)
            · have h := bT h31 h
              refine LWP.skip (hN29 _ ?_)
              refine LWP.seq_k fun N32 hN32 => ?_
              refine LWP.block ?_
              refine LWP.seq_k fun N33 hN33 => ?_
              refine bk h fun x34 e34 h => ?_
              refine bk h fun x35 e35 h => ?_
              refine bk h fun x36 e36 h => ?_
              refine bk h fun x37 e37 h => ?_
              refine bk h fun x38 e38 h => ?_
              refine bk h fun x39 e39 h => ?_
              refine LWP.drawE (l := [_,_,_,_,_,_,_,_,_,_,_,_,_,_,_,_,_]) [] [3, 4, 5, 6, 7] [([6], []), ([7], []), ([55], []), ([54, 56], []), ([57], []), ([5], []), ([58, 59], []), ([60], []), ([6], []), ([7], []), ([62, 63], []), ([64], []), ([5], []), ([65, 66], []), ([67], []), ([61, 68], []), ([69], [])] [3, 4, 5, 6, 7, 70] [] mixed (by kernel_rfl) rfl (by decide) ?_
              refine ⟨rfl, .put 54 _, trivial, fun u hg hu hh => LWo.move (e_LLimpl_Value t6) hu.1 (hn := LWo.nil ⟨rfl, .inl rfl, hg⟩), ?_⟩
              refine ⟨rfl, .put 55 _, trivial, fun u hg hu hh => LWo.move (e_int t7) hu.1 (hn := LWo.nil ⟨rfl, .inl rfl, hg⟩), ?_⟩
              refine ⟨rfl, .put 56 _, trivial, fun u hg hu hh => LWo.int _ hu.1 rfl (sub_ck e34) (hn := LWo.nil ⟨rfl, .inl rfl, hg⟩), ?_⟩
              refine ⟨rfl, .put 57 _, trivial, fun u hg hu hh => LWo.indexM (f := e_Limpl_Value) e35 u_LLimpl_Value s_Limpl_Value hu.1 hu.2.1 (hn := LWo.nil ⟨rfl, .inl rfl, hg⟩), ?_⟩
              refine ⟨rfl, .put 58 _, trivial, fun u hg hu hh => LWo.load1 (c := (e_Limpl_Value x35)) g_Limpl_Value hu.1 (hn := LWo.nil ⟨rfl, .inl rfl, hg⟩), ?_⟩
              refine ⟨rfl, .put 59 _, trivial, fun u hg hu hh => LWo.move (e_int t5) hu.1 (hn := LWo.nil ⟨rfl, .inl rfl, hg⟩), ?_⟩
              refine ⟨rfl, .put 60 _, trivial, fun u hg hu hh => LWo.indexM (f := e_impl_Value) e36 u_Limpl_Value s_impl_Value hu.1 hu.2.1 (hn := LWo.nil ⟨rfl, .inl rfl, hg⟩), ?_⟩
              refine ⟨rfl, .put 61 _, trivial, fun u hg hu hh => LWo.loadN ((e_impl_Value x36)).cells g_impl_Value s_impl_Value hu.1 (Nat.le_of_ble_eq_true rfl) rfl (hn := LWo.nil ⟨rfl, .inl rfl, hg⟩), ?_⟩
              refine ⟨rfl, .put 62 _, trivial, fun u hg hu hh => LWo.move (e_LLimpl_Value t6) hu.1 (hn := LWo.nil ⟨rfl, .inl rfl, hg⟩), ?_⟩
              refine ⟨rfl, .put 63 _, trivial, fun u hg hu hh => LWo.move (e_int t7) hu.1 (hn := LWo.nil ⟨rfl, .inl rfl, hg⟩), ?_⟩
              refine ⟨rfl, .put 64 _, trivial, fun u hg hu hh => LWo.indexM (f := e_Limpl_Value) e37 u_LLimpl_Value s_Limpl_Value hu.1 hu.2.1 (hn := LWo.nil ⟨rfl, .inl rfl, hg⟩), ?_⟩
              refine ⟨rfl, .put 65 _, trivial, fun u hg hu hh => LWo.load1 (c := (e_Limpl_Value x37)) g_Limpl_Value hu.1 (hn := LWo.nil ⟨rfl, .inl rfl, hg⟩), ?_⟩
              refine ⟨rfl, .put 66 _, trivial, fun u hg hu hh => LWo.move (e_int t5) hu.1 (hn := LWo.nil ⟨rfl, .inl rfl, hg⟩), ?_⟩
              refine ⟨rfl, .put 67 _, trivial, fun u hg hu hh => LWo.indexM (f := e_impl_Value) e38 u_Limpl_Value s_impl_Value hu.1 hu.2.1 (hn := LWo.nil ⟨rfl, .inl rfl, hg⟩), ?_⟩
              refine ⟨rfl, .put 68 _, trivial, fun u hg hu hh => LWo.loadN ((e_impl_Value x38)).cells g_impl_Value s_impl_Value hu.1 (Nat.le_of_ble_eq_true rfl) rfl (hn := LWo.nil ⟨rfl, .inl rfl, hg⟩), ?_⟩
              refine ⟨rfl, .put 69 _, trivial, fun u hg hu hh => LWo.vcall rfl (av2 hu.1 hu.2.1) (c_impl_ValueOrder _ _ _ e39) (.same (.same (.nil))) (hn := LWo.nil ⟨rfl, .inl rfl, hg⟩), ?_⟩
              refine ⟨rfl, .put 70 _, trivial, fun u hg hu hh => LWo.int _ hu.1 rfl rfl (hn := LWo.nil ⟨rfl, .inl rfl, hg⟩), ?_⟩
              refine ⟨rfl, by kernel_rfl, hN33 _ ?_⟩
              refine LWP.cond_split rfl (fun h40 => ?_) (fun h40 => ?_)
              · have h := bT h40 h
                refine LWP.seq_k fun N41 hN41 => ?_
                refine LWP.region (l := [_]) ?_
                refine LWo.assign (e_bool false) rfl (hn := ?_)
                refine LWo.nil (hN41 _ ?_)
                obtain rfl := Option.some.inj h
                refine LWP.ret (QG.mk (.inr rfl) (.cons (.tmp (x := (e_bool false)) rfl) (.nil)) (RetOK.one0 (.pure rfl) (by decide)) rfl rfl)
              · have h := bF h40 h
                refine LWP.skip (hN32 _ ?_)
                refine LWP.region (l := [_,_,_]) ?_
                refine LWo.move (e_int t7) rfl (hn := ?_)
                refine bk h fun x42 e42 h => ?_
                refine LWo.int _ rfl rfl (add_ck e42) (hn := ?_)
                refine LWo.assign (e_int x42) rfl (hn := ?_)
                refine LWo.nil (hN27 (t3, t4, t5, t6, x42) _ ⟨rfl, rfl, rfl, rfl, rfl, trivial⟩ trivial h)
            · have h := bF h31 h
              refine LWP.exit (hN25 (t3, t4, t5, t6) _ ⟨rfl, rfl, rfl, rfl, trivial⟩ trivial h)
      · intro N17 hN17
        refine LWP.region (l := [_,_,_,_,_,_,_,_,_,_,_,_,_,_]) ?_
        refine LWo.move (e_Limpl_Column x7.1) rfl (hn := ?_)
        refine LWo.move (e_LLimpl_Value x7.2.1) rfl (hn := ?_)
        refine bk h fun x18 e18 h => ?_
        refine LWo.vcall rfl rfl (c_impl_RowsOk _ _ _ e18) (.same (.same (.nil))) (hn := ?_)
        refine LWo.not rfl (hn := ?_)
        refine LWo.move (e_bool (!x18)) rfl (hn := ?_)
        refine LWo.byCases (t := 32) _ rfl (fun h19 => ?_) (fun h19 => ?_)
        · have h := bT h19 h
          refine LWo.guardNU (t := 32) rfl h19 rfl rfl rfl rfl rfl ?_
          refine LWo.guardNU (t := 32) rfl h19 rfl rfl rfl rfl rfl ?_
          refine LWo.pickTM (e_bool true) rfl h19 rfl (hn := ?_)
          refine LWo.move (e_bool true) rfl (hn := ?_)
          refine LWo.guardNU (t := 36) rfl rfl rfl rfl rfl rfl rfl ?_
          refine LWo.guardNU (t := 36) rfl rfl rfl rfl rfl rfl rfl ?_
          refine LWo.guardNU (t := 36) rfl rfl rfl rfl rfl rfl rfl ?_
          refine LWo.guardNU (t := 36) rfl rfl rfl rfl rfl rfl rfl ?_
          refine LWo.pickTM (e_bool true) rfl rfl rfl (hn := ?_)
          refine LWo.nil (hN17 (x7.1, x7.2.1, x7.2.2, x9, true) _ ⟨rfl, rfl, rfl, rfl, rfl, trivial⟩ trivial h)
        · have h := bF h19 h
          refine LWo.guardY (t := 32) rfl h19 rfl rfl ?_
          refine LWo.move (e_int x7.2.2) rfl (hn := ?_)
          refine LWo.guardY (t := 32) rfl h19 rfl rfl ?_
          refine LWo.int _ rfl rfl rfl (hn := ?_)
          refine LWo.pickFM (e_bool (decide (x7.2.2 < (0 : Int)))) rfl h19 rfl (hn := ?_)
          refine LWo.move (e_bool (decide (x7.2.2 < (0 : Int)))) rfl (hn := ?_)
          refine LWo.byCases (t := 36) _ rfl (fun h20 => ?_) (fun h20 => ?_)
          · have h := bT h20 h
            refine LWo.guardNU (t := 36) rfl h20 rfl rfl rfl rfl rfl ?_
            refine LWo.guardNU (t := 36) rfl h20 rfl rfl rfl rfl rfl ?_
            refine LWo.guardNU (t := 36) rfl h20 rfl rfl rfl rfl rfl ?_
            refine LWo.guardNU (t := 36) rfl h20 rfl rfl rfl rfl rfl ?_
            refine LWo.pickTM (e_bool true) rfl h20 rfl (hn := ?_)
            refine LWo.nil (hN17 (x7.1, x7.2.1, x7.2.2, x9, true) _ ⟨rfl, rfl, rfl, rfl, rfl, trivial⟩ trivial h)
          · have h := bF h20 h
            refine LWo.guardY (t := 36) rfl h20 rfl rfl ?_
            refine LWo.move (e_int x7.2.2) rfl (hn := ?_)
            refine LWo.guardY (t := 36) rfl h20 rfl rfl ?_
            refine LWo.move (e_Limpl_Column x7.1) rfl (hn := ?_)
            refine LWo.guardY (t := 36) rfl h20 rfl rfl ?_
            refine LWo.lenM (f := e_impl_Column) (l := x7.1) u_Limpl_Column rfl (hn := ?_)
            refine LWo.guardY (t := 36) rfl h20 rfl rfl ?_
            refine LWo.int _ rfl rfl rfl (hn := ?_)
            refine LWo.pickFM (e_bool (decide (x7.2.2 ≥ (x7.1.length : Int)))) rfl h20 rfl (hn := ?_)
            refine LWo.nil (hN17 (x7.1, x7.2.1, x7.2.2, x9, decide (x7.2.2 ≥ (x7.1.length : Int))) _ ⟨rfl, rfl, rfl, rfl, rfl, trivial⟩ trivial h)
end Go.Proofs.Ytemfdnnhknepbaa
