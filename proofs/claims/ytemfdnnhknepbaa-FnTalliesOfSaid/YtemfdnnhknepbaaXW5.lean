/- Mirrors of functions, and that the functions return what the mirrors say. -/
import Derived.Test.YtemfdnnhknepbaaXW4
set_option linter.unusedVariables false
set_option linter.unusedSimpArgs false
set_option linter.unnecessarySimpa false
namespace Go.Proofs.Ytemfdnnhknepbaa
open Go.Proofs Go.Lift Go.RowKit
def m_impl_ValueOk (a0 : S_impl_Value) : Option Bool :=
  (m_impl_Value_ok a0).bind fun x3 =>
  some x3
theorem c_impl_ValueOk (a0 : S_impl_Value) (r : Bool) (h : m_impl_ValueOk a0 = some r) : Ret Try.prog f_impl_ValueOk [e_impl_Value a0] (e_bool r) := by
  refine Does.goG [] F_impl_ValueOk rfl e_impl_ValueOk n_impl_ValueOk rfl (rvs := [.tmp 2]) rfl rfl ?_
  intro w0 ok0 lent ρ0
  refine LWP.seq_k fun N1 hN1 => ?_
  refine LWP.region (l := [_,_]) ?_
  refine LWo.boxF (e_impl_Value a0) rfl rfl rfl (hn := ?_)
  refine LWo.assign (e_bool false) rfl (hn := ?_)
  refine LWo.nil (hN1 _ ?_)
  refine LWP.seq_k fun N2 hN2 => ?_
  refine LWP.region (l := [_,_,_]) ?_
  refine LWo.loadN ((e_impl_Value a0)).cells g_impl_Value s_impl_Value rfl (Nat.le_of_ble_eq_true rfl) rfl (hn := ?_)
  refine bk h fun x3 e3 h => ?_
  refine LWo.vcall rfl rfl (c_impl_Value_ok _ _ e3) (.same (.nil)) (hn := ?_)
  refine LWo.assign (e_bool x3) rfl (hn := ?_)
  refine LWo.nil (hN2 _ ?_)
  obtain rfl := Option.some.inj h
  refine LWP.ret (QG.mk (.inr rfl) (.cons (.tmp (x := (e_bool x3)) rfl) (.nil)) (RetOK.one0 (.pure rfl) (by decide)) rfl rfl)

def m_laws_alive_j1 (t0 : Bool) : Option Bool :=
  some t0
def m_laws_alive  : Option Bool :=
  (m_impl_ValueOk (⟨(1 : Int), (3 : Int), (⟨#[]⟩ : ByteArray)⟩ : S_impl_Value)).bind fun x3 =>
  bif x3 then ((m_impl_ValueOk (⟨(9 : Int), (0 : Int), (⟨#[]⟩ : ByteArray)⟩ : S_impl_Value)).bind fun x5 =>
    m_laws_alive_j1  (!x5))
  else (m_laws_alive_j1  false)
theorem c_laws_alive  (r : Bool) (h : m_laws_alive  = some r) : Ret Try.prog f_laws_alive [] (e_bool r) := by
  refine Does.goG [] F_laws_alive rfl e_laws_alive n_laws_alive rfl (rvs := [.tmp 0]) rfl rfl ?_
  intro w0 ok0 lent ρ0
  refine LWP.seq_k fun N1 hN1 => ?_
  refine LWP.region (l := [_]) ?_
  refine LWo.assign (e_bool false) rfl (hn := ?_)
  refine LWo.nil (hN1 _ ?_)
  refine LWP.join (α := Bool) (fun z : Bool => [(0, (e_bool z))]) (fun z : Bool => []) (fun z : Bool => m_laws_alive_j1  z) r (fun _ => by simp [hkeys]) ?_ ?_
  · rintro t0 h
    replace h : m_laws_alive_j1  t0 = some _ := h
    obtain rfl := Option.some.inj h
    refine LWP.ret (QG.mk (.inr rfl) (.cons (.tmp (x := (e_bool t0)) rfl) (.nil)) (RetOK.one0 (.pure rfl) (by decide)) rfl rfl)
  · intro N2 hN2
    refine LWP.region (l := [_,_,_,_,_,_,_,_]) ?_
    refine LWo.build_impl_Value (parts := [_, _]) (⟨(1 : Int), (3 : Int), (⟨#[]⟩ : ByteArray)⟩ : S_impl_Value) rfl rfl rfl .refl (hn := ?_)
    refine bk h fun x3 e3 h => ?_
    refine LWo.vcall rfl rfl (c_impl_ValueOk _ _ e3) (.same (.nil)) (hn := ?_)
    refine LWo.move (e_bool x3) rfl (hn := ?_)
    refine LWo.byCases (t := 3) _ rfl (fun h4 => ?_) (fun h4 => ?_)
    · have h := bT h4 h
      refine LWo.guardY (t := 3) rfl h4 rfl rfl ?_
      refine LWo.build_impl_Value (parts := [_]) (⟨(9 : Int), (0 : Int), (⟨#[]⟩ : ByteArray)⟩ : S_impl_Value) rfl rfl rfl .refl (hn := ?_)
      refine bk h fun x5 e5 h => ?_
      refine LWo.guardY (t := 3) rfl h4 rfl rfl ?_
      refine LWo.vcall rfl rfl (c_impl_ValueOk _ _ e5) (.same (.nil)) (hn := ?_)
      refine LWo.guardY (t := 3) rfl h4 rfl rfl ?_
      refine LWo.not rfl (hn := ?_)
      refine LWo.pickTM (e_bool (!x5)) rfl h4 rfl (hn := ?_)
      refine LWo.assign (e_bool (!x5)) rfl (hn := ?_)
      refine LWo.nil (hN2 (!x5) _ ⟨rfl, trivial⟩ trivial h)
    · have h := bF h4 h
      refine LWo.guardNU (t := 3) rfl h4 rfl rfl rfl rfl rfl ?_
      refine LWo.guardNU (t := 3) rfl h4 rfl rfl rfl rfl rfl ?_
      refine LWo.guardNU (t := 3) rfl h4 rfl rfl rfl rfl rfl ?_
      refine LWo.pickFM (e_bool false) rfl h4 rfl (hn := ?_)
      refine LWo.assign (e_bool false) rfl (hn := ?_)
      refine LWo.nil (hN2 false _ ⟨rfl, trivial⟩ trivial h)

def m_laws_FnTalliesOf_j3 (t2 : Bool) : Option Bool :=
  some t2
def m_laws_FnTalliesOf_j2 (t3 : (List (List S_impl_Value))) (t4 : (List S_impl_Tally)) (t5 : Int) : Option Bool :=
  bif ((t4.length : Int) == (0 : Int)) then ((m_impl_RowsSorted t3).bind fun x32 =>
    (m_impl_TalliesOf x32).bind fun x33 =>
    (m_laws_sameTallies x33 t4).bind fun x34 =>
    bif x34 then ((m_laws_alive ).bind fun x36 =>
      m_laws_FnTalliesOf_j3  x36)
    else (m_laws_FnTalliesOf_j3  false))
  else (bif (t5 == (t3.length : Int)) then ((m_impl_RowsSorted t3).bind fun x38 =>
      (m_impl_TalliesOf x38).bind fun x39 =>
      (m_laws_sameTallies x39 t4).bind fun x40 =>
      bif x40 then ((m_laws_alive ).bind fun x42 =>
        m_laws_FnTalliesOf_j3  x42)
      else (m_laws_FnTalliesOf_j3  false))
    else (m_laws_FnTalliesOf_j3  false))
def m_laws_FnTalliesOf_l1 : Nat → (List (List S_impl_Value)) → (List S_impl_Tally) → Int → Int → Option Bool
  | 0, _, _, _, _ => none
  | n1 + 1, t3, t4, t5, t6 =>
    bif decide (t6 < (t4.length : Int)) then ((at? t4 t6).bind fun x27 =>
    (ckI (t5 + x27.Rows)).bind fun x28 =>
    (ckI (t6 + (1 : Int))).bind fun x29 =>
    (m_laws_FnTalliesOf_l1  n1) t3 t4 x28 x29)
    else (m_laws_FnTalliesOf_j2  t3 t4 t5)
def m_laws_FnTalliesOf_j1 (t3 : (List (List S_impl_Value))) (t4 : (List S_impl_Tally)) (t23 : Bool) : Option Bool :=
  bif t23 then (some false)
  else (m_laws_FnTalliesOf_l1  (((t4.length : Int) - (0 : Int)).toNat + 1) t3 t4 (0 : Int) (0 : Int))
def m_laws_FnTalliesOf (a0 : (List UInt8)) : Option Bool :=
  bif decide ((a0.length : Int) > (1048576 : Int)) then (some true)
  else ((m_spec_DrawTalliesOf a0).bind fun x7 =>
  (m_impl_TalliesOf x7).bind fun x9 =>
  (m_spec_TalliesOf x7).bind fun x12 =>
  (m_laws_sameTallies x9 x12).bind fun x13 =>
  bif (!x13) then (m_laws_FnTalliesOf_j1  x7 x9 true)
  else ((m_impl_TalliesOk x9).bind fun x15 =>
    m_laws_FnTalliesOf_j1  x7 x9 (!x15)))
theorem c_laws_FnTalliesOf (a0 : (List UInt8)) (r : Bool) (h : m_laws_FnTalliesOf a0 = some r) : Ret Try.prog f_laws_FnTalliesOf [e_Luint8 a0] (e_bool r) := by
  refine Does.goG [] F_laws_FnTalliesOf rfl e_laws_FnTalliesOf n_laws_FnTalliesOf rfl (rvs := [.tmp 2]) rfl rfl ?_
  intro w0 ok0 lent ρ0
  refine LWP.seq_k fun N1 hN1 => ?_
  refine LWP.region (l := [_]) ?_
  refine LWo.assign (e_bool false) rfl (hn := ?_)
  refine LWo.nil (hN1 _ ?_)
  refine LWP.seq_k fun N2 hN2 => ?_
  refine LWP.seq_k fun N3 hN3 => ?_
  refine LWP.region (l := [_,_,_]) ?_
  refine LWo.move (e_Luint8 a0) rfl (hn := ?_)
  refine LWo.lenM (f := e_uint8) (l := a0) u_Luint8 rfl (hn := ?_)
  refine LWo.int _ rfl rfl rfl (hn := ?_)
  refine LWo.nil (hN3 _ ?_)
  refine LWP.cond_split rfl (fun h4 => ?_) (fun h4 => ?_)
  · have h := bT h4 h
    refine LWP.seq_k fun N5 hN5 => ?_
    refine LWP.region (l := [_]) ?_
    refine LWo.assign (e_bool true) rfl (hn := ?_)
    refine LWo.nil (hN5 _ ?_)
    obtain rfl := Option.some.inj h
    refine LWP.ret (QG.mk (.inr rfl) (.cons (.tmp (x := (e_bool true)) rfl) (.nil)) (RetOK.one0 (.pure rfl) (by decide)) rfl rfl)
  · have h := bF h4 h
    refine LWP.skip (hN2 _ ?_)
    refine LWP.seq_k fun N6 hN6 => ?_
    refine LWP.region (l := [_,_,_]) ?_
    refine LWo.move (e_Luint8 a0) rfl (hn := ?_)
    refine bk h fun x7 e7 h => ?_
    refine LWo.vcall rfl rfl (c_spec_DrawTalliesOf _ _ e7) (.same (.nil)) (hn := ?_)
    refine LWo.assign (e_LLimpl_Value x7) rfl (hn := ?_)
    refine LWo.nil (hN6 _ ?_)
    refine LWP.seq_k fun N8 hN8 => ?_
    refine LWP.region (l := [_,_,_]) ?_
    refine LWo.move (e_LLimpl_Value x7) rfl (hn := ?_)
    refine bk h fun x9 e9 h => ?_
    refine LWo.vcall rfl rfl (c_impl_TalliesOf _ _ e9) (.same (.nil)) (hn := ?_)
    refine LWo.assign (e_Limpl_Tally x9) rfl (hn := ?_)
    refine LWo.nil (hN8 _ ?_)
    refine LWP.seq_k fun N10 hN10 => ?_
    refine LWP.join (α := (List (List S_impl_Value)) × (List S_impl_Tally) × Bool) (fun z : (List (List S_impl_Value)) × (List S_impl_Tally) × Bool => [(3, (e_LLimpl_Value z.1)), (4, (e_Limpl_Tally z.2.1)), (23, (e_bool z.2.2))]) (fun z : (List (List S_impl_Value)) × (List S_impl_Tally) × Bool => []) (fun z : (List (List S_impl_Value)) × (List S_impl_Tally) × Bool => m_laws_FnTalliesOf_j1  z.1 z.2.1 z.2.2) r (fun _ => by simp [hkeys]) ?_ ?_
    · rintro ⟨t3, t4, t23⟩ h
      replace h : m_laws_FnTalliesOf_j1  t3 t4 t23 = some _ := h
      refine LWP.cond_split rfl (fun h16 => ?_) (fun h16 => ?_)
      · have h := bT h16 h
        refine LWP.seq_k fun N17 hN17 => ?_
        refine LWP.region (l := [_]) ?_
        refine LWo.assign (e_bool false) rfl (hn := ?_)
        refine LWo.nil (hN17 _ ?_)
        obtain rfl := Option.some.inj h
        refine LWP.ret (QG.mk (.inr rfl) (.cons (.tmp (x := (e_bool false)) rfl) (.nil)) (RetOK.one0 (.pure rfl) (by decide)) rfl rfl)
      · have h := bF h16 h
        refine LWP.skip (hN10 _ ?_)
        refine LWP.seq_k fun N18 hN18 => ?_
        refine LWP.region (l := [_]) ?_
        refine LWo.assign (e_int (0 : Int)) rfl (hn := ?_)
        refine LWo.nil (hN18 _ ?_)
        refine LWP.join (α := (List (List S_impl_Value)) × (List S_impl_Tally) × Int) (fun z : (List (List S_impl_Value)) × (List S_impl_Tally) × Int => [(3, (e_LLimpl_Value z.1)), (4, (e_Limpl_Tally z.2.1)), (5, (e_int z.2.2))]) (fun z : (List (List S_impl_Value)) × (List S_impl_Tally) × Int => []) (fun z : (List (List S_impl_Value)) × (List S_impl_Tally) × Int => m_laws_FnTalliesOf_j2  z.1 z.2.1 z.2.2) r (fun _ => by simp [hkeys]) ?_ ?_
        · rintro ⟨t3, t4, t5⟩ h
          replace h : m_laws_FnTalliesOf_j2  t3 t4 t5 = some _ := h
          refine LWP.join (α := Bool) (fun z : Bool => [(2, (e_bool z))]) (fun z : Bool => []) (fun z : Bool => m_laws_FnTalliesOf_j3  z) r (fun _ => by simp [hkeys]) ?_ ?_
          · rintro t2 h
            replace h : m_laws_FnTalliesOf_j3  t2 = some _ := h
            obtain rfl := Option.some.inj h
            refine LWP.ret (QG.mk (.inr rfl) (.cons (.tmp (x := (e_bool t2)) rfl) (.nil)) (RetOK.one0 (.pure rfl) (by decide)) rfl rfl)
          · intro N30 hN30
            refine LWP.region (l := [_,_,_,_,_,_,_,_,_,_,_,_,_,_,_,_,_,_,_,_]) ?_
            refine LWo.move (e_Limpl_Tally t4) rfl (hn := ?_)
            refine LWo.lenM (f := e_impl_Tally) (l := t4) u_Limpl_Tally rfl (hn := ?_)
            refine LWo.int _ rfl rfl rfl (hn := ?_)
            refine LWo.move (e_bool ((t4.length : Int) == (0 : Int))) rfl (hn := ?_)
            refine LWo.byCases (t := 40) _ rfl (fun h31 => ?_) (fun h31 => ?_)
            · have h := bT h31 h
              refine LWo.guardNU (t := 40) rfl h31 rfl rfl rfl rfl rfl ?_
              refine LWo.guardNU (t := 40) rfl h31 rfl rfl rfl rfl rfl ?_
              refine LWo.guardNU (t := 40) rfl h31 rfl rfl rfl rfl rfl ?_
              refine LWo.guardNU (t := 40) rfl h31 rfl rfl rfl rfl rfl ?_
              refine LWo.pickTM (e_bool true) rfl h31 rfl (hn := ?_)
              refine LWo.move (e_bool true) rfl (hn := ?_)
              refine LWo.guardY (t := 46) rfl rfl rfl rfl ?_
              refine LWo.move (e_LLimpl_Value t3) rfl (hn := ?_)
              refine bk h fun x32 e32 h => ?_
              refine LWo.guardY (t := 46) rfl rfl rfl rfl ?_
              refine LWo.vcall rfl rfl (c_impl_RowsSorted _ _ e32) (.same (.nil)) (hn := ?_)
              refine bk h fun x33 e33 h => ?_
              refine LWo.guardY (t := 46) rfl rfl rfl rfl ?_
              refine LWo.vcall rfl rfl (c_impl_TalliesOf _ _ e33) (.same (.nil)) (hn := ?_)
              refine LWo.guardY (t := 46) rfl rfl rfl rfl ?_
              refine LWo.move (e_Limpl_Tally t4) rfl (hn := ?_)
              refine bk h fun x34 e34 h => ?_
              refine LWo.guardY (t := 46) rfl rfl rfl rfl ?_
              refine LWo.vcall rfl rfl (c_laws_sameTallies _ _ _ e34) (.same (.same (.nil))) (hn := ?_)
              refine LWo.pickTM (e_bool x34) rfl rfl rfl (hn := ?_)
              refine LWo.move (e_bool x34) rfl (hn := ?_)
              refine LWo.byCases (t := 53) _ rfl (fun h35 => ?_) (fun h35 => ?_)
              · have h := bT h35 h
                refine bk h fun x36 e36 h => ?_
                refine LWo.guardY (t := 53) rfl h35 rfl rfl ?_
                refine LWo.vcall rfl rfl (c_laws_alive  _ e36) (.nil) (hn := ?_)
                refine LWo.pickTM (e_bool x36) rfl h35 rfl (hn := ?_)
                refine LWo.assign (e_bool x36) rfl (hn := ?_)
                refine LWo.nil (hN30 x36 _ ⟨rfl, trivial⟩ trivial h)
              · have h := bF h35 h
                refine LWo.guardNU (t := 53) rfl h35 rfl rfl rfl rfl rfl ?_
                refine LWo.pickFM (e_bool false) rfl h35 rfl (hn := ?_)
                refine LWo.assign (e_bool false) rfl (hn := ?_)
                refine LWo.nil (hN30 false _ ⟨rfl, trivial⟩ trivial h)
            · have h := bF h31 h
              refine LWo.guardY (t := 40) rfl h31 rfl rfl ?_
              refine LWo.move (e_int t5) rfl (hn := ?_)
              refine LWo.guardY (t := 40) rfl h31 rfl rfl ?_
              refine LWo.move (e_LLimpl_Value t3) rfl (hn := ?_)
              refine LWo.guardY (t := 40) rfl h31 rfl rfl ?_
              refine LWo.lenM (f := e_Limpl_Value) (l := t3) u_LLimpl_Value rfl (hn := ?_)
              refine LWo.guardY (t := 40) rfl h31 rfl rfl ?_
              refine LWo.int _ rfl rfl rfl (hn := ?_)
              refine LWo.pickFM (e_bool (t5 == (t3.length : Int))) rfl h31 rfl (hn := ?_)
              refine LWo.move (e_bool (t5 == (t3.length : Int))) rfl (hn := ?_)
              refine LWo.byCases (t := 46) _ rfl (fun h37 => ?_) (fun h37 => ?_)
              · have h := bT h37 h
                refine LWo.guardY (t := 46) rfl h37 rfl rfl ?_
                refine LWo.move (e_LLimpl_Value t3) rfl (hn := ?_)
                refine bk h fun x38 e38 h => ?_
                refine LWo.guardY (t := 46) rfl h37 rfl rfl ?_
                refine LWo.vcall rfl rfl (c_impl_RowsSorted _ _ e38) (.same (.nil)) (hn := ?_)
                refine bk h fun x39 e39 h => ?_
                refine LWo.guardY (t := 46) rfl h37 rfl rfl ?_
                refine LWo.vcall rfl rfl (c_impl_TalliesOf _ _ e39) (.same (.nil)) (hn := ?_)
                refine LWo.guardY (t := 46) rfl h37 rfl rfl ?_
                refine LWo.move (e_Limpl_Tally t4) rfl (hn := ?_)
                refine bk h fun x40 e40 h => ?_
                refine LWo.guardY (t := 46) rfl h37 rfl rfl ?_
                refine LWo.vcall rfl rfl (c_laws_sameTallies _ _ _ e40) (.same (.same (.nil))) (hn := ?_)
                refine LWo.pickTM (e_bool x40) rfl h37 rfl (hn := ?_)
                refine LWo.move (e_bool x40) rfl (hn := ?_)
                refine LWo.byCases (t := 53) _ rfl (fun h41 => ?_) (fun h41 => ?_)
                · have h := bT h41 h
                  refine bk h fun x42 e42 h => ?_
                  refine LWo.guardY (t := 53) rfl h41 rfl rfl ?_
                  refine LWo.vcall rfl rfl (c_laws_alive  _ e42) (.nil) (hn := ?_)
                  refine LWo.pickTM (e_bool x42) rfl h41 rfl (hn := ?_)
                  refine LWo.assign (e_bool x42) rfl (hn := ?_)
                  refine LWo.nil (hN30 x42 _ ⟨rfl, trivial⟩ trivial h)
                · have h := bF h41 h
                  refine LWo.guardNU (t := 53) rfl h41 rfl rfl rfl rfl rfl ?_
                  refine LWo.pickFM (e_bool false) rfl h41 rfl (hn := ?_)
                  refine LWo.assign (e_bool false) rfl (hn := ?_)
                  refine LWo.nil (hN30 false _ ⟨rfl, trivial⟩ trivial h)
              · have h := bF h37 h
                refine LWo.guardNU (t := 46) rfl h37 rfl rfl rfl rfl rfl ?_
                refine LWo.guardNU (t := 46) rfl h37 rfl rfl rfl rfl rfl ?_
                refine LWo.guardNU (t := 46) rfl h37 rfl rfl rfl rfl rfl ?_
                refine LWo.guardNU (t := 46) rfl h37 rfl rfl rfl rfl rfl ?_
                refine LWo.guardNU (t := 46) rfl h37 rfl rfl rfl rfl rfl ?_
                refine LWo.pickFM (e_bool false) rfl h37 rfl (hn := ?_)
                refine LWo.move (e_bool false) rfl (hn := ?_)
                refine LWo.guardNU (t := 53) rfl rfl rfl rfl rfl rfl rfl ?_
                refine LWo.pickFM (e_bool false) rfl rfl rfl (hn := ?_)
                refine LWo.assign (e_bool false) rfl (hn := ?_)
                refine LWo.nil (hN30 false _ ⟨rfl, trivial⟩ trivial h)
        · intro N19 hN19
          refine LWP.seq_k fun N20 hN20 => ?_
          refine LWP.region (l := [_]) ?_
          refine LWo.assign (e_int (0 : Int)) rfl (hn := ?_)
          refine LWo.nil (hN20 _ ?_)
          refine LWP.block ?_
          refine LWP.loopM (α := (List (List S_impl_Value)) × (List S_impl_Tally) × Int × Int) (fun z : (List (List S_impl_Value)) × (List S_impl_Tally) × Int × Int => [(3, (e_LLimpl_Value z.1)), (4, (e_Limpl_Tally z.2.1)), (5, (e_int z.2.2.1)), (6, (e_int z.2.2.2))]) (fun z : (List (List S_impl_Value)) × (List S_impl_Tally) × Int × Int => []) (fun n1 (z : (List (List S_impl_Value)) × (List S_impl_Tally) × Int × Int) => m_laws_FnTalliesOf_l1  n1 z.1 z.2.1 z.2.2.1 z.2.2.2) r _ (t3, t4, (0 : Int), (0 : Int)) h (fun _ => rfl) (fun _ => by simp [hkeys]) ⟨rfl, rfl, rfl, rfl, trivial⟩ trivial ?_
          rintro n1 ⟨t3, t4, t5, t6⟩ h N21 hN21
          replace h : m_laws_FnTalliesOf_l1  (n1 + 1) t3 t4 t5 t6 = some _ := h
          refine LWP.seq_k fun N23 hN23 => ?_
          refine LWP.seq_k fun N24 hN24 => ?_
          refine LWP.region (l := [_,_,_,_]) ?_
          refine LWo.move (e_int t6) rfl (hn := ?_)
          refine LWo.move (e_Limpl_Tally t4) rfl (hn := ?_)
          refine LWo.lenM (f := e_impl_Tally) (l := t4) u_Limpl_Tally rfl (hn := ?_)
          refine LWo.int _ rfl rfl rfl (hn := ?_)
          refine LWo.nil (hN24 _ ?_)
          refine LWP.cond_split rfl (fun h25 => ?_) (fun h25 => ?_)
          · have h := bT h25 h
            refine LWP.skip (hN23 _ ?_)
            refine LWP.seq_k fun N26 hN26 => ?_
            refine LWP.block ?_
            refine LWP.region (l := [_,_,_,_,_,_,_,_]) ?_
            refine LWo.move (e_int t5) rfl (hn := ?_)
            refine LWo.move (e_Limpl_Tally t4) rfl (hn := ?_)
            refine LWo.move (e_int t6) rfl (hn := ?_)
            refine bk h fun x27 e27 h => ?_
            refine LWo.indexM (f := e_impl_Tally) e27 u_Limpl_Tally s_impl_Tally rfl rfl (hn := ?_)
            refine LWo.fieldAddr _ u_impl_Tally rfl s_int rfl rfl (hn := ?_)
            refine LWo.load1 (c := (e_int x27.Rows)) g_int rfl (hn := ?_)
            refine bk h fun x28 e28 h => ?_
            refine LWo.int _ rfl rfl (add_ck e28) (hn := ?_)
            refine LWo.assign (e_int x28) rfl (hn := ?_)
            refine LWo.nil (hN26 _ ?_)
            refine LWP.region (l := [_,_,_]) ?_
            refine LWo.move (e_int t6) rfl (hn := ?_)
            refine bk h fun x29 e29 h => ?_
            refine LWo.int _ rfl rfl (add_ck e29) (hn := ?_)
            refine LWo.assign (e_int x29) rfl (hn := ?_)
            refine LWo.nil (hN21 (t3, t4, x28, x29) _ ⟨rfl, rfl, rfl, rfl, trivial⟩ trivial h)
          · have h := bF h25 h
            refine LWP.exit (hN19 (t3, t4, t5) _ ⟨rfl, rfl, rfl, trivial⟩ trivial h)
    · intro N11 hN11
      refine LWP.region (l := [_,_,_,_,_,_,_,_,_,_]) ?_
      refine LWo.move (e_Limpl_Tally x9) rfl (hn := ?_)
      refine LWo.move (e_LLimpl_Value x7) rfl (hn := ?_)
      refine bk h fun x12 e12 h => ?_
      refine LWo.vcall rfl rfl (c_spec_TalliesOf _ _ e12) (.same (.nil)) (hn := ?_)
      refine bk h fun x13 e13 h => ?_
      refine LWo.vcall rfl rfl (c_laws_sameTallies _ _ _ e13) (.same (.same (.nil))) (hn := ?_)
      refine LWo.not rfl (hn := ?_)
      refine LWo.move (e_bool (!x13)) rfl (hn := ?_)
      refine LWo.byCases (t := 19) _ rfl (fun h14 => ?_) (fun h14 => ?_)
      · have h := bT h14 h
        refine LWo.guardNU (t := 19) rfl h14 rfl rfl rfl rfl rfl ?_
        refine LWo.guardNU (t := 19) rfl h14 rfl rfl rfl rfl rfl ?_
        refine LWo.guardNU (t := 19) rfl h14 rfl rfl rfl rfl rfl ?_
        refine LWo.pickTM (e_bool true) rfl h14 rfl (hn := ?_)
        refine LWo.nil (hN11 (x7, x9, true) _ ⟨rfl, rfl, rfl, trivial⟩ trivial h)
      · have h := bF h14 h
        refine LWo.guardY (t := 19) rfl h14 rfl rfl ?_
        refine LWo.move (e_Limpl_Tally x9) rfl (hn := ?_)
        refine bk h fun x15 e15 h => ?_
        refine LWo.guardY (t := 19) rfl h14 rfl rfl ?_
        refine LWo.vcall rfl rfl (c_impl_TalliesOk _ _ e15) (.same (.nil)) (hn := ?_)
        refine LWo.guardY (t := 19) rfl h14 rfl rfl ?_
        refine LWo.not rfl (hn := ?_)
        refine LWo.pickFM (e_bool (!x15)) rfl h14 rfl (hn := ?_)
        refine LWo.nil (hN11 (x7, x9, (!x15)) _ ⟨rfl, rfl, rfl, trivial⟩ trivial h)
end Go.Proofs.Ytemfdnnhknepbaa
