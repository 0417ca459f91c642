/- Mirrors of functions, and that the functions return what the mirrors say. -/
import Derived.Test.YtemfdnnhknepbaaXW3
set_option linter.unusedVariables false
set_option linter.unusedSimpArgs false
namespace Go.Proofs.Ytemfdnnhknepbaa
open Go.Proofs Go.Lift Go.RowKit
def m_spec_RowOk_j1 (t0 : (List S_impl_Value)) : Option Bool :=
  some (decide ((t0.length : Int) ≤ (4 : Int)))
def m_spec_RowOk_l1 : Nat → (List S_impl_Value) → Int → Option Bool
  | 0, _, _ => none
  | n1 + 1, t0, t3 =>
    bif decide (t3 < (t0.length : Int)) then ((at? t0 t3).bind fun x11 =>
    (m_spec_ValueOk x11).bind fun x12 =>
    bif (!x12) then (some false)
    else ((ckI (t3 + (1 : Int))).bind fun x15 =>
    (m_spec_RowOk_l1  n1) t0 x15))
    else (m_spec_RowOk_j1  t0)
def m_spec_RowOk (a0 : (List S_impl_Value)) : Option Bool :=
  m_spec_RowOk_l1  (((a0.length : Int) - (0 : Int)).toNat + 1) a0 (0 : Int)
theorem c_spec_RowOk (a0 : (List S_impl_Value)) (r : Bool) (h : m_spec_RowOk a0 = some r) : Ret Try.prog f_spec_RowOk [e_Limpl_Value a0] (e_bool r) := by
  refine Does.goG [] F_spec_RowOk rfl e_spec_RowOk n_spec_RowOk rfl (rvs := [.tmp 2]) rfl rfl ?_
  intro w0 ok0 lent ρ0
  refine LWP.seq_k fun N1 hN1 => ?_
  refine LWP.region (l := [_]) ?_
  refine LWo.assign (e_bool false) rfl (hn := ?_)
  refine LWo.nil (hN1 _ ?_)
  refine LWP.join (α := (List S_impl_Value)) (fun z : (List S_impl_Value) => [(0, (e_Limpl_Value z))]) (fun z : (List S_impl_Value) => []) (fun z : (List S_impl_Value) => m_spec_RowOk_j1  z) r (fun _ => by simp [hkeys]) ?_ ?_
  · rintro t0 h
    replace h : m_spec_RowOk_j1  t0 = some _ := h
    refine LWP.seq_k fun N16 hN16 => ?_
    refine LWP.region (l := [_,_,_,_]) ?_
    refine LWo.move (e_Limpl_Value t0) rfl (hn := ?_)
    refine LWo.lenM (f := e_impl_Value) (l := t0) u_Limpl_Value rfl (hn := ?_)
    refine LWo.int _ rfl rfl rfl (hn := ?_)
    refine LWo.assign (e_bool (decide ((t0.length : Int) ≤ (4 : Int)))) rfl (hn := ?_)
    refine LWo.nil (hN16 _ ?_)
    obtain rfl := Option.some.inj h
    refine LWP.ret (QG.mk (.inr rfl) (.cons (.tmp (x := (e_bool (decide ((t0.length : Int) ≤ (4 : Int))))) rfl) (.nil)) (RetOK.one0 (.pure rfl) (by decide)) rfl rfl)
  · intro N2 hN2
    refine LWP.seq_k fun N3 hN3 => ?_
    refine LWP.region (l := [_]) ?_
    refine LWo.assign (e_int (0 : Int)) rfl (hn := ?_)
    refine LWo.nil (hN3 _ ?_)
    refine LWP.block ?_
    refine LWP.loopM (α := (List S_impl_Value) × Int) (fun z : (List S_impl_Value) × Int => [(0, (e_Limpl_Value z.1)), (3, (e_int z.2))]) (fun z : (List S_impl_Value) × Int => []) (fun n1 (z : (List S_impl_Value) × Int) => m_spec_RowOk_l1  n1 z.1 z.2) r _ (a0, (0 : Int)) h (fun _ => rfl) (fun _ => by simp [hkeys]) ⟨rfl, rfl, trivial⟩ trivial ?_
    rintro n1 ⟨t0, t3⟩ h N4 hN4
    replace h : m_spec_RowOk_l1  (n1 + 1) t0 t3 = some _ := h
    refine LWP.seq_k fun N6 hN6 => ?_
    refine LWP.seq_k fun N7 hN7 => ?_
    refine LWP.region (l := [_,_,_,_]) ?_
    refine LWo.move (e_int t3) rfl (hn := ?_)
    refine LWo.move (e_Limpl_Value t0) rfl (hn := ?_)
    refine LWo.lenM (f := e_impl_Value) (l := t0) u_Limpl_Value rfl (hn := ?_)
    refine LWo.int _ rfl rfl rfl (hn := ?_)
    refine LWo.nil (hN7 _ ?_)
    refine LWP.cond_split rfl (fun h8 => ?_) (fun h8 => ?_)
    · have h := bT h8 h
      refine LWP.skip (hN6 _ ?_)
      refine LWP.seq_k fun N9 hN9 => ?_
      refine LWP.block ?_
      refine LWP.seq_k fun N10 hN10 => ?_
      refine LWP.region (l := [_,_,_,_,_,_]) ?_
      refine LWo.move (e_Limpl_Value t0) rfl (hn := ?_)
      refine LWo.move (e_int t3) rfl (hn := ?_)
      refine bk h fun x11 e11 h => ?_
      refine LWo.indexM (f := e_impl_Value) e11 u_Limpl_Value s_impl_Value rfl rfl (hn := ?_)
      refine LWo.loadN ((e_impl_Value x11)).cells g_impl_Value s_impl_Value rfl (Nat.le_of_ble_eq_true rfl) rfl (hn := ?_)
      refine bk h fun x12 e12 h => ?_
      refine LWo.vcall rfl rfl (c_spec_ValueOk _ _ e12) (.same (.nil)) (hn := ?_)
      refine LWo.not rfl (hn := ?_)
      refine LWo.nil (hN10 _ ?_)
      refine LWP.cond_split rfl (fun h13 => ?_) (fun h13 => ?_)
      · have h := bT h13 h
        refine LWP.seq_k fun N14 hN14 => ?_
        refine LWP.region (l := [_]) ?_
        refine LWo.assign (e_bool false) rfl (hn := ?_)
        refine LWo.nil (hN14 _ ?_)
        obtain rfl := Option.some.inj h
        refine LWP.ret (QG.mk (.inr rfl) (.cons (.tmp (x := (e_bool false)) rfl) (.nil)) (RetOK.one0 (.pure rfl) (by decide)) rfl rfl)
      · have h := bF h13 h
        refine LWP.skip (hN9 _ ?_)
        refine LWP.region (l := [_,_,_]) ?_
        refine LWo.move (e_int t3) rfl (hn := ?_)
        refine bk h fun x15 e15 h => ?_
        refine LWo.int _ rfl rfl (add_ck e15) (hn := ?_)
        refine LWo.assign (e_int x15) rfl (hn := ?_)
        refine LWo.nil (hN4 (t0, x15) _ ⟨rfl, rfl, trivial⟩ trivial h)
    · have h := bF h8 h
      refine LWP.exit (hN2 t0 _ ⟨rfl, trivial⟩ trivial h)

def m_spec_RowFits_j3  : Option Bool :=
  some true
def m_spec_RowFits_j2 (k1 : (List S_impl_Column) → (List S_impl_Value) → Int → Option Bool) (t0 : (List S_impl_Column)) (t1 : (List S_impl_Value)) (t5 : Int) (t53 : Bool) : Option Bool :=
  bif t53 then (some false)
  else ((ckI (t5 + (1 : Int))).bind fun x27 =>
  k1 t0 t1 x27)
def m_spec_RowFits_l1 : Nat → (List S_impl_Column) → (List S_impl_Value) → Int → Option Bool
  | 0, _, _, _ => none
  | n1 + 1, t0, t1, t5 =>
    bif decide (t5 < (t1.length : Int)) then ((at? t1 t5).bind fun x19 =>
    (at? t0 t5).bind fun x20 =>
    bif (x19.Kind != x20.Kind) then ((at? t1 t5).bind fun x22 =>
      bif (x22.Kind != (0 : Int)) then (m_spec_RowFits_j2  (m_spec_RowFits_l1  n1) t0 t1 t5 true)
      else ((at? t0 t5).bind fun x24 =>
        m_spec_RowFits_j2  (m_spec_RowFits_l1  n1) t0 t1 t5 (!x24.Empty)))
    else (m_spec_RowFits_j2  (m_spec_RowFits_l1  n1) t0 t1 t5 false))
    else (m_spec_RowFits_j3  )
def m_spec_RowFits_j1 (t0 : (List S_impl_Column)) (t1 : (List S_impl_Value)) (t20 : Bool) : Option Bool :=
  bif t20 then (some false)
  else (m_spec_RowFits_l1  (((t1.length : Int) - (0 : Int)).toNat + 1) t0 t1 (0 : Int))
def m_spec_RowFits (a0 : (List S_impl_Column)) (a1 : (List S_impl_Value)) : Option Bool :=
  (m_spec_ColumnsOk a0).bind fun x4 =>
  bif (!x4) then (m_spec_RowFits_j1  a0 a1 true)
  else ((m_spec_RowOk a1).bind fun x6 =>
    bif (!x6) then (m_spec_RowFits_j1  a0 a1 true)
    else (m_spec_RowFits_j1  a0 a1 ((a1.length : Int) != (a0.length : Int))))
theorem c_spec_RowFits (a0 : (List S_impl_Column)) (a1 : (List S_impl_Value)) (r : Bool) (h : m_spec_RowFits a0 a1 = some r) : Ret Try.prog f_spec_RowFits [e_Limpl_Column a0, e_Limpl_Value a1] (e_bool r) := by
  refine Does.goG [] F_spec_RowFits rfl e_spec_RowFits n_spec_RowFits rfl (rvs := [.tmp 4]) rfl rfl ?_
  intro w0 ok0 lent ρ0
  refine LWP.seq_k fun N1 hN1 => ?_
  refine LWP.region (l := [_]) ?_
  refine LWo.assign (e_bool false) rfl (hn := ?_)
  refine LWo.nil (hN1 _ ?_)
  refine LWP.seq_k fun N2 hN2 => ?_
  refine LWP.join (α := (List S_impl_Column) × (List S_impl_Value) × Bool) (fun z : (List S_impl_Column) × (List S_impl_Value) × Bool => [(0, (e_Limpl_Column z.1)), (1, (e_Limpl_Value z.2.1)), (20, (e_bool z.2.2))]) (fun z : (List S_impl_Column) × (List S_impl_Value) × Bool => []) (fun z : (List S_impl_Column) × (List S_impl_Value) × Bool => m_spec_RowFits_j1  z.1 z.2.1 z.2.2) r (fun _ => by simp [hkeys]) ?_ ?_
  · rintro ⟨t0, t1, t20⟩ h
    replace h : m_spec_RowFits_j1  t0 t1 t20 = some _ := h
    refine LWP.cond_split rfl (fun h8 => ?_) (fun h8 => ?_)
    · have h := bT h8 h
      refine LWP.seq_k fun N9 hN9 => ?_
      refine LWP.region (l := [_]) ?_
      refine LWo.assign (e_bool false) rfl (hn := ?_)
      refine LWo.nil (hN9 _ ?_)
      obtain rfl := Option.some.inj h
      refine LWP.ret (QG.mk (.inr rfl) (.cons (.tmp (x := (e_bool false)) rfl) (.nil)) (RetOK.one0 (.pure rfl) (by decide)) rfl rfl)
    · have h := bF h8 h
      refine LWP.skip (hN2 _ ?_)
      refine LWP.join (α := Unit) (fun z : Unit => []) (fun z : Unit => []) (fun z : Unit => m_spec_RowFits_j3  ) r (fun _ => by simp [hkeys]) ?_ ?_
      · rintro _ h
        replace h : m_spec_RowFits_j3   = some _ := h
        refine LWP.seq_k fun N28 hN28 => ?_
        refine LWP.region (l := [_]) ?_
        refine LWo.assign (e_bool true) rfl (hn := ?_)
        refine LWo.nil (hN28 _ ?_)
        obtain rfl := Option.some.inj h
        refine LWP.ret (QG.mk (.inr rfl) (.cons (.tmp (x := (e_bool true)) rfl) (.nil)) (RetOK.one0 (.pure rfl) (by decide)) rfl rfl)
      · intro N10 hN10
        refine LWP.seq_k fun N11 hN11 => ?_
        refine LWP.region (l := [_]) ?_
        refine LWo.assign (e_int (0 : Int)) rfl (hn := ?_)
        refine LWo.nil (hN11 _ ?_)
        refine LWP.block ?_
        refine LWP.loopM (α := (List S_impl_Column) × (List S_impl_Value) × Int) (fun z : (List S_impl_Column) × (List S_impl_Value) × Int => [(0, (e_Limpl_Column z.1)), (1, (e_Limpl_Value z.2.1)), (5, (e_int z.2.2))]) (fun z : (List S_impl_Column) × (List S_impl_Value) × Int => []) (fun n1 (z : (List S_impl_Column) × (List S_impl_Value) × Int) => m_spec_RowFits_l1  n1 z.1 z.2.1 z.2.2) r _ (t0, t1, (0 : Int)) h (fun _ => rfl) (fun _ => by simp [hkeys]) ⟨rfl, rfl, rfl, trivial⟩ trivial ?_
        rintro n1 ⟨t0, t1, t5⟩ h N12 hN12
        replace h : m_spec_RowFits_l1  (n1 + 1) t0 t1 t5 = some _ := h
        refine LWP.seq_k fun N14 hN14 => ?_
        refine LWP.seq_k fun N15 hN15 => ?_
        refine LWP.region (l := [_,_,_,_]) ?_
        refine LWo.move (e_int t5) rfl (hn := ?_)
        refine LWo.move (e_Limpl_Value t1) rfl (hn := ?_)
        refine LWo.lenM (f := e_impl_Value) (l := t1) u_Limpl_Value rfl (hn := ?_)
        refine LWo.int _ rfl rfl rfl (hn := ?_)
        refine LWo.nil (hN15 _ ?_)
        refine LWP.cond_split rfl (fun h16 => ?_) (fun h16 => ?_)
        · have h := bT h16 h
          refine LWP.skip (hN14 _ ?_)
          refine LWP.seq_k fun N17 hN17 => ?_
          refine LWP.block ?_
          refine LWP.join (α := (List S_impl_Column) × (List S_impl_Value) × Int × Bool) (fun z : (List S_impl_Column) × (List S_impl_Value) × Int × Bool => [(0, (e_Limpl_Column z.1)), (1, (e_Limpl_Value z.2.1)), (5, (e_int z.2.2.1)), (53, (e_bool z.2.2.2))]) (fun z : (List S_impl_Column) × (List S_impl_Value) × Int × Bool => []) (fun z : (List S_impl_Column) × (List S_impl_Value) × Int × Bool => m_spec_RowFits_j2  (m_spec_RowFits_l1  n1) z.1 z.2.1 z.2.2.1 z.2.2.2) r (fun _ => by simp [hkeys]) ?_ ?_
          · rintro ⟨t0, t1, t5, t53⟩ h
            replace h : m_spec_RowFits_j2  (m_spec_RowFits_l1  n1) t0 t1 t5 t53 = some _ := h
            refine LWP.cond_split rfl (fun h25 => ?_) (fun h25 => ?_)
            · have h := bT h25 h
              refine LWP.seq_k fun N26 hN26 => ?_
              refine LWP.region (l := [_]) ?_
              refine LWo.assign (e_bool false) rfl (hn := ?_)
              refine LWo.nil (hN26 _ ?_)
              obtain rfl := Option.some.inj h
              refine LWP.ret (QG.mk (.inr rfl) (.cons (.tmp (x := (e_bool false)) rfl) (.nil)) (RetOK.one0 (.pure rfl) (by decide)) rfl rfl)
            · have h := bF h25 h
              refine LWP.skip (hN17 _ ?_)
              refine LWP.region (l := [_,_,_]) ?_
              refine LWo.move (e_int t5) rfl (hn := ?_)
              refine bk h fun x27 e27 h => ?_
              refine LWo.int _ rfl rfl (add_ck e27) (hn := ?_)
              refine LWo.assign (e_int x27) rfl (hn := ?_)
              refine LWo.nil (hN12 (t0, t1, x27) _ ⟨rfl, rfl, rfl, trivial⟩ trivial h)
          · intro N18 hN18
            refine bk h fun x19 e19 h => ?_
            refine bk h fun x20 e20 h => ?_
            refine bS ((x19.Kind != x20.Kind)) (fun h21 => ?_) (fun h21 => ?_)
            · have h := bT h21 h
              refine bk h fun x22 e22 h => ?_
              refine bS ((x22.Kind != (0 : Int))) (fun h23 => ?_) (fun h23 => ?_)
              · have h := bT h23 h
                refine LWP.drawE (l := [_,_,_,_,_,_,_,_,_,_,_,_,_,_,_,_,_,_,_,_,_,_,_,_,_,_,_]) [] [0, 1, 5] [([1], []), ([5], []), ([27, 28], []), ([29], []), ([30], []), ([0], []), ([5], []), ([32, 33], []), ([34], []), ([35], []), ([31, 36], []), ([37], []), ([1, 38], []), ([5, 38], []), ([38, 39, 40], []), ([38, 41], []), ([38, 42], []), ([38, 43], []), ([38, 44], []), ([0, 45], []), ([5, 45], []), ([45, 46, 47], []), ([45, 48], []), ([45, 49], []), ([45, 50], []), ([38, 45, 51], []), ([38, 52], [])] [0, 1, 5, 53] [] mixed (by kernel_rfl) rfl (by decide) ?_
                refine ⟨rfl, .put 27 _, trivial, fun u hg hu hh => LWo.move (e_Limpl_Value t1) hu.1 (hn := LWo.nil ⟨rfl, .inl rfl, hg⟩), ?_⟩
                refine ⟨rfl, .put 28 _, trivial, fun u hg hu hh => LWo.move (e_int t5) hu.1 (hn := LWo.nil ⟨rfl, .inl rfl, hg⟩), ?_⟩
                refine ⟨rfl, .put 29 _, trivial, fun u hg hu hh => LWo.indexM (f := e_impl_Value) e19 u_Limpl_Value s_impl_Value hu.1 hu.2.1 (hn := LWo.nil ⟨rfl, .inl rfl, hg⟩), ?_⟩
                refine ⟨rfl, .put 30 _, trivial, fun u hg hu hh => LWo.fieldAddr _ u_impl_Value rfl s_int hu.1 rfl (hn := LWo.nil ⟨rfl, .inl rfl, hg⟩), ?_⟩
                refine ⟨rfl, .put 31 _, trivial, fun u hg hu hh => LWo.load1 (c := (e_int x19.Kind)) g_int hu.1 (hn := LWo.nil ⟨rfl, .inl rfl, hg⟩), ?_⟩
                refine ⟨rfl, .put 32 _, trivial, fun u hg hu hh => LWo.move (e_Limpl_Column t0) hu.1 (hn := LWo.nil ⟨rfl, .inl rfl, hg⟩), ?_⟩
                refine ⟨rfl, .put 33 _, trivial, fun u hg hu hh => LWo.move (e_int t5) hu.1 (hn := LWo.nil ⟨rfl, .inl rfl, hg⟩), ?_⟩
                refine ⟨rfl, .put 34 _, trivial, fun u hg hu hh => LWo.indexM (f := e_impl_Column) e20 u_Limpl_Column s_impl_Column hu.1 hu.2.1 (hn := LWo.nil ⟨rfl, .inl rfl, hg⟩), ?_⟩
                refine ⟨rfl, .put 35 _, trivial, fun u hg hu hh => LWo.fieldAddr _ u_impl_Column rfl s_int hu.1 rfl (hn := LWo.nil ⟨rfl, .inl rfl, hg⟩), ?_⟩
                refine ⟨rfl, .put 36 _, trivial, fun u hg hu hh => LWo.load1 (c := (e_int x20.Kind)) g_int hu.1 (hn := LWo.nil ⟨rfl, .inl rfl, hg⟩), ?_⟩
                refine ⟨rfl, .put 37 _, trivial, fun u hg hu hh => LWo.int _ hu.1 hu.2.1 rfl (hn := LWo.nil ⟨rfl, .inl rfl, hg⟩), ?_⟩
                refine ⟨rfl, .put 38 _, trivial, fun u hg hu hh => LWo.move (e_bool (x19.Kind != x20.Kind)) hu.1 (hn := LWo.nil ⟨rfl, .inl rfl, hg⟩), ?_⟩
                refine ⟨rfl, .put 39 _, trivial, fun u hg hu hh => LWo.guardY (t := 38) hu.2.1 h21 rfl rfl (LWo.move (e_Limpl_Value t1) hu.1 (hn := LWo.nil ⟨rfl, .inl rfl, hg⟩)), ?_⟩
                refine ⟨rfl, .put 40 _, trivial, fun u hg hu hh => LWo.guardY (t := 38) hu.2.1 h21 rfl rfl (LWo.move (e_int t5) hu.1 (hn := LWo.nil ⟨rfl, .inl rfl, hg⟩)), ?_⟩
                refine ⟨rfl, .put 41 _, trivial, fun u hg hu hh => LWo.guardY (t := 38) hu.1 h21 rfl rfl (LWo.indexM (f := e_impl_Value) e22 u_Limpl_Value s_impl_Value hu.2.1 hu.2.2.1 (hn := LWo.nil ⟨rfl, .inl rfl, hg⟩)), ?_⟩
                refine ⟨rfl, .put 42 _, trivial, fun u hg hu hh => LWo.guardY (t := 38) hu.1 h21 rfl rfl (LWo.fieldAddr _ u_impl_Value rfl s_int hu.2.1 rfl (hn := LWo.nil ⟨rfl, .inl rfl, hg⟩)), ?_⟩
                refine ⟨rfl, .put 43 _, trivial, fun u hg hu hh => LWo.guardY (t := 38) hu.1 h21 rfl rfl (LWo.load1 (c := (e_int x22.Kind)) g_int hu.2.1 (hn := LWo.nil ⟨rfl, .inl rfl, hg⟩)), ?_⟩
                refine ⟨rfl, .put 44 _, trivial, fun u hg hu hh => LWo.guardY (t := 38) hu.1 h21 rfl rfl (LWo.int _ hu.2.1 rfl rfl (hn := LWo.nil ⟨rfl, .inl rfl, hg⟩)), ?_⟩
                refine ⟨rfl, .put 45 _, trivial, fun u hg hu hh => LWo.guardY (t := 38) hu.1 h21 rfl rfl (LWo.move (e_bool (x22.Kind != (0 : Int))) hu.2.1 (hn := LWo.nil ⟨rfl, .inl rfl, hg⟩)), ?_⟩
                refine ⟨rfl, .put 46 _, trivial, fun u hg hu hh => LWo.guardNU (t := 45) hu.2.1 h23 rfl rfl rfl rfl rfl (LWo.nil ⟨rfl, .inl rfl, hg⟩), ?_⟩
                refine ⟨rfl, .put 47 _, trivial, fun u hg hu hh => LWo.guardNU (t := 45) hu.2.1 h23 rfl rfl rfl rfl rfl (LWo.nil ⟨rfl, .inl rfl, hg⟩), ?_⟩
                refine ⟨rfl, .put 48 _, trivial, fun u hg hu hh => LWo.guardNU (t := 45) hu.1 h23 rfl rfl rfl rfl rfl (LWo.nil ⟨rfl, .inl rfl, hg⟩), ?_⟩
                refine ⟨rfl, .put 49 _, trivial, fun u hg hu hh => LWo.guardNU (t := 45) hu.1 h23 rfl rfl rfl rfl rfl (LWo.nil ⟨rfl, .inl rfl, hg⟩), ?_⟩
                refine ⟨rfl, .put 50 _, trivial, fun u hg hu hh => LWo.guardNU (t := 45) hu.1 h23 rfl rfl rfl rfl rfl (LWo.nil ⟨rfl, .inl rfl, hg⟩), ?_⟩
                refine ⟨rfl, .put 51 _, trivial, fun u hg hu hh => LWo.guardNU (t := 45) hu.1 h23 rfl rfl rfl rfl rfl (LWo.nil ⟨rfl, .inl rfl, hg⟩), ?_⟩
                refine ⟨rfl, .put 52 _, trivial, fun u hg hu hh => LWo.guardY (t := 38) hu.1 h21 rfl rfl (LWo.pickTM (e_bool true) hu.2.1 h23 rfl (hn := LWo.nil ⟨rfl, .inl rfl, hg⟩)), ?_⟩
                refine ⟨rfl, .put 53 _, trivial, fun u hg hu hh => LWo.pickTM (e_bool true) hu.1 h21 hu.2.1 (hn := LWo.nil ⟨rfl, .inl rfl, hg⟩), ?_⟩
                refine ⟨rfl, by kernel_rfl, hN18 (t0, t1, t5, true) _ ⟨rfl, rfl, rfl, rfl, trivial⟩ trivial h⟩
              · have h := bF h23 h
                refine bk h fun x24 e24 h => ?_
                refine LWP.drawE (l := [_,_,_,_,_,_,_,_,_,_,_,_,_,_,_,_,_,_,_,_,_,_,_,_,_,_,_]) [] [0, 1, 5] [([1], []), ([5], []), ([27, 28], []), ([29], []), ([30], []), ([0], []), ([5], []), ([32, 33], []), ([34], []), ([35], []), ([31, 36], []), ([37], []), ([1, 38], []), ([5, 38], []), ([38, 39, 40], []), ([38, 41], []), ([38, 42], []), ([38, 43], []), ([38, 44], []), ([0, 45], []), ([5, 45], []), ([45, 46, 47], []), ([45, 48], []), ([45, 49], []), ([45, 50], []), ([38, 45, 51], []), ([38, 52], [])] [0, 1, 5, 53] [] mixed (by kernel_rfl) rfl (by decide) ?_
                refine ⟨rfl, .put 27 _, trivial, fun u hg hu hh => LWo.move (e_Limpl_Value t1) hu.1 (hn := LWo.nil ⟨rfl, .inl rfl, hg⟩), ?_⟩
                refine ⟨rfl, .put 28 _, trivial, fun u hg hu hh => LWo.move (e_int t5) hu.1 (hn := LWo.nil ⟨rfl, .inl rfl, hg⟩), ?_⟩
                refine ⟨rfl, .put 29 _, trivial, fun u hg hu hh => LWo.indexM (f := e_impl_Value) e19 u_Limpl_Value s_impl_Value hu.1 hu.2.1 (hn := LWo.nil ⟨rfl, .inl rfl, hg⟩), ?_⟩
                refine ⟨rfl, .put 30 _, trivial, fun u hg hu hh => LWo.fieldAddr _ u_impl_Value rfl s_int hu.1 rfl (hn := LWo.nil ⟨rfl, .inl rfl, hg⟩), ?_⟩
                refine ⟨rfl, .put 31 _, trivial, fun u hg hu hh => LWo.load1 (c := (e_int x19.Kind)) g_int hu.1 (hn := LWo.nil ⟨rfl, .inl rfl, hg⟩), ?_⟩
                refine ⟨rfl, .put 32 _, trivial, fun u hg hu hh => LWo.move (e_Limpl_Column t0) hu.1 (hn := LWo.nil ⟨rfl, .inl rfl, hg⟩), ?_⟩
                refine ⟨rfl, .put 33 _, trivial, fun u hg hu hh => LWo.move (e_int t5) hu.1 (hn := LWo.nil ⟨rfl, .inl rfl, hg⟩), ?_⟩
                refine ⟨rfl, .put 34 _, trivial, fun u hg hu hh => LWo.indexM (f := e_impl_Column) e20 u_Limpl_Column s_impl_Column hu.1 hu.2.1 (hn := LWo.nil ⟨rfl, .inl rfl, hg⟩), ?_⟩
                refine ⟨rfl, .put 35 _, trivial, fun u hg hu hh => LWo.fieldAddr _ u_impl_Column rfl s_int hu.1 rfl (hn := LWo.nil ⟨rfl, .inl rfl, hg⟩), ?_⟩
                refine ⟨rfl, .put 36 _, trivial, fun u hg hu hh => LWo.load1 (c := (e_int x20.Kind)) g_int hu.1 (hn := LWo.nil ⟨rfl, .inl rfl, hg⟩), ?_⟩
                refine ⟨rfl, .put 37 _, trivial, fun u hg hu hh => LWo.int _ hu.1 hu.2.1 rfl (hn := LWo.nil ⟨rfl, .inl rfl, hg⟩), ?_⟩
                refine ⟨rfl, .put 38 _, trivial, fun u hg hu hh => LWo.move (e_bool (x19.Kind != x20.Kind)) hu.1 (hn := LWo.nil ⟨rfl, .inl rfl, hg⟩), ?_⟩
                refine ⟨rfl, .put 39 _, trivial, fun u hg hu hh => LWo.guardY (t := 38) hu.2.1 h21 rfl rfl (LWo.move (e_Limpl_Value t1) hu.1 (hn := LWo.nil ⟨rfl, .inl rfl, hg⟩)), ?_⟩
                refine ⟨rfl, .put 40 _, trivial, fun u hg hu hh => LWo.guardY (t := 38) hu.2.1 h21 rfl rfl (LWo.move (e_int t5) hu.1 (hn := LWo.nil ⟨rfl, .inl rfl, hg⟩)), ?_⟩
                refine ⟨rfl, .put 41 _, trivial, fun u hg hu hh => LWo.guardY (t := 38) hu.1 h21 rfl rfl (LWo.indexM (f := e_impl_Value) e22 u_Limpl_Value s_impl_Value hu.2.1 hu.2.2.1 (hn := LWo.nil ⟨rfl, .inl rfl, hg⟩)), ?_⟩
                refine ⟨rfl, .put 42 _, trivial, fun u hg hu hh => LWo.guardY (t := 38) hu.1 h21 rfl rfl (LWo.fieldAddr _ u_impl_Value rfl s_int hu.2.1 rfl (hn := LWo.nil ⟨rfl, .inl rfl, hg⟩)), ?_⟩
                refine ⟨rfl, .put 43 _, trivial, fun u hg hu hh => LWo.guardY (t := 38) hu.1 h21 rfl rfl (LWo.load1 (c := (e_int x22.Kind)) g_int hu.2.1 (hn := LWo.nil ⟨rfl, .inl rfl, hg⟩)), ?_⟩
                refine ⟨rfl, .put 44 _, trivial, fun u hg hu hh => LWo.guardY (t := 38) hu.1 h21 rfl rfl (LWo.int _ hu.2.1 rfl rfl (hn := LWo.nil ⟨rfl, .inl rfl, hg⟩)), ?_⟩
                refine ⟨rfl, .put 45 _, trivial, fun u hg hu hh => LWo.guardY (t := 38) hu.1 h21 rfl rfl (LWo.move (e_bool (x22.Kind != (0 : Int))) hu.2.1 (hn := LWo.nil ⟨rfl, .inl rfl, hg⟩)), ?_⟩
                refine ⟨rfl, .put 46 _, trivial, fun u hg hu hh => LWo.guardY (t := 45) hu.2.1 h23 rfl rfl (LWo.move (e_Limpl_Column t0) hu.1 (hn := LWo.nil ⟨rfl, .inl rfl, hg⟩)), ?_⟩
                refine ⟨rfl, .put 47 _, trivial, fun u hg hu hh => LWo.guardY (t := 45) hu.2.1 h23 rfl rfl (LWo.move (e_int t5) hu.1 (hn := LWo.nil ⟨rfl, .inl rfl, hg⟩)), ?_⟩
                refine ⟨rfl, .put 48 _, trivial, fun u hg hu hh => LWo.guardY (t := 45) hu.1 h23 rfl rfl (LWo.indexM (f := e_impl_Column) e24 u_Limpl_Column s_impl_Column hu.2.1 hu.2.2.1 (hn := LWo.nil ⟨rfl, .inl rfl, hg⟩)), ?_⟩
                refine ⟨rfl, .put 49 _, trivial, fun u hg hu hh => LWo.guardY (t := 45) hu.1 h23 rfl rfl (LWo.fieldAddr _ u_impl_Column rfl s_bool hu.2.1 rfl (hn := LWo.nil ⟨rfl, .inl rfl, hg⟩)), ?_⟩
                refine ⟨rfl, .put 50 _, trivial, fun u hg hu hh => LWo.guardY (t := 45) hu.1 h23 rfl rfl (LWo.load1 (c := (e_bool x24.Empty)) g_bool hu.2.1 (hn := LWo.nil ⟨rfl, .inl rfl, hg⟩)), ?_⟩
                refine ⟨rfl, .put 51 _, trivial, fun u hg hu hh => LWo.guardY (t := 45) hu.1 h23 rfl rfl (LWo.not hu.2.1 (hn := LWo.nil ⟨rfl, .inl rfl, hg⟩)), ?_⟩
                refine ⟨rfl, .put 52 _, trivial, fun u hg hu hh => LWo.guardY (t := 38) hu.1 h21 rfl rfl (LWo.pickFM (e_bool (!x24.Empty)) hu.2.1 h23 hu.2.2.1 (hn := LWo.nil ⟨rfl, .inl rfl, hg⟩)), ?_⟩
                refine ⟨rfl, .put 53 _, trivial, fun u hg hu hh => LWo.pickTM (e_bool (!x24.Empty)) hu.1 h21 hu.2.1 (hn := LWo.nil ⟨rfl, .inl rfl, hg⟩), ?_⟩
                refine ⟨rfl, by kernel_rfl, hN18 (t0, t1, t5, (!x24.Empty)) _ ⟨rfl, rfl, rfl, rfl, trivial⟩ trivial h⟩
            · have h := bF h21 h
              refine LWP.drawE (l := [_,_,_,_,_,_,_,_,_,_,_,_,_,_,_,_,_,_,_,_,_,_,_,_,_,_,_]) [] [0, 1, 5] [([1], []), ([5], []), ([27, 28], []), ([29], []), ([30], []), ([0], []), ([5], []), ([32, 33], []), ([34], []), ([35], []), ([31, 36], []), ([37], []), ([1, 38], []), ([5, 38], []), ([38, 39, 40], []), ([38, 41], []), ([38, 42], []), ([38, 43], []), ([38, 44], []), ([0, 45], []), ([5, 45], []), ([45, 46, 47], []), ([45, 48], []), ([45, 49], []), ([45, 50], []), ([38, 45, 51], []), ([38, 52], [])] [0, 1, 5, 53] [] mixed (by kernel_rfl) rfl (by decide) ?_
              refine ⟨rfl, .put 27 _, trivial, fun u hg hu hh => LWo.move (e_Limpl_Value t1) hu.1 (hn := LWo.nil ⟨rfl, .inl rfl, hg⟩), ?_⟩
              refine ⟨rfl, .put 28 _, trivial, fun u hg hu hh => LWo.move (e_int t5) hu.1 (hn := LWo.nil ⟨rfl, .inl rfl, hg⟩), ?_⟩
              refine ⟨rfl, .put 29 _, trivial, fun u hg hu hh => LWo.indexM (f := e_impl_Value) e19 u_Limpl_Value s_impl_Value hu.1 hu.2.1 (hn := LWo.nil ⟨rfl, .inl rfl, hg⟩), ?_⟩
              refine ⟨rfl, .put 30 _, trivial, fun u hg hu hh => LWo.fieldAddr _ u_impl_Value rfl s_int hu.1 rfl (hn := LWo.nil ⟨rfl, .inl rfl, hg⟩), ?_⟩
              refine ⟨rfl, .put 31 _, trivial, fun u hg hu hh => LWo.load1 (c := (e_int x19.Kind)) g_int hu.1 (hn := LWo.nil ⟨rfl, .inl rfl, hg⟩), ?_⟩
              refine ⟨rfl, .put 32 _, trivial, fun u hg hu hh => LWo.move (e_Limpl_Column t0) hu.1 (hn := LWo.nil ⟨rfl, .inl rfl, hg⟩), ?_⟩
              refine ⟨rfl, .put 33 _, trivial, fun u hg hu hh => LWo.move (e_int t5) hu.1 (hn := LWo.nil ⟨rfl, .inl rfl, hg⟩), ?_⟩
              refine ⟨rfl, .put 34 _, trivial, fun u hg hu hh => LWo.indexM (f := e_impl_Column) e20 u_Limpl_Column s_impl_Column hu.1 hu.2.1 (hn := LWo.nil ⟨rfl, .inl rfl, hg⟩), ?_⟩
              refine ⟨rfl, .put 35 _, trivial, fun u hg hu hh => LWo.fieldAddr _ u_impl_Column rfl s_int hu.1 rfl (hn := LWo.nil ⟨rfl, .inl rfl, hg⟩), ?_⟩
              refine ⟨rfl, .put 36 _, trivial, fun u hg hu hh => LWo.load1 (c := (e_int x20.Kind)) g_int hu.1 (hn := LWo.nil ⟨rfl, .inl rfl, hg⟩), ?_⟩
              refine ⟨rfl, .put 37 _, trivial, fun u hg hu hh => LWo.int _ hu.1 hu.2.1 rfl (hn := LWo.nil ⟨rfl, .inl rfl, hg⟩), ?_⟩
              refine ⟨rfl, .put 38 _, trivial, fun u hg hu hh => LWo.move (e_bool (x19.Kind != x20.Kind)) hu.1 (hn := LWo.nil ⟨rfl, .inl rfl, hg⟩), ?_⟩
              refine ⟨rfl, .put 39 _, trivial, fun u hg hu hh => LWo.guardNU (t := 38) hu.2.1 h21 rfl rfl rfl rfl rfl (LWo.nil ⟨rfl, .inl rfl, hg⟩), ?_⟩
              refine ⟨rfl, .put 40 _, trivial, fun u hg hu hh => LWo.guardNU (t := 38) hu.2.1 h21 rfl rfl rfl rfl rfl (LWo.nil ⟨rfl, .inl rfl, hg⟩), ?_⟩
              refine ⟨rfl, .put 41 _, trivial, fun u hg hu hh => LWo.guardNU (t := 38) hu.1 h21 rfl rfl rfl rfl rfl (LWo.nil ⟨rfl, .inl rfl, hg⟩), ?_⟩
              refine ⟨rfl, .put 42 _, trivial, fun u hg hu hh => LWo.guardNU (t := 38) hu.1 h21 rfl rfl rfl rfl rfl (LWo.nil ⟨rfl, .inl rfl, hg⟩), ?_⟩
              refine ⟨rfl, .put 43 _, trivial, fun u hg hu hh => LWo.guardNU (t := 38) hu.1 h21 rfl rfl rfl rfl rfl (LWo.nil ⟨rfl, .inl rfl, hg⟩), ?_⟩
              refine ⟨rfl, .put 44 _, trivial, fun u hg hu hh => LWo.guardNU (t := 38) hu.1 h21 rfl rfl rfl rfl rfl (LWo.nil ⟨rfl, .inl rfl, hg⟩), ?_⟩
              refine ⟨rfl, .put 45 _, trivial, fun u hg hu hh => LWo.guardNU (t := 38) hu.1 h21 rfl rfl rfl rfl rfl (LWo.nil ⟨rfl, .inl rfl, hg⟩), ?_⟩
              refine ⟨rfl, .put 46 _, trivial, fun u hg hu hh => LWo.guardU (t := 45) hu.2.1 rfl rfl rfl rfl (LWo.nil ⟨rfl, .inl rfl, hg⟩), ?_⟩
              refine ⟨rfl, .put 47 _, trivial, fun u hg hu hh => LWo.guardU (t := 45) hu.2.1 rfl rfl rfl rfl (LWo.nil ⟨rfl, .inl rfl, hg⟩), ?_⟩
              refine ⟨rfl, .put 48 _, trivial, fun u hg hu hh => LWo.guardU (t := 45) hu.1 rfl rfl rfl rfl (LWo.nil ⟨rfl, .inl rfl, hg⟩), ?_⟩
              refine ⟨rfl, .put 49 _, trivial, fun u hg hu hh => LWo.guardU (t := 45) hu.1 rfl rfl rfl rfl (LWo.nil ⟨rfl, .inl rfl, hg⟩), ?_⟩
              refine ⟨rfl, .put 50 _, trivial, fun u hg hu hh => LWo.guardU (t := 45) hu.1 rfl rfl rfl rfl (LWo.nil ⟨rfl, .inl rfl, hg⟩), ?_⟩
              refine ⟨rfl, .put 51 _, trivial, fun u hg hu hh => LWo.guardU (t := 45) hu.1 rfl rfl rfl rfl (LWo.nil ⟨rfl, .inl rfl, hg⟩), ?_⟩
              refine ⟨rfl, .put 52 _, trivial, fun u hg hu hh => LWo.guardNU (t := 38) hu.1 h21 rfl rfl rfl rfl rfl (LWo.nil ⟨rfl, .inl rfl, hg⟩), ?_⟩
              refine ⟨rfl, .put 53 _, trivial, fun u hg hu hh => LWo.pickFM (e_bool false) hu.1 h21 rfl (hn := LWo.nil ⟨rfl, .inl rfl, hg⟩), ?_⟩
              refine ⟨rfl, by kernel_rfl, hN18 (t0, t1, t5, false) _ ⟨rfl, rfl, rfl, rfl, trivial⟩ trivial h⟩
        · have h := bF h16 h
          refine LWP.exit (hN10 () _ trivial trivial h)
  · intro N3 hN3
    refine LWP.region (l := [_,_,_,_,_,_,_,_,_,_,_,_,_,_,_]) ?_
    refine LWo.move (e_Limpl_Column a0) rfl (hn := ?_)
    refine bk h fun x4 e4 h => ?_
    refine LWo.vcall rfl rfl (c_spec_ColumnsOk _ _ e4) (.same (.nil)) (hn := ?_)
    refine LWo.not rfl (hn := ?_)
    refine LWo.move (e_bool (!x4)) rfl (hn := ?_)
    refine LWo.byCases (t := 9) _ rfl (fun h5 => ?_) (fun h5 => ?_)
    · have h := bT h5 h
      refine LWo.guardNU (t := 9) rfl h5 rfl rfl rfl rfl rfl ?_
      refine LWo.guardNU (t := 9) rfl h5 rfl rfl rfl rfl rfl ?_
      refine LWo.guardNU (t := 9) rfl h5 rfl rfl rfl rfl rfl ?_
      refine LWo.pickTM (e_bool true) rfl h5 rfl (hn := ?_)
      refine LWo.move (e_bool true) rfl (hn := ?_)
      refine LWo.guardNU (t := 14) rfl rfl rfl rfl rfl rfl rfl ?_
      refine LWo.guardNU (t := 14) rfl rfl rfl rfl rfl rfl rfl ?_
      refine LWo.guardNU (t := 14) rfl rfl rfl rfl rfl rfl rfl ?_
      refine LWo.guardNU (t := 14) rfl rfl rfl rfl rfl rfl rfl ?_
      refine LWo.guardNU (t := 14) rfl rfl rfl rfl rfl rfl rfl ?_
      refine LWo.pickTM (e_bool true) rfl rfl rfl (hn := ?_)
      refine LWo.nil (hN3 (a0, a1, true) _ ⟨rfl, rfl, rfl, trivial⟩ trivial h)
    · have h := bF h5 h
      refine LWo.guardY (t := 9) rfl h5 rfl rfl ?_
      refine LWo.move (e_Limpl_Value a1) rfl (hn := ?_)
      refine bk h fun x6 e6 h => ?_
      refine LWo.guardY (t := 9) rfl h5 rfl rfl ?_
      refine LWo.vcall rfl rfl (c_spec_RowOk _ _ e6) (.same (.nil)) (hn := ?_)
      refine LWo.guardY (t := 9) rfl h5 rfl rfl ?_
      refine LWo.not rfl (hn := ?_)
      refine LWo.pickFM (e_bool (!x6)) rfl h5 rfl (hn := ?_)
      refine LWo.move (e_bool (!x6)) rfl (hn := ?_)
      refine LWo.byCases (t := 14) _ rfl (fun h7 => ?_) (fun h7 => ?_)
      · have h := bT h7 h
        refine LWo.guardNU (t := 14) rfl h7 rfl rfl rfl rfl rfl ?_
        refine LWo.guardNU (t := 14) rfl h7 rfl rfl rfl rfl rfl ?_
        refine LWo.guardNU (t := 14) rfl h7 rfl rfl rfl rfl rfl ?_
        refine LWo.guardNU (t := 14) rfl h7 rfl rfl rfl rfl rfl ?_
        refine LWo.guardNU (t := 14) rfl h7 rfl rfl rfl rfl rfl ?_
        refine LWo.pickTM (e_bool true) rfl h7 rfl (hn := ?_)
        refine LWo.nil (hN3 (a0, a1, true) _ ⟨rfl, rfl, rfl, trivial⟩ trivial h)
      · have h := bF h7 h
        refine LWo.guardY (t := 14) rfl h7 rfl rfl ?_
        refine LWo.move (e_Limpl_Value a1) rfl (hn := ?_)
        refine LWo.guardY (t := 14) rfl h7 rfl rfl ?_
        refine LWo.lenM (f := e_impl_Value) (l := a1) u_Limpl_Value rfl (hn := ?_)
        refine LWo.guardY (t := 14) rfl h7 rfl rfl ?_
        refine LWo.move (e_Limpl_Column a0) rfl (hn := ?_)
        refine LWo.guardY (t := 14) rfl h7 rfl rfl ?_
        refine LWo.lenM (f := e_impl_Column) (l := a0) u_Limpl_Column rfl (hn := ?_)
        refine LWo.guardY (t := 14) rfl h7 rfl rfl ?_
        refine LWo.int _ rfl rfl rfl (hn := ?_)
        refine LWo.pickFM (e_bool ((a1.length : Int) != (a0.length : Int))) rfl h7 rfl (hn := ?_)
        refine LWo.nil (hN3 (a0, a1, ((a1.length : Int) != (a0.length : Int))) _ ⟨rfl, rfl, rfl, trivial⟩ trivial h)

def m_spec_RowsOk_j1 (t0 : (List S_impl_Column)) : Option Bool :=
  (m_spec_ColumnsOk t0).bind fun x17 =>
  some x17
def m_spec_RowsOk_l1 : Nat → (List S_impl_Column) → (List (List S_impl_Value)) → Int → Option Bool
  | 0, _, _, _ => none
  | n1 + 1, t0, t1, t5 =>
    bif decide (t5 < (t1.length : Int)) then ((at? t1 t5).bind fun x11 =>
    (m_spec_RowFits t0 x11).bind fun x12 =>
    bif (!x12) then (some false)
    else ((ckI (t5 + (1 : Int))).bind fun x15 =>
    (m_spec_RowsOk_l1  n1) t0 t1 x15))
    else (m_spec_RowsOk_j1  t0)
def m_spec_RowsOk (a0 : (List S_impl_Column)) (a1 : (List (List S_impl_Value))) : Option Bool :=
  m_spec_RowsOk_l1  (((a1.length : Int) - (0 : Int)).toNat + 1) a0 a1 (0 : Int)
theorem c_spec_RowsOk (a0 : (List S_impl_Column)) (a1 : (List (List S_impl_Value))) (r : Bool) (h : m_spec_RowsOk a0 a1 = some r) : Ret Try.prog f_spec_RowsOk [e_Limpl_Column a0, e_LLimpl_Value a1] (e_bool r) := by
  refine Does.goG [] F_spec_RowsOk rfl e_spec_RowsOk n_spec_RowsOk rfl (rvs := [.tmp 4]) rfl rfl ?_
  intro w0 ok0 lent ρ0
  refine LWP.seq_k fun N1 hN1 => ?_
  refine LWP.region (l := [_]) ?_
  refine LWo.assign (e_bool false) rfl (hn := ?_)
  refine LWo.nil (hN1 _ ?_)
  refine LWP.join (α := (List S_impl_Column)) (fun z : (List S_impl_Column) => [(0, (e_Limpl_Column z))]) (fun z : (List S_impl_Column) => []) (fun z : (List S_impl_Column) => m_spec_RowsOk_j1  z) r (fun _ => by simp [hkeys]) ?_ ?_
  · rintro t0 h
    replace h : m_spec_RowsOk_j1  t0 = some _ := h
    refine LWP.seq_k fun N16 hN16 => ?_
    refine LWP.region (l := [_,_,_]) ?_
    refine LWo.move (e_Limpl_Column t0) rfl (hn := ?_)
    refine bk h fun x17 e17 h => ?_
    refine LWo.vcall rfl rfl (c_spec_ColumnsOk _ _ e17) (.same (.nil)) (hn := ?_)
    refine LWo.assign (e_bool x17) rfl (hn := ?_)
    refine LWo.nil (hN16 _ ?_)
    obtain rfl := Option.some.inj h
    refine LWP.ret (QG.mk (.inr rfl) (.cons (.tmp (x := (e_bool x17)) rfl) (.nil)) (RetOK.one0 (.pure rfl) (by decide)) rfl rfl)
  · intro N2 hN2
    refine LWP.seq_k fun N3 hN3 => ?_
    refine LWP.region (l := [_]) ?_
    refine LWo.assign (e_int (0 : Int)) rfl (hn := ?_)
    refine LWo.nil (hN3 _ ?_)
    refine LWP.block ?_
    refine LWP.loopM (α := (List S_impl_Column) × (List (List S_impl_Value)) × Int) (fun z : (List S_impl_Column) × (List (List S_impl_Value)) × Int => [(0, (e_Limpl_Column z.1)), (1, (e_LLimpl_Value z.2.1)), (5, (e_int z.2.2))]) (fun z : (List S_impl_Column) × (List (List S_impl_Value)) × Int => []) (fun n1 (z : (List S_impl_Column) × (List (List S_impl_Value)) × Int) => m_spec_RowsOk_l1  n1 z.1 z.2.1 z.2.2) r _ (a0, a1, (0 : Int)) h (fun _ => rfl) (fun _ => by simp [hkeys]) ⟨rfl, rfl, rfl, trivial⟩ trivial ?_
    rintro n1 ⟨t0, t1, t5⟩ h N4 hN4
    replace h : m_spec_RowsOk_l1  (n1 + 1) t0 t1 t5 = some _ := h
    refine LWP.seq_k fun N6 hN6 => ?_
    refine LWP.seq_k fun N7 hN7 => ?_
    refine LWP.region (l := [_,_,_,_]) ?_
    refine LWo.move (e_int t5) rfl (hn := ?_)
    refine LWo.move (e_LLimpl_Value t1) rfl (hn := ?_)
    refine LWo.lenM (f := e_Limpl_Value) (l := t1) u_LLimpl_Value rfl (hn := ?_)
    refine LWo.int _ rfl rfl rfl (hn := ?_)
    refine LWo.nil (hN7 _ ?_)
    refine LWP.cond_split rfl (fun h8 => ?_) (fun h8 => ?_)
    · have h := bT h8 h
      refine LWP.skip (hN6 _ ?_)
      refine LWP.seq_k fun N9 hN9 => ?_
      refine LWP.block ?_
      refine LWP.seq_k fun N10 hN10 => ?_
      refine LWP.region (l := [_,_,_,_,_,_,_]) ?_
      refine LWo.move (e_Limpl_Column t0) rfl (hn := ?_)
      refine LWo.move (e_LLimpl_Value t1) rfl (hn := ?_)
      refine LWo.move (e_int t5) rfl (hn := ?_)
      refine bk h fun x11 e11 h => ?_
      refine LWo.indexM (f := e_Limpl_Value) e11 u_LLimpl_Value s_Limpl_Value rfl rfl (hn := ?_)
      refine LWo.load1 (c := (e_Limpl_Value x11)) g_Limpl_Value rfl (hn := ?_)
      refine bk h fun x12 e12 h => ?_
      refine LWo.vcall rfl rfl (c_spec_RowFits _ _ _ e12) (.same (.same (.nil))) (hn := ?_)
      refine LWo.not rfl (hn := ?_)
      refine LWo.nil (hN10 _ ?_)
      refine LWP.cond_split rfl (fun h13 => ?_) (fun h13 => ?_)
      · have h := bT h13 h
        refine LWP.seq_k fun N14 hN14 => ?_
        refine LWP.region (l := [_]) ?_
        refine LWo.assign (e_bool false) rfl (hn := ?_)
        refine LWo.nil (hN14 _ ?_)
        obtain rfl := Option.some.inj h
        refine LWP.ret (QG.mk (.inr rfl) (.cons (.tmp (x := (e_bool false)) rfl) (.nil)) (RetOK.one0 (.pure rfl) (by decide)) rfl rfl)
      · have h := bF h13 h
        refine LWP.skip (hN9 _ ?_)
        refine LWP.region (l := [_,_,_]) ?_
        refine LWo.move (e_int t5) rfl (hn := ?_)
        refine bk h fun x15 e15 h => ?_
        refine LWo.int _ rfl rfl (add_ck e15) (hn := ?_)
        refine LWo.assign (e_int x15) rfl (hn := ?_)
        refine LWo.nil (hN4 (t0, t1, x15) _ ⟨rfl, rfl, rfl, trivial⟩ trivial h)
    · have h := bF h8 h
      refine LWP.exit (hN2 t0 _ ⟨rfl, trivial⟩ trivial h)

def m_spec_l1Less (a0 : Int) (a1 : Int) : Option Int :=
  bif decide (a0 < a1) then (some (1 : Int))
  else (some (0 : Int))
theorem c_spec_l1Less (a0 : Int) (a1 : Int) (r : Int) (h : m_spec_l1Less a0 a1 = some r) : Ret Try.prog f_spec_l1Less [e_int a0, e_int a1] (e_int r) := by
  refine Does.goG [] F_spec_l1Less rfl e_spec_l1Less n_spec_l1Less rfl (rvs := [.tmp 4]) rfl rfl ?_
  intro w0 ok0 lent ρ0
  refine LWP.seq_k fun N1 hN1 => ?_
  refine LWP.region (l := [_]) ?_
  refine LWo.assign (e_int (0 : Int)) rfl (hn := ?_)
  refine LWo.nil (hN1 _ ?_)
  refine LWP.seq_k fun N2 hN2 => ?_
  refine LWP.seq_k fun N3 hN3 => ?_
  refine LWP.region (l := [_,_,_]) ?_
  refine LWo.move (e_int a0) rfl (hn := ?_)
  refine LWo.move (e_int a1) rfl (hn := ?_)
  refine LWo.int _ rfl rfl rfl (hn := ?_)
  refine LWo.nil (hN3 _ ?_)
  refine LWP.cond_split rfl (fun h4 => ?_) (fun h4 => ?_)
  · have h := bT h4 h
    refine LWP.seq_k fun N5 hN5 => ?_
    refine LWP.region (l := [_]) ?_
    refine LWo.assign (e_int (1 : Int)) rfl (hn := ?_)
    refine LWo.nil (hN5 _ ?_)
    obtain rfl := Option.some.inj h
    refine LWP.ret (QG.mk (.inr rfl) (.cons (.tmp (x := (e_int (1 : Int))) rfl) (.nil)) (RetOK.one0 (.pure rfl) (by decide)) rfl rfl)
  · have h := bF h4 h
    refine LWP.skip (hN2 _ ?_)
    refine LWP.seq_k fun N6 hN6 => ?_
    refine LWP.region (l := [_]) ?_
    refine LWo.assign (e_int (0 : Int)) rfl (hn := ?_)
    refine LWo.nil (hN6 _ ?_)
    obtain rfl := Option.some.inj h
    refine LWP.ret (QG.mk (.inr rfl) (.cons (.tmp (x := (e_int (0 : Int))) rfl) (.nil)) (RetOK.one0 (.pure rfl) (by decide)) rfl rfl)

def m_spec_l1Cmp (a0 : ByteArray) (a1 : ByteArray) : Option Int :=
  bif (sLt a0 a1) then (some (-1 : Int))
  else (bif (!(sLt a0 a1 || sEq a0 a1)) then (some (1 : Int))
  else (some (0 : Int)))
theorem c_spec_l1Cmp (a0 : ByteArray) (a1 : ByteArray) (r : Int) (h : m_spec_l1Cmp a0 a1 = some r) : Ret Try.prog f_spec_l1Cmp [e_string a0, e_string a1] (e_int r) := by
  refine Does.goG [] F_spec_l1Cmp rfl e_spec_l1Cmp n_spec_l1Cmp rfl (rvs := [.tmp 4]) rfl rfl ?_
  intro w0 ok0 lent ρ0
  refine LWP.seq_k fun N1 hN1 => ?_
  refine LWP.region (l := [_]) ?_
  refine LWo.assign (e_int (0 : Int)) rfl (hn := ?_)
  refine LWo.nil (hN1 _ ?_)
  refine LWP.seq_k fun N2 hN2 => ?_
  refine LWP.seq_k fun N3 hN3 => ?_
  refine LWP.region (l := [_,_,_]) ?_
  refine LWo.move (e_string a0) rfl (hn := ?_)
  refine LWo.move (e_string a1) rfl (hn := ?_)
  refine LWo.str _ rfl rfl rfl (hn := ?_)
  refine LWo.nil (hN3 _ ?_)
  refine LWP.cond_split rfl (fun h4 => ?_) (fun h4 => ?_)
  · have h := bT h4 h
    refine LWP.seq_k fun N5 hN5 => ?_
    refine LWP.region (l := [_]) ?_
    refine LWo.assign (e_int (-1 : Int)) rfl (hn := ?_)
    refine LWo.nil (hN5 _ ?_)
    obtain rfl := Option.some.inj h
    refine LWP.ret (QG.mk (.inr rfl) (.cons (.tmp (x := (e_int (-1 : Int))) rfl) (.nil)) (RetOK.one0 (.pure rfl) (by decide)) rfl rfl)
  · have h := bF h4 h
    refine LWP.skip (hN2 _ ?_)
    refine LWP.seq_k fun N6 hN6 => ?_
    refine LWP.seq_k fun N7 hN7 => ?_
    refine LWP.region (l := [_,_,_]) ?_
    refine LWo.move (e_string a0) rfl (hn := ?_)
    refine LWo.move (e_string a1) rfl (hn := ?_)
    refine LWo.str _ rfl rfl rfl (hn := ?_)
    refine LWo.nil (hN7 _ ?_)
    refine LWP.cond_split rfl (fun h8 => ?_) (fun h8 => ?_)
    · have h := bT h8 h
      refine LWP.seq_k fun N9 hN9 => ?_
      refine LWP.region (l := [_]) ?_
      refine LWo.assign (e_int (1 : Int)) rfl (hn := ?_)
      refine LWo.nil (hN9 _ ?_)
      obtain rfl := Option.some.inj h
      refine LWP.ret (QG.mk (.inr rfl) (.cons (.tmp (x := (e_int (1 : Int))) rfl) (.nil)) (RetOK.one0 (.pure rfl) (by decide)) rfl rfl)
    · have h := bF h8 h
      refine LWP.skip (hN6 _ ?_)
      refine LWP.seq_k fun N10 hN10 => ?_
      refine LWP.region (l := [_]) ?_
      refine LWo.assign (e_int (0 : Int)) rfl (hn := ?_)
      refine LWo.nil (hN10 _ ?_)
      obtain rfl := Option.some.inj h
      refine LWP.ret (QG.mk (.inr rfl) (.cons (.tmp (x := (e_int (0 : Int))) rfl) (.nil)) (RetOK.one0 (.pure rfl) (by decide)) rfl rfl)

def m_spec_ValueOrder_j1 (t2 : S_impl_Value) (t3 : S_impl_Value) (t12 : Bool) : Option Int :=
  bif t12 then (some (0 : Int))
  else (bif (t2.Kind != t3.Kind) then ((m_spec_l1Less t3.Kind t2.Kind).bind fun x13 =>
  (ckI ((2 : Int) * x13)).bind fun x14 =>
  (ckI (x14 - (1 : Int))).bind fun x15 =>
  some x15)
  else (bif (t2.N != t3.N) then ((m_spec_l1Less t3.N t2.N).bind fun x19 =>
    (ckI ((2 : Int) * x19)).bind fun x20 =>
    (ckI (x20 - (1 : Int))).bind fun x21 =>
    some x21)
  else ((m_spec_l1Cmp t2.S t3.S).bind fun x23 =>
  some x23)))
def m_spec_ValueOrder (a0 : S_impl_Value) (a1 : S_impl_Value) : Option Int :=
  (m_spec_ValueOk a0).bind fun x4 =>
  bif (!x4) then (m_spec_ValueOrder_j1  a0 a1 true)
  else ((m_spec_ValueOk a1).bind fun x6 =>
    m_spec_ValueOrder_j1  a0 a1 (!x6))
theorem c_spec_ValueOrder (a0 : S_impl_Value) (a1 : S_impl_Value) (r : Int) (h : m_spec_ValueOrder a0 a1 = some r) : Ret Try.prog f_spec_ValueOrder [e_impl_Value a0, e_impl_Value a1] (e_int r) := by
  refine Does.goG [] F_spec_ValueOrder rfl e_spec_ValueOrder n_spec_ValueOrder rfl (rvs := [.tmp 4]) rfl rfl ?_
  intro w0 ok0 lent ρ0
  refine LWP.seq_k fun N1 hN1 => ?_
  refine LWP.region (l := [_,_,_]) ?_
  refine LWo.boxF (e_impl_Value a0) rfl rfl rfl (hn := ?_)
  refine LWo.boxF (e_impl_Value a1) rfl rfl rfl (hn := ?_)
  refine LWo.assign (e_int (0 : Int)) rfl (hn := ?_)
  refine LWo.nil (hN1 _ ?_)
  refine LWP.seq_k fun N2 hN2 => ?_
  refine LWP.join (α := S_impl_Value × S_impl_Value × Bool) (fun z : S_impl_Value × S_impl_Value × Bool => [(2, (.fp (e_impl_Value z.1).cells)), (3, (.fp (e_impl_Value z.2.1).cells)), (12, (e_bool z.2.2))]) (fun z : S_impl_Value × S_impl_Value × Bool => []) (fun z : S_impl_Value × S_impl_Value × Bool => m_spec_ValueOrder_j1  z.1 z.2.1 z.2.2) r (fun _ => by simp [hkeys]) ?_ ?_
  · rintro ⟨t2, t3, t12⟩ h
    replace h : m_spec_ValueOrder_j1  t2 t3 t12 = some _ := h
    refine LWP.cond_split rfl (fun h7 => ?_) (fun h7 => ?_)
    · have h := bT h7 h
      refine LWP.seq_k fun N8 hN8 => ?_
      refine LWP.region (l := [_]) ?_
      refine LWo.assign (e_int (0 : Int)) rfl (hn := ?_)
      refine LWo.nil (hN8 _ ?_)
      obtain rfl := Option.some.inj h
      refine LWP.ret (QG.mk (.inr rfl) (.cons (.tmp (x := (e_int (0 : Int))) rfl) (.nil)) (RetOK.one0 (.pure rfl) (by decide)) rfl rfl)
    · have h := bF h7 h
      refine LWP.skip (hN2 _ ?_)
      refine LWP.seq_k fun N9 hN9 => ?_
      refine LWP.block ?_
      refine LWP.seq_k fun N10 hN10 => ?_
      refine LWP.region (l := [_,_,_,_,_,_]) ?_
      refine LWo.fieldAddr _ u_impl_Value rfl s_int rfl rfl (hn := ?_)
      refine LWo.load1 (c := (e_int t2.Kind)) g_int rfl (hn := ?_)
      refine LWo.fieldAddr _ u_impl_Value rfl s_int rfl rfl (hn := ?_)
      refine LWo.load1 (c := (e_int t3.Kind)) g_int rfl (hn := ?_)
      refine LWo.int _ rfl rfl rfl (hn := ?_)
      refine LWo.assign (e_bool (t2.Kind != t3.Kind)) rfl (hn := ?_)
      refine LWo.nil (hN10 _ ?_)
      refine LWP.cond_split rfl (fun h11 => ?_) (fun h11 => ?_)
      · have h := bT h11 h
        refine LWP.seq_k fun N12 hN12 => ?_
        refine LWP.region (l := [_,_,_,_,_,_,_,_]) ?_
        refine LWo.fieldAddr _ u_impl_Value rfl s_int rfl rfl (hn := ?_)
        refine LWo.load1 (c := (e_int t3.Kind)) g_int rfl (hn := ?_)
        refine LWo.fieldAddr _ u_impl_Value rfl s_int rfl rfl (hn := ?_)
        refine LWo.load1 (c := (e_int t2.Kind)) g_int rfl (hn := ?_)
        refine bk h fun x13 e13 h => ?_
        refine LWo.vcall rfl rfl (c_spec_l1Less _ _ _ e13) (.same (.same (.nil))) (hn := ?_)
        refine bk h fun x14 e14 h => ?_
        refine LWo.int _ rfl rfl (mul_ck e14) (hn := ?_)
        refine bk h fun x15 e15 h => ?_
        refine LWo.int _ rfl rfl (sub_ck e15) (hn := ?_)
        refine LWo.assign (e_int x15) rfl (hn := ?_)
        refine LWo.nil (hN12 _ ?_)
        obtain rfl := Option.some.inj h
        refine LWP.ret (QG.mk (.inr rfl) (.cons (.tmp (x := (e_int x15)) rfl) (.nil)) (RetOK.one0 (.pure rfl) (by decide)) rfl rfl)
      · have h := bF h11 h
        refine LWP.seq_k fun N16 hN16 => ?_
        refine LWP.region (l := [_,_,_,_,_,_]) ?_
        refine LWo.fieldAddr _ u_impl_Value rfl s_int rfl rfl (hn := ?_)
        refine LWo.load1 (c := (e_int t2.N)) g_int rfl (hn := ?_)
        refine LWo.fieldAddr _ u_impl_Value rfl s_int rfl rfl (hn := ?_)
        refine LWo.load1 (c := (e_int t3.N)) g_int rfl (hn := ?_)
        refine LWo.int _ rfl rfl rfl (hn := ?_)
        refine LWo.assign (e_bool (t2.N != t3.N)) rfl (hn := ?_)
        refine LWo.nil (hN16 _ ?_)
        refine LWP.cond_split rfl (fun h17 => ?_) (fun h17 => ?_)
        · have h := bT h17 h
          refine LWP.seq_k fun N18 hN18 => ?_
          refine LWP.region (l := [_,_,_,_,_,_,_,_]) ?_
          refine LWo.fieldAddr _ u_impl_Value rfl s_int rfl rfl (hn := ?_)
          refine LWo.load1 (c := (e_int t3.N)) g_int rfl (hn := ?_)
          refine LWo.fieldAddr _ u_impl_Value rfl s_int rfl rfl (hn := ?_)
          refine LWo.load1 (c := (e_int t2.N)) g_int rfl (hn := ?_)
          refine bk h fun x19 e19 h => ?_
          refine LWo.vcall rfl rfl (c_spec_l1Less _ _ _ e19) (.same (.same (.nil))) (hn := ?_)
          refine bk h fun x20 e20 h => ?_
          refine LWo.int _ rfl rfl (mul_ck e20) (hn := ?_)
          refine bk h fun x21 e21 h => ?_
          refine LWo.int _ rfl rfl (sub_ck e21) (hn := ?_)
          refine LWo.assign (e_int x21) rfl (hn := ?_)
          refine LWo.nil (hN18 _ ?_)
          obtain rfl := Option.some.inj h
          refine LWP.ret (QG.mk (.inr rfl) (.cons (.tmp (x := (e_int x21)) rfl) (.nil)) (RetOK.one0 (.pure rfl) (by decide)) rfl rfl)
        · have h := bF h17 h
          refine LWP.skip (hN9 _ ?_)
          refine LWP.seq_k fun N22 hN22 => ?_
          refine LWP.region (l := [_,_,_,_,_,_]) ?_
          refine LWo.fieldAddr _ u_impl_Value rfl s_string rfl rfl (hn := ?_)
          refine LWo.load1 (c := (e_string t2.S)) g_string rfl (hn := ?_)
          refine LWo.fieldAddr _ u_impl_Value rfl s_string rfl rfl (hn := ?_)
          refine LWo.load1 (c := (e_string t3.S)) g_string rfl (hn := ?_)
          refine bk h fun x23 e23 h => ?_
          refine LWo.vcall rfl rfl (c_spec_l1Cmp _ _ _ e23) (.same (.same (.nil))) (hn := ?_)
          refine LWo.assign (e_int x23) rfl (hn := ?_)
          refine LWo.nil (hN22 _ ?_)
          obtain rfl := Option.some.inj h
          refine LWP.ret (QG.mk (.inr rfl) (.cons (.tmp (x := (e_int x23)) rfl) (.nil)) (RetOK.one0 (.pure rfl) (by decide)) rfl rfl)
  · intro N3 hN3
    refine LWP.region (l := [_,_,_,_,_,_,_,_]) ?_
    refine LWo.loadN ((e_impl_Value a0)).cells g_impl_Value s_impl_Value rfl (Nat.le_of_ble_eq_true rfl) rfl (hn := ?_)
    refine bk h fun x4 e4 h => ?_
    refine LWo.vcall rfl rfl (c_spec_ValueOk _ _ e4) (.same (.nil)) (hn := ?_)
    refine LWo.not rfl (hn := ?_)
    refine LWo.move (e_bool (!x4)) rfl (hn := ?_)
    refine LWo.byCases (t := 8) _ rfl (fun h5 => ?_) (fun h5 => ?_)
    · have h := bT h5 h
      refine LWo.guardNU (t := 8) rfl h5 rfl rfl rfl rfl rfl ?_
      refine LWo.guardNU (t := 8) rfl h5 rfl rfl rfl rfl rfl ?_
      refine LWo.guardNU (t := 8) rfl h5 rfl rfl rfl rfl rfl ?_
      refine LWo.pickTM (e_bool true) rfl h5 rfl (hn := ?_)
      refine LWo.nil (hN3 (a0, a1, true) _ ⟨rfl, rfl, rfl, trivial⟩ trivial h)
    · have h := bF h5 h
      refine LWo.guardY (t := 8) rfl h5 rfl rfl ?_
      refine LWo.loadN ((e_impl_Value a1)).cells g_impl_Value s_impl_Value rfl (Nat.le_of_ble_eq_true rfl) rfl (hn := ?_)
      refine bk h fun x6 e6 h => ?_
      refine LWo.guardY (t := 8) rfl h5 rfl rfl ?_
      refine LWo.vcall rfl rfl (c_spec_ValueOk _ _ e6) (.same (.nil)) (hn := ?_)
      refine LWo.guardY (t := 8) rfl h5 rfl rfl ?_
      refine LWo.not rfl (hn := ?_)
      refine LWo.pickFM (e_bool (!x6)) rfl h5 rfl (hn := ?_)
      refine LWo.nil (hN3 (a0, a1, (!x6)) _ ⟨rfl, rfl, rfl, trivial⟩ trivial h)

def m_spec_ByColumn_j5 (o1011 : (List (List S_impl_Value))) : Option (List (List S_impl_Value)) :=
  some o1011
def m_spec_ByColumn_j4 (k1 : (List (List S_impl_Value)) → Int → Int → (List (List S_impl_Value)) → Option (List (List S_impl_Value))) (t1 : (List (List S_impl_Value))) (t2 : Int) (t8 : Int) (o1056 : (List (List S_impl_Value))) : Option (List (List S_impl_Value)) :=
  (ckI (t8 + (1 : Int))).bind fun x43 =>
  k1 t1 t2 x43 o1056
def m_spec_ByColumn_j3 (k1 : (List (List S_impl_Value)) → Int → Int → (List (List S_impl_Value)) → Option (List (List S_impl_Value))) (t1 : (List (List S_impl_Value))) (t2 : Int) (t8 : Int) (t9 : Int) (o1011 : (List (List S_impl_Value))) : Option (List (List S_impl_Value)) :=
  (cut? o1011 (0 : Int) t9).bind fun x36 =>
  (app? ([] : (List (List S_impl_Value))) x36).bind fun x37 =>
  (at? t1 t8).bind fun x38 =>
  (m_spec_l3Own x38).bind fun x39 =>
  (app? x37 ([x39] : (List (List S_impl_Value)))).bind fun x40 =>
  (cut? o1011 t9 (o1011.length : Int)).bind fun x41 =>
  (app? x40 x41).bind fun x42 =>
  m_spec_ByColumn_j4  k1 t1 t2 t8 x42
def m_spec_ByColumn_j2 (k1 : (List (List S_impl_Value)) → Int → Int → (List (List S_impl_Value)) → Option (List (List S_impl_Value))) (k2 : (List (List S_impl_Value)) → Int → Int → Int → (List (List S_impl_Value)) → Option (List (List S_impl_Value))) (t1 : (List (List S_impl_Value))) (t2 : Int) (t8 : Int) (t9 : Int) (t53 : Bool) (o1011 : (List (List S_impl_Value))) : Option (List (List S_impl_Value)) :=
  bif t53 then ((ckI (t9 - (1 : Int))).bind fun x34 =>
  k2 t1 t2 t8 x34 o1011)
  else (m_spec_ByColumn_j3  k1 t1 t2 t8 t9 o1011)
def m_spec_ByColumn_l2 (k1 : (List (List S_impl_Value)) → Int → Int → (List (List S_impl_Value)) → Option (List (List S_impl_Value))) : Nat → (List (List S_impl_Value)) → Int → Int → Int → (List (List S_impl_Value)) → Option (List (List S_impl_Value))
  | 0, _, _, _, _, _ => none
  | n2 + 1, t1, t2, t8, t9, o1011 =>
    bif decide (t9 > (0 : Int)) then ((ckI (t9 - (1 : Int))).bind fun x26 =>
      (at? o1011 x26).bind fun x27 =>
      (at? o1011 x26).bind fun x28 =>
      (at? x28 t2).bind fun x29 =>
      (at? t1 t8).bind fun x30 =>
      (at? x30 t2).bind fun x31 =>
      (m_spec_ValueOrder x29 x31).bind fun x32 =>
      m_spec_ByColumn_j2  k1 (m_spec_ByColumn_l2  k1 n2) t1 t2 t8 t9 (decide (x32 > (0 : Int))) o1011)
    else (m_spec_ByColumn_j2  k1 (m_spec_ByColumn_l2  k1 n2) t1 t2 t8 t9 false o1011)
def m_spec_ByColumn_l1 : Nat → (List (List S_impl_Value)) → Int → Int → (List (List S_impl_Value)) → Option (List (List S_impl_Value))
  | 0, _, _, _, _ => none
  | n1 + 1, t1, t2, t8, o1011 =>
    bif decide (t8 < (t1.length : Int)) then (m_spec_ByColumn_l2  (m_spec_ByColumn_l1  n1) (1000000000) t1 t2 t8 (o1011.length : Int) o1011)
    else (m_spec_ByColumn_j5  o1011)
def m_spec_ByColumn_j1 (t1 : (List (List S_impl_Value))) (t2 : Int) (t23 : Bool) (o1011 : (List (List S_impl_Value))) : Option (List (List S_impl_Value)) :=
  bif t23 then (some o1011)
  else (m_spec_ByColumn_l1  (((t1.length : Int) - (0 : Int)).toNat + 1) t1 t2 (0 : Int) o1011)
def m_spec_ByColumn (a0 : (List S_impl_Column)) (a1 : (List (List S_impl_Value))) (a2 : Int) : Option (List (List S_impl_Value)) :=
  (m_spec_RowsOk a0 a1).bind fun x5 =>
  bif (!x5) then (m_spec_ByColumn_j1  a1 a2 true ([] : (List (List S_impl_Value))))
  else ((ckI ((a0.length : Int) - (1 : Int))).bind fun x7 =>
    (m_spec_l1In a2 (0 : Int) x7).bind fun x8 =>
    m_spec_ByColumn_j1  a1 a2 (!x8) ([] : (List (List S_impl_Value))))
theorem c_spec_ByColumn (a0 : (List S_impl_Column)) (a1 : (List (List S_impl_Value))) (a2 : Int) (r : (List (List S_impl_Value))) (h : m_spec_ByColumn a0 a1 a2 = some r) : Ret Try.prog f_spec_ByColumn [e_Limpl_Column a0, e_LLimpl_Value a1, e_int a2] (.nw 1 (r.map e_Limpl_Value) false) := by
  refine Does.goG [] F_spec_ByColumn rfl e_spec_ByColumn n_spec_ByColumn rfl (rvs := [.tmp 6]) rfl rfl ?_
  intro w0 ok0 lent ρ0
  refine LWP.seq_k fun N1 hN1 => ?_
  refine LWP.region (l := [_]) ?_
  refine LWo.assign _ rfl (hn := ?_)
  refine LWo.ownNil 6 1006 1 rfl rfl rfl ?_
  refine LWo.known 6 (.own 1006 0 ([] : (List (List S_impl_Value))).length) rfl ?_
  refine LWo.nil (hN1 _ ?_)
  refine LWP.seq_k fun N2 hN2 => ?_
  refine LWP.region (l := [_,_]) ?_
  refine LWo.lit0 1011 u_LLimpl_Value s_Limpl_Value z_Limpl_Value (hn := ?_)
  refine LWo.known 11 (.own 1011 0 ([] : (List (List S_impl_Value))).length) rfl ?_
  refine LWo.assign (.own 1011 0 (([] : (List (List S_impl_Value)))).length) rfl (hn := ?_)
  refine LWo.nil (hN2 _ ?_)
  refine LWP.seq_k fun N3 hN3 => ?_
  refine LWP.join (α := (List (List S_impl_Value)) × Int × Bool × (List (List S_impl_Value))) (fun z : (List (List S_impl_Value)) × Int × Bool × (List (List S_impl_Value)) => [(1, (e_LLimpl_Value z.1)), (2, (e_int z.2.1)), (7, (.own 1011 0 (z.2.2.2).length)), (23, (e_bool z.2.2.1))]) (fun z : (List (List S_impl_Value)) × Int × Bool × (List (List S_impl_Value)) => [(1011, (lob 1 e_Limpl_Value z.2.2.2))]) (fun z : (List (List S_impl_Value)) × Int × Bool × (List (List S_impl_Value)) => m_spec_ByColumn_j1  z.1 z.2.1 z.2.2.1 z.2.2.2) r (fun _ => by simp [hkeys]) ?_ ?_
  · rintro ⟨t1, t2, t23, o1011⟩ h
    replace h : m_spec_ByColumn_j1  t1 t2 t23 o1011 = some _ := h
    refine LWP.cond_split rfl (fun h9 => ?_) (fun h9 => ?_)
    · have h := bT h9 h
      refine LWP.seq_k fun N10 hN10 => ?_
      refine LWP.region (l := [_,_]) ?_
      refine LWo.move (.own 1011 0 (o1011).length) rfl (hn := ?_)
      refine LWo.assign (.own 1011 0 (o1011).length) rfl (hn := ?_)
      refine LWo.nil (hN10 _ ?_)
      obtain rfl := Option.some.inj h
      refine LWP.ret (QG.mk (.inr rfl) (.cons (.tmp (x := (.own 1011 0 (o1011).length)) rfl) (.nil)) (RetOK.one0 (.nwM rfl rfl) (by decide)) rfl rfl)
    · have h := bF h9 h
      refine LWP.skip (hN3 _ ?_)
      refine LWP.join (α := (List (List S_impl_Value))) (fun z : (List (List S_impl_Value)) => [(7, (.own 1011 0 (z).length))]) (fun z : (List (List S_impl_Value)) => [(1011, (lob 1 e_Limpl_Value z))]) (fun z : (List (List S_impl_Value)) => m_spec_ByColumn_j5  z) r (fun _ => by simp [hkeys]) ?_ ?_
      · rintro o1011 h
        replace h : m_spec_ByColumn_j5  o1011 = some _ := h
        refine LWP.seq_k fun N44 hN44 => ?_
        refine LWP.region (l := [_,_]) ?_
        refine LWo.move (.own 1011 0 (o1011).length) rfl (hn := ?_)
        refine LWo.assign (.own 1011 0 (o1011).length) rfl (hn := ?_)
        refine LWo.nil (hN44 _ ?_)
        obtain rfl := Option.some.inj h
        refine LWP.ret (QG.mk (.inr rfl) (.cons (.tmp (x := (.own 1011 0 (o1011).length)) rfl) (.nil)) (RetOK.one0 (.nwM rfl rfl) (by decide)) rfl rfl)
      · intro N11 hN11
        refine LWP.seq_k fun N12 hN12 => ?_
        refine LWP.region (l := [_]) ?_
        refine LWo.assign (e_int (0 : Int)) rfl (hn := ?_)
        refine LWo.nil (hN12 _ ?_)
        refine LWP.block ?_
        refine LWP.loopM (α := (List (List S_impl_Value)) × Int × Int × (List (List S_impl_Value))) (fun z : (List (List S_impl_Value)) × Int × Int × (List (List S_impl_Value)) => [(1, (e_LLimpl_Value z.1)), (2, (e_int z.2.1)), (7, (.own 1011 0 (z.2.2.2).length)), (8, (e_int z.2.2.1))]) (fun z : (List (List S_impl_Value)) × Int × Int × (List (List S_impl_Value)) => [(1011, (lob 1 e_Limpl_Value z.2.2.2))]) (fun n1 (z : (List (List S_impl_Value)) × Int × Int × (List (List S_impl_Value))) => m_spec_ByColumn_l1  n1 z.1 z.2.1 z.2.2.1 z.2.2.2) r _ (t1, t2, (0 : Int), o1011) h (fun _ => rfl) (fun _ => by simp [hkeys]) ⟨rfl, rfl, rfl, rfl, trivial⟩ ⟨rfl, trivial⟩ ?_
        rintro n1 ⟨t1, t2, t8, o1011⟩ h N13 hN13
        replace h : m_spec_ByColumn_l1  (n1 + 1) t1 t2 t8 o1011 = some _ := h
        refine LWP.seq_k fun N15 hN15 => ?_
        refine LWP.seq_k fun N16 hN16 => ?_
        refine LWP.region (l := [_,_,_,_]) ?_
        refine LWo.move (e_int t8) rfl (hn := ?_)
        refine LWo.move (e_LLimpl_Value t1) rfl (hn := ?_)
        refine LWo.lenM (f := e_Limpl_Value) (l := t1) u_LLimpl_Value rfl (hn := ?_)
        refine LWo.int _ rfl rfl rfl (hn := ?_)
        refine LWo.nil (hN16 _ ?_)
        refine LWP.cond_split rfl (fun h17 => ?_) (fun h17 => ?_)
        · have h := bT h17 h
          refine LWP.skip (hN15 _ ?_)
          refine LWP.join (α := (List (List S_impl_Value)) × Int × Int × (List (List S_impl_Value))) (fun z : (List (List S_impl_Value)) × Int × Int × (List (List S_impl_Value)) => [(1, (e_LLimpl_Value z.1)), (2, (e_int z.2.1)), (7, (.own 1056 0 (z.2.2.2).length)), (8, (e_int z.2.2.1))]) (fun z : (List (List S_impl_Value)) × Int × Int × (List (List S_impl_Value)) => [(1056, (lob 1 e_Limpl_Value z.2.2.2))]) (fun z : (List (List S_impl_Value)) × Int × Int × (List (List S_impl_Value)) => m_spec_ByColumn_j4  (m_spec_ByColumn_l1  n1) z.1 z.2.1 z.2.2.1 z.2.2.2) r (fun _ => by simp [hkeys]) ?_ ?_
          · rintro ⟨t1, t2, t8, o1056⟩ h
            replace h : m_spec_ByColumn_j4  (m_spec_ByColumn_l1  n1) t1 t2 t8 o1056 = some _ := h
            refine LWP.region (l := [_,_,_]) ?_
            refine LWo.move (e_int t8) rfl (hn := ?_)
            refine bk h fun x43 e43 h => ?_
            refine LWo.int _ rfl rfl (add_ck e43) (hn := ?_)
            refine LWo.assign (e_int x43) rfl (hn := ?_)
            refine LWo.rekey 7 1056 1011 rfl rfl rfl rfl rfl rfl ?_
            refine LWo.nil (hN13 (t1, t2, x43, o1056) _ ⟨rfl, rfl, rfl, rfl, trivial⟩ ⟨rfl, trivial⟩ h)
          · intro N18 hN18
            refine LWP.block ?_
            refine LWP.seq_k fun N19 hN19 => ?_
            refine LWP.region (l := [_,_,_]) ?_
            refine LWo.move (.own 1011 0 (o1011).length) rfl (hn := ?_)
            refine LWo.lenO u_LLimpl_Value rfl (hn := ?_)
            refine LWo.assign (e_int (o1011.length : Int)) rfl (hn := ?_)
            refine LWo.nil (hN19 _ ?_)
            refine LWP.join (α := (List (List S_impl_Value)) × Int × Int × Int × (List (List S_impl_Value))) (fun z : (List (List S_impl_Value)) × Int × Int × Int × (List (List S_impl_Value)) => [(1, (e_LLimpl_Value z.1)), (2, (e_int z.2.1)), (7, (.own 1011 0 (z.2.2.2.2).length)), (8, (e_int z.2.2.1)), (9, (e_int z.2.2.2.1))]) (fun z : (List (List S_impl_Value)) × Int × Int × Int × (List (List S_impl_Value)) => [(1011, (lob 1 e_Limpl_Value z.2.2.2.2))]) (fun z : (List (List S_impl_Value)) × Int × Int × Int × (List (List S_impl_Value)) => m_spec_ByColumn_j3  (m_spec_ByColumn_l1  n1) z.1 z.2.1 z.2.2.1 z.2.2.2.1 z.2.2.2.2) r (fun _ => by simp [hkeys]) ?_ ?_
            · rintro ⟨t1, t2, t8, t9, o1011⟩ h
              replace h : m_spec_ByColumn_j3  (m_spec_ByColumn_l1  n1) t1 t2 t8 t9 o1011 = some _ := h
              refine LWP.seq_k fun N35 hN35 => ?_
              refine LWP.region (l := [_,_,_,_,_,_]) ?_
              refine LWo.lit0 1056 u_LLimpl_Value s_Limpl_Value z_Limpl_Value (hn := ?_)
              refine LWo.known 56 (.own 1056 0 ([] : (List (List S_impl_Value))).length) rfl ?_
              refine LWo.move (.own 1011 0 (o1011).length) rfl (hn := ?_)
              refine LWo.move (e_int t9) rfl (hn := ?_)
              refine bk h fun x36 e36 h => ?_
              refine LWo.frzL (f := e_Limpl_Value) (l := o1011) [7, 57] 1011 rfl rfl ⟨rfl, rfl, trivial⟩ ?_
              refine LWo.cutM (f := e_Limpl_Value) e36 u_LLimpl_Value s_Limpl_Value rfl rfl ⟨_, rfl⟩ (hn := ?_)
              refine bk h fun x37 e37 h => ?_
              refine LWo.appendM (f := e_Limpl_Value) e37 rfl u_LLimpl_Value u_LLimpl_Value (fun _ h => by cases h) s_Limpl_Value i_Limpl_Value rfl rfl rfl (.sl rfl) rfl rfl (hn := ?_)
              refine LWo.assign (.own 1056 0 (x37).length) rfl (hn := ?_)
              refine LWo.nil (hN35 _ ?_)
              refine bk h fun x38 e38 h => ?_
              refine bk h fun x39 e39 h => ?_
              refine bk h fun x40 e40 h => ?_
              refine bk h fun x41 e41 h => ?_
              refine bk h fun x42 e42 h => ?_
              refine LWP.drawE (l := [_,_,_,_,_,_,_,_,_,_,_,_,_]) [1056] [1, 2, 7, 8, 9, 10] [([10], []), ([1], []), ([8], []), ([62, 63], []), ([64], []), ([65], []), ([66], []), ([61, 67], [1056]), ([7], []), ([9], []), ([69, 70], []), ([68, 71], [1056]), ([72], [])] [1, 2, 7, 8] [1056] mixed (by kernel_rfl) rfl (by decide) ?_
              refine ⟨rfl, .put 61 _, trivial, fun u hg hu hh => LWo.move (.own 1056 0 (x37).length) hu.1 (hn := LWo.nil ⟨rfl, .inl rfl, hg⟩), ?_⟩
              refine ⟨rfl, .put 62 _, trivial, fun u hg hu hh => LWo.move (e_LLimpl_Value t1) hu.1 (hn := LWo.nil ⟨rfl, .inl rfl, hg⟩), ?_⟩
              refine ⟨rfl, .put 63 _, trivial, fun u hg hu hh => LWo.move (e_int t8) hu.1 (hn := LWo.nil ⟨rfl, .inl rfl, hg⟩), ?_⟩
              refine ⟨rfl, .put 64 _, trivial, fun u hg hu hh => LWo.indexM (f := e_Limpl_Value) e38 u_LLimpl_Value s_Limpl_Value hu.1 hu.2.1 (hn := LWo.nil ⟨rfl, .inl rfl, hg⟩), ?_⟩
              refine ⟨rfl, .put 65 _, trivial, fun u hg hu hh => LWo.load1 (c := (e_Limpl_Value x38)) g_Limpl_Value hu.1 (hn := LWo.nil ⟨rfl, .inl rfl, hg⟩), ?_⟩
              refine ⟨rfl, .put 66 _, trivial, fun u hg hu hh => LWo.vcall rfl (av1 hu.1) (c_spec_l3Own _ _ e39) (.same (.nil)) (hn := LWo.nil ⟨rfl, .inl rfl, hg⟩), ?_⟩
              refine ⟨rfl, .put 67 _, trivial, fun u hg hu hh => LWo.lit (ops := [_]) [(e_Limpl_Value x39)] u_LLimpl_Value s_Limpl_Value z_Limpl_Value (lv1 hu.1) rfl rfl rfl rfl rfl (hn := LWo.nil ⟨rfl, .inl rfl, hg⟩), ?_⟩
              refine ⟨rfl, .make 68 _ 1056 _, (by exact (goodC rfl goodN)), fun u hg hu hh => LWo.appendM (f := e_Limpl_Value) e40 rfl u_LLimpl_Value u_LLimpl_Value (fun _ h => by cases h) s_Limpl_Value i_Limpl_Value rfl hu.1 hh.1 (.sl hu.2.1) (lone_of hg rfl) rfl (hn := LWo.nil ⟨rfl, .inl rfl, Ef.good_ok (e := .make 68 _ 1056 _) (by exact (goodC rfl goodN)) hg⟩), ?_⟩
              refine ⟨rfl, .put 69 _, trivial, fun u hg hu hh => LWo.move (e_LLimpl_Value o1011) hu.1 (hn := LWo.nil ⟨rfl, .inl rfl, hg⟩), ?_⟩
              refine ⟨rfl, .put 70 _, trivial, fun u hg hu hh => LWo.move (e_int t9) hu.1 (hn := LWo.nil ⟨rfl, .inl rfl, hg⟩), ?_⟩
              refine ⟨rfl, .put 71 _, trivial, fun u hg hu hh => LWo.cutM (f := e_Limpl_Value) e41 u_LLimpl_Value s_Limpl_Value hu.1 ⟨_, hu.2.1⟩ rfl (hn := LWo.nil ⟨rfl, .inl rfl, hg⟩), ?_⟩
              refine ⟨rfl, .make 72 _ 1056 _, (by exact (goodC rfl goodN)), fun u hg hu hh => LWo.appendM (f := e_Limpl_Value) e42 rfl u_LLimpl_Value u_LLimpl_Value (fun _ h => by cases h) s_Limpl_Value i_Limpl_Value rfl hu.1 hh.1 (.sl hu.2.1) (lone_of hg rfl) rfl (hn := LWo.nil ⟨rfl, .inl rfl, Ef.good_ok (e := .make 72 _ 1056 _) (by exact (goodC rfl goodN)) hg⟩), ?_⟩
              refine ⟨rfl, .put 7 _, trivial, fun u hg hu hh => LWo.assign (.own 1056 0 (x42).length) hu.1 (hn := LWo.nil ⟨rfl, .inl rfl, hg⟩), ?_⟩
              refine ⟨rfl, by kernel_rfl, hN18 (t1, t2, t8, x42) _ ⟨rfl, rfl, rfl, rfl, trivial⟩ ⟨rfl, trivial⟩ h⟩
            · intro N20 hN20
              refine LWP.block ?_
              refine LWP.loopM (α := (List (List S_impl_Value)) × Int × Int × Int × (List (List S_impl_Value))) (fun z : (List (List S_impl_Value)) × Int × Int × Int × (List (List S_impl_Value)) => [(1, (e_LLimpl_Value z.1)), (2, (e_int z.2.1)), (7, (.own 1011 0 (z.2.2.2.2).length)), (8, (e_int z.2.2.1)), (9, (e_int z.2.2.2.1))]) (fun z : (List (List S_impl_Value)) × Int × Int × Int × (List (List S_impl_Value)) => [(1011, (lob 1 e_Limpl_Value z.2.2.2.2))]) (fun n2 (z : (List (List S_impl_Value)) × Int × Int × Int × (List (List S_impl_Value))) => m_spec_ByColumn_l2  (m_spec_ByColumn_l1  n1) n2 z.1 z.2.1 z.2.2.1 z.2.2.2.1 z.2.2.2.2) r _ (t1, t2, t8, (o1011.length : Int), o1011) h (fun _ => rfl) (fun _ => by simp [hkeys]) ⟨rfl, rfl, rfl, rfl, rfl, trivial⟩ ⟨rfl, trivial⟩ ?_
              rintro n2 ⟨t1, t2, t8, t9, o1011⟩ h N21 hN21
              replace h : m_spec_ByColumn_l2  (m_spec_ByColumn_l1  n1) (n2 + 1) t1 t2 t8 t9 o1011 = some _ := h
              refine LWP.seq_k fun N23 hN23 => ?_
              refine LWP.join (α := (List (List S_impl_Value)) × Int × Int × Int × Bool × (List (List S_impl_Value))) (fun z : (List (List S_impl_Value)) × Int × Int × Int × Bool × (List (List S_impl_Value)) => [(1, (e_LLimpl_Value z.1)), (2, (e_int z.2.1)), (7, (.own 1011 0 (z.2.2.2.2.2).length)), (8, (e_int z.2.2.1)), (9, (e_int z.2.2.2.1)), (53, (e_bool z.2.2.2.2.1))]) (fun z : (List (List S_impl_Value)) × Int × Int × Int × Bool × (List (List S_impl_Value)) => [(1011, (lob 1 e_Limpl_Value z.2.2.2.2.2))]) (fun z : (List (List S_impl_Value)) × Int × Int × Int × Bool × (List (List S_impl_Value)) => m_spec_ByColumn_j2  (m_spec_ByColumn_l1  n1) (m_spec_ByColumn_l2  (m_spec_ByColumn_l1  n1) n2) z.1 z.2.1 z.2.2.1 z.2.2.2.1 z.2.2.2.2.1 z.2.2.2.2.2) r (fun _ => by simp [hkeys]) ?_ ?_
              · rintro ⟨t1, t2, t8, t9, t53, o1011⟩ h
                replace h : m_spec_ByColumn_j2  (m_spec_ByColumn_l1  n1) (m_spec_ByColumn_l2  (m_spec_ByColumn_l1  n1) n2) t1 t2 t8 t9 t53 o1011 = some _ := h
                refine LWP.cond_split rfl (fun h33 => ?_) (fun h33 => ?_)
                · have h := bT h33 h
                  refine LWP.skip (hN23 _ ?_)
                  refine LWP.block ?_
                  refine LWP.region (l := [_,_,_]) ?_
                  refine LWo.move (e_int t9) rfl (hn := ?_)
                  refine bk h fun x34 e34 h => ?_
                  refine LWo.int _ rfl rfl (sub_ck e34) (hn := ?_)
                  refine LWo.assign (e_int x34) rfl (hn := ?_)
                  refine LWo.nil (hN21 (t1, t2, t8, x34, o1011) _ ⟨rfl, rfl, rfl, rfl, rfl, trivial⟩ ⟨rfl, trivial⟩ h)
                · have h := bF h33 h
                  refine LWP.exit (hN20 (t1, t2, t8, t9, o1011) _ ⟨rfl, rfl, rfl, rfl, rfl, trivial⟩ ⟨rfl, trivial⟩ h)
              · intro N24 hN24
                refine bS (decide (t9 > (0 : Int))) (fun h25 => ?_) (fun h25 => ?_)
                · have h := bT h25 h
                  refine bk h fun x26 e26 h => ?_
                  refine bk h fun x27 e27 h => ?_
                  refine bk h fun x28 e28 h => ?_
                  refine bk h fun x29 e29 h => ?_
                  refine bk h fun x30 e30 h => ?_
                  refine bk h fun x31 e31 h => ?_
                  refine bk h fun x32 e32 h => ?_
                  refine LWP.drawE (l := [_,_,_,_,_,_,_,_,_,_,_,_,_,_,_,_,_,_,_,_,_]) [] [1, 2, 7, 8, 9] [([9], []), ([33], []), ([34], []), ([7, 35], []), ([9, 35], []), ([35, 37], []), ([35, 36, 38], [1011]), ([35, 39], [1011]), ([2, 35], []), ([35, 40, 41], []), ([35, 42], []), ([1, 35], []), ([8, 35], []), ([35, 44, 45], []), ([35, 46], []), ([2, 35], []), ([35, 47, 48], []), ([35, 49], []), ([35, 43, 50], []), ([35, 51], []), ([35, 52], [])] [1, 2, 7, 8, 9, 53] [1011] mixed (by kernel_rfl) rfl (by decide) ?_
                  refine ⟨rfl, .put 33 _, trivial, fun u hg hu hh => LWo.move (e_int t9) hu.1 (hn := LWo.nil ⟨rfl, .inl rfl, hg⟩), ?_⟩
                  refine ⟨rfl, .put 34 _, trivial, fun u hg hu hh => LWo.int _ hu.1 rfl rfl (hn := LWo.nil ⟨rfl, .inl rfl, hg⟩), ?_⟩
                  refine ⟨rfl, .put 35 _, trivial, fun u hg hu hh => LWo.move (e_bool (decide (t9 > (0 : Int)))) hu.1 (hn := LWo.nil ⟨rfl, .inl rfl, hg⟩), ?_⟩
                  refine ⟨rfl, .put 36 _, trivial, fun u hg hu hh => LWo.guardY (t := 35) hu.2.1 h25 rfl rfl (LWo.move (.own 1011 0 (o1011).length) hu.1 (hn := LWo.nil ⟨rfl, .inl rfl, hg⟩)), ?_⟩
                  refine ⟨rfl, .put 37 _, trivial, fun u hg hu hh => LWo.guardY (t := 35) hu.2.1 h25 rfl rfl (LWo.move (e_int t9) hu.1 (hn := LWo.nil ⟨rfl, .inl rfl, hg⟩)), ?_⟩
                  refine ⟨rfl, .put 38 _, trivial, fun u hg hu hh => LWo.guardY (t := 35) hu.1 h25 rfl rfl (LWo.int _ hu.2.1 rfl (sub_ck e26) (hn := LWo.nil ⟨rfl, .inl rfl, hg⟩)), ?_⟩
                  refine ⟨rfl, .put 39 _, trivial, fun u hg hu hh => LWo.guardY (t := 35) hu.1 h25 rfl rfl (LWo.indexO e27 rfl u_LLimpl_Value s_Limpl_Value hu.2.1 hu.2.2.1 hh.1 (hn := LWo.nil ⟨rfl, .inl rfl, hg⟩)), ?_⟩
                  refine ⟨rfl, .put 40 _, trivial, fun u hg hu hh => LWo.guardY (t := 35) hu.1 h25 rfl rfl (LWo.loadO1 (e_Limpl_Value x28) e28 g_Limpl_Value hu.2.1 hh.1 rfl (hn := LWo.nil ⟨rfl, .inl rfl, hg⟩)), ?_⟩
                  refine ⟨rfl, .put 41 _, trivial, fun u hg hu hh => LWo.guardY (t := 35) hu.2.1 h25 rfl rfl (LWo.move (e_int t2) hu.1 (hn := LWo.nil ⟨rfl, .inl rfl, hg⟩)), ?_⟩
                  refine ⟨rfl, .put 42 _, trivial, fun u hg hu hh => LWo.guardY (t := 35) hu.1 h25 rfl rfl (LWo.indexM (f := e_impl_Value) e29 u_Limpl_Value s_impl_Value hu.2.1 hu.2.2.1 (hn := LWo.nil ⟨rfl, .inl rfl, hg⟩)), ?_⟩
                  refine ⟨rfl, .put 43 _, trivial, fun u hg hu hh => LWo.guardY (t := 35) hu.1 h25 rfl rfl (LWo.loadN ((e_impl_Value x29)).cells g_impl_Value s_impl_Value hu.2.1 (Nat.le_of_ble_eq_true rfl) rfl (hn := LWo.nil ⟨rfl, .inl rfl, hg⟩)), ?_⟩
                  refine ⟨rfl, .put 44 _, trivial, fun u hg hu hh => LWo.guardY (t := 35) hu.2.1 h25 rfl rfl (LWo.move (e_LLimpl_Value t1) hu.1 (hn := LWo.nil ⟨rfl, .inl rfl, hg⟩)), ?_⟩
                  refine ⟨rfl, .put 45 _, trivial, fun u hg hu hh => LWo.guardY (t := 35) hu.2.1 h25 rfl rfl (LWo.move (e_int t8) hu.1 (hn := LWo.nil ⟨rfl, .inl rfl, hg⟩)), ?_⟩
                  refine ⟨rfl, .put 46 _, trivial, fun u hg hu hh => LWo.guardY (t := 35) hu.1 h25 rfl rfl (LWo.indexM (f := e_Limpl_Value) e30 u_LLimpl_Value s_Limpl_Value hu.2.1 hu.2.2.1 (hn := LWo.nil ⟨rfl, .inl rfl, hg⟩)), ?_⟩
                  refine ⟨rfl, .put 47 _, trivial, fun u hg hu hh => LWo.guardY (t := 35) hu.1 h25 rfl rfl (LWo.load1 (c := (e_Limpl_Value x30)) g_Limpl_Value hu.2.1 (hn := LWo.nil ⟨rfl, .inl rfl, hg⟩)), ?_⟩
                  refine ⟨rfl, .put 48 _, trivial, fun u hg hu hh => LWo.guardY (t := 35) hu.2.1 h25 rfl rfl (LWo.move (e_int t2) hu.1 (hn := LWo.nil ⟨rfl, .inl rfl, hg⟩)), ?_⟩
                  refine ⟨rfl, .put 49 _, trivial, fun u hg hu hh => LWo.guardY (t := 35) hu.1 h25 rfl rfl (LWo.indexM (f := e_impl_Value) e31 u_Limpl_Value s_impl_Value hu.2.1 hu.2.2.1 (hn := LWo.nil ⟨rfl, .inl rfl, hg⟩)), ?_⟩
                  refine ⟨rfl, .put 50 _, trivial, fun u hg hu hh => LWo.guardY (t := 35) hu.1 h25 rfl rfl (LWo.loadN ((e_impl_Value x31)).cells g_impl_Value s_impl_Value hu.2.1 (Nat.le_of_ble_eq_true rfl) rfl (hn := LWo.nil ⟨rfl, .inl rfl, hg⟩)), ?_⟩
                  refine ⟨rfl, .put 51 _, trivial, fun u hg hu hh => LWo.guardY (t := 35) hu.1 h25 rfl rfl (LWo.vcall rfl (av2 hu.2.1 hu.2.2.1) (c_spec_ValueOrder _ _ _ e32) (.same (.same (.nil))) (hn := LWo.nil ⟨rfl, .inl rfl, hg⟩)), ?_⟩
                  refine ⟨rfl, .put 52 _, trivial, fun u hg hu hh => LWo.guardY (t := 35) hu.1 h25 rfl rfl (LWo.int _ hu.2.1 rfl rfl (hn := LWo.nil ⟨rfl, .inl rfl, hg⟩)), ?_⟩
                  refine ⟨rfl, .put 53 _, trivial, fun u hg hu hh => LWo.pickTM (e_bool (decide (x32 > (0 : Int)))) hu.1 h25 hu.2.1 (hn := LWo.nil ⟨rfl, .inl rfl, hg⟩), ?_⟩
                  refine ⟨rfl, by kernel_rfl, hN24 (t1, t2, t8, t9, decide (x32 > (0 : Int)), o1011) _ ⟨rfl, rfl, rfl, rfl, rfl, rfl, trivial⟩ ⟨rfl, trivial⟩ h⟩
                · have h := bF h25 h
                  refine LWP.drawE (l := [_,_,_,_,_,_,_,_,_,_,_,_,_,_,_,_,_,_,_,_,_]) [] [1, 2, 7, 8, 9] [([9], []), ([33], []), ([34], []), ([7, 35], []), ([9, 35], []), ([35, 37], []), ([35, 36, 38], []), ([35, 39], []), ([2, 35], []), ([35, 40, 41], []), ([35, 42], []), ([1, 35], []), ([8, 35], []), ([35, 44, 45], []), ([35, 46], []), ([2, 35], []), ([35, 47, 48], []), ([35, 49], []), ([35, 43, 50], []), ([35, 51], []), ([35, 52], [])] [1, 2, 7, 8, 9, 53] [1011] mixed (by kernel_rfl) rfl (by decide) ?_
                  refine ⟨rfl, .put 33 _, trivial, fun u hg hu hh => LWo.move (e_int t9) hu.1 (hn := LWo.nil ⟨rfl, .inl rfl, hg⟩), ?_⟩
                  refine ⟨rfl, .put 34 _, trivial, fun u hg hu hh => LWo.int _ hu.1 rfl rfl (hn := LWo.nil ⟨rfl, .inl rfl, hg⟩), ?_⟩
                  refine ⟨rfl, .put 35 _, trivial, fun u hg hu hh => LWo.move (e_bool (decide (t9 > (0 : Int)))) hu.1 (hn := LWo.nil ⟨rfl, .inl rfl, hg⟩), ?_⟩
                  refine ⟨rfl, .put 36 _, trivial, fun u hg hu hh => LWo.guardNU (t := 35) hu.2.1 h25 rfl rfl rfl rfl rfl (LWo.nil ⟨rfl, .inl rfl, hg⟩), ?_⟩
                  refine ⟨rfl, .put 37 _, trivial, fun u hg hu hh => LWo.guardNU (t := 35) hu.2.1 h25 rfl rfl rfl rfl rfl (LWo.nil ⟨rfl, .inl rfl, hg⟩), ?_⟩
                  refine ⟨rfl, .put 38 _, trivial, fun u hg hu hh => LWo.guardNU (t := 35) hu.1 h25 rfl rfl rfl rfl rfl (LWo.nil ⟨rfl, .inl rfl, hg⟩), ?_⟩
                  refine ⟨rfl, .put 39 _, trivial, fun u hg hu hh => LWo.guardNU (t := 35) hu.1 h25 rfl rfl rfl rfl rfl (LWo.nil ⟨rfl, .inl rfl, hg⟩), ?_⟩
                  refine ⟨rfl, .put 40 _, trivial, fun u hg hu hh => LWo.guardNU (t := 35) hu.1 h25 rfl rfl rfl rfl rfl (LWo.nil ⟨rfl, .inl rfl, hg⟩), ?_⟩
                  refine ⟨rfl, .put 41 _, trivial, fun u hg hu hh => LWo.guardNU (t := 35) hu.2.1 h25 rfl rfl rfl rfl rfl (LWo.nil ⟨rfl, .inl rfl, hg⟩), ?_⟩
                  refine ⟨rfl, .put 42 _, trivial, fun u hg hu hh => LWo.guardNU (t := 35) hu.1 h25 rfl rfl rfl rfl rfl (LWo.nil ⟨rfl, .inl rfl, hg⟩), ?_⟩
                  refine ⟨rfl, .put 43 _, trivial, fun u hg hu hh => LWo.guardNU (t := 35) hu.1 h25 rfl rfl rfl rfl rfl (LWo.nil ⟨rfl, .inl rfl, hg⟩), ?_⟩
                  refine ⟨rfl, .put 44 _, trivial, fun u hg hu hh => LWo.guardNU (t := 35) hu.2.1 h25 rfl rfl rfl rfl rfl (LWo.nil ⟨rfl, .inl rfl, hg⟩), ?_⟩
                  refine ⟨rfl, .put 45 _, trivial, fun u hg hu hh => LWo.guardNU (t := 35) hu.2.1 h25 rfl rfl rfl rfl rfl (LWo.nil ⟨rfl, .inl rfl, hg⟩), ?_⟩
                  refine ⟨rfl, .put 46 _, trivial, fun u hg hu hh => LWo.guardNU (t := 35) hu.1 h25 rfl rfl rfl rfl rfl (LWo.nil ⟨rfl, .inl rfl, hg⟩), ?_⟩
                  refine ⟨rfl, .put 47 _, trivial, fun u hg hu hh => LWo.guardNU (t := 35) hu.1 h25 rfl rfl rfl rfl rfl (LWo.nil ⟨rfl, .inl rfl, hg⟩), ?_⟩
                  refine ⟨rfl, .put 48 _, trivial, fun u hg hu hh => LWo.guardNU (t := 35) hu.2.1 h25 rfl rfl rfl rfl rfl (LWo.nil ⟨rfl, .inl rfl, hg⟩), ?_⟩
                  refine ⟨rfl, .put 49 _, trivial, fun u hg hu hh => LWo.guardNU (t := 35) hu.1 h25 rfl rfl rfl rfl rfl (LWo.nil ⟨rfl, .inl rfl, hg⟩), ?_⟩
                  refine ⟨rfl, .put 50 _, trivial, fun u hg hu hh => LWo.guardNU (t := 35) hu.1 h25 rfl rfl rfl rfl rfl (LWo.nil ⟨rfl, .inl rfl, hg⟩), ?_⟩
                  refine ⟨rfl, .put 51 _, trivial, fun u hg hu hh => LWo.guardNU (t := 35) hu.1 h25 rfl rfl rfl rfl rfl (LWo.nil ⟨rfl, .inl rfl, hg⟩), ?_⟩
                  refine ⟨rfl, .put 52 _, trivial, fun u hg hu hh => LWo.guardNU (t := 35) hu.1 h25 rfl rfl rfl rfl rfl (LWo.nil ⟨rfl, .inl rfl, hg⟩), ?_⟩
                  refine ⟨rfl, .put 53 _, trivial, fun u hg hu hh => LWo.pickFM (e_bool false) hu.1 h25 rfl (hn := LWo.nil ⟨rfl, .inl rfl, hg⟩), ?_⟩
                  refine ⟨rfl, by kernel_rfl, hN24 (t1, t2, t8, t9, false, o1011) _ ⟨rfl, rfl, rfl, rfl, rfl, rfl, trivial⟩ ⟨rfl, trivial⟩ h⟩
        · have h := bF h17 h
          refine LWP.exit (hN11 o1011 _ ⟨rfl, trivial⟩ ⟨rfl, trivial⟩ h)
  · intro N4 hN4
    refine LWP.region (l := [_,_,_,_,_,_,_,_,_,_,_,_]) ?_
    refine LWo.move (e_Limpl_Column a0) rfl (hn := ?_)
    refine LWo.move (e_LLimpl_Value a1) rfl (hn := ?_)
    refine bk h fun x5 e5 h => ?_
    refine LWo.vcall rfl rfl (c_spec_RowsOk _ _ _ e5) (.same (.same (.nil))) (hn := ?_)
    refine LWo.not rfl (hn := ?_)
    refine LWo.move (e_bool (!x5)) rfl (hn := ?_)
    refine LWo.byCases (t := 16) _ rfl (fun h6 => ?_) (fun h6 => ?_)
    · have h := bT h6 h
      refine LWo.guardNU (t := 16) rfl h6 rfl rfl rfl rfl rfl ?_
      refine LWo.guardNU (t := 16) rfl h6 rfl rfl rfl rfl rfl ?_
      refine LWo.guardNU (t := 16) rfl h6 rfl rfl rfl rfl rfl ?_
      refine LWo.guardNU (t := 16) rfl h6 rfl rfl rfl rfl rfl ?_
      refine LWo.guardNU (t := 16) rfl h6 rfl rfl rfl rfl rfl ?_
      refine LWo.guardNU (t := 16) rfl h6 rfl rfl rfl rfl rfl ?_
      refine LWo.pickTM (e_bool true) rfl h6 rfl (hn := ?_)
      refine LWo.nil (hN4 (a1, a2, true, ([] : (List (List S_impl_Value)))) _ ⟨rfl, rfl, rfl, rfl, trivial⟩ ⟨rfl, trivial⟩ h)
    · have h := bF h6 h
      refine LWo.guardY (t := 16) rfl h6 rfl rfl ?_
      refine LWo.move (e_int a2) rfl (hn := ?_)
      refine LWo.guardY (t := 16) rfl h6 rfl rfl ?_
      refine LWo.move (e_Limpl_Column a0) rfl (hn := ?_)
      refine LWo.guardY (t := 16) rfl h6 rfl rfl ?_
      refine LWo.lenM (f := e_impl_Column) (l := a0) u_Limpl_Column rfl (hn := ?_)
      refine bk h fun x7 e7 h => ?_
      refine LWo.guardY (t := 16) rfl h6 rfl rfl ?_
      refine LWo.int _ rfl rfl (sub_ck e7) (hn := ?_)
      refine bk h fun x8 e8 h => ?_
      refine LWo.guardY (t := 16) rfl h6 rfl rfl ?_
      refine LWo.vcall rfl rfl (c_spec_l1In _ _ _ _ e8) (.same (.same (.same (.nil)))) (hn := ?_)
      refine LWo.guardY (t := 16) rfl h6 rfl rfl ?_
      refine LWo.not rfl (hn := ?_)
      refine LWo.pickFM (e_bool (!x8)) rfl h6 rfl (hn := ?_)
      refine LWo.nil (hN4 (a1, a2, (!x8), ([] : (List (List S_impl_Value)))) _ ⟨rfl, rfl, rfl, rfl, trivial⟩ ⟨rfl, trivial⟩ h)

def m_laws_sameRow_j1  : Option Bool :=
  some true
def m_laws_sameRow_l1 : Nat → (List S_impl_Value) → (List S_impl_Value) → Int → Option Bool
  | 0, _, _, _ => none
  | n1 + 1, t0, t1, t5 =>
    bif decide (t5 < (t0.length : Int)) then ((at? t0 t5).bind fun x15 =>
    (at? t1 t5).bind fun x16 =>
    bif (!(decide (x15 = x16))) then (some false)
    else ((ckI (t5 + (1 : Int))).bind fun x19 =>
    (m_laws_sameRow_l1  n1) t0 t1 x19))
    else (m_laws_sameRow_j1  )
def m_laws_sameRow (a0 : (List S_impl_Value)) (a1 : (List S_impl_Value)) : Option Bool :=
  bif ((a0.length : Int) != (a1.length : Int)) then (some false)
  else (m_laws_sameRow_l1  (((a0.length : Int) - (0 : Int)).toNat + 1) a0 a1 (0 : Int))
theorem c_laws_sameRow (a0 : (List S_impl_Value)) (a1 : (List S_impl_Value)) (r : Bool) (h : m_laws_sameRow a0 a1 = some r) : Ret Try.prog f_laws_sameRow [e_Limpl_Value a0, e_Limpl_Value a1] (e_bool r) := by
  refine Does.goG [] F_laws_sameRow rfl e_laws_sameRow n_laws_sameRow rfl (rvs := [.tmp 4]) rfl rfl ?_
  intro w0 ok0 lent ρ0
  refine LWP.seq_k fun N1 hN1 => ?_
  refine LWP.region (l := [_]) ?_
  refine LWo.assign (e_bool false) rfl (hn := ?_)
  refine LWo.nil (hN1 _ ?_)
  refine LWP.seq_k fun N2 hN2 => ?_
  refine LWP.seq_k fun N3 hN3 => ?_
  refine LWP.region (l := [_,_,_,_,_]) ?_
  refine LWo.move (e_Limpl_Value a0) rfl (hn := ?_)
  refine LWo.lenM (f := e_impl_Value) (l := a0) u_Limpl_Value rfl (hn := ?_)
  refine LWo.move (e_Limpl_Value a1) rfl (hn := ?_)
  refine LWo.lenM (f := e_impl_Value) (l := a1) u_Limpl_Value rfl (hn := ?_)
  refine LWo.int _ rfl rfl rfl (hn := ?_)
  refine LWo.nil (hN3 _ ?_)
  refine LWP.cond_split rfl (fun h4 => ?_) (fun h4 => ?_)
  · have h := bT h4 h
    refine LWP.seq_k fun N5 hN5 => ?_
    refine LWP.region (l := [_]) ?_
    refine LWo.assign (e_bool false) rfl (hn := ?_)
    refine LWo.nil (hN5 _ ?_)
    obtain rfl := Option.some.inj h
    refine LWP.ret (QG.mk (.inr rfl) (.cons (.tmp (x := (e_bool false)) rfl) (.nil)) (RetOK.one0 (.pure rfl) (by decide)) rfl rfl)
  · have h := bF h4 h
    refine LWP.skip (hN2 _ ?_)
    refine LWP.join (α := Unit) (fun z : Unit => []) (fun z : Unit => []) (fun z : Unit => m_laws_sameRow_j1  ) r (fun _ => by simp [hkeys]) ?_ ?_
    · rintro _ h
      replace h : m_laws_sameRow_j1   = some _ := h
      refine LWP.seq_k fun N20 hN20 => ?_
      refine LWP.region (l := [_]) ?_
      refine LWo.assign (e_bool true) rfl (hn := ?_)
      refine LWo.nil (hN20 _ ?_)
      obtain rfl := Option.some.inj h
      refine LWP.ret (QG.mk (.inr rfl) (.cons (.tmp (x := (e_bool true)) rfl) (.nil)) (RetOK.one0 (.pure rfl) (by decide)) rfl rfl)
    · intro N6 hN6
      refine LWP.seq_k fun N7 hN7 => ?_
      refine LWP.region (l := [_]) ?_
      refine LWo.assign (e_int (0 : Int)) rfl (hn := ?_)
      refine LWo.nil (hN7 _ ?_)
      refine LWP.block ?_
      refine LWP.loopM (α := (List S_impl_Value) × (List S_impl_Value) × Int) (fun z : (List S_impl_Value) × (List S_impl_Value) × Int => [(0, (e_Limpl_Value z.1)), (1, (e_Limpl_Value z.2.1)), (5, (e_int z.2.2))]) (fun z : (List S_impl_Value) × (List S_impl_Value) × Int => []) (fun n1 (z : (List S_impl_Value) × (List S_impl_Value) × Int) => m_laws_sameRow_l1  n1 z.1 z.2.1 z.2.2) r _ (a0, a1, (0 : Int)) h (fun _ => rfl) (fun _ => by simp [hkeys]) ⟨rfl, rfl, rfl, trivial⟩ trivial ?_
      rintro n1 ⟨t0, t1, t5⟩ h N8 hN8
      replace h : m_laws_sameRow_l1  (n1 + 1) t0 t1 t5 = some _ := h
      refine LWP.seq_k fun N10 hN10 => ?_
      refine LWP.seq_k fun N11 hN11 => ?_
      refine LWP.region (l := [_,_,_,_]) ?_
      refine LWo.move (e_int t5) rfl (hn := ?_)
      refine LWo.move (e_Limpl_Value t0) rfl (hn := ?_)
      refine LWo.lenM (f := e_impl_Value) (l := t0) u_Limpl_Value rfl (hn := ?_)
      refine LWo.int _ rfl rfl rfl (hn := ?_)
      refine LWo.nil (hN11 _ ?_)
      refine LWP.cond_split rfl (fun h12 => ?_) (fun h12 => ?_)
      · have h := bT h12 h
        refine LWP.skip (hN10 _ ?_)
        refine LWP.seq_k fun N13 hN13 => ?_
        refine LWP.block ?_
        refine LWP.seq_k fun N14 hN14 => ?_
        refine bk h fun x15 e15 h => ?_
        refine bk h fun x16 e16 h => ?_
        refine LWP.drawE (l := [_,_,_,_,_,_,_,_,_]) [] [0, 1, 5] [([0], []), ([5], []), ([17, 18], []), ([19], []), ([1], []), ([5], []), ([21, 22], []), ([23], []), ([20, 24], [])] [0, 1, 5, 25] [] mixed (by kernel_rfl) rfl (by decide) ?_
        refine ⟨rfl, .put 17 _, trivial, fun u hg hu hh => LWo.move (e_Limpl_Value t0) hu.1 (hn := LWo.nil ⟨rfl, .inl rfl, hg⟩), ?_⟩
        refine ⟨rfl, .put 18 _, trivial, fun u hg hu hh => LWo.move (e_int t5) hu.1 (hn := LWo.nil ⟨rfl, .inl rfl, hg⟩), ?_⟩
        refine ⟨rfl, .put 19 _, trivial, fun u hg hu hh => LWo.indexM (f := e_impl_Value) e15 u_Limpl_Value s_impl_Value hu.1 hu.2.1 (hn := LWo.nil ⟨rfl, .inl rfl, hg⟩), ?_⟩
        refine ⟨rfl, .put 20 _, trivial, fun u hg hu hh => LWo.loadN ((e_impl_Value x15)).cells g_impl_Value s_impl_Value hu.1 (Nat.le_of_ble_eq_true rfl) rfl (hn := LWo.nil ⟨rfl, .inl rfl, hg⟩), ?_⟩
        refine ⟨rfl, .put 21 _, trivial, fun u hg hu hh => LWo.move (e_Limpl_Value t1) hu.1 (hn := LWo.nil ⟨rfl, .inl rfl, hg⟩), ?_⟩
        refine ⟨rfl, .put 22 _, trivial, fun u hg hu hh => LWo.move (e_int t5) hu.1 (hn := LWo.nil ⟨rfl, .inl rfl, hg⟩), ?_⟩
        refine ⟨rfl, .put 23 _, trivial, fun u hg hu hh => LWo.indexM (f := e_impl_Value) e16 u_Limpl_Value s_impl_Value hu.1 hu.2.1 (hn := LWo.nil ⟨rfl, .inl rfl, hg⟩), ?_⟩
        refine ⟨rfl, .put 24 _, trivial, fun u hg hu hh => LWo.loadN ((e_impl_Value x16)).cells g_impl_Value s_impl_Value hu.1 (Nat.le_of_ble_eq_true rfl) rfl (hn := LWo.nil ⟨rfl, .inl rfl, hg⟩), ?_⟩
        refine ⟨rfl, .put 25 _, trivial, fun u hg hu hh => LWo.ne_impl_Value _ _ hu.1 hu.2.1 (hn := LWo.nil ⟨rfl, .inl rfl, hg⟩), ?_⟩
        refine ⟨rfl, by kernel_rfl, hN14 _ ?_⟩
        refine LWP.cond_split rfl (fun h17 => ?_) (fun h17 => ?_)
        · have h := bT h17 h
          refine LWP.seq_k fun N18 hN18 => ?_
          refine LWP.region (l := [_]) ?_
          refine LWo.assign (e_bool false) rfl (hn := ?_)
          refine LWo.nil (hN18 _ ?_)
          obtain rfl := Option.some.inj h
          refine LWP.ret (QG.mk (.inr rfl) (.cons (.tmp (x := (e_bool false)) rfl) (.nil)) (RetOK.one0 (.pure rfl) (by decide)) rfl rfl)
        · have h := bF h17 h
          refine LWP.skip (hN13 _ ?_)
          refine LWP.region (l := [_,_,_]) ?_
          refine LWo.move (e_int t5) rfl (hn := ?_)
          refine bk h fun x19 e19 h => ?_
          refine LWo.int _ rfl rfl (add_ck e19) (hn := ?_)
          refine LWo.assign (e_int x19) rfl (hn := ?_)
          refine LWo.nil (hN8 (t0, t1, x19) _ ⟨rfl, rfl, rfl, trivial⟩ trivial h)
      · have h := bF h12 h
        refine LWP.exit (hN6 () _ trivial trivial h)

def m_laws_sameRows_j1  : Option Bool :=
  some true
def m_laws_sameRows_l1 : Nat → (List (List S_impl_Value)) → (List (List S_impl_Value)) → Int → Option Bool
  | 0, _, _, _ => none
  | n1 + 1, t0, t1, t5 =>
    bif decide (t5 < (t0.length : Int)) then ((at? t0 t5).bind fun x15 =>
    (at? t1 t5).bind fun x16 =>
    (m_laws_sameRow x15 x16).bind fun x17 =>
    bif (!x17) then (some false)
    else ((ckI (t5 + (1 : Int))).bind fun x20 =>
    (m_laws_sameRows_l1  n1) t0 t1 x20))
    else (m_laws_sameRows_j1  )
def m_laws_sameRows (a0 : (List (List S_impl_Value))) (a1 : (List (List S_impl_Value))) : Option Bool :=
  bif ((a0.length : Int) != (a1.length : Int)) then (some false)
  else (m_laws_sameRows_l1  (((a0.length : Int) - (0 : Int)).toNat + 1) a0 a1 (0 : Int))
theorem c_laws_sameRows (a0 : (List (List S_impl_Value))) (a1 : (List (List S_impl_Value))) (r : Bool) (h : m_laws_sameRows a0 a1 = some r) : Ret Try.prog f_laws_sameRows [e_LLimpl_Value a0, e_LLimpl_Value a1] (e_bool r) := by
  refine Does.goG [] F_laws_sameRows rfl e_laws_sameRows n_laws_sameRows rfl (rvs := [.tmp 4]) rfl rfl ?_
  intro w0 ok0 lent ρ0
  refine LWP.seq_k fun N1 hN1 => ?_
  refine LWP.region (l := [_]) ?_
  refine LWo.assign (e_bool false) rfl (hn := ?_)
  refine LWo.nil (hN1 _ ?_)
  refine LWP.seq_k fun N2 hN2 => ?_
  refine LWP.seq_k fun N3 hN3 => ?_
  refine LWP.region (l := [_,_,_,_,_]) ?_
  refine LWo.move (e_LLimpl_Value a0) rfl (hn := ?_)
  refine LWo.lenM (f := e_Limpl_Value) (l := a0) u_LLimpl_Value rfl (hn := ?_)
  refine LWo.move (e_LLimpl_Value a1) rfl (hn := ?_)
  refine LWo.lenM (f := e_Limpl_Value) (l := a1) u_LLimpl_Value rfl (hn := ?_)
  refine LWo.int _ rfl rfl rfl (hn := ?_)
  refine LWo.nil (hN3 _ ?_)
  refine LWP.cond_split rfl (fun h4 => ?_) (fun h4 => ?_)
  · have h := bT h4 h
    refine LWP.seq_k fun N5 hN5 => ?_
    refine LWP.region (l := [_]) ?_
    refine LWo.assign (e_bool false) rfl (hn := ?_)
    refine LWo.nil (hN5 _ ?_)
    obtain rfl := Option.some.inj h
    refine LWP.ret (QG.mk (.inr rfl) (.cons (.tmp (x := (e_bool false)) rfl) (.nil)) (RetOK.one0 (.pure rfl) (by decide)) rfl rfl)
  · have h := bF h4 h
    refine LWP.skip (hN2 _ ?_)
    refine LWP.join (α := Unit) (fun z : Unit => []) (fun z : Unit => []) (fun z : Unit => m_laws_sameRows_j1  ) r (fun _ => by simp [hkeys]) ?_ ?_
    · rintro _ h
      replace h : m_laws_sameRows_j1   = some _ := h
      refine LWP.seq_k fun N21 hN21 => ?_
      refine LWP.region (l := [_]) ?_
      refine LWo.assign (e_bool true) rfl (hn := ?_)
      refine LWo.nil (hN21 _ ?_)
      obtain rfl := Option.some.inj h
      refine LWP.ret (QG.mk (.inr rfl) (.cons (.tmp (x := (e_bool true)) rfl) (.nil)) (RetOK.one0 (.pure rfl) (by decide)) rfl rfl)
    · intro N6 hN6
      refine LWP.seq_k fun N7 hN7 => ?_
      refine LWP.region (l := [_]) ?_
      refine LWo.assign (e_int (0 : Int)) rfl (hn := ?_)
      refine LWo.nil (hN7 _ ?_)
      refine LWP.block ?_
      refine LWP.loopM (α := (List (List S_impl_Value)) × (List (List S_impl_Value)) × Int) (fun z : (List (List S_impl_Value)) × (List (List S_impl_Value)) × Int => [(0, (e_LLimpl_Value z.1)), (1, (e_LLimpl_Value z.2.1)), (5, (e_int z.2.2))]) (fun z : (List (List S_impl_Value)) × (List (List S_impl_Value)) × Int => []) (fun n1 (z : (List (List S_impl_Value)) × (List (List S_impl_Value)) × Int) => m_laws_sameRows_l1  n1 z.1 z.2.1 z.2.2) r _ (a0, a1, (0 : Int)) h (fun _ => rfl) (fun _ => by simp [hkeys]) ⟨rfl, rfl, rfl, trivial⟩ trivial ?_
      rintro n1 ⟨t0, t1, t5⟩ h N8 hN8
      replace h : m_laws_sameRows_l1  (n1 + 1) t0 t1 t5 = some _ := h
      refine LWP.seq_k fun N10 hN10 => ?_
      refine LWP.seq_k fun N11 hN11 => ?_
      refine LWP.region (l := [_,_,_,_]) ?_
      refine LWo.move (e_int t5) rfl (hn := ?_)
      refine LWo.move (e_LLimpl_Value t0) rfl (hn := ?_)
      refine LWo.lenM (f := e_Limpl_Value) (l := t0) u_LLimpl_Value rfl (hn := ?_)
      refine LWo.int _ rfl rfl rfl (hn := ?_)
      refine LWo.nil (hN11 _ ?_)
      refine LWP.cond_split rfl (fun h12 => ?_) (fun h12 => ?_)
      · have h := bT h12 h
        refine LWP.skip (hN10 _ ?_)
        refine LWP.seq_k fun N13 hN13 => ?_
        refine LWP.block ?_
        refine LWP.seq_k fun N14 hN14 => ?_
        refine bk h fun x15 e15 h => ?_
        refine bk h fun x16 e16 h => ?_
        refine bk h fun x17 e17 h => ?_
        refine LWP.drawE (l := [_,_,_,_,_,_,_,_,_,_]) [] [0, 1, 5] [([0], []), ([5], []), ([17, 18], []), ([19], []), ([1], []), ([5], []), ([21, 22], []), ([23], []), ([20, 24], []), ([25], [])] [0, 1, 5, 26] [] mixed (by kernel_rfl) rfl (by decide) ?_
        refine ⟨rfl, .put 17 _, trivial, fun u hg hu hh => LWo.move (e_LLimpl_Value t0) hu.1 (hn := LWo.nil ⟨rfl, .inl rfl, hg⟩), ?_⟩
        refine ⟨rfl, .put 18 _, trivial, fun u hg hu hh => LWo.move (e_int t5) hu.1 (hn := LWo.nil ⟨rfl, .inl rfl, hg⟩), ?_⟩
        refine ⟨rfl, .put 19 _, trivial, fun u hg hu hh => LWo.indexM (f := e_Limpl_Value) e15 u_LLimpl_Value s_Limpl_Value hu.1 hu.2.1 (hn := LWo.nil ⟨rfl, .inl rfl, hg⟩), ?_⟩
        refine ⟨rfl, .put 20 _, trivial, fun u hg hu hh => LWo.load1 (c := (e_Limpl_Value x15)) g_Limpl_Value hu.1 (hn := LWo.nil ⟨rfl, .inl rfl, hg⟩), ?_⟩
        refine ⟨rfl, .put 21 _, trivial, fun u hg hu hh => LWo.move (e_LLimpl_Value t1) hu.1 (hn := LWo.nil ⟨rfl, .inl rfl, hg⟩), ?_⟩
        refine ⟨rfl, .put 22 _, trivial, fun u hg hu hh => LWo.move (e_int t5) hu.1 (hn := LWo.nil ⟨rfl, .inl rfl, hg⟩), ?_⟩
        refine ⟨rfl, .put 23 _, trivial, fun u hg hu hh => LWo.indexM (f := e_Limpl_Value) e16 u_LLimpl_Value s_Limpl_Value hu.1 hu.2.1 (hn := LWo.nil ⟨rfl, .inl rfl, hg⟩), ?_⟩
        refine ⟨rfl, .put 24 _, trivial, fun u hg hu hh => LWo.load1 (c := (e_Limpl_Value x16)) g_Limpl_Value hu.1 (hn := LWo.nil ⟨rfl, .inl rfl, hg⟩), ?_⟩
        refine ⟨rfl, .put 25 _, trivial, fun u hg hu hh => LWo.vcall rfl (av2 hu.1 hu.2.1) (c_laws_sameRow _ _ _ e17) (.same (.same (.nil))) (hn := LWo.nil ⟨rfl, .inl rfl, hg⟩), ?_⟩
        refine ⟨rfl, .put 26 _, trivial, fun u hg hu hh => LWo.not hu.1 (hn := LWo.nil ⟨rfl, .inl rfl, hg⟩), ?_⟩
        refine ⟨rfl, by kernel_rfl, hN14 _ ?_⟩
        refine LWP.cond_split rfl (fun h18 => ?_) (fun h18 => ?_)
        · have h := bT h18 h
          refine LWP.seq_k fun N19 hN19 => ?_
          refine LWP.region (l := [_]) ?_
          refine LWo.assign (e_bool false) rfl (hn := ?_)
          refine LWo.nil (hN19 _ ?_)
          obtain rfl := Option.some.inj h
          refine LWP.ret (QG.mk (.inr rfl) (.cons (.tmp (x := (e_bool false)) rfl) (.nil)) (RetOK.one0 (.pure rfl) (by decide)) rfl rfl)
        · have h := bF h18 h
          refine LWP.skip (hN13 _ ?_)
          refine LWP.region (l := [_,_,_]) ?_
          refine LWo.move (e_int t5) rfl (hn := ?_)
          refine bk h fun x20 e20 h => ?_
          refine LWo.int _ rfl rfl (add_ck e20) (hn := ?_)
          refine LWo.assign (e_int x20) rfl (hn := ?_)
          refine LWo.nil (hN8 (t0, t1, x20) _ ⟨rfl, rfl, rfl, trivial⟩ trivial h)
      · have h := bF h12 h
        refine LWP.exit (hN6 () _ trivial trivial h)

def m_impl_ValueOk (a0 : S_impl_Value) : Option Bool :=
  (m_impl_Value_ok a0).bind fun x3 =>
  some x3
theorem c_impl_ValueOk (a0 : S_impl_Value) (r : Bool) (h : m_impl_ValueOk a0 = some r) : Ret Try.prog f_impl_ValueOk [e_impl_Value a0] (e_bool r) := by
  refine Does.goG [] F_impl_ValueOk rfl e_impl_ValueOk n_impl_ValueOk rfl (rvs := [.tmp 2]) rfl rfl ?_
  intro w0 ok0 lent ρ0
  refine LWP.seq_k fun N1 hN1 => ?_
  refine LWP.region (l := [_,_]) ?_
  refine LWo.boxF (e_impl_Value a0) rfl rfl rfl (hn := ?_)
  refine LWo.assign (e_bool false) rfl (hn := ?_)
  refine LWo.nil (hN1 _ ?_)
  refine LWP.seq_k fun N2 hN2 => ?_
  refine LWP.region (l := [_,_,_]) ?_
  refine LWo.loadN ((e_impl_Value a0)).cells g_impl_Value s_impl_Value rfl (Nat.le_of_ble_eq_true rfl) rfl (hn := ?_)
  refine bk h fun x3 e3 h => ?_
  refine LWo.vcall rfl rfl (c_impl_Value_ok _ _ e3) (.same (.nil)) (hn := ?_)
  refine LWo.assign (e_bool x3) rfl (hn := ?_)
  refine LWo.nil (hN2 _ ?_)
  obtain rfl := Option.some.inj h
  refine LWP.ret (QG.mk (.inr rfl) (.cons (.tmp (x := (e_bool x3)) rfl) (.nil)) (RetOK.one0 (.pure rfl) (by decide)) rfl rfl)

def m_laws_alive_j1 (t0 : Bool) : Option Bool :=
  some t0
def m_laws_alive  : Option Bool :=
  (m_impl_ValueOk (⟨(1 : Int), (3 : Int), (⟨#[]⟩ : ByteArray)⟩ : S_impl_Value)).bind fun x3 =>
  bif x3 then ((m_impl_ValueOk (⟨(9 : Int), (0 : Int), (⟨#[]⟩ : ByteArray)⟩ : S_impl_Value)).bind fun x5 =>
    m_laws_alive_j1  (!x5))
  else (m_laws_alive_j1  false)
theorem c_laws_alive  (r : Bool) (h : m_laws_alive  = some r) : Ret Try.prog f_laws_alive [] (e_bool r) := by
  refine Does.goG [] F_laws_alive rfl e_laws_alive n_laws_alive rfl (rvs := [.tmp 0]) rfl rfl ?_
  intro w0 ok0 lent ρ0
  refine LWP.seq_k fun N1 hN1 => ?_
  refine LWP.region (l := [_]) ?_
  refine LWo.assign (e_bool false) rfl (hn := ?_)
  refine LWo.nil (hN1 _ ?_)
  refine LWP.join (α := Bool) (fun z : Bool => [(0, (e_bool z))]) (fun z : Bool => []) (fun z : Bool => m_laws_alive_j1  z) r (fun _ => by simp [hkeys]) ?_ ?_
  · rintro t0 h
    replace h : m_laws_alive_j1  t0 = some _ := h
    obtain rfl := Option.some.inj h
    refine LWP.ret (QG.mk (.inr rfl) (.cons (.tmp (x := (e_bool t0)) rfl) (.nil)) (RetOK.one0 (.pure rfl) (by decide)) rfl rfl)
  · intro N2 hN2
    refine LWP.region (l := [_,_,_,_,_,_,_,_]) ?_
    refine LWo.build_impl_Value (parts := [_, _]) (⟨(1 : Int), (3 : Int), (⟨#[]⟩ : ByteArray)⟩ : S_impl_Value) rfl rfl rfl .refl (hn := ?_)
    refine bk h fun x3 e3 h => ?_
    refine LWo.vcall rfl rfl (c_impl_ValueOk _ _ e3) (.same (.nil)) (hn := ?_)
    refine LWo.move (e_bool x3) rfl (hn := ?_)
    refine LWo.byCases (t := 3) _ rfl (fun h4 => ?_) (fun h4 => ?_)
    · have h := bT h4 h
      refine LWo.guardY (t := 3) rfl h4 rfl rfl ?_
      refine LWo.build_impl_Value (parts := [_]) (⟨(9 : Int), (0 : Int), (⟨#[]⟩ : ByteArray)⟩ : S_impl_Value) rfl rfl rfl .refl (hn := ?_)
      refine bk h fun x5 e5 h => ?_
      refine LWo.guardY (t := 3) rfl h4 rfl rfl ?_
      refine LWo.vcall rfl rfl (c_impl_ValueOk _ _ e5) (.same (.nil)) (hn := ?_)
      refine LWo.guardY (t := 3) rfl h4 rfl rfl ?_
      refine LWo.not rfl (hn := ?_)
      refine LWo.pickTM (e_bool (!x5)) rfl h4 rfl (hn := ?_)
      refine LWo.assign (e_bool (!x5)) rfl (hn := ?_)
      refine LWo.nil (hN2 (!x5) _ ⟨rfl, trivial⟩ trivial h)
    · have h := bF h4 h
      refine LWo.guardNU (t := 3) rfl h4 rfl rfl rfl rfl rfl ?_
      refine LWo.guardNU (t := 3) rfl h4 rfl rfl rfl rfl rfl ?_
      refine LWo.guardNU (t := 3) rfl h4 rfl rfl rfl rfl rfl ?_
      refine LWo.pickFM (e_bool false) rfl h4 rfl (hn := ?_)
      refine LWo.assign (e_bool false) rfl (hn := ?_)
      refine LWo.nil (hN2 false _ ⟨rfl, trivial⟩ trivial h)

def m_impl_ValueOrder_j1 (t2 : S_impl_Value) (t3 : S_impl_Value) (t12 : Bool) : Option Int :=
  bif t12 then (some (0 : Int))
  else ((m_impl_Value_order t2 t3).bind fun x10 =>
  some x10)
def m_impl_ValueOrder (a0 : S_impl_Value) (a1 : S_impl_Value) : Option Int :=
  (m_impl_Value_ok a0).bind fun x4 =>
  bif (!x4) then (m_impl_ValueOrder_j1  a0 a1 true)
  else ((m_impl_Value_ok a1).bind fun x6 =>
    m_impl_ValueOrder_j1  a0 a1 (!x6))
theorem c_impl_ValueOrder (a0 : S_impl_Value) (a1 : S_impl_Value) (r : Int) (h : m_impl_ValueOrder a0 a1 = some r) : Ret Try.prog f_impl_ValueOrder [e_impl_Value a0, e_impl_Value a1] (e_int r) := by
  refine Does.goG [] F_impl_ValueOrder rfl e_impl_ValueOrder n_impl_ValueOrder rfl (rvs := [.tmp 4]) rfl rfl ?_
  intro w0 ok0 lent ρ0
  refine LWP.seq_k fun N1 hN1 => ?_
  refine LWP.region (l := [_,_,_]) ?_
  refine LWo.boxF (e_impl_Value a0) rfl rfl rfl (hn := ?_)
  refine LWo.boxF (e_impl_Value a1) rfl rfl rfl (hn := ?_)
  refine LWo.assign (e_int (0 : Int)) rfl (hn := ?_)
  refine LWo.nil (hN1 _ ?_)
  refine LWP.seq_k fun N2 hN2 => ?_
  refine LWP.join (α := S_impl_Value × S_impl_Value × Bool) (fun z : S_impl_Value × S_impl_Value × Bool => [(2, (.fp (e_impl_Value z.1).cells)), (3, (.fp (e_impl_Value z.2.1).cells)), (12, (e_bool z.2.2))]) (fun z : S_impl_Value × S_impl_Value × Bool => []) (fun z : S_impl_Value × S_impl_Value × Bool => m_impl_ValueOrder_j1  z.1 z.2.1 z.2.2) r (fun _ => by simp [hkeys]) ?_ ?_
  · rintro ⟨t2, t3, t12⟩ h
    replace h : m_impl_ValueOrder_j1  t2 t3 t12 = some _ := h
    refine LWP.cond_split rfl (fun h7 => ?_) (fun h7 => ?_)
    · have h := bT h7 h
      refine LWP.seq_k fun N8 hN8 => ?_
      refine LWP.region (l := [_]) ?_
      refine LWo.assign (e_int (0 : Int)) rfl (hn := ?_)
      refine LWo.nil (hN8 _ ?_)
      obtain rfl := Option.some.inj h
      refine LWP.ret (QG.mk (.inr rfl) (.cons (.tmp (x := (e_int (0 : Int))) rfl) (.nil)) (RetOK.one0 (.pure rfl) (by decide)) rfl rfl)
    · have h := bF h7 h
      refine LWP.skip (hN2 _ ?_)
      refine LWP.seq_k fun N9 hN9 => ?_
      refine LWP.region (l := [_,_,_,_]) ?_
      refine LWo.loadN ((e_impl_Value t2)).cells g_impl_Value s_impl_Value rfl (Nat.le_of_ble_eq_true rfl) rfl (hn := ?_)
      refine LWo.loadN ((e_impl_Value t3)).cells g_impl_Value s_impl_Value rfl (Nat.le_of_ble_eq_true rfl) rfl (hn := ?_)
      refine bk h fun x10 e10 h => ?_
      refine LWo.vcall rfl rfl (c_impl_Value_order _ _ _ e10) (.same (.same (.nil))) (hn := ?_)
      refine LWo.assign (e_int x10) rfl (hn := ?_)
      refine LWo.nil (hN9 _ ?_)
      obtain rfl := Option.some.inj h
      refine LWP.ret (QG.mk (.inr rfl) (.cons (.tmp (x := (e_int x10)) rfl) (.nil)) (RetOK.one0 (.pure rfl) (by decide)) rfl rfl)
  · intro N3 hN3
    refine LWP.region (l := [_,_,_,_,_,_,_,_]) ?_
    refine LWo.loadN ((e_impl_Value a0)).cells g_impl_Value s_impl_Value rfl (Nat.le_of_ble_eq_true rfl) rfl (hn := ?_)
    refine bk h fun x4 e4 h => ?_
    refine LWo.vcall rfl rfl (c_impl_Value_ok _ _ e4) (.same (.nil)) (hn := ?_)
    refine LWo.not rfl (hn := ?_)
    refine LWo.move (e_bool (!x4)) rfl (hn := ?_)
    refine LWo.byCases (t := 8) _ rfl (fun h5 => ?_) (fun h5 => ?_)
    · have h := bT h5 h
      refine LWo.guardNU (t := 8) rfl h5 rfl rfl rfl rfl rfl ?_
      refine LWo.guardNU (t := 8) rfl h5 rfl rfl rfl rfl rfl ?_
      refine LWo.guardNU (t := 8) rfl h5 rfl rfl rfl rfl rfl ?_
      refine LWo.pickTM (e_bool true) rfl h5 rfl (hn := ?_)
      refine LWo.nil (hN3 (a0, a1, true) _ ⟨rfl, rfl, rfl, trivial⟩ trivial h)
    · have h := bF h5 h
      refine LWo.guardY (t := 8) rfl h5 rfl rfl ?_
      refine LWo.loadN ((e_impl_Value a1)).cells g_impl_Value s_impl_Value rfl (Nat.le_of_ble_eq_true rfl) rfl (hn := ?_)
      refine bk h fun x6 e6 h => ?_
      refine LWo.guardY (t := 8) rfl h5 rfl rfl ?_
      refine LWo.vcall rfl rfl (c_impl_Value_ok _ _ e6) (.same (.nil)) (hn := ?_)
      refine LWo.guardY (t := 8) rfl h5 rfl rfl ?_
      refine LWo.not rfl (hn := ?_)
      refine LWo.pickFM (e_bool (!x6)) rfl h5 rfl (hn := ?_)
      refine LWo.nil (hN3 (a0, a1, (!x6)) _ ⟨rfl, rfl, rfl, trivial⟩ trivial h)

theorem cc_slices_Grow_LLimpl_Value_Limpl_Value (n : Nat) (hb : n ≤ 1000000000) : Ret Try.prog f_slices_Grow_LLimpl_Value_Limpl_Value [.imm (.slice none 0 0), e_int n] (.nw 1 [] false) := by
  refine Does.go [] F_slices_Grow_LLimpl_Value_Limpl_Value rfl e_slices_Grow_LLimpl_Value_Limpl_Value n_slices_Grow_LLimpl_Value_Limpl_Value rfl (ts := [4]) rfl rfl rfl ?_
  intro w0 ok0 lent ρ0
  refine LWP.seq_k fun N1 hN1 => ?_
  refine LWP.region (l := [_]) ?_
  refine LWo.assign _ rfl (hn := ?_)
  refine LWo.nil (hN1 _ ?_)
  refine LWP.seq_k fun N2 hN2 => ?_
  refine LWP.seq_k fun N3 hN3 => ?_
  refine LWP.region (l := [_,_]) ?_
  refine LWo.move _ rfl (hn := ?_)
  refine LWo.int _ rfl rfl rfl (hn := ?_)
  refine LWo.nil (hN3 _ ?_)
  refine LWP.cond_split rfl (fun h4 => ?_) (fun h4 => ?_)
  · try simp only [List.length_map, decide_eq_true_eq, decide_eq_false_iff_not, Int.ofNat_lt, Int.ofNat_le, Int.not_lt, Int.not_le, ge_iff_le, gt_iff_lt, Nat.not_le, Nat.not_lt] at h4
    clear hN1 hN2 hN3
    omega
  · try simp only [List.length_map, decide_eq_true_eq, decide_eq_false_iff_not, Int.ofNat_lt, Int.ofNat_le, Int.not_lt, Int.not_le, ge_iff_le, gt_iff_lt, Nat.not_le, Nat.not_lt] at h4
    refine LWP.skip (hN2 _ ?_)
    refine LWP.seq_k fun N5 hN5 => ?_
    refine LWP.seq_k fun N6 hN6 => ?_
    refine LWP.region (l := [_,_,_,_,_,_,_,_]) ?_
    refine LWo.move _ rfl (hn := ?_)
    refine LWo.move _ rfl (hn := ?_)
    refine LWo.capNil u_LLimpl_Value rfl (hn := ?_)
    refine LWo.move _ rfl (hn := ?_)
    refine LWo.len u_LLimpl_Value rfl (hn := ?_)
    refine LWo.int _ rfl rfl (sub_in (by omega) (by omega)) (hn := ?_)
    refine LWo.int _ rfl rfl (sub_in (by omega) (by omega)) (hn := ?_)
    refine LWo.assign _ rfl (hn := ?_)
    refine LWo.nil (hN6 _ ?_)
    refine LWP.seq_k fun N7 hN7 => ?_
    refine LWP.region (l := [_,_]) ?_
    refine LWo.move _ rfl (hn := ?_)
    refine LWo.int _ rfl rfl rfl (hn := ?_)
    refine LWo.nil (hN7 _ ?_)
    refine LWP.cond_split rfl (fun h8 => ?_) (fun h8 => ?_)
    · try simp only [List.length_map, decide_eq_true_eq, decide_eq_false_iff_not, Int.ofNat_lt, Int.ofNat_le, Int.not_lt, Int.not_le, ge_iff_le, gt_iff_lt, Nat.not_le, Nat.not_lt] at h8
      refine LWP.region (l := [_,_,_,_,_,_,_,_,_,_]) ?_
      refine LWo.move _ rfl (hn := ?_)
      refine LWo.move _ rfl (hn := ?_)
      refine LWo.capNil u_LLimpl_Value rfl (hn := ?_)
      refine LWo.cutNil u_LLimpl_Value s_Limpl_Value rfl rfl ⟨_, rfl⟩ (hn := ?_)
      refine LWo.move _ rfl (hn := ?_)
      refine LWo.appendMake (m := n) 22 (.imm (.slice none 0 0)) u_LLimpl_Value u_int i_Limpl_Value (zs := [.slice none 0 0]) rfl rfl (by simp [Value.oneCell']) rfl (.nil rfl (by simp at h8; omega)) (congrArg (fun z => LV.imm (Value.int .i64 z)) (show (n : Int) - (0 - ((0 : Nat) : Int)) = (n : Int) by omega)) rfl rfl (by simp; omega) (by simp; omega) (by simp at h8; omega) (by decide) (hn := ?_)
      refine LWo.move _ rfl (hn := ?_)
      refine LWo.len u_LLimpl_Value rfl (hn := ?_)
      refine LWo.cutOwn (l := 0) (h := 0) u_LLimpl_Value s_Limpl_Value rfl rfl rfl rfl ⟨_, rfl⟩ trivial (.inl rfl) (Nat.le_refl _) (Nat.zero_le _) rfl rfl (hn := ?_)
      refine LWo.assign _ rfl (hn := ?_)
      refine LWo.nil (hN5 _ ?_)
      refine LWP.seq_k fun N9 hN9 => ?_
      refine LWP.region (l := [_,_]) ?_
      refine LWo.move _ rfl (hn := ?_)
      refine LWo.assign _ rfl (hn := ?_)
      refine LWo.nil (hN9 _ ?_)
      refine LWP.ret (QRet.own1 (.inr rfl) rfl rfl rfl rfl (Nat.zero_le _) ⟨?_, rfl⟩)
      clear hN1 hN2 hN3 hN5 hN6 hN7 hN9
      rfl
    · try simp only [List.length_map, decide_eq_true_eq, decide_eq_false_iff_not, Int.ofNat_lt, Int.ofNat_le, Int.not_lt, Int.not_le, ge_iff_le, gt_iff_lt, Nat.not_le, Nat.not_lt] at h8
      refine LWP.skip (hN5 _ ?_)
      refine LWP.seq_k fun N10 hN10 => ?_
      refine LWP.region (l := [_,_]) ?_
      refine LWo.move _ rfl (hn := ?_)
      refine LWo.assign _ rfl (hn := ?_)
      refine LWo.nil (hN10 _ ?_)
      refine LWP.ret (QRet.nil1 (sz := 1) (dp := false) (.inr rfl) rfl ⟨?_, rfl⟩)
      clear hN1 hN2 hN3 hN5 hN6 hN7 hN10
      rfl

def m_slices_Grow_LLimpl_Value_Limpl_Value (a1 : Int) : Option (List (List S_impl_Value)) := if 0 ≤ a1 ∧ a1 ≤ 1000000000 then some [] else none
theorem c_slices_Grow_LLimpl_Value_Limpl_Value (a1 : Int) (r : List (List S_impl_Value)) (h : m_slices_Grow_LLimpl_Value_Limpl_Value a1 = some r) : Ret Try.prog f_slices_Grow_LLimpl_Value_Limpl_Value [.imm (.slice none 0 0), e_int a1] (.nw 1 (r.map e_Limpl_Value) false) := by
  unfold m_slices_Grow_LLimpl_Value_Limpl_Value at h
  split at h
  · rename_i h1
    cases h
    have := cc_slices_Grow_LLimpl_Value_Limpl_Value a1.toNat (by omega)
    rw [Int.toNat_of_nonneg h1.1] at this
    exact this
  · cases h



def m_slices_Concat_LLimpl_Value_Limpl_Value_j2 (o1024 : (List (List S_impl_Value))) : Option (List (List S_impl_Value)) :=
  some o1024
def m_slices_Concat_LLimpl_Value_Limpl_Value_l2 : Nat → (List (List (List S_impl_Value))) → Int → Int → (List (List S_impl_Value)) → Option (List (List S_impl_Value))
  | 0, _, _, _, _ => none
  | n2 + 1, t25, t26, t27, o1024 =>
    bif decide (t27 < t26) then ((at? t25 t27).bind fun x29 =>
    (app? o1024 x29).bind fun x30 =>
    (ckI (t27 + (1 : Int))).bind fun x31 =>
    (m_slices_Concat_LLimpl_Value_Limpl_Value_l2  n2) t25 t26 x31 x30)
    else (m_slices_Concat_LLimpl_Value_Limpl_Value_j2  o1024)
def m_slices_Concat_LLimpl_Value_Limpl_Value_j1 (t0 : (List (List (List S_impl_Value)))) (t3 : Int) : Option (List (List S_impl_Value)) :=
  (m_slices_Grow_LLimpl_Value_Limpl_Value t3).bind fun x19 =>
  m_slices_Concat_LLimpl_Value_Limpl_Value_l2  (((t0.length : Int) - (0 : Int)).toNat + 1) t0 (t0.length : Int) (0 : Int) x19
def m_slices_Concat_LLimpl_Value_Limpl_Value_l1 : Nat → (List (List (List S_impl_Value))) → Int → (List (List (List S_impl_Value))) → Int → Int → Option (List (List S_impl_Value))
  | 0, _, _, _, _, _ => none
  | n1 + 1, t0, t3, t9, t10, t11 =>
    bif decide (t11 < t10) then ((at? t9 t11).bind fun x12 =>
    (ckI (t3 + (x12.length : Int))).bind fun x14 =>
    bif decide (x14 < (0 : Int)) then (none)
    else ((ckI (t11 + (1 : Int))).bind fun x17 =>
    (m_slices_Concat_LLimpl_Value_Limpl_Value_l1  n1) t0 x14 t9 t10 x17))
    else (m_slices_Concat_LLimpl_Value_Limpl_Value_j1  t0 t3)
def m_slices_Concat_LLimpl_Value_Limpl_Value (a0 : (List (List (List S_impl_Value)))) : Option (List (List S_impl_Value)) :=
  m_slices_Concat_LLimpl_Value_Limpl_Value_l1  (((a0.length : Int) - (0 : Int)).toNat + 1) a0 (0 : Int) a0 (a0.length : Int) (0 : Int)
theorem c_slices_Concat_LLimpl_Value_Limpl_Value (a0 : (List (List (List S_impl_Value)))) (r : (List (List S_impl_Value))) (h : m_slices_Concat_LLimpl_Value_Limpl_Value a0 = some r) : Ret Try.prog f_slices_Concat_LLimpl_Value_Limpl_Value [e_LLLimpl_Value a0] (.nw 1 (r.map e_Limpl_Value) false) := by
  refine Does.goG [] F_slices_Concat_LLimpl_Value_Limpl_Value rfl e_slices_Concat_LLimpl_Value_Limpl_Value n_slices_Concat_LLimpl_Value_Limpl_Value rfl (rvs := [.tmp 2]) rfl rfl ?_
  intro w0 ok0 lent ρ0
  refine LWP.seq_k fun N1 hN1 => ?_
  refine LWP.region (l := [_]) ?_
  refine LWo.assign _ rfl (hn := ?_)
  refine LWo.ownNil 2 1002 1 rfl rfl rfl ?_
  refine LWo.known 2 (.own 1002 0 ([] : (List (List S_impl_Value))).length) rfl ?_
  refine LWo.nil (hN1 _ ?_)
  refine LWP.seq_k fun N2 hN2 => ?_
  refine LWP.region (l := [_]) ?_
  refine LWo.assign (e_int (0 : Int)) rfl (hn := ?_)
  refine LWo.nil (hN2 _ ?_)
  refine LWP.join (α := (List (List (List S_impl_Value))) × Int) (fun z : (List (List (List S_impl_Value))) × Int => [(0, (e_LLLimpl_Value z.1)), (3, (e_int z.2))]) (fun z : (List (List (List S_impl_Value))) × Int => []) (fun z : (List (List (List S_impl_Value))) × Int => m_slices_Concat_LLimpl_Value_Limpl_Value_j1  z.1 z.2) r (fun _ => by simp [hkeys]) ?_ ?_
  · rintro ⟨t0, t3⟩ h
    replace h : m_slices_Concat_LLimpl_Value_Limpl_Value_j1  t0 t3 = some _ := h
    refine LWP.seq_k fun N18 hN18 => ?_
    refine LWP.region (l := [_,_,_]) ?_
    refine LWo.move (e_int t3) rfl (hn := ?_)
    refine bk h fun x19 e19 h => ?_
    refine LWo.ncall (e := e_Limpl_Value) 1024 rfl rfl (c_slices_Grow_LLimpl_Value_Limpl_Value _ _ e19) (.same (.same (.nil))) rfl (hn := ?_)
    refine LWo.assign (.own 1024 0 (x19).length) rfl (hn := ?_)
    refine LWo.nil (hN18 _ ?_)
    refine LWP.join (α := (List (List S_impl_Value))) (fun z : (List (List S_impl_Value)) => [(6, (.own 1024 0 (z).length))]) (fun z : (List (List S_impl_Value)) => [(1024, (lob 1 e_Limpl_Value z))]) (fun z : (List (List S_impl_Value)) => m_slices_Concat_LLimpl_Value_Limpl_Value_j2  z) r (fun _ => by simp [hkeys]) ?_ ?_
    · rintro o1024 h
      replace h : m_slices_Concat_LLimpl_Value_Limpl_Value_j2  o1024 = some _ := h
      refine LWP.seq_k fun N32 hN32 => ?_
      refine LWP.region (l := [_,_]) ?_
      refine LWo.move (.own 1024 0 (o1024).length) rfl (hn := ?_)
      refine LWo.assign (.own 1024 0 (o1024).length) rfl (hn := ?_)
      refine LWo.nil (hN32 _ ?_)
      obtain rfl := Option.some.inj h
      refine LWP.ret (QG.mk (.inr rfl) (.cons (.tmp (x := (.own 1024 0 (o1024).length)) rfl) (.nil)) (RetOK.one0 (.nwM rfl rfl) (by decide)) rfl rfl)
    · intro N20 hN20
      refine LWP.seq_k fun N21 hN21 => ?_
      refine LWP.region (l := [_,_,_]) ?_
      refine LWo.move (e_LLLimpl_Value t0) rfl (hn := ?_)
      refine LWo.lenM (f := e_LLimpl_Value) (l := t0) u_LLLimpl_Value rfl (hn := ?_)
      refine LWo.move (e_int (0 : Int)) rfl (hn := ?_)
      refine LWo.nil (hN21 _ ?_)
      refine LWP.block ?_
      refine LWP.loopM (α := (List (List (List S_impl_Value))) × Int × Int × (List (List S_impl_Value))) (fun z : (List (List (List S_impl_Value))) × Int × Int × (List (List S_impl_Value)) => [(6, (.own 1024 0 (z.2.2.2).length)), (25, (e_LLLimpl_Value z.1)), (26, (e_int z.2.1)), (27, (e_int z.2.2.1))]) (fun z : (List (List (List S_impl_Value))) × Int × Int × (List (List S_impl_Value)) => [(1024, (lob 1 e_Limpl_Value z.2.2.2))]) (fun n2 (z : (List (List (List S_impl_Value))) × Int × Int × (List (List S_impl_Value))) => m_slices_Concat_LLimpl_Value_Limpl_Value_l2  n2 z.1 z.2.1 z.2.2.1 z.2.2.2) r _ (t0, (t0.length : Int), (0 : Int), x19) h (fun _ => rfl) (fun _ => by simp [hkeys]) ⟨rfl, rfl, rfl, rfl, trivial⟩ ⟨rfl, trivial⟩ ?_
      rintro n2 ⟨t25, t26, t27, o1024⟩ h N22 hN22
      replace h : m_slices_Concat_LLimpl_Value_Limpl_Value_l2  (n2 + 1) t25 t26 t27 o1024 = some _ := h
      refine LWP.seq_k fun N24 hN24 => ?_
      refine LWP.region (l := [_]) ?_
      refine LWo.int _ rfl rfl rfl (hn := ?_)
      refine LWo.nil (hN24 _ ?_)
      refine LWP.seq_k fun N25 hN25 => ?_
      refine LWP.cond_split rfl (fun h26 => ?_) (fun h26 => ?_)
      · have h := bT h26 h
        refine LWP.skip (hN25 _ ?_)
        refine LWP.seq_k fun N27 hN27 => ?_
        refine LWP.block ?_
        refine LWP.seq_k fun N28 hN28 => ?_
        refine LWP.region (l := [_,_,_]) ?_
        refine bk h fun x29 e29 h => ?_
        refine LWo.indexM (f := e_LLimpl_Value) e29 u_LLLimpl_Value s_LLimpl_Value rfl rfl (hn := ?_)
        refine LWo.load1 (c := (e_LLimpl_Value x29)) g_LLimpl_Value rfl (hn := ?_)
        refine LWo.assign (e_LLimpl_Value x29) rfl (hn := ?_)
        refine LWo.nil (hN28 _ ?_)
        refine LWP.region (l := [_,_,_,_]) ?_
        refine LWo.move (.own 1024 0 (o1024).length) rfl (hn := ?_)
        refine LWo.move (e_LLimpl_Value x29) rfl (hn := ?_)
        refine bk h fun x30 e30 h => ?_
        refine LWo.appendM (f := e_Limpl_Value) e30 rfl u_LLimpl_Value u_LLimpl_Value (fun _ h => by cases h) s_Limpl_Value i_Limpl_Value rfl rfl rfl (.sl rfl) rfl rfl (hn := ?_)
        refine LWo.assign (.own 1024 0 (x30).length) rfl (hn := ?_)
        refine LWo.nil (hN27 _ ?_)
        refine LWP.region (l := [_,_]) ?_
        refine bk h fun x31 e31 h => ?_
        refine LWo.int _ rfl rfl (add_ck e31) (hn := ?_)
        refine LWo.move (e_int x31) rfl (hn := ?_)
        refine LWo.nil (hN22 (t25, t26, x31, x30) _ ⟨rfl, rfl, rfl, rfl, trivial⟩ ⟨rfl, trivial⟩ h)
      · have h := bF h26 h
        refine LWP.exit (hN20 o1024 _ ⟨rfl, trivial⟩ ⟨rfl, trivial⟩ h)
  · intro N3 hN3
    refine LWP.seq_k fun N4 hN4 => ?_
    refine LWP.region (l := [_,_,_]) ?_
    refine LWo.move (e_LLLimpl_Value a0) rfl (hn := ?_)
    refine LWo.lenM (f := e_LLimpl_Value) (l := a0) u_LLLimpl_Value rfl (hn := ?_)
    refine LWo.move (e_int (0 : Int)) rfl (hn := ?_)
    refine LWo.nil (hN4 _ ?_)
    refine LWP.block ?_
    refine LWP.loopM (α := (List (List (List S_impl_Value))) × Int × (List (List (List S_impl_Value))) × Int × Int) (fun z : (List (List (List S_impl_Value))) × Int × (List (List (List S_impl_Value))) × Int × Int => [(0, (e_LLLimpl_Value z.1)), (3, (e_int z.2.1)), (9, (e_LLLimpl_Value z.2.2.1)), (10, (e_int z.2.2.2.1)), (11, (e_int z.2.2.2.2))]) (fun z : (List (List (List S_impl_Value))) × Int × (List (List (List S_impl_Value))) × Int × Int => []) (fun n1 (z : (List (List (List S_impl_Value))) × Int × (List (List (List S_impl_Value))) × Int × Int) => m_slices_Concat_LLimpl_Value_Limpl_Value_l1  n1 z.1 z.2.1 z.2.2.1 z.2.2.2.1 z.2.2.2.2) r _ (a0, (0 : Int), a0, (a0.length : Int), (0 : Int)) h (fun _ => rfl) (fun _ => by simp [hkeys]) ⟨rfl, rfl, rfl, rfl, rfl, trivial⟩ trivial ?_
    rintro n1 ⟨t0, t3, t9, t10, t11⟩ h N5 hN5
    replace h : m_slices_Concat_LLimpl_Value_Limpl_Value_l1  (n1 + 1) t0 t3 t9 t10 t11 = some _ := h
    refine LWP.seq_k fun N7 hN7 => ?_
    refine LWP.region (l := [_]) ?_
    refine LWo.int _ rfl rfl rfl (hn := ?_)
    refine LWo.nil (hN7 _ ?_)
    refine LWP.seq_k fun N8 hN8 => ?_
    refine LWP.cond_split rfl (fun h9 => ?_) (fun h9 => ?_)
    · have h := bT h9 h
      refine LWP.skip (hN8 _ ?_)
      refine LWP.seq_k fun N10 hN10 => ?_
      refine LWP.block ?_
      refine LWP.seq_k fun N11 hN11 => ?_
      refine LWP.region (l := [_,_,_]) ?_
      refine bk h fun x12 e12 h => ?_
      refine LWo.indexM (f := e_LLimpl_Value) e12 u_LLLimpl_Value s_LLimpl_Value rfl rfl (hn := ?_)
      refine LWo.load1 (c := (e_LLimpl_Value x12)) g_LLimpl_Value rfl (hn := ?_)
      refine LWo.assign (e_LLimpl_Value x12) rfl (hn := ?_)
      refine LWo.nil (hN11 _ ?_)
      refine LWP.seq_k fun N13 hN13 => ?_
      refine LWP.region (l := [_,_,_,_,_]) ?_
      refine LWo.move (e_int t3) rfl (hn := ?_)
      refine LWo.move (e_LLimpl_Value x12) rfl (hn := ?_)
      refine LWo.lenM (f := e_Limpl_Value) (l := x12) u_LLimpl_Value rfl (hn := ?_)
      refine bk h fun x14 e14 h => ?_
      refine LWo.int _ rfl rfl (add_ck e14) (hn := ?_)
      refine LWo.assign (e_int x14) rfl (hn := ?_)
      refine LWo.nil (hN13 _ ?_)
      refine LWP.seq_k fun N15 hN15 => ?_
      refine LWP.region (l := [_,_]) ?_
      refine LWo.move (e_int x14) rfl (hn := ?_)
      refine LWo.int _ rfl rfl rfl (hn := ?_)
      refine LWo.nil (hN15 _ ?_)
      refine LWP.cond_split rfl (fun h16 => ?_) (fun h16 => ?_)
      · have h := bT h16 h
        refine LWP.region (l := [_,_]) ?_
        exact no h
      · have h := bF h16 h
        refine LWP.skip (hN10 _ ?_)
        refine LWP.region (l := [_,_]) ?_
        refine bk h fun x17 e17 h => ?_
        refine LWo.int _ rfl rfl (add_ck e17) (hn := ?_)
        refine LWo.move (e_int x17) rfl (hn := ?_)
        refine LWo.nil (hN5 (t0, x14, t9, t10, x17) _ ⟨rfl, rfl, rfl, rfl, rfl, trivial⟩ trivial h)
    · have h := bF h9 h
      refine LWP.exit (hN3 (t0, t3) _ ⟨rfl, rfl, trivial⟩ trivial h)

def m_slices_Equal_Limpl_Value_impl_Value_j1  : Option Bool :=
  some true
def m_slices_Equal_Limpl_Value_impl_Value_l1 : Nat → (List S_impl_Value) → (List S_impl_Value) → Int → Int → Option Bool
  | 0, _, _, _, _ => none
  | n1 + 1, t0, t1, t12, t13 =>
    bif decide (t13 < t12) then ((at? t0 t13).bind fun x16 =>
    (at? t1 t13).bind fun x17 =>
    bif (!(decide (x16 = x17))) then (some false)
    else ((ckI (t13 + (1 : Int))).bind fun x20 =>
    (m_slices_Equal_Limpl_Value_impl_Value_l1  n1) t0 t1 t12 x20))
    else (m_slices_Equal_Limpl_Value_impl_Value_j1  )
def m_slices_Equal_Limpl_Value_impl_Value (a0 : (List S_impl_Value)) (a1 : (List S_impl_Value)) : Option Bool :=
  bif ((a0.length : Int) != (a1.length : Int)) then (some false)
  else (m_slices_Equal_Limpl_Value_impl_Value_l1  (((a0.length : Int) - (0 : Int)).toNat + 1) a0 a1 (a0.length : Int) (0 : Int))
theorem c_slices_Equal_Limpl_Value_impl_Value (a0 : (List S_impl_Value)) (a1 : (List S_impl_Value)) (r : Bool) (h : m_slices_Equal_Limpl_Value_impl_Value a0 a1 = some r) : Ret Try.prog f_slices_Equal_Limpl_Value_impl_Value [e_Limpl_Value a0, e_Limpl_Value a1] (e_bool r) := by
  refine Does.goG [] F_slices_Equal_Limpl_Value_impl_Value rfl e_slices_Equal_Limpl_Value_impl_Value n_slices_Equal_Limpl_Value_impl_Value rfl (rvs := [.tmp 4]) rfl rfl ?_
  intro w0 ok0 lent ρ0
  refine LWP.seq_k fun N1 hN1 => ?_
  refine LWP.region (l := [_]) ?_
  refine LWo.assign (e_bool false) rfl (hn := ?_)
  refine LWo.nil (hN1 _ ?_)
  refine LWP.seq_k fun N2 hN2 => ?_
  refine LWP.seq_k fun N3 hN3 => ?_
  refine LWP.region (l := [_,_,_,_,_]) ?_
  refine LWo.move (e_Limpl_Value a0) rfl (hn := ?_)
  refine LWo.lenM (f := e_impl_Value) (l := a0) u_Limpl_Value rfl (hn := ?_)
  refine LWo.move (e_Limpl_Value a1) rfl (hn := ?_)
  refine LWo.lenM (f := e_impl_Value) (l := a1) u_Limpl_Value rfl (hn := ?_)
  refine LWo.int _ rfl rfl rfl (hn := ?_)
  refine LWo.nil (hN3 _ ?_)
  refine LWP.cond_split rfl (fun h4 => ?_) (fun h4 => ?_)
  · have h := bT h4 h
    refine LWP.seq_k fun N5 hN5 => ?_
    refine LWP.region (l := [_]) ?_
    refine LWo.assign (e_bool false) rfl (hn := ?_)
    refine LWo.nil (hN5 _ ?_)
    obtain rfl := Option.some.inj h
    refine LWP.ret (QG.mk (.inr rfl) (.cons (.tmp (x := (e_bool false)) rfl) (.nil)) (RetOK.one0 (.pure rfl) (by decide)) rfl rfl)
  · have h := bF h4 h
    refine LWP.skip (hN2 _ ?_)
    refine LWP.join (α := Unit) (fun z : Unit => []) (fun z : Unit => []) (fun z : Unit => m_slices_Equal_Limpl_Value_impl_Value_j1  ) r (fun _ => by simp [hkeys]) ?_ ?_
    · rintro _ h
      replace h : m_slices_Equal_Limpl_Value_impl_Value_j1   = some _ := h
      refine LWP.seq_k fun N21 hN21 => ?_
      refine LWP.region (l := [_]) ?_
      refine LWo.assign (e_bool true) rfl (hn := ?_)
      refine LWo.nil (hN21 _ ?_)
      obtain rfl := Option.some.inj h
      refine LWP.ret (QG.mk (.inr rfl) (.cons (.tmp (x := (e_bool true)) rfl) (.nil)) (RetOK.one0 (.pure rfl) (by decide)) rfl rfl)
    · intro N6 hN6
      refine LWP.seq_k fun N7 hN7 => ?_
      refine LWP.region (l := [_,_,_]) ?_
      refine LWo.move (e_Limpl_Value a0) rfl (hn := ?_)
      refine LWo.lenM (f := e_impl_Value) (l := a0) u_Limpl_Value rfl (hn := ?_)
      refine LWo.move (e_int (0 : Int)) rfl (hn := ?_)
      refine LWo.nil (hN7 _ ?_)
      refine LWP.block ?_
      refine LWP.loopM (α := (List S_impl_Value) × (List S_impl_Value) × Int × Int) (fun z : (List S_impl_Value) × (List S_impl_Value) × Int × Int => [(0, (e_Limpl_Value z.1)), (1, (e_Limpl_Value z.2.1)), (12, (e_int z.2.2.1)), (13, (e_int z.2.2.2))]) (fun z : (List S_impl_Value) × (List S_impl_Value) × Int × Int => []) (fun n1 (z : (List S_impl_Value) × (List S_impl_Value) × Int × Int) => m_slices_Equal_Limpl_Value_impl_Value_l1  n1 z.1 z.2.1 z.2.2.1 z.2.2.2) r _ (a0, a1, (a0.length : Int), (0 : Int)) h (fun _ => rfl) (fun _ => by simp [hkeys]) ⟨rfl, rfl, rfl, rfl, trivial⟩ trivial ?_
      rintro n1 ⟨t0, t1, t12, t13⟩ h N8 hN8
      replace h : m_slices_Equal_Limpl_Value_impl_Value_l1  (n1 + 1) t0 t1 t12 t13 = some _ := h
      refine LWP.seq_k fun N10 hN10 => ?_
      refine LWP.region (l := [_]) ?_
      refine LWo.int _ rfl rfl rfl (hn := ?_)
      refine LWo.nil (hN10 _ ?_)
      refine LWP.seq_k fun N11 hN11 => ?_
      refine LWP.cond_split rfl (fun h12 => ?_) (fun h12 => ?_)
      · have h := bT h12 h
        refine LWP.skip (hN11 _ ?_)
        refine LWP.seq_k fun N13 hN13 => ?_
        refine LWP.block ?_
        refine LWP.seq_k fun N14 hN14 => ?_
        refine LWP.region (l := [_,_]) ?_
        refine LWo.move (e_int t13) rfl (hn := ?_)
        refine LWo.assign (e_int t13) rfl (hn := ?_)
        refine LWo.nil (hN14 _ ?_)
        refine LWP.seq_k fun N15 hN15 => ?_
        refine bk h fun x16 e16 h => ?_
        refine bk h fun x17 e17 h => ?_
        refine LWP.drawE (l := [_,_,_,_,_,_,_,_,_]) [] [0, 1, 5, 12, 13] [([0], []), ([5], []), ([16, 17], []), ([18], []), ([1], []), ([5], []), ([20, 21], []), ([22], []), ([19, 23], [])] [0, 1, 12, 13, 24] [] mixed (by kernel_rfl) rfl (by decide) ?_
        refine ⟨rfl, .put 16 _, trivial, fun u hg hu hh => LWo.move (e_Limpl_Value t0) hu.1 (hn := LWo.nil ⟨rfl, .inl rfl, hg⟩), ?_⟩
        refine ⟨rfl, .put 17 _, trivial, fun u hg hu hh => LWo.move (e_int t13) hu.1 (hn := LWo.nil ⟨rfl, .inl rfl, hg⟩), ?_⟩
        refine ⟨rfl, .put 18 _, trivial, fun u hg hu hh => LWo.indexM (f := e_impl_Value) e16 u_Limpl_Value s_impl_Value hu.1 hu.2.1 (hn := LWo.nil ⟨rfl, .inl rfl, hg⟩), ?_⟩
        refine ⟨rfl, .put 19 _, trivial, fun u hg hu hh => LWo.loadN ((e_impl_Value x16)).cells g_impl_Value s_impl_Value hu.1 (Nat.le_of_ble_eq_true rfl) rfl (hn := LWo.nil ⟨rfl, .inl rfl, hg⟩), ?_⟩
        refine ⟨rfl, .put 20 _, trivial, fun u hg hu hh => LWo.move (e_Limpl_Value t1) hu.1 (hn := LWo.nil ⟨rfl, .inl rfl, hg⟩), ?_⟩
        refine ⟨rfl, .put 21 _, trivial, fun u hg hu hh => LWo.move (e_int t13) hu.1 (hn := LWo.nil ⟨rfl, .inl rfl, hg⟩), ?_⟩
        refine ⟨rfl, .put 22 _, trivial, fun u hg hu hh => LWo.indexM (f := e_impl_Value) e17 u_Limpl_Value s_impl_Value hu.1 hu.2.1 (hn := LWo.nil ⟨rfl, .inl rfl, hg⟩), ?_⟩
        refine ⟨rfl, .put 23 _, trivial, fun u hg hu hh => LWo.loadN ((e_impl_Value x17)).cells g_impl_Value s_impl_Value hu.1 (Nat.le_of_ble_eq_true rfl) rfl (hn := LWo.nil ⟨rfl, .inl rfl, hg⟩), ?_⟩
        refine ⟨rfl, .put 24 _, trivial, fun u hg hu hh => LWo.ne_impl_Value _ _ hu.1 hu.2.1 (hn := LWo.nil ⟨rfl, .inl rfl, hg⟩), ?_⟩
        refine ⟨rfl, by kernel_rfl, hN15 _ ?_⟩
        refine LWP.cond_split rfl (fun h18 => ?_) (fun h18 => ?_)
        · have h := bT h18 h
          refine LWP.seq_k fun N19 hN19 => ?_
          refine LWP.region (l := [_]) ?_
          refine LWo.assign (e_bool false) rfl (hn := ?_)
          refine LWo.nil (hN19 _ ?_)
          obtain rfl := Option.some.inj h
          refine LWP.ret (QG.mk (.inr rfl) (.cons (.tmp (x := (e_bool false)) rfl) (.nil)) (RetOK.one0 (.pure rfl) (by decide)) rfl rfl)
        · have h := bF h18 h
          refine LWP.skip (hN13 _ ?_)
          refine LWP.region (l := [_,_]) ?_
          refine bk h fun x20 e20 h => ?_
          refine LWo.int _ rfl rfl (add_ck e20) (hn := ?_)
          refine LWo.move (e_int x20) rfl (hn := ?_)
          refine LWo.nil (hN8 (t0, t1, t12, x20) _ ⟨rfl, rfl, rfl, rfl, trivial⟩ trivial h)
      · have h := bF h12 h
        refine LWP.exit (hN6 () _ trivial trivial h)
end Go.Proofs.Ytemfdnnhknepbaa
