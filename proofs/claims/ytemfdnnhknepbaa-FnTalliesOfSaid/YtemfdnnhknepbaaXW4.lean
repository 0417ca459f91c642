/- Mirrors of functions, and that the functions return what the mirrors say. -/
import Derived.Test.YtemfdnnhknepbaaXW3
set_option linter.unusedVariables false
set_option linter.unusedSimpArgs false
set_option linter.unnecessarySimpa false
namespace Go.Proofs.Ytemfdnnhknepbaa
open Go.Proofs Go.Lift Go.RowKit
def m_laws_sameTallies_j2  : Option Bool :=
  some true
def m_laws_sameTallies_j1 (k1 : (List S_impl_Tally) → (List S_impl_Tally) → Int → Option Bool) (t0 : (List S_impl_Tally)) (t1 : (List S_impl_Tally)) (t5 : Int) (t67 : Bool) : Option Bool :=
  bif t67 then (some false)
  else ((ckI (t5 + (1 : Int))).bind fun x29 =>
  k1 t0 t1 x29)
def m_laws_sameTallies_l1 : Nat → (List S_impl_Tally) → (List S_impl_Tally) → Int → Option Bool
  | 0, _, _, _ => none
  | n1 + 1, t0, t1, t5 =>
    bif decide (t5 < (t0.length : Int)) then ((at? t0 t5).bind fun x15 =>
    (at? t1 t5).bind fun x16 =>
    bif (x15.Rows != x16.Rows) then (m_laws_sameTallies_j1  (m_laws_sameTallies_l1  n1) t0 t1 t5 true)
    else ((at? t0 t5).bind fun x18 =>
      (at? t1 t5).bind fun x19 =>
      bif (x18.Many != x19.Many) then (m_laws_sameTallies_j1  (m_laws_sameTallies_l1  n1) t0 t1 t5 true)
      else ((at? t0 t5).bind fun x21 =>
        (at? t1 t5).bind fun x22 =>
        bif (x21.Sum != x22.Sum) then (m_laws_sameTallies_j1  (m_laws_sameTallies_l1  n1) t0 t1 t5 true)
        else ((at? t0 t5).bind fun x24 =>
          (at? t1 t5).bind fun x25 =>
          (m_laws_sameRow x24.Key x25.Key).bind fun x26 =>
          m_laws_sameTallies_j1  (m_laws_sameTallies_l1  n1) t0 t1 t5 (!x26)))))
    else (m_laws_sameTallies_j2  )
def m_laws_sameTallies (a0 : (List S_impl_Tally)) (a1 : (List S_impl_Tally)) : Option Bool :=
  bif ((a0.length : Int) != (a1.length : Int)) then (some false)
  else (m_laws_sameTallies_l1  (((a0.length : Int) - (0 : Int)).toNat + 1) a0 a1 (0 : Int))
theorem c_laws_sameTallies (a0 : (List S_impl_Tally)) (a1 : (List S_impl_Tally)) (r : Bool) (h : m_laws_sameTallies a0 a1 = some r) : Ret Try.prog f_laws_sameTallies [e_Limpl_Tally a0, e_Limpl_Tally a1] (e_bool r) := by
  refine Does.goG [] F_laws_sameTallies rfl e_laws_sameTallies n_laws_sameTallies rfl (rvs := [.tmp 4]) rfl rfl ?_
  intro w0 ok0 lent ρ0
  refine LWP.seq_k fun N1 hN1 => ?_
  refine LWP.region (l := [_]) ?_
  refine LWo.assign (e_bool false) rfl (hn := ?_)
  refine LWo.nil (hN1 _ ?_)
  refine LWP.seq_k fun N2 hN2 => ?_
  refine LWP.seq_k fun N3 hN3 => ?_
  refine LWP.region (l := [_,_,_,_,_]) ?_
  refine LWo.move (e_Limpl_Tally a0) rfl (hn := ?_)
  refine LWo.lenM (f := e_impl_Tally) (l := a0) u_Limpl_Tally rfl (hn := ?_)
  refine LWo.move (e_Limpl_Tally a1) rfl (hn := ?_)
  refine LWo.lenM (f := e_impl_Tally) (l := a1) u_Limpl_Tally rfl (hn := ?_)
  refine LWo.int _ rfl rfl rfl (hn := ?_)
  refine LWo.nil (hN3 _ ?_)
  refine LWP.cond_split rfl (fun h4 => ?_) (fun h4 => ?_)
  · have h := bT h4 h
    refine LWP.seq_k fun N5 hN5 => ?_
    refine LWP.region (l := [_]) ?_
    refine LWo.assign (e_bool false) rfl (hn := ?_)
    refine LWo.nil (hN5 _ ?_)
    obtain rfl := Option.some.inj h
    refine LWP.ret (QG.mk (.inr rfl) (.cons (.tmp (x := (e_bool false)) rfl) (.nil)) (RetOK.one0 (.pure rfl) (by decide)) rfl rfl)
  · have h := bF h4 h
    refine LWP.skip (hN2 _ ?_)
    refine LWP.join (α := Unit) (fun z : Unit => []) (fun z : Unit => []) (fun z : Unit => m_laws_sameTallies_j2  ) r (fun _ => by simp [hkeys]) ?_ ?_
    · rintro _ h
      replace h : m_laws_sameTallies_j2   = some _ := h
      refine LWP.seq_k fun N30 hN30 => ?_
      refine LWP.region (l := [_]) ?_
      refine LWo.assign (e_bool true) rfl (hn := ?_)
      refine LWo.nil (hN30 _ ?_)
      obtain rfl := Option.some.inj h
      refine LWP.ret (QG.mk (.inr rfl) (.cons (.tmp (x := (e_bool true)) rfl) (.nil)) (RetOK.one0 (.pure rfl) (by decide)) rfl rfl)
    · intro N6 hN6
      refine LWP.seq_k fun N7 hN7 => ?_
      refine LWP.region (l := [_]) ?_
      refine LWo.assign (e_int (0 : Int)) rfl (hn := ?_)
      refine LWo.nil (hN7 _ ?_)
      refine LWP.block ?_
      refine LWP.loopM (α := (List S_impl_Tally) × (List S_impl_Tally) × Int) (fun z : (List S_impl_Tally) × (List S_impl_Tally) × Int => [(0, (e_Limpl_Tally z.1)), (1, (e_Limpl_Tally z.2.1)), (5, (e_int z.2.2))]) (fun z : (List S_impl_Tally) × (List S_impl_Tally) × Int => []) (fun n1 (z : (List S_impl_Tally) × (List S_impl_Tally) × Int) => m_laws_sameTallies_l1  n1 z.1 z.2.1 z.2.2) r _ (a0, a1, (0 : Int)) h (fun _ => rfl) (fun _ => by simp [hkeys]) ⟨rfl, rfl, rfl, trivial⟩ trivial ?_
      rintro n1 ⟨t0, t1, t5⟩ h N8 hN8
      replace h : m_laws_sameTallies_l1  (n1 + 1) t0 t1 t5 = some _ := h
      refine LWP.seq_k fun N10 hN10 => ?_
      refine LWP.seq_k fun N11 hN11 => ?_
      refine LWP.region (l := [_,_,_,_]) ?_
      refine LWo.move (e_int t5) rfl (hn := ?_)
      refine LWo.move (e_Limpl_Tally t0) rfl (hn := ?_)
      refine LWo.lenM (f := e_impl_Tally) (l := t0) u_Limpl_Tally rfl (hn := ?_)
      refine LWo.int _ rfl rfl rfl (hn := ?_)
      refine LWo.nil (hN11 _ ?_)
      refine LWP.cond_split rfl (fun h12 => ?_) (fun h12 => ?_)
      · have h := bT h12 h
        refine LWP.skip (hN10 _ ?_)
        refine LWP.seq_k fun N13 hN13 => ?_
        refine LWP.block ?_
        refine LWP.join (α := (List S_impl_Tally) × (List S_impl_Tally) × Int × Bool) (fun z : (List S_impl_Tally) × (List S_impl_Tally) × Int × Bool => [(0, (e_Limpl_Tally z.1)), (1, (e_Limpl_Tally z.2.1)), (5, (e_int z.2.2.1)), (67, (e_bool z.2.2.2))]) (fun z : (List S_impl_Tally) × (List S_impl_Tally) × Int × Bool => []) (fun z : (List S_impl_Tally) × (List S_impl_Tally) × Int × Bool => m_laws_sameTallies_j1  (m_laws_sameTallies_l1  n1) z.1 z.2.1 z.2.2.1 z.2.2.2) r (fun _ => by simp [hkeys]) ?_ ?_
        · rintro ⟨t0, t1, t5, t67⟩ h
          replace h : m_laws_sameTallies_j1  (m_laws_sameTallies_l1  n1) t0 t1 t5 t67 = some _ := h
          refine LWP.cond_split rfl (fun h27 => ?_) (fun h27 => ?_)
          · have h := bT h27 h
            refine LWP.seq_k fun N28 hN28 => ?_
            refine LWP.region (l := [_]) ?_
            refine LWo.assign (e_bool false) rfl (hn := ?_)
            refine LWo.nil (hN28 _ ?_)
            obtain rfl := Option.some.inj h
            refine LWP.ret (QG.mk (.inr rfl) (.cons (.tmp (x := (e_bool false)) rfl) (.nil)) (RetOK.one0 (.pure rfl) (by decide)) rfl rfl)
          · have h := bF h27 h
            refine LWP.skip (hN13 _ ?_)
            refine LWP.region (l := [_,_,_]) ?_
            refine LWo.move (e_int t5) rfl (hn := ?_)
            refine bk h fun x29 e29 h => ?_
            refine LWo.int _ rfl rfl (add_ck e29) (hn := ?_)
            refine LWo.assign (e_int x29) rfl (hn := ?_)
            refine LWo.nil (hN8 (t0, t1, x29) _ ⟨rfl, rfl, rfl, trivial⟩ trivial h)
        · intro N14 hN14
          refine bk h fun x15 e15 h => ?_
          refine bk h fun x16 e16 h => ?_
          refine bS ((x15.Rows != x16.Rows)) (fun h17 => ?_) (fun h17 => ?_)
          · have h := bT h17 h
            refine LWP.drawE (l := [_,_,_,_,_,_,_,_,_,_,_,_,_,_,_,_,_,_,_,_,_,_,_,_,_,_,_,_,_,_,_,_,_,_,_,_,_,_,_,_,_,_,_,_,_,_,_,_,_,_,_]) [] [0, 1, 5] [([0], []), ([5], []), ([17, 18], []), ([19], []), ([20], []), ([1], []), ([5], []), ([22, 23], []), ([24], []), ([25], []), ([21, 26], []), ([27], []), ([0, 28], []), ([5, 28], []), ([28, 29, 30], []), ([28, 31], []), ([28, 32], []), ([1, 28], []), ([5, 28], []), ([28, 34, 35], []), ([28, 36], []), ([28, 37], []), ([28, 33, 38], []), ([28, 39], []), ([40], []), ([0, 41], []), ([5, 41], []), ([41, 42, 43], []), ([41, 44], []), ([41, 45], []), ([1, 41], []), ([5, 41], []), ([41, 47, 48], []), ([41, 49], []), ([41, 50], []), ([41, 46, 51], []), ([41, 52], []), ([53], []), ([0, 54], []), ([5, 54], []), ([54, 55, 56], []), ([54, 57], []), ([54, 58], []), ([1, 54], []), ([5, 54], []), ([54, 60, 61], []), ([54, 62], []), ([54, 63], []), ([54, 59, 64], []), ([54, 65], []), ([54, 66], [])] [0, 1, 5, 67] [] mixed (by kernel_rfl) rfl (by decide) ?_
            refine ⟨rfl, .put 17 _, trivial, fun u hg hu hh => LWo.move (e_Limpl_Tally t0) hu.1 (hn := LWo.nil ⟨rfl, .inl rfl, hg⟩), ?_⟩
            refine ⟨rfl, .put 18 _, trivial, fun u hg hu hh => LWo.move (e_int t5) hu.1 (hn := LWo.nil ⟨rfl, .inl rfl, hg⟩), ?_⟩
            refine ⟨rfl, .put 19 _, trivial, fun u hg hu hh => LWo.indexM (f := e_impl_Tally) e15 u_Limpl_Tally s_impl_Tally hu.1 hu.2.1 (hn := LWo.nil ⟨rfl, .inl rfl, hg⟩), ?_⟩
            refine ⟨rfl, .put 20 _, trivial, fun u hg hu hh => LWo.fieldAddr _ u_impl_Tally rfl s_int hu.1 rfl (hn := LWo.nil ⟨rfl, .inl rfl, hg⟩), ?_⟩
            refine ⟨rfl, .put 21 _, trivial, fun u hg hu hh => LWo.load1 (c := (e_int x15.Rows)) g_int hu.1 (hn := LWo.nil ⟨rfl, .inl rfl, hg⟩), ?_⟩
            refine ⟨rfl, .put 22 _, trivial, fun u hg hu hh => LWo.move (e_Limpl_Tally t1) hu.1 (hn := LWo.nil ⟨rfl, .inl rfl, hg⟩), ?_⟩
            refine ⟨rfl, .put 23 _, trivial, fun u hg hu hh => LWo.move (e_int t5) hu.1 (hn := LWo.nil ⟨rfl, .inl rfl, hg⟩), ?_⟩
            refine ⟨rfl, .put 24 _, trivial, fun u hg hu hh => LWo.indexM (f := e_impl_Tally) e16 u_Limpl_Tally s_impl_Tally hu.1 hu.2.1 (hn := LWo.nil ⟨rfl, .inl rfl, hg⟩), ?_⟩
            refine ⟨rfl, .put 25 _, trivial, fun u hg hu hh => LWo.fieldAddr _ u_impl_Tally rfl s_int hu.1 rfl (hn := LWo.nil ⟨rfl, .inl rfl, hg⟩), ?_⟩
            refine ⟨rfl, .put 26 _, trivial, fun u hg hu hh => LWo.load1 (c := (e_int x16.Rows)) g_int hu.1 (hn := LWo.nil ⟨rfl, .inl rfl, hg⟩), ?_⟩
            refine ⟨rfl, .put 27 _, trivial, fun u hg hu hh => LWo.int _ hu.1 hu.2.1 rfl (hn := LWo.nil ⟨rfl, .inl rfl, hg⟩), ?_⟩
            refine ⟨rfl, .put 28 _, trivial, fun u hg hu hh => LWo.move (e_bool (x15.Rows != x16.Rows)) hu.1 (hn := LWo.nil ⟨rfl, .inl rfl, hg⟩), ?_⟩
            refine ⟨rfl, .put 29 _, trivial, fun u hg hu hh => LWo.guardNU (t := 28) hu.2.1 h17 rfl rfl rfl rfl rfl (LWo.nil ⟨rfl, .inl rfl, hg⟩), ?_⟩
            refine ⟨rfl, .put 30 _, trivial, fun u hg hu hh => LWo.guardNU (t := 28) hu.2.1 h17 rfl rfl rfl rfl rfl (LWo.nil ⟨rfl, .inl rfl, hg⟩), ?_⟩
            refine ⟨rfl, .put 31 _, trivial, fun u hg hu hh => LWo.guardNU (t := 28) hu.1 h17 rfl rfl rfl rfl rfl (LWo.nil ⟨rfl, .inl rfl, hg⟩), ?_⟩
            refine ⟨rfl, .put 32 _, trivial, fun u hg hu hh => LWo.guardNU (t := 28) hu.1 h17 rfl rfl rfl rfl rfl (LWo.nil ⟨rfl, .inl rfl, hg⟩), ?_⟩
            refine ⟨rfl, .put 33 _, trivial, fun u hg hu hh => LWo.guardNU (t := 28) hu.1 h17 rfl rfl rfl rfl rfl (LWo.nil ⟨rfl, .inl rfl, hg⟩), ?_⟩
            refine ⟨rfl, .put 34 _, trivial, fun u hg hu hh => LWo.guardNU (t := 28) hu.2.1 h17 rfl rfl rfl rfl rfl (LWo.nil ⟨rfl, .inl rfl, hg⟩), ?_⟩
            refine ⟨rfl, .put 35 _, trivial, fun u hg hu hh => LWo.guardNU (t := 28) hu.2.1 h17 rfl rfl rfl rfl rfl (LWo.nil ⟨rfl, .inl rfl, hg⟩), ?_⟩
            refine ⟨rfl, .put 36 _, trivial, fun u hg hu hh => LWo.guardNU (t := 28) hu.1 h17 rfl rfl rfl rfl rfl (LWo.nil ⟨rfl, .inl rfl, hg⟩), ?_⟩
            refine ⟨rfl, .put 37 _, trivial, fun u hg hu hh => LWo.guardNU (t := 28) hu.1 h17 rfl rfl rfl rfl rfl (LWo.nil ⟨rfl, .inl rfl, hg⟩), ?_⟩
            refine ⟨rfl, .put 38 _, trivial, fun u hg hu hh => LWo.guardNU (t := 28) hu.1 h17 rfl rfl rfl rfl rfl (LWo.nil ⟨rfl, .inl rfl, hg⟩), ?_⟩
            refine ⟨rfl, .put 39 _, trivial, fun u hg hu hh => LWo.guardNU (t := 28) hu.1 h17 rfl rfl rfl rfl rfl (LWo.nil ⟨rfl, .inl rfl, hg⟩), ?_⟩
            refine ⟨rfl, .put 40 _, trivial, fun u hg hu hh => LWo.pickTM (e_bool true) hu.1 h17 rfl (hn := LWo.nil ⟨rfl, .inl rfl, hg⟩), ?_⟩
            refine ⟨rfl, .put 41 _, trivial, fun u hg hu hh => LWo.move (e_bool true) hu.1 (hn := LWo.nil ⟨rfl, .inl rfl, hg⟩), ?_⟩
            refine ⟨rfl, .put 42 _, trivial, fun u hg hu hh => LWo.guardNU (t := 41) hu.2.1 rfl rfl rfl rfl rfl rfl (LWo.nil ⟨rfl, .inl rfl, hg⟩), ?_⟩
            refine ⟨rfl, .put 43 _, trivial, fun u hg hu hh => LWo.guardNU (t := 41) hu.2.1 rfl rfl rfl rfl rfl rfl (LWo.nil ⟨rfl, .inl rfl, hg⟩), ?_⟩
            refine ⟨rfl, .put 44 _, trivial, fun u hg hu hh => LWo.guardNU (t := 41) hu.1 rfl rfl rfl rfl rfl rfl (LWo.nil ⟨rfl, .inl rfl, hg⟩), ?_⟩
            refine ⟨rfl, .put 45 _, trivial, fun u hg hu hh => LWo.guardNU (t := 41) hu.1 rfl rfl rfl rfl rfl rfl (LWo.nil ⟨rfl, .inl rfl, hg⟩), ?_⟩
            refine ⟨rfl, .put 46 _, trivial, fun u hg hu hh => LWo.guardNU (t := 41) hu.1 rfl rfl rfl rfl rfl rfl (LWo.nil ⟨rfl, .inl rfl, hg⟩), ?_⟩
            refine ⟨rfl, .put 47 _, trivial, fun u hg hu hh => LWo.guardNU (t := 41) hu.2.1 rfl rfl rfl rfl rfl rfl (LWo.nil ⟨rfl, .inl rfl, hg⟩), ?_⟩
            refine ⟨rfl, .put 48 _, trivial, fun u hg hu hh => LWo.guardNU (t := 41) hu.2.1 rfl rfl rfl rfl rfl rfl (LWo.nil ⟨rfl, .inl rfl, hg⟩), ?_⟩
            refine ⟨rfl, .put 49 _, trivial, fun u hg hu hh => LWo.guardNU (t := 41) hu.1 rfl rfl rfl rfl rfl rfl (LWo.nil ⟨rfl, .inl rfl, hg⟩), ?_⟩
            refine ⟨rfl, .put 50 _, trivial, fun u hg hu hh => LWo.guardNU (t := 41) hu.1 rfl rfl rfl rfl rfl rfl (LWo.nil ⟨rfl, .inl rfl, hg⟩), ?_⟩
            refine ⟨rfl, .put 51 _, trivial, fun u hg hu hh => LWo.guardNU (t := 41) hu.1 rfl rfl rfl rfl rfl rfl (LWo.nil ⟨rfl, .inl rfl, hg⟩), ?_⟩
            refine ⟨rfl, .put 52 _, trivial, fun u hg hu hh => LWo.guardNU (t := 41) hu.1 rfl rfl rfl rfl rfl rfl (LWo.nil ⟨rfl, .inl rfl, hg⟩), ?_⟩
            refine ⟨rfl, .put 53 _, trivial, fun u hg hu hh => LWo.pickTM (e_bool true) hu.1 rfl rfl (hn := LWo.nil ⟨rfl, .inl rfl, hg⟩), ?_⟩
            refine ⟨rfl, .put 54 _, trivial, fun u hg hu hh => LWo.move (e_bool true) hu.1 (hn := LWo.nil ⟨rfl, .inl rfl, hg⟩), ?_⟩
            refine ⟨rfl, .put 55 _, trivial, fun u hg hu hh => LWo.guardNU (t := 54) hu.2.1 rfl rfl rfl rfl rfl rfl (LWo.nil ⟨rfl, .inl rfl, hg⟩), ?_⟩
            refine ⟨rfl, .put 56 _, trivial, fun u hg hu hh => LWo.guardNU (t := 54) hu.2.1 rfl rfl rfl rfl rfl rfl (LWo.nil ⟨rfl, .inl rfl, hg⟩), ?_⟩
            refine ⟨rfl, .put 57 _, trivial, fun u hg hu hh => LWo.guardNU (t := 54) hu.1 rfl rfl rfl rfl rfl rfl (LWo.nil ⟨rfl, .inl rfl, hg⟩), ?_⟩
            refine ⟨rfl, .put 58 _, trivial, fun u hg hu hh => LWo.guardNU (t := 54) hu.1 rfl rfl rfl rfl rfl rfl (LWo.nil ⟨rfl, .inl rfl, hg⟩), ?_⟩
            refine ⟨rfl, .put 59 _, trivial, fun u hg hu hh => LWo.guardNU (t := 54) hu.1 rfl rfl rfl rfl rfl rfl (LWo.nil ⟨rfl, .inl rfl, hg⟩), ?_⟩
            refine ⟨rfl, .put 60 _, trivial, fun u hg hu hh => LWo.guardNU (t := 54) hu.2.1 rfl rfl rfl rfl rfl rfl (LWo.nil ⟨rfl, .inl rfl, hg⟩), ?_⟩
            refine ⟨rfl, .put 61 _, trivial, fun u hg hu hh => LWo.guardNU (t := 54) hu.2.1 rfl rfl rfl rfl rfl rfl (LWo.nil ⟨rfl, .inl rfl, hg⟩), ?_⟩
            refine ⟨rfl, .put 62 _, trivial, fun u hg hu hh => LWo.guardNU (t := 54) hu.1 rfl rfl rfl rfl rfl rfl (LWo.nil ⟨rfl, .inl rfl, hg⟩), ?_⟩
            refine ⟨rfl, .put 63 _, trivial, fun u hg hu hh => LWo.guardNU (t := 54) hu.1 rfl rfl rfl rfl rfl rfl (LWo.nil ⟨rfl, .inl rfl, hg⟩), ?_⟩
            refine ⟨rfl, .put 64 _, trivial, fun u hg hu hh => LWo.guardNU (t := 54) hu.1 rfl rfl rfl rfl rfl rfl (LWo.nil ⟨rfl, .inl rfl, hg⟩), ?_⟩
            refine ⟨rfl, .put 65 _, trivial, fun u hg hu hh => LWo.guardNU (t := 54) hu.1 rfl rfl rfl rfl rfl rfl (LWo.nil ⟨rfl, .inl rfl, hg⟩), ?_⟩
            refine ⟨rfl, .put 66 _, trivial, fun u hg hu hh => LWo.guardNU (t := 54) hu.1 rfl rfl rfl rfl rfl rfl (LWo.nil ⟨rfl, .inl rfl, hg⟩), ?_⟩
            refine ⟨rfl, .put 67 _, trivial, fun u hg hu hh => LWo.pickTM (e_bool true) hu.1 rfl rfl (hn := LWo.nil ⟨rfl, .inl rfl, hg⟩), ?_⟩
            refine ⟨rfl, by kernel_rfl, hN14 (t0, t1, t5, true) _ ⟨rfl, rfl, rfl, rfl, trivial⟩ trivial h⟩
          · have h := bF h17 h
            refine bk h fun x18 e18 h => ?_
            refine bk h fun x19 e19 h => ?_
            refine bS ((x18.Many != x19.Many)) (fun h20 => ?_) (fun h20 => ?_)
            · have h := bT h20 h
              refine LWP.drawE (l := [_,_,_,_,_,_,_,_,_,_,_,_,_,_,_,_,_,_,_,_,_,_,_,_,_,_,_,_,_,_,_,_,_,_,_,_,_,_,_,_,_,_,_,_,_,_,_,_,_,_,_]) [] [0, 1, 5] [([0], []), ([5], []), ([17, 18], []), ([19], []), ([20], []), ([1], []), ([5], []), ([22, 23], []), ([24], []), ([25], []), ([21, 26], []), ([27], []), ([0, 28], []), ([5, 28], []), ([28, 29, 30], []), ([28, 31], []), ([28, 32], []), ([1, 28], []), ([5, 28], []), ([28, 34, 35], []), ([28, 36], []), ([28, 37], []), ([28, 33, 38], []), ([28, 39], []), ([40], []), ([0, 41], []), ([5, 41], []), ([41, 42, 43], []), ([41, 44], []), ([41, 45], []), ([1, 41], []), ([5, 41], []), ([41, 47, 48], []), ([41, 49], []), ([41, 50], []), ([41, 46, 51], []), ([41, 52], []), ([53], []), ([0, 54], []), ([5, 54], []), ([54, 55, 56], []), ([54, 57], []), ([54, 58], []), ([1, 54], []), ([5, 54], []), ([54, 60, 61], []), ([54, 62], []), ([54, 63], []), ([54, 59, 64], []), ([54, 65], []), ([54, 66], [])] [0, 1, 5, 67] [] mixed (by kernel_rfl) rfl (by decide) ?_
              refine ⟨rfl, .put 17 _, trivial, fun u hg hu hh => LWo.move (e_Limpl_Tally t0) hu.1 (hn := LWo.nil ⟨rfl, .inl rfl, hg⟩), ?_⟩
              refine ⟨rfl, .put 18 _, trivial, fun u hg hu hh => LWo.move (e_int t5) hu.1 (hn := LWo.nil ⟨rfl, .inl rfl, hg⟩), ?_⟩
              refine ⟨rfl, .put 19 _, trivial, fun u hg hu hh => LWo.indexM (f := e_impl_Tally) e15 u_Limpl_Tally s_impl_Tally hu.1 hu.2.1 (hn := LWo.nil ⟨rfl, .inl rfl, hg⟩), ?_⟩
              refine ⟨rfl, .put 20 _, trivial, fun u hg hu hh => LWo.fieldAddr _ u_impl_Tally rfl s_int hu.1 rfl (hn := LWo.nil ⟨rfl, .inl rfl, hg⟩), ?_⟩
              refine ⟨rfl, .put 21 _, trivial, fun u hg hu hh => LWo.load1 (c := (e_int x15.Rows)) g_int hu.1 (hn := LWo.nil ⟨rfl, .inl rfl, hg⟩), ?_⟩
              refine ⟨rfl, .put 22 _, trivial, fun u hg hu hh => LWo.move (e_Limpl_Tally t1) hu.1 (hn := LWo.nil ⟨rfl, .inl rfl, hg⟩), ?_⟩
              refine ⟨rfl, .put 23 _, trivial, fun u hg hu hh => LWo.move (e_int t5) hu.1 (hn := LWo.nil ⟨rfl, .inl rfl, hg⟩), ?_⟩
              refine ⟨rfl, .put 24 _, trivial, fun u hg hu hh => LWo.indexM (f := e_impl_Tally) e16 u_Limpl_Tally s_impl_Tally hu.1 hu.2.1 (hn := LWo.nil ⟨rfl, .inl rfl, hg⟩), ?_⟩
              refine ⟨rfl, .put 25 _, trivial, fun u hg hu hh => LWo.fieldAddr _ u_impl_Tally rfl s_int hu.1 rfl (hn := LWo.nil ⟨rfl, .inl rfl, hg⟩), ?_⟩
              refine ⟨rfl, .put 26 _, trivial, fun u hg hu hh => LWo.load1 (c := (e_int x16.Rows)) g_int hu.1 (hn := LWo.nil ⟨rfl, .inl rfl, hg⟩), ?_⟩
              refine ⟨rfl, .put 27 _, trivial, fun u hg hu hh => LWo.int _ hu.1 hu.2.1 rfl (hn := LWo.nil ⟨rfl, .inl rfl, hg⟩), ?_⟩
              refine ⟨rfl, .put 28 _, trivial, fun u hg hu hh => LWo.move (e_bool (x15.Rows != x16.Rows)) hu.1 (hn := LWo.nil ⟨rfl, .inl rfl, hg⟩), ?_⟩
              refine ⟨rfl, .put 29 _, trivial, fun u hg hu hh => LWo.guardY (t := 28) hu.2.1 h17 rfl rfl (LWo.move (e_Limpl_Tally t0) hu.1 (hn := LWo.nil ⟨rfl, .inl rfl, hg⟩)), ?_⟩
              refine ⟨rfl, .put 30 _, trivial, fun u hg hu hh => LWo.guardY (t := 28) hu.2.1 h17 rfl rfl (LWo.move (e_int t5) hu.1 (hn := LWo.nil ⟨rfl, .inl rfl, hg⟩)), ?_⟩
              refine ⟨rfl, .put 31 _, trivial, fun u hg hu hh => LWo.guardY (t := 28) hu.1 h17 rfl rfl (LWo.indexM (f := e_impl_Tally) e18 u_Limpl_Tally s_impl_Tally hu.2.1 hu.2.2.1 (hn := LWo.nil ⟨rfl, .inl rfl, hg⟩)), ?_⟩
              refine ⟨rfl, .put 32 _, trivial, fun u hg hu hh => LWo.guardY (t := 28) hu.1 h17 rfl rfl (LWo.fieldAddr _ u_impl_Tally rfl s_int hu.2.1 rfl (hn := LWo.nil ⟨rfl, .inl rfl, hg⟩)), ?_⟩
              refine ⟨rfl, .put 33 _, trivial, fun u hg hu hh => LWo.guardY (t := 28) hu.1 h17 rfl rfl (LWo.load1 (c := (e_int x18.Many)) g_int hu.2.1 (hn := LWo.nil ⟨rfl, .inl rfl, hg⟩)), ?_⟩
              refine ⟨rfl, .put 34 _, trivial, fun u hg hu hh => LWo.guardY (t := 28) hu.2.1 h17 rfl rfl (LWo.move (e_Limpl_Tally t1) hu.1 (hn := LWo.nil ⟨rfl, .inl rfl, hg⟩)), ?_⟩
              refine ⟨rfl, .put 35 _, trivial, fun u hg hu hh => LWo.guardY (t := 28) hu.2.1 h17 rfl rfl (LWo.move (e_int t5) hu.1 (hn := LWo.nil ⟨rfl, .inl rfl, hg⟩)), ?_⟩
              refine ⟨rfl, .put 36 _, trivial, fun u hg hu hh => LWo.guardY (t := 28) hu.1 h17 rfl rfl (LWo.indexM (f := e_impl_Tally) e19 u_Limpl_Tally s_impl_Tally hu.2.1 hu.2.2.1 (hn := LWo.nil ⟨rfl, .inl rfl, hg⟩)), ?_⟩
              refine ⟨rfl, .put 37 _, trivial, fun u hg hu hh => LWo.guardY (t := 28) hu.1 h17 rfl rfl (LWo.fieldAddr _ u_impl_Tally rfl s_int hu.2.1 rfl (hn := LWo.nil ⟨rfl, .inl rfl, hg⟩)), ?_⟩
              refine ⟨rfl, .put 38 _, trivial, fun u hg hu hh => LWo.guardY (t := 28) hu.1 h17 rfl rfl (LWo.load1 (c := (e_int x19.Many)) g_int hu.2.1 (hn := LWo.nil ⟨rfl, .inl rfl, hg⟩)), ?_⟩
              refine ⟨rfl, .put 39 _, trivial, fun u hg hu hh => LWo.guardY (t := 28) hu.1 h17 rfl rfl (LWo.int _ hu.2.1 hu.2.2.1 rfl (hn := LWo.nil ⟨rfl, .inl rfl, hg⟩)), ?_⟩
              refine ⟨rfl, .put 40 _, trivial, fun u hg hu hh => LWo.pickFM (e_bool (x18.Many != x19.Many)) hu.1 h17 hu.2.1 (hn := LWo.nil ⟨rfl, .inl rfl, hg⟩), ?_⟩
              refine ⟨rfl, .put 41 _, trivial, fun u hg hu hh => LWo.move (e_bool (x18.Many != x19.Many)) hu.1 (hn := LWo.nil ⟨rfl, .inl rfl, hg⟩), ?_⟩
              refine ⟨rfl, .put 42 _, trivial, fun u hg hu hh => LWo.guardNU (t := 41) hu.2.1 h20 rfl rfl rfl rfl rfl (LWo.nil ⟨rfl, .inl rfl, hg⟩), ?_⟩
              refine ⟨rfl, .put 43 _, trivial, fun u hg hu hh => LWo.guardNU (t := 41) hu.2.1 h20 rfl rfl rfl rfl rfl (LWo.nil ⟨rfl, .inl rfl, hg⟩), ?_⟩
              refine ⟨rfl, .put 44 _, trivial, fun u hg hu hh => LWo.guardNU (t := 41) hu.1 h20 rfl rfl rfl rfl rfl (LWo.nil ⟨rfl, .inl rfl, hg⟩), ?_⟩
              refine ⟨rfl, .put 45 _, trivial, fun u hg hu hh => LWo.guardNU (t := 41) hu.1 h20 rfl rfl rfl rfl rfl (LWo.nil ⟨rfl, .inl rfl, hg⟩), ?_⟩
              refine ⟨rfl, .put 46 _, trivial, fun u hg hu hh => LWo.guardNU (t := 41) hu.1 h20 rfl rfl rfl rfl rfl (LWo.nil ⟨rfl, .inl rfl, hg⟩), ?_⟩
              refine ⟨rfl, .put 47 _, trivial, fun u hg hu hh => LWo.guardNU (t := 41) hu.2.1 h20 rfl rfl rfl rfl rfl (LWo.nil ⟨rfl, .inl rfl, hg⟩), ?_⟩
              refine ⟨rfl, .put 48 _, trivial, fun u hg hu hh => LWo.guardNU (t := 41) hu.2.1 h20 rfl rfl rfl rfl rfl (LWo.nil ⟨rfl, .inl rfl, hg⟩), ?_⟩
              refine ⟨rfl, .put 49 _, trivial, fun u hg hu hh => LWo.guardNU (t := 41) hu.1 h20 rfl rfl rfl rfl rfl (LWo.nil ⟨rfl, .inl rfl, hg⟩), ?_⟩
              refine ⟨rfl, .put 50 _, trivial, fun u hg hu hh => LWo.guardNU (t := 41) hu.1 h20 rfl rfl rfl rfl rfl (LWo.nil ⟨rfl, .inl rfl, hg⟩), ?_⟩
              refine ⟨rfl, .put 51 _, trivial, fun u hg hu hh => LWo.guardNU (t := 41) hu.1 h20 rfl rfl rfl rfl rfl (LWo.nil ⟨rfl, .inl rfl, hg⟩), ?_⟩
              refine ⟨rfl, .put 52 _, trivial, fun u hg hu hh => LWo.guardNU (t := 41) hu.1 h20 rfl rfl rfl rfl rfl (LWo.nil ⟨rfl, .inl rfl, hg⟩), ?_⟩
              refine ⟨rfl, .put 53 _, trivial, fun u hg hu hh => LWo.pickTM (e_bool true) hu.1 h20 rfl (hn := LWo.nil ⟨rfl, .inl rfl, hg⟩), ?_⟩
              refine ⟨rfl, .put 54 _, trivial, fun u hg hu hh => LWo.move (e_bool true) hu.1 (hn := LWo.nil ⟨rfl, .inl rfl, hg⟩), ?_⟩
              refine ⟨rfl, .put 55 _, trivial, fun u hg hu hh => LWo.guardNU (t := 54) hu.2.1 rfl rfl rfl rfl rfl rfl (LWo.nil ⟨rfl, .inl rfl, hg⟩), ?_⟩
              refine ⟨rfl, .put 56 _, trivial, fun u hg hu hh => LWo.guardNU (t := 54) hu.2.1 rfl rfl rfl rfl rfl rfl (LWo.nil ⟨rfl, .inl rfl, hg⟩), ?_⟩
              refine ⟨rfl, .put 57 _, trivial, fun u hg hu hh => LWo.guardNU (t := 54) hu.1 rfl rfl rfl rfl rfl rfl (LWo.nil ⟨rfl, .inl rfl, hg⟩), ?_⟩
              refine ⟨rfl, .put 58 _, trivial, fun u hg hu hh => LWo.guardNU (t := 54) hu.1 rfl rfl rfl rfl rfl rfl (LWo.nil ⟨rfl, .inl rfl, hg⟩), ?_⟩
              refine ⟨rfl, .put 59 _, trivial, fun u hg hu hh => LWo.guardNU (t := 54) hu.1 rfl rfl rfl rfl rfl rfl (LWo.nil ⟨rfl, .inl rfl, hg⟩), ?_⟩
              refine ⟨rfl, .put 60 _, trivial, fun u hg hu hh => LWo.guardNU (t := 54) hu.2.1 rfl rfl rfl rfl rfl rfl (LWo.nil ⟨rfl, .inl rfl, hg⟩), ?_⟩
              refine ⟨rfl, .put 61 _, trivial, fun u hg hu hh => LWo.guardNU (t := 54) hu.2.1 rfl rfl rfl rfl rfl rfl (LWo.nil ⟨rfl, .inl rfl, hg⟩), ?_⟩
              refine ⟨rfl, .put 62 _, trivial, fun u hg hu hh => LWo.guardNU (t := 54) hu.1 rfl rfl rfl rfl rfl rfl (LWo.nil ⟨rfl, .inl rfl, hg⟩), ?_⟩
              refine ⟨rfl, .put 63 _, trivial, fun u hg hu hh => LWo.guardNU (t := 54) hu.1 rfl rfl rfl rfl rfl rfl (LWo.nil ⟨rfl, .inl rfl, hg⟩), ?_⟩
              refine ⟨rfl, .put 64 _, trivial, fun u hg hu hh => LWo.guardNU (t := 54) hu.1 rfl rfl rfl rfl rfl rfl (LWo.nil ⟨rfl, .inl rfl, hg⟩), ?_⟩
              refine ⟨rfl, .put 65 _, trivial, fun u hg hu hh => LWo.guardNU (t := 54) hu.1 rfl rfl rfl rfl rfl rfl (LWo.nil ⟨rfl, .inl rfl, hg⟩), ?_⟩
              refine ⟨rfl, .put 66 _, trivial, fun u hg hu hh => LWo.guardNU (t := 54) hu.1 rfl rfl rfl rfl rfl rfl (LWo.nil ⟨rfl, .inl rfl, hg⟩), ?_⟩
              refine ⟨rfl, .put 67 _, trivial, fun u hg hu hh => LWo.pickTM (e_bool true) hu.1 rfl rfl (hn := LWo.nil ⟨rfl, .inl rfl, hg⟩), ?_⟩
              refine ⟨rfl, by kernel_rfl, hN14 (t0, t1, t5, true) _ ⟨rfl, rfl, rfl, rfl, trivial⟩ trivial h⟩
            · have h := bF h20 h
              refine bk h fun x21 e21 h => ?_
              refine bk h fun x22 e22 h => ?_
              refine bS ((x21.Sum != x22.Sum)) (fun h23 => ?_) (fun h23 => ?_)
              · have h := bT h23 h
                refine LWP.drawE (l := [_,_,_,_,_,_,_,_,_,_,_,_,_,_,_,_,_,_,_,_,_,_,_,_,_,_,_,_,_,_,_,_,_,_,_,_,_,_,_,_,_,_,_,_,_,_,_,_,_,_,_]) [] [0, 1, 5] [([0], []), ([5], []), ([17, 18], []), ([19], []), ([20], []), ([1], []), ([5], []), ([22, 23], []), ([24], []), ([25], []), ([21, 26], []), ([27], []), ([0, 28], []), ([5, 28], []), ([28, 29, 30], []), ([28, 31], []), ([28, 32], []), ([1, 28], []), ([5, 28], []), ([28, 34, 35], []), ([28, 36], []), ([28, 37], []), ([28, 33, 38], []), ([28, 39], []), ([40], []), ([0, 41], []), ([5, 41], []), ([41, 42, 43], []), ([41, 44], []), ([41, 45], []), ([1, 41], []), ([5, 41], []), ([41, 47, 48], []), ([41, 49], []), ([41, 50], []), ([41, 46, 51], []), ([41, 52], []), ([53], []), ([0, 54], []), ([5, 54], []), ([54, 55, 56], []), ([54, 57], []), ([54, 58], []), ([1, 54], []), ([5, 54], []), ([54, 60, 61], []), ([54, 62], []), ([54, 63], []), ([54, 59, 64], []), ([54, 65], []), ([54, 66], [])] [0, 1, 5, 67] [] mixed (by kernel_rfl) rfl (by decide) ?_
                refine ⟨rfl, .put 17 _, trivial, fun u hg hu hh => LWo.move (e_Limpl_Tally t0) hu.1 (hn := LWo.nil ⟨rfl, .inl rfl, hg⟩), ?_⟩
                refine ⟨rfl, .put 18 _, trivial, fun u hg hu hh => LWo.move (e_int t5) hu.1 (hn := LWo.nil ⟨rfl, .inl rfl, hg⟩), ?_⟩
                refine ⟨rfl, .put 19 _, trivial, fun u hg hu hh => LWo.indexM (f := e_impl_Tally) e15 u_Limpl_Tally s_impl_Tally hu.1 hu.2.1 (hn := LWo.nil ⟨rfl, .inl rfl, hg⟩), ?_⟩
                refine ⟨rfl, .put 20 _, trivial, fun u hg hu hh => LWo.fieldAddr _ u_impl_Tally rfl s_int hu.1 rfl (hn := LWo.nil ⟨rfl, .inl rfl, hg⟩), ?_⟩
                refine ⟨rfl, .put 21 _, trivial, fun u hg hu hh => LWo.load1 (c := (e_int x15.Rows)) g_int hu.1 (hn := LWo.nil ⟨rfl, .inl rfl, hg⟩), ?_⟩
                refine ⟨rfl, .put 22 _, trivial, fun u hg hu hh => LWo.move (e_Limpl_Tally t1) hu.1 (hn := LWo.nil ⟨rfl, .inl rfl, hg⟩), ?_⟩
                refine ⟨rfl, .put 23 _, trivial, fun u hg hu hh => LWo.move (e_int t5) hu.1 (hn := LWo.nil ⟨rfl, .inl rfl, hg⟩), ?_⟩
                refine ⟨rfl, .put 24 _, trivial, fun u hg hu hh => LWo.indexM (f := e_impl_Tally) e16 u_Limpl_Tally s_impl_Tally hu.1 hu.2.1 (hn := LWo.nil ⟨rfl, .inl rfl, hg⟩), ?_⟩
                refine ⟨rfl, .put 25 _, trivial, fun u hg hu hh => LWo.fieldAddr _ u_impl_Tally rfl s_int hu.1 rfl (hn := LWo.nil ⟨rfl, .inl rfl, hg⟩), ?_⟩
                refine ⟨rfl, .put 26 _, trivial, fun u hg hu hh => LWo.load1 (c := (e_int x16.Rows)) g_int hu.1 (hn := LWo.nil ⟨rfl, .inl rfl, hg⟩), ?_⟩
                refine ⟨rfl, .put 27 _, trivial, fun u hg hu hh => LWo.int _ hu.1 hu.2.1 rfl (hn := LWo.nil ⟨rfl, .inl rfl, hg⟩), ?_⟩
                refine ⟨rfl, .put 28 _, trivial, fun u hg hu hh => LWo.move (e_bool (x15.Rows != x16.Rows)) hu.1 (hn := LWo.nil ⟨rfl, .inl rfl, hg⟩), ?_⟩
                refine ⟨rfl, .put 29 _, trivial, fun u hg hu hh => LWo.guardY (t := 28) hu.2.1 h17 rfl rfl (LWo.move (e_Limpl_Tally t0) hu.1 (hn := LWo.nil ⟨rfl, .inl rfl, hg⟩)), ?_⟩
                refine ⟨rfl, .put 30 _, trivial, fun u hg hu hh => LWo.guardY (t := 28) hu.2.1 h17 rfl rfl (LWo.move (e_int t5) hu.1 (hn := LWo.nil ⟨rfl, .inl rfl, hg⟩)), ?_⟩
                refine ⟨rfl, .put 31 _, trivial, fun u hg hu hh => LWo.guardY (t := 28) hu.1 h17 rfl rfl (LWo.indexM (f := e_impl_Tally) e18 u_Limpl_Tally s_impl_Tally hu.2.1 hu.2.2.1 (hn := LWo.nil ⟨rfl, .inl rfl, hg⟩)), ?_⟩
                refine ⟨rfl, .put 32 _, trivial, fun u hg hu hh => LWo.guardY (t := 28) hu.1 h17 rfl rfl (LWo.fieldAddr _ u_impl_Tally rfl s_int hu.2.1 rfl (hn := LWo.nil ⟨rfl, .inl rfl, hg⟩)), ?_⟩
                refine ⟨rfl, .put 33 _, trivial, fun u hg hu hh => LWo.guardY (t := 28) hu.1 h17 rfl rfl (LWo.load1 (c := (e_int x18.Many)) g_int hu.2.1 (hn := LWo.nil ⟨rfl, .inl rfl, hg⟩)), ?_⟩
                refine ⟨rfl, .put 34 _, trivial, fun u hg hu hh => LWo.guardY (t := 28) hu.2.1 h17 rfl rfl (LWo.move (e_Limpl_Tally t1) hu.1 (hn := LWo.nil ⟨rfl, .inl rfl, hg⟩)), ?_⟩
                refine ⟨rfl, .put 35 _, trivial, fun u hg hu hh => LWo.guardY (t := 28) hu.2.1 h17 rfl rfl (LWo.move (e_int t5) hu.1 (hn := LWo.nil ⟨rfl, .inl rfl, hg⟩)), ?_⟩
                refine ⟨rfl, .put 36 _, trivial, fun u hg hu hh => LWo.guardY (t := 28) hu.1 h17 rfl rfl (LWo.indexM (f := e_impl_Tally) e19 u_Limpl_Tally s_impl_Tally hu.2.1 hu.2.2.1 (hn := LWo.nil ⟨rfl, .inl rfl, hg⟩)), ?_⟩
                refine ⟨rfl, .put 37 _, trivial, fun u hg hu hh => LWo.guardY (t := 28) hu.1 h17 rfl rfl (LWo.fieldAddr _ u_impl_Tally rfl s_int hu.2.1 rfl (hn := LWo.nil ⟨rfl, .inl rfl, hg⟩)), ?_⟩
                refine ⟨rfl, .put 38 _, trivial, fun u hg hu hh => LWo.guardY (t := 28) hu.1 h17 rfl rfl (LWo.load1 (c := (e_int x19.Many)) g_int hu.2.1 (hn := LWo.nil ⟨rfl, .inl rfl, hg⟩)), ?_⟩
                refine ⟨rfl, .put 39 _, trivial, fun u hg hu hh => LWo.guardY (t := 28) hu.1 h17 rfl rfl (LWo.int _ hu.2.1 hu.2.2.1 rfl (hn := LWo.nil ⟨rfl, .inl rfl, hg⟩)), ?_⟩
                refine ⟨rfl, .put 40 _, trivial, fun u hg hu hh => LWo.pickFM (e_bool (x18.Many != x19.Many)) hu.1 h17 hu.2.1 (hn := LWo.nil ⟨rfl, .inl rfl, hg⟩), ?_⟩
                refine ⟨rfl, .put 41 _, trivial, fun u hg hu hh => LWo.move (e_bool (x18.Many != x19.Many)) hu.1 (hn := LWo.nil ⟨rfl, .inl rfl, hg⟩), ?_⟩
                refine ⟨rfl, .put 42 _, trivial, fun u hg hu hh => LWo.guardY (t := 41) hu.2.1 h20 rfl rfl (LWo.move (e_Limpl_Tally t0) hu.1 (hn := LWo.nil ⟨rfl, .inl rfl, hg⟩)), ?_⟩
                refine ⟨rfl, .put 43 _, trivial, fun u hg hu hh => LWo.guardY (t := 41) hu.2.1 h20 rfl rfl (LWo.move (e_int t5) hu.1 (hn := LWo.nil ⟨rfl, .inl rfl, hg⟩)), ?_⟩
                refine ⟨rfl, .put 44 _, trivial, fun u hg hu hh => LWo.guardY (t := 41) hu.1 h20 rfl rfl (LWo.indexM (f := e_impl_Tally) e21 u_Limpl_Tally s_impl_Tally hu.2.1 hu.2.2.1 (hn := LWo.nil ⟨rfl, .inl rfl, hg⟩)), ?_⟩
                refine ⟨rfl, .put 45 _, trivial, fun u hg hu hh => LWo.guardY (t := 41) hu.1 h20 rfl rfl (LWo.fieldAddr _ u_impl_Tally rfl s_int hu.2.1 rfl (hn := LWo.nil ⟨rfl, .inl rfl, hg⟩)), ?_⟩
                refine ⟨rfl, .put 46 _, trivial, fun u hg hu hh => LWo.guardY (t := 41) hu.1 h20 rfl rfl (LWo.load1 (c := (e_int x21.Sum)) g_int hu.2.1 (hn := LWo.nil ⟨rfl, .inl rfl, hg⟩)), ?_⟩
                refine ⟨rfl, .put 47 _, trivial, fun u hg hu hh => LWo.guardY (t := 41) hu.2.1 h20 rfl rfl (LWo.move (e_Limpl_Tally t1) hu.1 (hn := LWo.nil ⟨rfl, .inl rfl, hg⟩)), ?_⟩
                refine ⟨rfl, .put 48 _, trivial, fun u hg hu hh => LWo.guardY (t := 41) hu.2.1 h20 rfl rfl (LWo.move (e_int t5) hu.1 (hn := LWo.nil ⟨rfl, .inl rfl, hg⟩)), ?_⟩
                refine ⟨rfl, .put 49 _, trivial, fun u hg hu hh => LWo.guardY (t := 41) hu.1 h20 rfl rfl (LWo.indexM (f := e_impl_Tally) e22 u_Limpl_Tally s_impl_Tally hu.2.1 hu.2.2.1 (hn := LWo.nil ⟨rfl, .inl rfl, hg⟩)), ?_⟩
                refine ⟨rfl, .put 50 _, trivial, fun u hg hu hh => LWo.guardY (t := 41) hu.1 h20 rfl rfl (LWo.fieldAddr _ u_impl_Tally rfl s_int hu.2.1 rfl (hn := LWo.nil ⟨rfl, .inl rfl, hg⟩)), ?_⟩
                refine ⟨rfl, .put 51 _, trivial, fun u hg hu hh => LWo.guardY (t := 41) hu.1 h20 rfl rfl (LWo.load1 (c := (e_int x22.Sum)) g_int hu.2.1 (hn := LWo.nil ⟨rfl, .inl rfl, hg⟩)), ?_⟩
                refine ⟨rfl, .put 52 _, trivial, fun u hg hu hh => LWo.guardY (t := 41) hu.1 h20 rfl rfl (LWo.int _ hu.2.1 hu.2.2.1 rfl (hn := LWo.nil ⟨rfl, .inl rfl, hg⟩)), ?_⟩
                refine ⟨rfl, .put 53 _, trivial, fun u hg hu hh => LWo.pickFM (e_bool (x21.Sum != x22.Sum)) hu.1 h20 hu.2.1 (hn := LWo.nil ⟨rfl, .inl rfl, hg⟩), ?_⟩
                refine ⟨rfl, .put 54 _, trivial, fun u hg hu hh => LWo.move (e_bool (x21.Sum != x22.Sum)) hu.1 (hn := LWo.nil ⟨rfl, .inl rfl, hg⟩), ?_⟩
                refine ⟨rfl, .put 55 _, trivial, fun u hg hu hh => LWo.guardNU (t := 54) hu.2.1 h23 rfl rfl rfl rfl rfl (LWo.nil ⟨rfl, .inl rfl, hg⟩), ?_⟩
                refine ⟨rfl, .put 56 _, trivial, fun u hg hu hh => LWo.guardNU (t := 54) hu.2.1 h23 rfl rfl rfl rfl rfl (LWo.nil ⟨rfl, .inl rfl, hg⟩), ?_⟩
                refine ⟨rfl, .put 57 _, trivial, fun u hg hu hh => LWo.guardNU (t := 54) hu.1 h23 rfl rfl rfl rfl rfl (LWo.nil ⟨rfl, .inl rfl, hg⟩), ?_⟩
                refine ⟨rfl, .put 58 _, trivial, fun u hg hu hh => LWo.guardNU (t := 54) hu.1 h23 rfl rfl rfl rfl rfl (LWo.nil ⟨rfl, .inl rfl, hg⟩), ?_⟩
                refine ⟨rfl, .put 59 _, trivial, fun u hg hu hh => LWo.guardNU (t := 54) hu.1 h23 rfl rfl rfl rfl rfl (LWo.nil ⟨rfl, .inl rfl, hg⟩), ?_⟩
                refine ⟨rfl, .put 60 _, trivial, fun u hg hu hh => LWo.guardNU (t := 54) hu.2.1 h23 rfl rfl rfl rfl rfl (LWo.nil ⟨rfl, .inl rfl, hg⟩), ?_⟩
                refine ⟨rfl, .put 61 _, trivial, fun u hg hu hh => LWo.guardNU (t := 54) hu.2.1 h23 rfl rfl rfl rfl rfl (LWo.nil ⟨rfl, .inl rfl, hg⟩), ?_⟩
                refine ⟨rfl, .put 62 _, trivial, fun u hg hu hh => LWo.guardNU (t := 54) hu.1 h23 rfl rfl rfl rfl rfl (LWo.nil ⟨rfl, .inl rfl, hg⟩), ?_⟩
                refine ⟨rfl, .put 63 _, trivial, fun u hg hu hh => LWo.guardNU (t := 54) hu.1 h23 rfl rfl rfl rfl rfl (LWo.nil ⟨rfl, .inl rfl, hg⟩), ?_⟩
                refine ⟨rfl, .put 64 _, trivial, fun u hg hu hh => LWo.guardNU (t := 54) hu.1 h23 rfl rfl rfl rfl rfl (LWo.nil ⟨rfl, .inl rfl, hg⟩), ?_⟩
                refine ⟨rfl, .put 65 _, trivial, fun u hg hu hh => LWo.guardNU (t := 54) hu.1 h23 rfl rfl rfl rfl rfl (LWo.nil ⟨rfl, .inl rfl, hg⟩), ?_⟩
                refine ⟨rfl, .put 66 _, trivial, fun u hg hu hh => LWo.guardNU (t := 54) hu.1 h23 rfl rfl rfl rfl rfl (LWo.nil ⟨rfl, .inl rfl, hg⟩), ?_⟩
                refine ⟨rfl, .put 67 _, trivial, fun u hg hu hh => LWo.pickTM (e_bool true) hu.1 h23 rfl (hn := LWo.nil ⟨rfl, .inl rfl, hg⟩), ?_⟩
                refine ⟨rfl, by kernel_rfl, hN14 (t0, t1, t5, true) _ ⟨rfl, rfl, rfl, rfl, trivial⟩ trivial h⟩
              · have h := bF h23 h
                refine bk h fun x24 e24 h => ?_
                refine bk h fun x25 e25 h => ?_
                refine bk h fun x26 e26 h => ?_
                refine LWP.drawE (l := [_,_,_,_,_,_,_,_,_,_,_,_,_,_,_,_,_,_,_,_,_,_,_,_,_,_,_,_,_,_,_,_,_,_,_,_,_,_,_,_,_,_,_,_,_,_,_,_,_,_,_]) [] [0, 1, 5] [([0], []), ([5], []), ([17, 18], []), ([19], []), ([20], []), ([1], []), ([5], []), ([22, 23], []), ([24], []), ([25], []), ([21, 26], []), ([27], []), ([0, 28], []), ([5, 28], []), ([28, 29, 30], []), ([28, 31], []), ([28, 32], []), ([1, 28], []), ([5, 28], []), ([28, 34, 35], []), ([28, 36], []), ([28, 37], []), ([28, 33, 38], []), ([28, 39], []), ([40], []), ([0, 41], []), ([5, 41], []), ([41, 42, 43], []), ([41, 44], []), ([41, 45], []), ([1, 41], []), ([5, 41], []), ([41, 47, 48], []), ([41, 49], []), ([41, 50], []), ([41, 46, 51], []), ([41, 52], []), ([53], []), ([0, 54], []), ([5, 54], []), ([54, 55, 56], []), ([54, 57], []), ([54, 58], []), ([1, 54], []), ([5, 54], []), ([54, 60, 61], []), ([54, 62], []), ([54, 63], []), ([54, 59, 64], []), ([54, 65], []), ([54, 66], [])] [0, 1, 5, 67] [] mixed (by kernel_rfl) rfl (by decide) ?_
                refine ⟨rfl, .put 17 _, trivial, fun u hg hu hh => LWo.move (e_Limpl_Tally t0) hu.1 (hn := LWo.nil ⟨rfl, .inl rfl, hg⟩), ?_⟩
                refine ⟨rfl, .put 18 _, trivial, fun u hg hu hh => LWo.move (e_int t5) hu.1 (hn := LWo.nil ⟨rfl, .inl rfl, hg⟩), ?_⟩
                refine ⟨rfl, .put 19 _, trivial, fun u hg hu hh => LWo.indexM (f := e_impl_Tally) e15 u_Limpl_Tally s_impl_Tally hu.1 hu.2.1 (hn := LWo.nil ⟨rfl, .inl rfl, hg⟩), ?_⟩
                refine ⟨rfl, .put 20 _, trivial, fun u hg hu hh => LWo.fieldAddr _ u_impl_Tally rfl s_int hu.1 rfl (hn := LWo.nil ⟨rfl, .inl rfl, hg⟩), ?_⟩
                refine ⟨rfl, .put 21 _, trivial, fun u hg hu hh => LWo.load1 (c := (e_int x15.Rows)) g_int hu.1 (hn := LWo.nil ⟨rfl, .inl rfl, hg⟩), ?_⟩
                refine ⟨rfl, .put 22 _, trivial, fun u hg hu hh => LWo.move (e_Limpl_Tally t1) hu.1 (hn := LWo.nil ⟨rfl, .inl rfl, hg⟩), ?_⟩
                refine ⟨rfl, .put 23 _, trivial, fun u hg hu hh => LWo.move (e_int t5) hu.1 (hn := LWo.nil ⟨rfl, .inl rfl, hg⟩), ?_⟩
                refine ⟨rfl, .put 24 _, trivial, fun u hg hu hh => LWo.indexM (f := e_impl_Tally) e16 u_Limpl_Tally s_impl_Tally hu.1 hu.2.1 (hn := LWo.nil ⟨rfl, .inl rfl, hg⟩), ?_⟩
                refine ⟨rfl, .put 25 _, trivial, fun u hg hu hh => LWo.fieldAddr _ u_impl_Tally rfl s_int hu.1 rfl (hn := LWo.nil ⟨rfl, .inl rfl, hg⟩), ?_⟩
                refine ⟨rfl, .put 26 _, trivial, fun u hg hu hh => LWo.load1 (c := (e_int x16.Rows)) g_int hu.1 (hn := LWo.nil ⟨rfl, .inl rfl, hg⟩), ?_⟩
                refine ⟨rfl, .put 27 _, trivial, fun u hg hu hh => LWo.int _ hu.1 hu.2.1 rfl (hn := LWo.nil ⟨rfl, .inl rfl, hg⟩), ?_⟩
                refine ⟨rfl, .put 28 _, trivial, fun u hg hu hh => LWo.move (e_bool (x15.Rows != x16.Rows)) hu.1 (hn := LWo.nil ⟨rfl, .inl rfl, hg⟩), ?_⟩
                refine ⟨rfl, .put 29 _, trivial, fun u hg hu hh => LWo.guardY (t := 28) hu.2.1 h17 rfl rfl (LWo.move (e_Limpl_Tally t0) hu.1 (hn := LWo.nil ⟨rfl, .inl rfl, hg⟩)), ?_⟩
                refine ⟨rfl, .put 30 _, trivial, fun u hg hu hh => LWo.guardY (t := 28) hu.2.1 h17 rfl rfl (LWo.move (e_int t5) hu.1 (hn := LWo.nil ⟨rfl, .inl rfl, hg⟩)), ?_⟩
                refine ⟨rfl, .put 31 _, trivial, fun u hg hu hh => LWo.guardY (t := 28) hu.1 h17 rfl rfl (LWo.indexM (f := e_impl_Tally) e18 u_Limpl_Tally s_impl_Tally hu.2.1 hu.2.2.1 (hn := LWo.nil ⟨rfl, .inl rfl, hg⟩)), ?_⟩
                refine ⟨rfl, .put 32 _, trivial, fun u hg hu hh => LWo.guardY (t := 28) hu.1 h17 rfl rfl (LWo.fieldAddr _ u_impl_Tally rfl s_int hu.2.1 rfl (hn := LWo.nil ⟨rfl, .inl rfl, hg⟩)), ?_⟩
                refine ⟨rfl, .put 33 _, trivial, fun u hg hu hh => LWo.guardY (t := 28) hu.1 h17 rfl rfl (LWo.load1 (c := (e_int x18.Many)) g_int hu.2.1 (hn := LWo.nil ⟨rfl, .inl rfl, hg⟩)), ?_⟩
                refine ⟨rfl, .put 34 _, trivial, fun u hg hu hh => LWo.guardY (t := 28) hu.2.1 h17 rfl rfl (LWo.move (e_Limpl_Tally t1) hu.1 (hn := LWo.nil ⟨rfl, .inl rfl, hg⟩)), ?_⟩
                refine ⟨rfl, .put 35 _, trivial, fun u hg hu hh => LWo.guardY (t := 28) hu.2.1 h17 rfl rfl (LWo.move (e_int t5) hu.1 (hn := LWo.nil ⟨rfl, .inl rfl, hg⟩)), ?_⟩
                refine ⟨rfl, .put 36 _, trivial, fun u hg hu hh => LWo.guardY (t := 28) hu.1 h17 rfl rfl (LWo.indexM (f := e_impl_Tally) e19 u_Limpl_Tally s_impl_Tally hu.2.1 hu.2.2.1 (hn := LWo.nil ⟨rfl, .inl rfl, hg⟩)), ?_⟩
                refine ⟨rfl, .put 37 _, trivial, fun u hg hu hh => LWo.guardY (t := 28) hu.1 h17 rfl rfl (LWo.fieldAddr _ u_impl_Tally rfl s_int hu.2.1 rfl (hn := LWo.nil ⟨rfl, .inl rfl, hg⟩)), ?_⟩
                refine ⟨rfl, .put 38 _, trivial, fun u hg hu hh => LWo.guardY (t := 28) hu.1 h17 rfl rfl (LWo.load1 (c := (e_int x19.Many)) g_int hu.2.1 (hn := LWo.nil ⟨rfl, .inl rfl, hg⟩)), ?_⟩
                refine ⟨rfl, .put 39 _, trivial, fun u hg hu hh => LWo.guardY (t := 28) hu.1 h17 rfl rfl (LWo.int _ hu.2.1 hu.2.2.1 rfl (hn := LWo.nil ⟨rfl, .inl rfl, hg⟩)), ?_⟩
                refine ⟨rfl, .put 40 _, trivial, fun u hg hu hh => LWo.pickFM (e_bool (x18.Many != x19.Many)) hu.1 h17 hu.2.1 (hn := LWo.nil ⟨rfl, .inl rfl, hg⟩), ?_⟩
                refine ⟨rfl, .put 41 _, trivial, fun u hg hu hh => LWo.move (e_bool (x18.Many != x19.Many)) hu.1 (hn := LWo.nil ⟨rfl, .inl rfl, hg⟩), ?_⟩
                refine ⟨rfl, .put 42 _, trivial, fun u hg hu hh => LWo.guardY (t := 41) hu.2.1 h20 rfl rfl (LWo.move (e_Limpl_Tally t0) hu.1 (hn := LWo.nil ⟨rfl, .inl rfl, hg⟩)), ?_⟩
                refine ⟨rfl, .put 43 _, trivial, fun u hg hu hh => LWo.guardY (t := 41) hu.2.1 h20 rfl rfl (LWo.move (e_int t5) hu.1 (hn := LWo.nil ⟨rfl, .inl rfl, hg⟩)), ?_⟩
                refine ⟨rfl, .put 44 _, trivial, fun u hg hu hh => LWo.guardY (t := 41) hu.1 h20 rfl rfl (LWo.indexM (f := e_impl_Tally) e21 u_Limpl_Tally s_impl_Tally hu.2.1 hu.2.2.1 (hn := LWo.nil ⟨rfl, .inl rfl, hg⟩)), ?_⟩
                refine ⟨rfl, .put 45 _, trivial, fun u hg hu hh => LWo.guardY (t := 41) hu.1 h20 rfl rfl (LWo.fieldAddr _ u_impl_Tally rfl s_int hu.2.1 rfl (hn := LWo.nil ⟨rfl, .inl rfl, hg⟩)), ?_⟩
                refine ⟨rfl, .put 46 _, trivial, fun u hg hu hh => LWo.guardY (t := 41) hu.1 h20 rfl rfl (LWo.load1 (c := (e_int x21.Sum)) g_int hu.2.1 (hn := LWo.nil ⟨rfl, .inl rfl, hg⟩)), ?_⟩
                refine ⟨rfl, .put 47 _, trivial, fun u hg hu hh => LWo.guardY (t := 41) hu.2.1 h20 rfl rfl (LWo.move (e_Limpl_Tally t1) hu.1 (hn := LWo.nil ⟨rfl, .inl rfl, hg⟩)), ?_⟩
                refine ⟨rfl, .put 48 _, trivial, fun u hg hu hh => LWo.guardY (t := 41) hu.2.1 h20 rfl rfl (LWo.move (e_int t5) hu.1 (hn := LWo.nil ⟨rfl, .inl rfl, hg⟩)), ?_⟩
                refine ⟨rfl, .put 49 _, trivial, fun u hg hu hh => LWo.guardY (t := 41) hu.1 h20 rfl rfl (LWo.indexM (f := e_impl_Tally) e22 u_Limpl_Tally s_impl_Tally hu.2.1 hu.2.2.1 (hn := LWo.nil ⟨rfl, .inl rfl, hg⟩)), ?_⟩
                refine ⟨rfl, .put 50 _, trivial, fun u hg hu hh => LWo.guardY (t := 41) hu.1 h20 rfl rfl (LWo.fieldAddr _ u_impl_Tally rfl s_int hu.2.1 rfl (hn := LWo.nil ⟨rfl, .inl rfl, hg⟩)), ?_⟩
                refine ⟨rfl, .put 51 _, trivial, fun u hg hu hh => LWo.guardY (t := 41) hu.1 h20 rfl rfl (LWo.load1 (c := (e_int x22.Sum)) g_int hu.2.1 (hn := LWo.nil ⟨rfl, .inl rfl, hg⟩)), ?_⟩
                refine ⟨rfl, .put 52 _, trivial, fun u hg hu hh => LWo.guardY (t := 41) hu.1 h20 rfl rfl (LWo.int _ hu.2.1 hu.2.2.1 rfl (hn := LWo.nil ⟨rfl, .inl rfl, hg⟩)), ?_⟩
                refine ⟨rfl, .put 53 _, trivial, fun u hg hu hh => LWo.pickFM (e_bool (x21.Sum != x22.Sum)) hu.1 h20 hu.2.1 (hn := LWo.nil ⟨rfl, .inl rfl, hg⟩), ?_⟩
                refine ⟨rfl, .put 54 _, trivial, fun u hg hu hh => LWo.move (e_bool (x21.Sum != x22.Sum)) hu.1 (hn := LWo.nil ⟨rfl, .inl rfl, hg⟩), ?_⟩
                refine ⟨rfl, .put 55 _, trivial, fun u hg hu hh => LWo.guardY (t := 54) hu.2.1 h23 rfl rfl (LWo.move (e_Limpl_Tally t0) hu.1 (hn := LWo.nil ⟨rfl, .inl rfl, hg⟩)), ?_⟩
                refine ⟨rfl, .put 56 _, trivial, fun u hg hu hh => LWo.guardY (t := 54) hu.2.1 h23 rfl rfl (LWo.move (e_int t5) hu.1 (hn := LWo.nil ⟨rfl, .inl rfl, hg⟩)), ?_⟩
                refine ⟨rfl, .put 57 _, trivial, fun u hg hu hh => LWo.guardY (t := 54) hu.1 h23 rfl rfl (LWo.indexM (f := e_impl_Tally) e24 u_Limpl_Tally s_impl_Tally hu.2.1 hu.2.2.1 (hn := LWo.nil ⟨rfl, .inl rfl, hg⟩)), ?_⟩
                refine ⟨rfl, .put 58 _, trivial, fun u hg hu hh => LWo.guardY (t := 54) hu.1 h23 rfl rfl (LWo.fieldAddr _ u_impl_Tally rfl s_Limpl_Value hu.2.1 rfl (hn := LWo.nil ⟨rfl, .inl rfl, hg⟩)), ?_⟩
                refine ⟨rfl, .put 59 _, trivial, fun u hg hu hh => LWo.guardY (t := 54) hu.1 h23 rfl rfl (LWo.load1 (c := (e_Limpl_Value x24.Key)) g_Limpl_Value hu.2.1 (hn := LWo.nil ⟨rfl, .inl rfl, hg⟩)), ?_⟩
                refine ⟨rfl, .put 60 _, trivial, fun u hg hu hh => LWo.guardY (t := 54) hu.2.1 h23 rfl rfl (LWo.move (e_Limpl_Tally t1) hu.1 (hn := LWo.nil ⟨rfl, .inl rfl, hg⟩)), ?_⟩
                refine ⟨rfl, .put 61 _, trivial, fun u hg hu hh => LWo.guardY (t := 54) hu.2.1 h23 rfl rfl (LWo.move (e_int t5) hu.1 (hn := LWo.nil ⟨rfl, .inl rfl, hg⟩)), ?_⟩
                refine ⟨rfl, .put 62 _, trivial, fun u hg hu hh => LWo.guardY (t := 54) hu.1 h23 rfl rfl (LWo.indexM (f := e_impl_Tally) e25 u_Limpl_Tally s_impl_Tally hu.2.1 hu.2.2.1 (hn := LWo.nil ⟨rfl, .inl rfl, hg⟩)), ?_⟩
                refine ⟨rfl, .put 63 _, trivial, fun u hg hu hh => LWo.guardY (t := 54) hu.1 h23 rfl rfl (LWo.fieldAddr _ u_impl_Tally rfl s_Limpl_Value hu.2.1 rfl (hn := LWo.nil ⟨rfl, .inl rfl, hg⟩)), ?_⟩
                refine ⟨rfl, .put 64 _, trivial, fun u hg hu hh => LWo.guardY (t := 54) hu.1 h23 rfl rfl (LWo.load1 (c := (e_Limpl_Value x25.Key)) g_Limpl_Value hu.2.1 (hn := LWo.nil ⟨rfl, .inl rfl, hg⟩)), ?_⟩
                refine ⟨rfl, .put 65 _, trivial, fun u hg hu hh => LWo.guardY (t := 54) hu.1 h23 rfl rfl (LWo.vcall rfl (av2 hu.2.1 hu.2.2.1) (c_laws_sameRow _ _ _ e26) (.same (.same (.nil))) (hn := LWo.nil ⟨rfl, .inl rfl, hg⟩)), ?_⟩
                refine ⟨rfl, .put 66 _, trivial, fun u hg hu hh => LWo.guardY (t := 54) hu.1 h23 rfl rfl (LWo.not hu.2.1 (hn := LWo.nil ⟨rfl, .inl rfl, hg⟩)), ?_⟩
                refine ⟨rfl, .put 67 _, trivial, fun u hg hu hh => LWo.pickFM (e_bool (!x26)) hu.1 h23 hu.2.1 (hn := LWo.nil ⟨rfl, .inl rfl, hg⟩), ?_⟩
                refine ⟨rfl, by kernel_rfl, hN14 (t0, t1, t5, (!x26)) _ ⟨rfl, rfl, rfl, rfl, trivial⟩ trivial h⟩
      · have h := bF h12 h
        refine LWP.exit (hN6 () _ trivial trivial h)

def m_impl_Tally_ok_j1 (t2 : Bool) : Option Bool :=
  some t2
def m_impl_Tally_ok (a0 : S_impl_Tally) : Option Bool :=
  bif ((a0.Key.length : Int) == (1 : Int)) then ((m_impl_RowOk a0.Key).bind fun x4 =>
    bif x4 then ((m_impl_between a0.Rows (1 : Int) (100 : Int)).bind fun x6 =>
      bif x6 then ((m_impl_between a0.Many (0 : Int) a0.Rows).bind fun x8 =>
        bif x8 then ((ckI ((-9999 : Int) * a0.Many)).bind fun x10 =>
          (ckI ((9999 : Int) * a0.Many)).bind fun x11 =>
          (m_impl_between a0.Sum x10 x11).bind fun x12 =>
          m_impl_Tally_ok_j1  x12)
        else (m_impl_Tally_ok_j1  false))
      else (m_impl_Tally_ok_j1  false))
    else (m_impl_Tally_ok_j1  false))
  else (m_impl_Tally_ok_j1  false)
theorem c_impl_Tally_ok (a0 : S_impl_Tally) (r : Bool) (h : m_impl_Tally_ok a0 = some r) : Ret Try.prog f_impl_Tally_ok [e_impl_Tally a0] (e_bool r) := by
  refine Does.goG [] F_impl_Tally_ok rfl e_impl_Tally_ok n_impl_Tally_ok rfl (rvs := [.tmp 2]) rfl rfl ?_
  intro w0 ok0 lent ρ0
  refine LWP.seq_k fun N1 hN1 => ?_
  refine LWP.region (l := [_,_]) ?_
  refine LWo.boxF (e_impl_Tally a0) rfl rfl rfl (hn := ?_)
  refine LWo.assign (e_bool false) rfl (hn := ?_)
  refine LWo.nil (hN1 _ ?_)
  refine LWP.join (α := Bool) (fun z : Bool => [(2, (e_bool z))]) (fun z : Bool => []) (fun z : Bool => m_impl_Tally_ok_j1  z) r (fun _ => by simp [hkeys]) ?_ ?_
  · rintro t2 h
    replace h : m_impl_Tally_ok_j1  t2 = some _ := h
    obtain rfl := Option.some.inj h
    refine LWP.ret (QG.mk (.inr rfl) (.cons (.tmp (x := (e_bool t2)) rfl) (.nil)) (RetOK.one0 (.pure rfl) (by decide)) rfl rfl)
  · intro N2 hN2
    refine LWP.region (l := [_,_,_,_,_,_,_,_,_,_,_,_,_,_,_,_,_,_,_,_,_,_,_,_,_,_,_,_,_,_,_,_,_]) ?_
    refine LWo.fieldAddr _ u_impl_Tally rfl s_Limpl_Value rfl rfl (hn := ?_)
    refine LWo.load1 (c := (e_Limpl_Value a0.Key)) g_Limpl_Value rfl (hn := ?_)
    refine LWo.lenM (f := e_impl_Value) (l := a0.Key) u_Limpl_Value rfl (hn := ?_)
    refine LWo.int _ rfl rfl rfl (hn := ?_)
    refine LWo.move (e_bool ((a0.Key.length : Int) == (1 : Int))) rfl (hn := ?_)
    refine LWo.byCases (t := 7) _ rfl (fun h3 => ?_) (fun h3 => ?_)
    · have h := bT h3 h
      refine LWo.guardY (t := 7) rfl h3 rfl rfl ?_
      refine LWo.fieldAddr _ u_impl_Tally rfl s_Limpl_Value rfl rfl (hn := ?_)
      refine LWo.guardY (t := 7) rfl h3 rfl rfl ?_
      refine LWo.load1 (c := (e_Limpl_Value a0.Key)) g_Limpl_Value rfl (hn := ?_)
      refine bk h fun x4 e4 h => ?_
      refine LWo.guardY (t := 7) rfl h3 rfl rfl ?_
      refine LWo.vcall rfl rfl (c_impl_RowOk _ _ e4) (.same (.nil)) (hn := ?_)
      refine LWo.pickTM (e_bool x4) rfl h3 rfl (hn := ?_)
      refine LWo.move (e_bool x4) rfl (hn := ?_)
      refine LWo.byCases (t := 12) _ rfl (fun h5 => ?_) (fun h5 => ?_)
      · have h := bT h5 h
        refine LWo.guardY (t := 12) rfl h5 rfl rfl ?_
        refine LWo.fieldAddr _ u_impl_Tally rfl s_int rfl rfl (hn := ?_)
        refine LWo.guardY (t := 12) rfl h5 rfl rfl ?_
        refine LWo.load1 (c := (e_int a0.Rows)) g_int rfl (hn := ?_)
        refine bk h fun x6 e6 h => ?_
        refine LWo.guardY (t := 12) rfl h5 rfl rfl ?_
        refine LWo.vcall rfl rfl (c_impl_between _ _ _ _ e6) (.same (.same (.same (.nil)))) (hn := ?_)
        refine LWo.pickTM (e_bool x6) rfl h5 rfl (hn := ?_)
        refine LWo.move (e_bool x6) rfl (hn := ?_)
        refine LWo.byCases (t := 17) _ rfl (fun h7 => ?_) (fun h7 => ?_)
        · have h := bT h7 h
          refine LWo.guardY (t := 17) rfl h7 rfl rfl ?_
          refine LWo.fieldAddr _ u_impl_Tally rfl s_int rfl rfl (hn := ?_)
          refine LWo.guardY (t := 17) rfl h7 rfl rfl ?_
          refine LWo.load1 (c := (e_int a0.Many)) g_int rfl (hn := ?_)
          refine LWo.guardY (t := 17) rfl h7 rfl rfl ?_
          refine LWo.fieldAddr _ u_impl_Tally rfl s_int rfl rfl (hn := ?_)
          refine LWo.guardY (t := 17) rfl h7 rfl rfl ?_
          refine LWo.load1 (c := (e_int a0.Rows)) g_int rfl (hn := ?_)
          refine bk h fun x8 e8 h => ?_
          refine LWo.guardY (t := 17) rfl h7 rfl rfl ?_
          refine LWo.vcall rfl rfl (c_impl_between _ _ _ _ e8) (.same (.same (.same (.nil)))) (hn := ?_)
          refine LWo.pickTM (e_bool x8) rfl h7 rfl (hn := ?_)
          refine LWo.move (e_bool x8) rfl (hn := ?_)
          refine LWo.byCases (t := 24) _ rfl (fun h9 => ?_) (fun h9 => ?_)
          · have h := bT h9 h
            refine LWo.guardY (t := 24) rfl h9 rfl rfl ?_
            refine LWo.fieldAddr _ u_impl_Tally rfl s_int rfl rfl (hn := ?_)
            refine LWo.guardY (t := 24) rfl h9 rfl rfl ?_
            refine LWo.load1 (c := (e_int a0.Sum)) g_int rfl (hn := ?_)
            refine LWo.guardY (t := 24) rfl h9 rfl rfl ?_
            refine LWo.fieldAddr _ u_impl_Tally rfl s_int rfl rfl (hn := ?_)
            refine LWo.guardY (t := 24) rfl h9 rfl rfl ?_
            refine LWo.load1 (c := (e_int a0.Many)) g_int rfl (hn := ?_)
            refine bk h fun x10 e10 h => ?_
            refine LWo.guardY (t := 24) rfl h9 rfl rfl ?_
            refine LWo.int _ rfl rfl (mul_ck e10) (hn := ?_)
            refine LWo.guardY (t := 24) rfl h9 rfl rfl ?_
            refine LWo.fieldAddr _ u_impl_Tally rfl s_int rfl rfl (hn := ?_)
            refine LWo.guardY (t := 24) rfl h9 rfl rfl ?_
            refine LWo.load1 (c := (e_int a0.Many)) g_int rfl (hn := ?_)
            refine bk h fun x11 e11 h => ?_
            refine LWo.guardY (t := 24) rfl h9 rfl rfl ?_
            refine LWo.int _ rfl rfl (mul_ck e11) (hn := ?_)
            refine bk h fun x12 e12 h => ?_
            refine LWo.guardY (t := 24) rfl h9 rfl rfl ?_
            refine LWo.vcall rfl rfl (c_impl_between _ _ _ _ e12) (.same (.same (.same (.nil)))) (hn := ?_)
            refine LWo.pickTM (e_bool x12) rfl h9 rfl (hn := ?_)
            refine LWo.assign (e_bool x12) rfl (hn := ?_)
            refine LWo.nil (hN2 x12 _ ⟨rfl, trivial⟩ trivial h)
          · have h := bF h9 h
            refine LWo.guardNU (t := 24) rfl h9 rfl rfl rfl rfl rfl ?_
            refine LWo.guardNU (t := 24) rfl h9 rfl rfl rfl rfl rfl ?_
            refine LWo.guardNU (t := 24) rfl h9 rfl rfl rfl rfl rfl ?_
            refine LWo.guardNU (t := 24) rfl h9 rfl rfl rfl rfl rfl ?_
            refine LWo.guardNU (t := 24) rfl h9 rfl rfl rfl rfl rfl ?_
            refine LWo.guardNU (t := 24) rfl h9 rfl rfl rfl rfl rfl ?_
            refine LWo.guardNU (t := 24) rfl h9 rfl rfl rfl rfl rfl ?_
            refine LWo.guardNU (t := 24) rfl h9 rfl rfl rfl rfl rfl ?_
            refine LWo.guardNU (t := 24) rfl h9 rfl rfl rfl rfl rfl ?_
            refine LWo.pickFM (e_bool false) rfl h9 rfl (hn := ?_)
            refine LWo.assign (e_bool false) rfl (hn := ?_)
            refine LWo.nil (hN2 false _ ⟨rfl, trivial⟩ trivial h)
        · have h := bF h7 h
          refine LWo.guardNU (t := 17) rfl h7 rfl rfl rfl rfl rfl ?_
          refine LWo.guardNU (t := 17) rfl h7 rfl rfl rfl rfl rfl ?_
          refine LWo.guardNU (t := 17) rfl h7 rfl rfl rfl rfl rfl ?_
          refine LWo.guardNU (t := 17) rfl h7 rfl rfl rfl rfl rfl ?_
          refine LWo.guardNU (t := 17) rfl h7 rfl rfl rfl rfl rfl ?_
          refine LWo.pickFM (e_bool false) rfl h7 rfl (hn := ?_)
          refine LWo.move (e_bool false) rfl (hn := ?_)
          refine LWo.guardNU (t := 24) rfl rfl rfl rfl rfl rfl rfl ?_
          refine LWo.guardNU (t := 24) rfl rfl rfl rfl rfl rfl rfl ?_
          refine LWo.guardNU (t := 24) rfl rfl rfl rfl rfl rfl rfl ?_
          refine LWo.guardNU (t := 24) rfl rfl rfl rfl rfl rfl rfl ?_
          refine LWo.guardNU (t := 24) rfl rfl rfl rfl rfl rfl rfl ?_
          refine LWo.guardNU (t := 24) rfl rfl rfl rfl rfl rfl rfl ?_
          refine LWo.guardNU (t := 24) rfl rfl rfl rfl rfl rfl rfl ?_
          refine LWo.guardNU (t := 24) rfl rfl rfl rfl rfl rfl rfl ?_
          refine LWo.guardNU (t := 24) rfl rfl rfl rfl rfl rfl rfl ?_
          refine LWo.pickFM (e_bool false) rfl rfl rfl (hn := ?_)
          refine LWo.assign (e_bool false) rfl (hn := ?_)
          refine LWo.nil (hN2 false _ ⟨rfl, trivial⟩ trivial h)
      · have h := bF h5 h
        refine LWo.guardNU (t := 12) rfl h5 rfl rfl rfl rfl rfl ?_
        refine LWo.guardNU (t := 12) rfl h5 rfl rfl rfl rfl rfl ?_
        refine LWo.guardNU (t := 12) rfl h5 rfl rfl rfl rfl rfl ?_
        refine LWo.pickFM (e_bool false) rfl h5 rfl (hn := ?_)
        refine LWo.move (e_bool false) rfl (hn := ?_)
        refine LWo.guardNU (t := 17) rfl rfl rfl rfl rfl rfl rfl ?_
        refine LWo.guardNU (t := 17) rfl rfl rfl rfl rfl rfl rfl ?_
        refine LWo.guardNU (t := 17) rfl rfl rfl rfl rfl rfl rfl ?_
        refine LWo.guardNU (t := 17) rfl rfl rfl rfl rfl rfl rfl ?_
        refine LWo.guardNU (t := 17) rfl rfl rfl rfl rfl rfl rfl ?_
        refine LWo.pickFM (e_bool false) rfl rfl rfl (hn := ?_)
        refine LWo.move (e_bool false) rfl (hn := ?_)
        refine LWo.guardNU (t := 24) rfl rfl rfl rfl rfl rfl rfl ?_
        refine LWo.guardNU (t := 24) rfl rfl rfl rfl rfl rfl rfl ?_
        refine LWo.guardNU (t := 24) rfl rfl rfl rfl rfl rfl rfl ?_
        refine LWo.guardNU (t := 24) rfl rfl rfl rfl rfl rfl rfl ?_
        refine LWo.guardNU (t := 24) rfl rfl rfl rfl rfl rfl rfl ?_
        refine LWo.guardNU (t := 24) rfl rfl rfl rfl rfl rfl rfl ?_
        refine LWo.guardNU (t := 24) rfl rfl rfl rfl rfl rfl rfl ?_
        refine LWo.guardNU (t := 24) rfl rfl rfl rfl rfl rfl rfl ?_
        refine LWo.guardNU (t := 24) rfl rfl rfl rfl rfl rfl rfl ?_
        refine LWo.pickFM (e_bool false) rfl rfl rfl (hn := ?_)
        refine LWo.assign (e_bool false) rfl (hn := ?_)
        refine LWo.nil (hN2 false _ ⟨rfl, trivial⟩ trivial h)
    · have h := bF h3 h
      refine LWo.guardNU (t := 7) rfl h3 rfl rfl rfl rfl rfl ?_
      refine LWo.guardNU (t := 7) rfl h3 rfl rfl rfl rfl rfl ?_
      refine LWo.guardNU (t := 7) rfl h3 rfl rfl rfl rfl rfl ?_
      refine LWo.pickFM (e_bool false) rfl h3 rfl (hn := ?_)
      refine LWo.move (e_bool false) rfl (hn := ?_)
      refine LWo.guardNU (t := 12) rfl rfl rfl rfl rfl rfl rfl ?_
      refine LWo.guardNU (t := 12) rfl rfl rfl rfl rfl rfl rfl ?_
      refine LWo.guardNU (t := 12) rfl rfl rfl rfl rfl rfl rfl ?_
      refine LWo.pickFM (e_bool false) rfl rfl rfl (hn := ?_)
      refine LWo.move (e_bool false) rfl (hn := ?_)
      refine LWo.guardNU (t := 17) rfl rfl rfl rfl rfl rfl rfl ?_
      refine LWo.guardNU (t := 17) rfl rfl rfl rfl rfl rfl rfl ?_
      refine LWo.guardNU (t := 17) rfl rfl rfl rfl rfl rfl rfl ?_
      refine LWo.guardNU (t := 17) rfl rfl rfl rfl rfl rfl rfl ?_
      refine LWo.guardNU (t := 17) rfl rfl rfl rfl rfl rfl rfl ?_
      refine LWo.pickFM (e_bool false) rfl rfl rfl (hn := ?_)
      refine LWo.move (e_bool false) rfl (hn := ?_)
      refine LWo.guardNU (t := 24) rfl rfl rfl rfl rfl rfl rfl ?_
      refine LWo.guardNU (t := 24) rfl rfl rfl rfl rfl rfl rfl ?_
      refine LWo.guardNU (t := 24) rfl rfl rfl rfl rfl rfl rfl ?_
      refine LWo.guardNU (t := 24) rfl rfl rfl rfl rfl rfl rfl ?_
      refine LWo.guardNU (t := 24) rfl rfl rfl rfl rfl rfl rfl ?_
      refine LWo.guardNU (t := 24) rfl rfl rfl rfl rfl rfl rfl ?_
      refine LWo.guardNU (t := 24) rfl rfl rfl rfl rfl rfl rfl ?_
      refine LWo.guardNU (t := 24) rfl rfl rfl rfl rfl rfl rfl ?_
      refine LWo.guardNU (t := 24) rfl rfl rfl rfl rfl rfl rfl ?_
      refine LWo.pickFM (e_bool false) rfl rfl rfl (hn := ?_)
      refine LWo.assign (e_bool false) rfl (hn := ?_)
      refine LWo.nil (hN2 false _ ⟨rfl, trivial⟩ trivial h)

def m_impl_TalliesOk_j2  : Option Bool :=
  some true
def m_impl_TalliesOk_j1 (k1 : (List S_impl_Tally) → (List S_impl_Tally) → Int → Int → Option Bool) (t0 : (List S_impl_Tally)) (t5 : (List S_impl_Tally)) (t6 : Int) (t7 : Int) (t30 : Bool) : Option Bool :=
  bif t30 then (some false)
  else ((ckI (t7 + (1 : Int))).bind fun x22 =>
  k1 t0 t5 t6 x22)
def m_impl_TalliesOk_l1 : Nat → (List S_impl_Tally) → (List S_impl_Tally) → Int → Int → Option Bool
  | 0, _, _, _, _ => none
  | n1 + 1, t0, t5, t6, t7 =>
    bif decide (t7 < t6) then ((at? t5 t7).bind fun x11 =>
    lt (x11) fun y12 =>
    (m_impl_Tally_ok y12).bind fun x14 =>
    bif (!x14) then (m_impl_TalliesOk_j1  (m_impl_TalliesOk_l1  n1) t0 t5 t6 t7 true)
    else (bif decide (t7 > (0 : Int)) then ((ckI (t7 - (1 : Int))).bind fun x17 =>
        (at? t0 x17).bind fun x18 =>
        (m_impl_rowOrder x18.Key y12.Key).bind fun x19 =>
        m_impl_TalliesOk_j1  (m_impl_TalliesOk_l1  n1) t0 t5 t6 t7 (decide (x19 ≥ (0 : Int))))
      else (m_impl_TalliesOk_j1  (m_impl_TalliesOk_l1  n1) t0 t5 t6 t7 false)))
    else (m_impl_TalliesOk_j2  )
def m_impl_TalliesOk (a0 : (List S_impl_Tally)) : Option Bool :=
  m_impl_TalliesOk_l1  (((a0.length : Int) - (0 : Int)).toNat + 1) a0 a0 (a0.length : Int) (0 : Int)
theorem c_impl_TalliesOk (a0 : (List S_impl_Tally)) (r : Bool) (h : m_impl_TalliesOk a0 = some r) : Ret Try.prog f_impl_TalliesOk [e_Limpl_Tally a0] (e_bool r) := by
  refine Does.goG [] F_impl_TalliesOk rfl e_impl_TalliesOk n_impl_TalliesOk rfl (rvs := [.tmp 2]) rfl rfl ?_
  intro w0 ok0 lent ρ0
  refine LWP.seq_k fun N1 hN1 => ?_
  refine LWP.region (l := [_]) ?_
  refine LWo.assign (e_bool false) rfl (hn := ?_)
  refine LWo.nil (hN1 _ ?_)
  refine LWP.join (α := Unit) (fun z : Unit => []) (fun z : Unit => []) (fun z : Unit => m_impl_TalliesOk_j2  ) r (fun _ => by simp [hkeys]) ?_ ?_
  · rintro _ h
    replace h : m_impl_TalliesOk_j2   = some _ := h
    refine LWP.seq_k fun N23 hN23 => ?_
    refine LWP.region (l := [_]) ?_
    refine LWo.assign (e_bool true) rfl (hn := ?_)
    refine LWo.nil (hN23 _ ?_)
    obtain rfl := Option.some.inj h
    refine LWP.ret (QG.mk (.inr rfl) (.cons (.tmp (x := (e_bool true)) rfl) (.nil)) (RetOK.one0 (.pure rfl) (by decide)) rfl rfl)
  · intro N2 hN2
    refine LWP.seq_k fun N3 hN3 => ?_
    refine LWP.region (l := [_,_,_]) ?_
    refine LWo.move (e_Limpl_Tally a0) rfl (hn := ?_)
    refine LWo.lenM (f := e_impl_Tally) (l := a0) u_Limpl_Tally rfl (hn := ?_)
    refine LWo.move (e_int (0 : Int)) rfl (hn := ?_)
    refine LWo.nil (hN3 _ ?_)
    refine LWP.block ?_
    refine LWP.loopM (α := (List S_impl_Tally) × (List S_impl_Tally) × Int × Int) (fun z : (List S_impl_Tally) × (List S_impl_Tally) × Int × Int => [(0, (e_Limpl_Tally z.1)), (5, (e_Limpl_Tally z.2.1)), (6, (e_int z.2.2.1)), (7, (e_int z.2.2.2))]) (fun z : (List S_impl_Tally) × (List S_impl_Tally) × Int × Int => []) (fun n1 (z : (List S_impl_Tally) × (List S_impl_Tally) × Int × Int) => m_impl_TalliesOk_l1  n1 z.1 z.2.1 z.2.2.1 z.2.2.2) r _ (a0, a0, (a0.length : Int), (0 : Int)) h (fun _ => rfl) (fun _ => by simp [hkeys]) ⟨rfl, rfl, rfl, rfl, trivial⟩ trivial ?_
    rintro n1 ⟨t0, t5, t6, t7⟩ h N4 hN4
    replace h : m_impl_TalliesOk_l1  (n1 + 1) t0 t5 t6 t7 = some _ := h
    refine LWP.seq_k fun N6 hN6 => ?_
    refine LWP.region (l := [_]) ?_
    refine LWo.int _ rfl rfl rfl (hn := ?_)
    refine LWo.nil (hN6 _ ?_)
    refine LWP.seq_k fun N7 hN7 => ?_
    refine LWP.cond_split rfl (fun h8 => ?_) (fun h8 => ?_)
    · have h := bT h8 h
      refine LWP.skip (hN7 _ ?_)
      refine LWP.seq_k fun N9 hN9 => ?_
      refine LWP.block ?_
      refine LWP.seq_k fun N10 hN10 => ?_
      refine LWP.region (l := [_,_,_,_,_,_]) ?_
      refine LWo.move (e_int t7) rfl (hn := ?_)
      refine bk h fun x11 e11 h => ?_
      refine LWo.indexM (f := e_impl_Tally) e11 u_Limpl_Tally s_impl_Tally rfl rfl (hn := ?_)
      refine LWo.loadN ((e_impl_Tally x11)).cells g_impl_Tally s_impl_Tally rfl (Nat.le_of_ble_eq_true rfl) rfl (hn := ?_)
      refine LWo.alloc_impl_Tally 4 rfl (hn := ?_)
      refine LWo.assign (e_int t7) rfl (hn := ?_)
      refine lk h fun y12 e12 h => ?_
      refine LWo.storeW (y := (⟨[], (0 : Int), (0 : Int), (0 : Int)⟩ : S_impl_Tally)) y12 s_impl_Tally rfl rfl rfl rfl rfl rfl (by rw [e12]; exact .refl) rfl (hn := ?_)
      refine LWo.nil (hN10 _ ?_)
      refine LWP.join (α := (List S_impl_Tally) × (List S_impl_Tally) × Int × Int × Bool) (fun z : (List S_impl_Tally) × (List S_impl_Tally) × Int × Int × Bool => [(0, (e_Limpl_Tally z.1)), (5, (e_Limpl_Tally z.2.1)), (6, (e_int z.2.2.1)), (7, (e_int z.2.2.2.1)), (30, (e_bool z.2.2.2.2))]) (fun z : (List S_impl_Tally) × (List S_impl_Tally) × Int × Int × Bool => []) (fun z : (List S_impl_Tally) × (List S_impl_Tally) × Int × Int × Bool => m_impl_TalliesOk_j1  (m_impl_TalliesOk_l1  n1) z.1 z.2.1 z.2.2.1 z.2.2.2.1 z.2.2.2.2) r (fun _ => by simp [hkeys]) ?_ ?_
      · rintro ⟨t0, t5, t6, t7, t30⟩ h
        replace h : m_impl_TalliesOk_j1  (m_impl_TalliesOk_l1  n1) t0 t5 t6 t7 t30 = some _ := h
        refine LWP.cond_split rfl (fun h20 => ?_) (fun h20 => ?_)
        · have h := bT h20 h
          refine LWP.seq_k fun N21 hN21 => ?_
          refine LWP.region (l := [_]) ?_
          refine LWo.assign (e_bool false) rfl (hn := ?_)
          refine LWo.nil (hN21 _ ?_)
          obtain rfl := Option.some.inj h
          refine LWP.ret (QG.mk (.inr rfl) (.cons (.tmp (x := (e_bool false)) rfl) (.nil)) (RetOK.one0 (.pure rfl) (by decide)) rfl rfl)
        · have h := bF h20 h
          refine LWP.skip (hN9 _ ?_)
          refine LWP.region (l := [_,_]) ?_
          refine bk h fun x22 e22 h => ?_
          refine LWo.int _ rfl rfl (add_ck e22) (hn := ?_)
          refine LWo.move (e_int x22) rfl (hn := ?_)
          refine LWo.nil (hN4 (t0, t5, t6, x22) _ ⟨rfl, rfl, rfl, rfl, trivial⟩ trivial h)
      · intro N13 hN13
        refine bk h fun x14 e14 h => ?_
        refine bS ((!x14)) (fun h15 => ?_) (fun h15 => ?_)
        · have h := bT h15 h
          refine LWP.drawE (l := [_,_,_,_,_,_,_,_,_,_,_,_,_,_,_,_,_,_,_]) [] [0, 3, 4, 5, 6, 7] [([4], [4]), ([12], []), ([13], []), ([14], []), ([3, 15], []), ([15, 16], []), ([15, 17], []), ([0, 18], []), ([3, 18], []), ([18, 20], []), ([18, 19, 21], []), ([18, 22], []), ([18, 23], []), ([4, 18], []), ([18, 25], []), ([18, 24, 26], []), ([18, 27], []), ([15, 18, 28], []), ([15, 29], [])] [0, 5, 6, 7, 30] [] mixed (by kernel_rfl) rfl (by decide) ?_
          refine ⟨rfl, .put 12 _, trivial, fun u hg hu hh => LWo.loadVN ((e_impl_Tally y12)).cells  g_impl_Tally s_impl_Tally hu.1 hh.1 rfl rfl (hn := LWo.nil ⟨rfl, .inl rfl, hg⟩), ?_⟩
          refine ⟨rfl, .put 13 _, trivial, fun u hg hu hh => LWo.vcall rfl (av1 hu.1) (c_impl_Tally_ok _ _ e14) (.same (.nil)) (hn := LWo.nil ⟨rfl, .inl rfl, hg⟩), ?_⟩
          refine ⟨rfl, .put 14 _, trivial, fun u hg hu hh => LWo.not hu.1 (hn := LWo.nil ⟨rfl, .inl rfl, hg⟩), ?_⟩
          refine ⟨rfl, .put 15 _, trivial, fun u hg hu hh => LWo.move (e_bool (!x14)) hu.1 (hn := LWo.nil ⟨rfl, .inl rfl, hg⟩), ?_⟩
          refine ⟨rfl, .put 16 _, trivial, fun u hg hu hh => LWo.guardNU (t := 15) hu.2.1 h15 rfl rfl rfl rfl rfl (LWo.nil ⟨rfl, .inl rfl, hg⟩), ?_⟩
          refine ⟨rfl, .put 17 _, trivial, fun u hg hu hh => LWo.guardNU (t := 15) hu.1 h15 rfl rfl rfl rfl rfl (LWo.nil ⟨rfl, .inl rfl, hg⟩), ?_⟩
          refine ⟨rfl, .put 18 _, trivial, fun u hg hu hh => LWo.guardNU (t := 15) hu.1 h15 rfl rfl rfl rfl rfl (LWo.nil ⟨rfl, .inl rfl, hg⟩), ?_⟩
          refine ⟨rfl, .put 19 _, trivial, fun u hg hu hh => LWo.guardU (t := 18) hu.2.1 rfl rfl rfl rfl (LWo.nil ⟨rfl, .inl rfl, hg⟩), ?_⟩
          refine ⟨rfl, .put 20 _, trivial, fun u hg hu hh => LWo.guardU (t := 18) hu.2.1 rfl rfl rfl rfl (LWo.nil ⟨rfl, .inl rfl, hg⟩), ?_⟩
          refine ⟨rfl, .put 21 _, trivial, fun u hg hu hh => LWo.guardU (t := 18) hu.1 rfl rfl rfl rfl (LWo.nil ⟨rfl, .inl rfl, hg⟩), ?_⟩
          refine ⟨rfl, .put 22 _, trivial, fun u hg hu hh => LWo.guardU (t := 18) hu.1 rfl rfl rfl rfl (LWo.nil ⟨rfl, .inl rfl, hg⟩), ?_⟩
          refine ⟨rfl, .put 23 _, trivial, fun u hg hu hh => LWo.guardU (t := 18) hu.1 rfl rfl rfl rfl (LWo.nil ⟨rfl, .inl rfl, hg⟩), ?_⟩
          refine ⟨rfl, .put 24 _, trivial, fun u hg hu hh => LWo.guardU (t := 18) hu.1 rfl rfl rfl rfl (LWo.nil ⟨rfl, .inl rfl, hg⟩), ?_⟩
          refine ⟨rfl, .put 25 _, trivial, fun u hg hu hh => LWo.guardU (t := 18) hu.2.1 rfl rfl rfl rfl (LWo.nil ⟨rfl, .inl rfl, hg⟩), ?_⟩
          refine ⟨rfl, .put 26 _, trivial, fun u hg hu hh => LWo.guardU (t := 18) hu.1 rfl rfl rfl rfl (LWo.nil ⟨rfl, .inl rfl, hg⟩), ?_⟩
          refine ⟨rfl, .put 27 _, trivial, fun u hg hu hh => LWo.guardU (t := 18) hu.1 rfl rfl rfl rfl (LWo.nil ⟨rfl, .inl rfl, hg⟩), ?_⟩
          refine ⟨rfl, .put 28 _, trivial, fun u hg hu hh => LWo.guardU (t := 18) hu.1 rfl rfl rfl rfl (LWo.nil ⟨rfl, .inl rfl, hg⟩), ?_⟩
          refine ⟨rfl, .put 29 _, trivial, fun u hg hu hh => LWo.guardNU (t := 15) hu.1 h15 rfl rfl rfl rfl rfl (LWo.nil ⟨rfl, .inl rfl, hg⟩), ?_⟩
          refine ⟨rfl, .put 30 _, trivial, fun u hg hu hh => LWo.pickTM (e_bool true) hu.1 h15 rfl (hn := LWo.nil ⟨rfl, .inl rfl, hg⟩), ?_⟩
          refine ⟨rfl, by kernel_rfl, hN13 (t0, t5, t6, t7, true) _ ⟨rfl, rfl, rfl, rfl, rfl, trivial⟩ trivial h⟩
        · have h := bF h15 h
          refine bS (decide (t7 > (0 : Int))) (fun h16 => ?_) (fun h16 => ?_)
          · have h := bT h16 h
            refine bk h fun x17 e17 h => ?_
            refine bk h fun x18 e18 h => ?_
            refine bk h fun x19 e19 h => ?_
            refine LWP.drawE (l := [_,_,_,_,_,_,_,_,_,_,_,_,_,_,_,_,_,_,_]) [] [0, 3, 4, 5, 6, 7] [([4], [4]), ([12], []), ([13], []), ([14], []), ([3, 15], []), ([15, 16], []), ([15, 17], []), ([0, 18], []), ([3, 18], []), ([18, 20], []), ([18, 19, 21], []), ([18, 22], []), ([18, 23], []), ([4, 18], []), ([18, 25], [4]), ([18, 24, 26], []), ([18, 27], []), ([15, 18, 28], []), ([15, 29], [])] [0, 5, 6, 7, 30] [] mixed (by kernel_rfl) rfl (by decide) ?_
            refine ⟨rfl, .put 12 _, trivial, fun u hg hu hh => LWo.loadVN ((e_impl_Tally y12)).cells  g_impl_Tally s_impl_Tally hu.1 hh.1 rfl rfl (hn := LWo.nil ⟨rfl, .inl rfl, hg⟩), ?_⟩
            refine ⟨rfl, .put 13 _, trivial, fun u hg hu hh => LWo.vcall rfl (av1 hu.1) (c_impl_Tally_ok _ _ e14) (.same (.nil)) (hn := LWo.nil ⟨rfl, .inl rfl, hg⟩), ?_⟩
            refine ⟨rfl, .put 14 _, trivial, fun u hg hu hh => LWo.not hu.1 (hn := LWo.nil ⟨rfl, .inl rfl, hg⟩), ?_⟩
            refine ⟨rfl, .put 15 _, trivial, fun u hg hu hh => LWo.move (e_bool (!x14)) hu.1 (hn := LWo.nil ⟨rfl, .inl rfl, hg⟩), ?_⟩
            refine ⟨rfl, .put 16 _, trivial, fun u hg hu hh => LWo.guardY (t := 15) hu.2.1 h15 rfl rfl (LWo.move (e_int t7) hu.1 (hn := LWo.nil ⟨rfl, .inl rfl, hg⟩)), ?_⟩
            refine ⟨rfl, .put 17 _, trivial, fun u hg hu hh => LWo.guardY (t := 15) hu.1 h15 rfl rfl (LWo.int _ hu.2.1 rfl rfl (hn := LWo.nil ⟨rfl, .inl rfl, hg⟩)), ?_⟩
            refine ⟨rfl, .put 18 _, trivial, fun u hg hu hh => LWo.guardY (t := 15) hu.1 h15 rfl rfl (LWo.move (e_bool (decide (t7 > (0 : Int)))) hu.2.1 (hn := LWo.nil ⟨rfl, .inl rfl, hg⟩)), ?_⟩
            refine ⟨rfl, .put 19 _, trivial, fun u hg hu hh => LWo.guardY (t := 18) hu.2.1 h16 rfl rfl (LWo.move (e_Limpl_Tally t0) hu.1 (hn := LWo.nil ⟨rfl, .inl rfl, hg⟩)), ?_⟩
            refine ⟨rfl, .put 20 _, trivial, fun u hg hu hh => LWo.guardY (t := 18) hu.2.1 h16 rfl rfl (LWo.move (e_int t7) hu.1 (hn := LWo.nil ⟨rfl, .inl rfl, hg⟩)), ?_⟩
            refine ⟨rfl, .put 21 _, trivial, fun u hg hu hh => LWo.guardY (t := 18) hu.1 h16 rfl rfl (LWo.int _ hu.2.1 rfl (sub_ck e17) (hn := LWo.nil ⟨rfl, .inl rfl, hg⟩)), ?_⟩
            refine ⟨rfl, .put 22 _, trivial, fun u hg hu hh => LWo.guardY (t := 18) hu.1 h16 rfl rfl (LWo.indexM (f := e_impl_Tally) e18 u_Limpl_Tally s_impl_Tally hu.2.1 hu.2.2.1 (hn := LWo.nil ⟨rfl, .inl rfl, hg⟩)), ?_⟩
            refine ⟨rfl, .put 23 _, trivial, fun u hg hu hh => LWo.guardY (t := 18) hu.1 h16 rfl rfl (LWo.fieldAddr _ u_impl_Tally rfl s_Limpl_Value hu.2.1 rfl (hn := LWo.nil ⟨rfl, .inl rfl, hg⟩)), ?_⟩
            refine ⟨rfl, .put 24 _, trivial, fun u hg hu hh => LWo.guardY (t := 18) hu.1 h16 rfl rfl (LWo.load1 (c := (e_Limpl_Value x18.Key)) g_Limpl_Value hu.2.1 (hn := LWo.nil ⟨rfl, .inl rfl, hg⟩)), ?_⟩
            refine ⟨rfl, .put 25 _, trivial, fun u hg hu hh => LWo.guardY (t := 18) hu.2.1 h16 rfl rfl (LWo.fieldPtr u_impl_Tally rfl s_Limpl_Value hu.1 rfl (hn := LWo.nil ⟨rfl, .inl rfl, hg⟩)), ?_⟩
            refine ⟨rfl, .put 26 _, trivial, fun u hg hu hh => LWo.guardY (t := 18) hu.1 h16 rfl rfl (LWo.loadV1 (e_Limpl_Value y12.Key)  g_Limpl_Value hu.2.1 hh.1 rfl (hn := LWo.nil ⟨rfl, .inl rfl, hg⟩)), ?_⟩
            refine ⟨rfl, .put 27 _, trivial, fun u hg hu hh => LWo.guardY (t := 18) hu.1 h16 rfl rfl (LWo.vcall rfl (av2 hu.2.1 hu.2.2.1) (c_impl_rowOrder _ _ _ e19) (.same (.same (.nil))) (hn := LWo.nil ⟨rfl, .inl rfl, hg⟩)), ?_⟩
            refine ⟨rfl, .put 28 _, trivial, fun u hg hu hh => LWo.guardY (t := 18) hu.1 h16 rfl rfl (LWo.int _ hu.2.1 rfl rfl (hn := LWo.nil ⟨rfl, .inl rfl, hg⟩)), ?_⟩
            refine ⟨rfl, .put 29 _, trivial, fun u hg hu hh => LWo.guardY (t := 15) hu.1 h15 rfl rfl (LWo.pickTM (e_bool (decide (x19 ≥ (0 : Int)))) hu.2.1 h16 hu.2.2.1 (hn := LWo.nil ⟨rfl, .inl rfl, hg⟩)), ?_⟩
            refine ⟨rfl, .put 30 _, trivial, fun u hg hu hh => LWo.pickFM (e_bool (decide (x19 ≥ (0 : Int)))) hu.1 h15 hu.2.1 (hn := LWo.nil ⟨rfl, .inl rfl, hg⟩), ?_⟩
            refine ⟨rfl, by kernel_rfl, hN13 (t0, t5, t6, t7, decide (x19 ≥ (0 : Int))) _ ⟨rfl, rfl, rfl, rfl, rfl, trivial⟩ trivial h⟩
          · have h := bF h16 h
            refine LWP.drawE (l := [_,_,_,_,_,_,_,_,_,_,_,_,_,_,_,_,_,_,_]) [] [0, 3, 4, 5, 6, 7] [([4], [4]), ([12], []), ([13], []), ([14], []), ([3, 15], []), ([15, 16], []), ([15, 17], []), ([0, 18], []), ([3, 18], []), ([18, 20], []), ([18, 19, 21], []), ([18, 22], []), ([18, 23], []), ([4, 18], []), ([18, 25], []), ([18, 24, 26], []), ([18, 27], []), ([15, 18, 28], []), ([15, 29], [])] [0, 5, 6, 7, 30] [] mixed (by kernel_rfl) rfl (by decide) ?_
            refine ⟨rfl, .put 12 _, trivial, fun u hg hu hh => LWo.loadVN ((e_impl_Tally y12)).cells  g_impl_Tally s_impl_Tally hu.1 hh.1 rfl rfl (hn := LWo.nil ⟨rfl, .inl rfl, hg⟩), ?_⟩
            refine ⟨rfl, .put 13 _, trivial, fun u hg hu hh => LWo.vcall rfl (av1 hu.1) (c_impl_Tally_ok _ _ e14) (.same (.nil)) (hn := LWo.nil ⟨rfl, .inl rfl, hg⟩), ?_⟩
            refine ⟨rfl, .put 14 _, trivial, fun u hg hu hh => LWo.not hu.1 (hn := LWo.nil ⟨rfl, .inl rfl, hg⟩), ?_⟩
            refine ⟨rfl, .put 15 _, trivial, fun u hg hu hh => LWo.move (e_bool (!x14)) hu.1 (hn := LWo.nil ⟨rfl, .inl rfl, hg⟩), ?_⟩
            refine ⟨rfl, .put 16 _, trivial, fun u hg hu hh => LWo.guardY (t := 15) hu.2.1 h15 rfl rfl (LWo.move (e_int t7) hu.1 (hn := LWo.nil ⟨rfl, .inl rfl, hg⟩)), ?_⟩
            refine ⟨rfl, .put 17 _, trivial, fun u hg hu hh => LWo.guardY (t := 15) hu.1 h15 rfl rfl (LWo.int _ hu.2.1 rfl rfl (hn := LWo.nil ⟨rfl, .inl rfl, hg⟩)), ?_⟩
            refine ⟨rfl, .put 18 _, trivial, fun u hg hu hh => LWo.guardY (t := 15) hu.1 h15 rfl rfl (LWo.move (e_bool (decide (t7 > (0 : Int)))) hu.2.1 (hn := LWo.nil ⟨rfl, .inl rfl, hg⟩)), ?_⟩
            refine ⟨rfl, .put 19 _, trivial, fun u hg hu hh => LWo.guardNU (t := 18) hu.2.1 h16 rfl rfl rfl rfl rfl (LWo.nil ⟨rfl, .inl rfl, hg⟩), ?_⟩
            refine ⟨rfl, .put 20 _, trivial, fun u hg hu hh => LWo.guardNU (t := 18) hu.2.1 h16 rfl rfl rfl rfl rfl (LWo.nil ⟨rfl, .inl rfl, hg⟩), ?_⟩
            refine ⟨rfl, .put 21 _, trivial, fun u hg hu hh => LWo.guardNU (t := 18) hu.1 h16 rfl rfl rfl rfl rfl (LWo.nil ⟨rfl, .inl rfl, hg⟩), ?_⟩
            refine ⟨rfl, .put 22 _, trivial, fun u hg hu hh => LWo.guardNU (t := 18) hu.1 h16 rfl rfl rfl rfl rfl (LWo.nil ⟨rfl, .inl rfl, hg⟩), ?_⟩
            refine ⟨rfl, .put 23 _, trivial, fun u hg hu hh => LWo.guardNU (t := 18) hu.1 h16 rfl rfl rfl rfl rfl (LWo.nil ⟨rfl, .inl rfl, hg⟩), ?_⟩
            refine ⟨rfl, .put 24 _, trivial, fun u hg hu hh => LWo.guardNU (t := 18) hu.1 h16 rfl rfl rfl rfl rfl (LWo.nil ⟨rfl, .inl rfl, hg⟩), ?_⟩
            refine ⟨rfl, .put 25 _, trivial, fun u hg hu hh => LWo.guardNU (t := 18) hu.2.1 h16 rfl rfl rfl rfl rfl (LWo.nil ⟨rfl, .inl rfl, hg⟩), ?_⟩
            refine ⟨rfl, .put 26 _, trivial, fun u hg hu hh => LWo.guardNU (t := 18) hu.1 h16 rfl rfl rfl rfl rfl (LWo.nil ⟨rfl, .inl rfl, hg⟩), ?_⟩
            refine ⟨rfl, .put 27 _, trivial, fun u hg hu hh => LWo.guardNU (t := 18) hu.1 h16 rfl rfl rfl rfl rfl (LWo.nil ⟨rfl, .inl rfl, hg⟩), ?_⟩
            refine ⟨rfl, .put 28 _, trivial, fun u hg hu hh => LWo.guardNU (t := 18) hu.1 h16 rfl rfl rfl rfl rfl (LWo.nil ⟨rfl, .inl rfl, hg⟩), ?_⟩
            refine ⟨rfl, .put 29 _, trivial, fun u hg hu hh => LWo.guardY (t := 15) hu.1 h15 rfl rfl (LWo.pickFM (e_bool false) hu.2.1 h16 rfl (hn := LWo.nil ⟨rfl, .inl rfl, hg⟩)), ?_⟩
            refine ⟨rfl, .put 30 _, trivial, fun u hg hu hh => LWo.pickFM (e_bool false) hu.1 h15 hu.2.1 (hn := LWo.nil ⟨rfl, .inl rfl, hg⟩), ?_⟩
            refine ⟨rfl, by kernel_rfl, hN13 (t0, t5, t6, t7, false) _ ⟨rfl, rfl, rfl, rfl, rfl, trivial⟩ trivial h⟩
    · have h := bF h8 h
      refine LWP.exit (hN2 () _ trivial trivial h)

def m_impl_RowOrder_j1 (t0 : (List S_impl_Value)) (t1 : (List S_impl_Value)) (t12 : Bool) : Option Int :=
  bif t12 then (some (0 : Int))
  else ((m_impl_rowOrder t0 t1).bind fun x10 =>
  some x10)
def m_impl_RowOrder (a0 : (List S_impl_Value)) (a1 : (List S_impl_Value)) : Option Int :=
  (m_impl_RowOk a0).bind fun x4 =>
  bif (!x4) then (m_impl_RowOrder_j1  a0 a1 true)
  else ((m_impl_RowOk a1).bind fun x6 =>
    m_impl_RowOrder_j1  a0 a1 (!x6))
theorem c_impl_RowOrder (a0 : (List S_impl_Value)) (a1 : (List S_impl_Value)) (r : Int) (h : m_impl_RowOrder a0 a1 = some r) : Ret Try.prog f_impl_RowOrder [e_Limpl_Value a0, e_Limpl_Value a1] (e_int r) := by
  refine Does.goG [] F_impl_RowOrder rfl e_impl_RowOrder n_impl_RowOrder rfl (rvs := [.tmp 4]) rfl rfl ?_
  intro w0 ok0 lent ρ0
  refine LWP.seq_k fun N1 hN1 => ?_
  refine LWP.region (l := [_]) ?_
  refine LWo.assign (e_int (0 : Int)) rfl (hn := ?_)
  refine LWo.nil (hN1 _ ?_)
  refine LWP.seq_k fun N2 hN2 => ?_
  refine LWP.join (α := (List S_impl_Value) × (List S_impl_Value) × Bool) (fun z : (List S_impl_Value) × (List S_impl_Value) × Bool => [(0, (e_Limpl_Value z.1)), (1, (e_Limpl_Value z.2.1)), (12, (e_bool z.2.2))]) (fun z : (List S_impl_Value) × (List S_impl_Value) × Bool => []) (fun z : (List S_impl_Value) × (List S_impl_Value) × Bool => m_impl_RowOrder_j1  z.1 z.2.1 z.2.2) r (fun _ => by simp [hkeys]) ?_ ?_
  · rintro ⟨t0, t1, t12⟩ h
    replace h : m_impl_RowOrder_j1  t0 t1 t12 = some _ := h
    refine LWP.cond_split rfl (fun h7 => ?_) (fun h7 => ?_)
    · have h := bT h7 h
      refine LWP.seq_k fun N8 hN8 => ?_
      refine LWP.region (l := [_]) ?_
      refine LWo.assign (e_int (0 : Int)) rfl (hn := ?_)
      refine LWo.nil (hN8 _ ?_)
      obtain rfl := Option.some.inj h
      refine LWP.ret (QG.mk (.inr rfl) (.cons (.tmp (x := (e_int (0 : Int))) rfl) (.nil)) (RetOK.one0 (.pure rfl) (by decide)) rfl rfl)
    · have h := bF h7 h
      refine LWP.skip (hN2 _ ?_)
      refine LWP.seq_k fun N9 hN9 => ?_
      refine LWP.region (l := [_,_,_,_]) ?_
      refine LWo.move (e_Limpl_Value t0) rfl (hn := ?_)
      refine LWo.move (e_Limpl_Value t1) rfl (hn := ?_)
      refine bk h fun x10 e10 h => ?_
      refine LWo.vcall rfl rfl (c_impl_rowOrder _ _ _ e10) (.same (.same (.nil))) (hn := ?_)
      refine LWo.assign (e_int x10) rfl (hn := ?_)
      refine LWo.nil (hN9 _ ?_)
      obtain rfl := Option.some.inj h
      refine LWP.ret (QG.mk (.inr rfl) (.cons (.tmp (x := (e_int x10)) rfl) (.nil)) (RetOK.one0 (.pure rfl) (by decide)) rfl rfl)
  · intro N3 hN3
    refine LWP.region (l := [_,_,_,_,_,_,_,_]) ?_
    refine LWo.move (e_Limpl_Value a0) rfl (hn := ?_)
    refine bk h fun x4 e4 h => ?_
    refine LWo.vcall rfl rfl (c_impl_RowOk _ _ e4) (.same (.nil)) (hn := ?_)
    refine LWo.not rfl (hn := ?_)
    refine LWo.move (e_bool (!x4)) rfl (hn := ?_)
    refine LWo.byCases (t := 8) _ rfl (fun h5 => ?_) (fun h5 => ?_)
    · have h := bT h5 h
      refine LWo.guardNU (t := 8) rfl h5 rfl rfl rfl rfl rfl ?_
      refine LWo.guardNU (t := 8) rfl h5 rfl rfl rfl rfl rfl ?_
      refine LWo.guardNU (t := 8) rfl h5 rfl rfl rfl rfl rfl ?_
      refine LWo.pickTM (e_bool true) rfl h5 rfl (hn := ?_)
      refine LWo.nil (hN3 (a0, a1, true) _ ⟨rfl, rfl, rfl, trivial⟩ trivial h)
    · have h := bF h5 h
      refine LWo.guardY (t := 8) rfl h5 rfl rfl ?_
      refine LWo.move (e_Limpl_Value a1) rfl (hn := ?_)
      refine bk h fun x6 e6 h => ?_
      refine LWo.guardY (t := 8) rfl h5 rfl rfl ?_
      refine LWo.vcall rfl rfl (c_impl_RowOk _ _ e6) (.same (.nil)) (hn := ?_)
      refine LWo.guardY (t := 8) rfl h5 rfl rfl ?_
      refine LWo.not rfl (hn := ?_)
      refine LWo.pickFM (e_bool (!x6)) rfl h5 rfl (hn := ?_)
      refine LWo.nil (hN3 (a0, a1, (!x6)) _ ⟨rfl, rfl, rfl, trivial⟩ trivial h)

def m_slices_Reverse_LLimpl_Value_Limpl_Value_l1 : Nat → Int → Int → (List (List S_impl_Value)) → Option (List (List S_impl_Value))
  | 0, _, _, _ => none
  | n1 + 1, t2, t3, o0 =>
    bif decide (t2 < t3) then ((at? o0 t3).bind fun x9 =>
    (at? o0 t3).bind fun x10 =>
    (at? o0 t2).bind fun x11 =>
    (at? o0 t2).bind fun x12 =>
    (at? o0 t2).bind fun x13 =>
    (at? o0 t2).bind fun x14 =>
    lt (x10) fun y15 =>
    (at? (o0.set (t2).toNat y15) t3).bind fun x16 =>
    (at? (o0.set (t2).toNat y15) t3).bind fun x17 =>
    lt (x12) fun y18 =>
    (ckI (t2 + (1 : Int))).bind fun x19 =>
    (ckI (t3 - (1 : Int))).bind fun x20 =>
    (m_slices_Reverse_LLimpl_Value_Limpl_Value_l1  n1) x19 x20 ((o0.set (t2).toNat y15).set (t3).toNat y18))
    else (some o0)
def m_slices_Reverse_LLimpl_Value_Limpl_Value (o0 : (List (List S_impl_Value))) : Option (List (List S_impl_Value)) :=
  (ckI ((o0.length : Int) - (1 : Int))).bind fun x2 =>
  m_slices_Reverse_LLimpl_Value_Limpl_Value_l1  ((x2 - (0 : Int)).toNat + 1) (0 : Int) x2 o0
theorem c_slices_Reverse_LLimpl_Value_Limpl_Value (o0 : (List (List S_impl_Value))) (r : (List (List S_impl_Value))) (h : m_slices_Reverse_LLimpl_Value_Limpl_Value o0 = some r) : Does Try.prog f_slices_Reverse_LLimpl_Value_Limpl_Value [.own 0 0 o0.length] [(0, (lob 1 e_Limpl_Value o0))] (fun x hh => x = .tup [] ∧ hh = [(0, (lob 1 e_Limpl_Value r))]) := by
  refine Does.goG [0] F_slices_Reverse_LLimpl_Value_Limpl_Value rfl e_slices_Reverse_LLimpl_Value_Limpl_Value n_slices_Reverse_LLimpl_Value_Limpl_Value rfl (rvs := []) rfl rfl ?_
  intro w0 ok0 lent ρ0
  refine LWP.seq_k fun N1 hN1 => ?_
  refine LWP.region (l := [_,_,_,_,_]) ?_
  refine LWo.move (.own 0 0 (o0).length) rfl (hn := ?_)
  refine LWo.lenO u_LLimpl_Value rfl (hn := ?_)
  refine bk h fun x2 e2 h => ?_
  refine LWo.int _ rfl rfl (sub_ck e2) (hn := ?_)
  refine LWo.assign (e_int (0 : Int)) rfl (hn := ?_)
  refine LWo.assign (e_int x2) rfl (hn := ?_)
  refine LWo.nil (hN1 _ ?_)
  refine LWP.block ?_
  refine LWP.loopM (α := Int × Int × (List (List S_impl_Value))) (fun z : Int × Int × (List (List S_impl_Value)) => [(0, (.own 0 0 (z.2.2).length)), (2, (e_int z.1)), (3, (e_int z.2.1))]) (fun z : Int × Int × (List (List S_impl_Value)) => [(0, (lob 1 e_Limpl_Value z.2.2))]) (fun n1 (z : Int × Int × (List (List S_impl_Value))) => m_slices_Reverse_LLimpl_Value_Limpl_Value_l1  n1 z.1 z.2.1 z.2.2) r _ ((0 : Int), x2, o0) h (fun _ => rfl) (fun _ => by simp [hkeys]) ⟨rfl, rfl, rfl, trivial⟩ ⟨rfl, trivial⟩ ?_
  rintro n1 ⟨t2, t3, o0⟩ h N3 hN3
  replace h : m_slices_Reverse_LLimpl_Value_Limpl_Value_l1  (n1 + 1) t2 t3 o0 = some _ := h
  refine LWP.seq_k fun N5 hN5 => ?_
  refine LWP.seq_k fun N6 hN6 => ?_
  refine LWP.region (l := [_,_,_]) ?_
  refine LWo.move (e_int t2) rfl (hn := ?_)
  refine LWo.move (e_int t3) rfl (hn := ?_)
  refine LWo.int _ rfl rfl rfl (hn := ?_)
  refine LWo.nil (hN6 _ ?_)
  refine LWP.cond_split rfl (fun h7 => ?_) (fun h7 => ?_)
  · have h := bT h7 h
    refine LWP.skip (hN5 _ ?_)
    refine LWP.seq_k fun N8 hN8 => ?_
    refine LWP.block ?_
    refine bk h fun x9 e9 h => ?_
    refine bk h fun x10 e10 h => ?_
    refine bk h fun x11 e11 h => ?_
    refine bk h fun x12 e12 h => ?_
    refine bk h fun x13 e13 h => ?_
    refine bk h fun x14 e14 h => ?_
    refine lk h fun y15 e15 h => ?_
    refine bk h fun x16 e16 h => ?_
    refine bk h fun x17 e17 h => ?_
    refine lk h fun y18 e18 h => ?_
    refine LWP.drawE (l := [_,_,_,_,_,_,_,_,_,_,_,_,_,_,_,_]) [] [0, 2, 3] [([0], []), ([2], []), ([0], []), ([3], []), ([0], []), ([3], []), ([18, 19], [0]), ([20], [0]), ([0], []), ([2], []), ([22, 23], [0]), ([24], [0]), ([14, 15], [0]), ([21, 26], [0]), ([16, 17], [0]), ([25, 27], [0])] [0, 2, 3] [0] mixed (by kernel_rfl) rfl (by decide) ?_
    refine ⟨rfl, .put 14 _, trivial, fun u hg hu hh => LWo.move (.own 0 0 (o0).length) hu.1 (hn := LWo.nil ⟨rfl, .inl rfl, hg⟩), ?_⟩
    refine ⟨rfl, .put 15 _, trivial, fun u hg hu hh => LWo.move (e_int t2) hu.1 (hn := LWo.nil ⟨rfl, .inl rfl, hg⟩), ?_⟩
    refine ⟨rfl, .put 16 _, trivial, fun u hg hu hh => LWo.move (.own 0 0 (o0).length) hu.1 (hn := LWo.nil ⟨rfl, .inl rfl, hg⟩), ?_⟩
    refine ⟨rfl, .put 17 _, trivial, fun u hg hu hh => LWo.move (e_int t3) hu.1 (hn := LWo.nil ⟨rfl, .inl rfl, hg⟩), ?_⟩
    refine ⟨rfl, .put 18 _, trivial, fun u hg hu hh => LWo.move (.own 0 0 (o0).length) hu.1 (hn := LWo.nil ⟨rfl, .inl rfl, hg⟩), ?_⟩
    refine ⟨rfl, .put 19 _, trivial, fun u hg hu hh => LWo.move (e_int t3) hu.1 (hn := LWo.nil ⟨rfl, .inl rfl, hg⟩), ?_⟩
    refine ⟨rfl, .put 20 _, trivial, fun u hg hu hh => LWo.indexO e9 rfl u_LLimpl_Value s_Limpl_Value hu.1 hu.2.1 hh.1 (hn := LWo.nil ⟨rfl, .inl rfl, hg⟩), ?_⟩
    refine ⟨rfl, .put 21 _, trivial, fun u hg hu hh => LWo.loadO1 (e_Limpl_Value x10) e10 g_Limpl_Value hu.1 hh.1 rfl (hn := LWo.nil ⟨rfl, .inl rfl, hg⟩), ?_⟩
    refine ⟨rfl, .put 22 _, trivial, fun u hg hu hh => LWo.move (.own 0 0 (o0).length) hu.1 (hn := LWo.nil ⟨rfl, .inl rfl, hg⟩), ?_⟩
    refine ⟨rfl, .put 23 _, trivial, fun u hg hu hh => LWo.move (e_int t2) hu.1 (hn := LWo.nil ⟨rfl, .inl rfl, hg⟩), ?_⟩
    refine ⟨rfl, .put 24 _, trivial, fun u hg hu hh => LWo.indexO e11 rfl u_LLimpl_Value s_Limpl_Value hu.1 hu.2.1 hh.1 (hn := LWo.nil ⟨rfl, .inl rfl, hg⟩), ?_⟩
    refine ⟨rfl, .put 25 _, trivial, fun u hg hu hh => LWo.loadO1 (e_Limpl_Value x12) e12 g_Limpl_Value hu.1 hh.1 rfl (hn := LWo.nil ⟨rfl, .inl rfl, hg⟩), ?_⟩
    refine ⟨rfl, .put 26 _, trivial, fun u hg hu hh => LWo.indexO e13 rfl u_LLimpl_Value s_Limpl_Value hu.1 hu.2.1 hh.1 (hn := LWo.nil ⟨rfl, .inl rfl, hg⟩), ?_⟩
    refine ⟨rfl, .upd none .junk 0 _, (fun _ h => by cases h), fun u hg hu hh => LWo.storeO y15 e14 s_Limpl_Value hu.2.1 hu.1 rfl rfl rfl hh.1 rfl (by rw [e15]; rfl) (hn := LWo.nil ⟨rfl, .inl rfl, Ef.good_ok (e := .upd none .junk 0 _) (fun _ h => by cases h) hg⟩), ?_⟩
    refine ⟨rfl, .put 27 _, trivial, fun u hg hu hh => LWo.indexO e16 List.length_set.symm u_LLimpl_Value s_Limpl_Value hu.1 hu.2.1 hh.1 (hn := LWo.nil ⟨rfl, .inl rfl, hg⟩), ?_⟩
    refine ⟨rfl, .upd none .junk 0 _, (fun _ h => by cases h), fun u hg hu hh => LWo.storeO y18 e17 s_Limpl_Value hu.2.1 hu.1 rfl rfl rfl hh.1 rfl (by rw [e18]; rfl) (hn := LWo.nil ⟨rfl, .inl rfl, Ef.good_ok (e := .upd none .junk 0 _) (fun _ h => by cases h) hg⟩), ?_⟩
    refine ⟨rfl, by kernel_rfl, hN8 _ ?_⟩
    refine LWP.region (l := [_,_,_,_,_,_]) ?_
    refine LWo.move (e_int t2) rfl (hn := ?_)
    refine bk h fun x19 e19 h => ?_
    refine LWo.int _ rfl rfl (add_ck e19) (hn := ?_)
    refine LWo.move (e_int t3) rfl (hn := ?_)
    refine bk h fun x20 e20 h => ?_
    refine LWo.int _ rfl rfl (sub_ck e20) (hn := ?_)
    refine LWo.assign (e_int x19) rfl (hn := ?_)
    refine LWo.assign (e_int x20) rfl (hn := ?_)
    refine LWo.nil (hN3 (x19, x20, ((o0.set (t2).toNat y15).set (t3).toNat y18)) _ ⟨(congrArg (LV.own 0 0) (List.length_set.symm.trans List.length_set.symm)), rfl, rfl, trivial⟩ ⟨rfl, trivial⟩ h)
  · have h := bF h7 h
    obtain rfl := Option.some.inj h
    refine LWP.exit (QG.mk (.inl rfl) (.nil) (RetOK.many1 (.nil) (by simp) (by decide) rfl rfl rfl rfl rfl) rfl rfl)
theorem k_slices_Reverse_LLimpl_Value_Limpl_Value (o0 : (List (List S_impl_Value))) (r : (List (List S_impl_Value))) (h : m_slices_Reverse_LLimpl_Value_Limpl_Value o0 = some r) (k : Nat) : Does Try.prog f_slices_Reverse_LLimpl_Value_Limpl_Value [.own k 0 o0.length] [(k, (lob 1 e_Limpl_Value o0))] (fun x hh => x = .tup [] ∧ hh = [(k, (lob 1 e_Limpl_Value r))]) :=
  Does.nameO (c_slices_Reverse_LLimpl_Value_Limpl_Value o0 r h) (fun _ => rfl) k

def m_slices_rotateLeft_Limpl_Value (o0 : (List (List S_impl_Value))) (a1 : Int) : Option (List (List S_impl_Value)) :=
  (cut? o0 (0 : Int) a1).bind fun x2 =>
  none
theorem c_slices_rotateLeft_Limpl_Value (o0 : (List (List S_impl_Value))) (a1 : Int) (r : (List (List S_impl_Value))) (h : m_slices_rotateLeft_Limpl_Value o0 a1 = some r) : Does Try.prog f_slices_rotateLeft_Limpl_Value [.own 0 0 o0.length, e_int a1] [(0, (lob 1 e_Limpl_Value o0))] (fun x hh => x = .tup [] ∧ hh = [(0, (lob 1 e_Limpl_Value r))]) := by
  refine Does.goG [0] F_slices_rotateLeft_Limpl_Value rfl e_slices_rotateLeft_Limpl_Value n_slices_rotateLeft_Limpl_Value rfl (rvs := []) rfl rfl ?_
  intro w0 ok0 lent ρ0
  refine LWP.seq_k fun N1 hN1 => ?_
  refine LWP.region (l := [_,_,_,_]) ?_
  refine LWo.move (.own 0 0 (o0).length) rfl (hn := ?_)
  refine LWo.move (e_int a1) rfl (hn := ?_)
  refine bk h fun x2 e2 h => ?_
  refine LWo.frzL (f := e_Limpl_Value) (l := o0) [0, 4] 0 rfl rfl ⟨rfl, rfl, trivial⟩ ?_
  refine LWo.cutM (f := e_Limpl_Value) e2 u_LLimpl_Value s_Limpl_Value rfl rfl ⟨_, rfl⟩ (hn := ?_)
  exact no h
theorem k_slices_rotateLeft_Limpl_Value (o0 : (List (List S_impl_Value))) (a1 : Int) (r : (List (List S_impl_Value))) (h : m_slices_rotateLeft_Limpl_Value o0 a1 = some r) (k : Nat) : Does Try.prog f_slices_rotateLeft_Limpl_Value [.own k 0 o0.length, e_int a1] [(k, (lob 1 e_Limpl_Value o0))] (fun x hh => x = .tup [] ∧ hh = [(k, (lob 1 e_Limpl_Value r))]) :=
  Does.nameO (c_slices_rotateLeft_Limpl_Value o0 a1 r h) (fun _ => rfl) k

def m_slices_rotateRight_Limpl_Value (o0 : (List (List S_impl_Value))) (a1 : Int) : Option (List (List S_impl_Value)) :=
  (ckI ((o0.length : Int) - a1)).bind fun x1 =>
  (m_slices_rotateLeft_Limpl_Value o0 x1).bind fun x2 =>
  (lenQ x2.length o0.length ()).bind fun u3 =>
  some x2
theorem c_slices_rotateRight_Limpl_Value (o0 : (List (List S_impl_Value))) (a1 : Int) (r : (List (List S_impl_Value))) (h : m_slices_rotateRight_Limpl_Value o0 a1 = some r) : Does Try.prog f_slices_rotateRight_Limpl_Value [.own 0 0 o0.length, e_int a1] [(0, (lob 1 e_Limpl_Value o0))] (fun x hh => x = .tup [] ∧ hh = [(0, (lob 1 e_Limpl_Value r))]) := by
  refine Does.goG [0] F_slices_rotateRight_Limpl_Value rfl e_slices_rotateRight_Limpl_Value n_slices_rotateRight_Limpl_Value rfl (rvs := []) rfl rfl ?_
  intro w0 ok0 lent ρ0
  refine LWP.region (l := [_,_,_,_,_,_]) ?_
  refine LWo.move (.own 0 0 (o0).length) rfl (hn := ?_)
  refine LWo.move (.own 0 0 (o0).length) rfl (hn := ?_)
  refine LWo.lenO u_LLimpl_Value rfl (hn := ?_)
  refine LWo.move (e_int a1) rfl (hn := ?_)
  refine bk h fun x1 e1 h => ?_
  refine LWo.int _ rfl rfl (sub_ck e1) (hn := ?_)
  refine bk h fun x2 e2 h => ?_
  refine bk h fun u3 e3 h => ?_
  refine LWo.ucallM (e := e_Limpl_Value) rfl rfl (k_slices_rotateLeft_Limpl_Value _ _ _ e2 0) rfl rfl (some 9) rfl (hn := ?_)
  obtain rfl := Option.some.inj h
  refine LWo.nil (QG.mk (.inl rfl) (.nil) (RetOK.many1 (.nil) (by simp) (by decide) rfl rfl rfl rfl rfl) rfl rfl)
theorem k_slices_rotateRight_Limpl_Value (o0 : (List (List S_impl_Value))) (a1 : Int) (r : (List (List S_impl_Value))) (h : m_slices_rotateRight_Limpl_Value o0 a1 = some r) (k : Nat) : Does Try.prog f_slices_rotateRight_Limpl_Value [.own k 0 o0.length, e_int a1] [(k, (lob 1 e_Limpl_Value o0))] (fun x hh => x = .tup [] ∧ hh = [(k, (lob 1 e_Limpl_Value r))]) :=
  Does.nameO (c_slices_rotateRight_Limpl_Value o0 a1 r h) (fun _ => rfl) k

theorem ov_LLimpl_Value (vs : Array Value) (w : World) : (callFunc f_slices_overlaps_Limpl_Value vs).run Try.prog w = ((Extern.SlicesOverlaps.overlaps #[t_LLimpl_Value, t_LLimpl_Value] #[t_bool] vs).run Try.prog w).andThen fun v w => .ok (.value v) w := by
  rw [run_callFunc_extern F_slices_overlaps_Limpl_Value (by kernel_rfl) (by kernel_rfl) (by kernel_rfl) (e := Extern.SlicesOverlaps.overlaps #[t_LLimpl_Value, t_LLimpl_Value] #[t_bool]) (by kernel_rfl)]

theorem cc_slices_Insert_LLimpl_Value_Limpl_Value (xs : List LV) (v : LV) (i : Nat) (hi : i ≤ xs.length) (hv : v.cells.length = 1) (hu : ∀ x ∈ xs, x.cells.length = 1) (hlen : xs.length ≤ 1000000000) :
    Does Try.prog f_slices_Insert_LLimpl_Value_Limpl_Value [.own 0 0 xs.length, e_int i, .sl 1 [v]] [(0, { kind := .fro, sz := 1, elems := xs })] (fun r h => r = .nw 1 (xs.take i ++ v :: xs.drop i) false ∧ h = []) := by
  refine Does.go [0] F_slices_Insert_LLimpl_Value_Limpl_Value rfl e_slices_Insert_LLimpl_Value_Limpl_Value n_slices_Insert_LLimpl_Value_Limpl_Value rfl (ts := [6]) rfl rfl rfl ?_
  intro w0 ok0 lent ρ0
  refine LWP.rekey 0 0 1 rfl rfl rfl rfl rfl rfl ?_
  refine LWP.seq_k fun N1 hN1 => ?_
  refine LWP.region (l := [_]) ?_
  refine LWo.assign _ rfl (hn := ?_)
  refine LWo.nil (hN1 _ ?_)
  refine LWP.seq_k fun N2 hN2 => ?_
  refine LWP.region (l := [_,_,_]) ?_
  refine LWo.move _ rfl (hn := ?_)
  refine LWo.move _ rfl (hn := ?_)
  refine LWo.cutOwn (l := i) (h := xs.length) u_LLimpl_Value s_Limpl_Value rfl rfl rfl ⟨_, rfl⟩ rfl trivial (.inl rfl) (by omega) (by omega) rfl rfl (hn := ?_)
  refine LWo.nil (hN2 _ ?_)
  refine LWP.seq_k fun N3 hN3 => ?_
  refine LWP.region (l := [_,_,_]) ?_
  refine LWo.move _ rfl (hn := ?_)
  refine LWo.len u_LLimpl_Value rfl (hn := ?_)
  refine LWo.assign _ rfl (hn := ?_)
  refine LWo.nil (hN3 _ ?_)
  refine LWP.seq_k fun N4 hN4 => ?_
  refine LWP.seq_k fun N5 hN5 => ?_
  refine LWP.region (l := [_,_]) ?_
  refine LWo.move _ rfl (hn := ?_)
  refine LWo.int _ rfl rfl rfl (hn := ?_)
  refine LWo.nil (hN5 _ ?_)
  refine LWP.cond_split rfl (fun h6 => ?_) (fun h6 => ?_)
  · -- t16 = True
    try simp only [List.length_map, decide_eq_true_eq, decide_eq_false_iff_not, Int.ofNat_lt, Int.ofNat_le, Int.not_lt, Int.not_le, ge_iff_le, gt_iff_lt, Nat.not_le, Nat.not_lt] at h6
    refine LWP.seq_k fun N7 hN7 => ?_
    refine LWP.region (l := [_,_]) ?_
    refine LWo.move _ rfl (hn := ?_)
    refine LWo.assign _ rfl (hn := ?_)
    refine LWo.nil (hN7 _ ?_)
    exact absurd h6 (by simp)
  · -- t16 = False
    try simp only [List.length_map, decide_eq_true_eq, decide_eq_false_iff_not, Int.ofNat_lt, Int.ofNat_le, Int.not_lt, Int.not_le, ge_iff_le, gt_iff_lt, Nat.not_le, Nat.not_lt] at h6
    refine LWP.skip (hN4 _ ?_)
    refine LWP.seq_k fun N8 hN8 => ?_
    refine LWP.region (l := [_,_,_]) ?_
    refine LWo.move _ rfl (hn := ?_)
    refine LWo.len u_LLimpl_Value rfl (hn := ?_)
    refine LWo.assign _ rfl (hn := ?_)
    refine LWo.nil (hN8 _ ?_)
    refine LWP.seq_k fun N9 hN9 => ?_
    refine LWP.seq_k fun N10 hN10 => ?_
    refine LWP.region (l := [_,_,_]) ?_
    refine LWo.move _ rfl (hn := ?_)
    refine LWo.move _ rfl (hn := ?_)
    refine LWo.int _ rfl rfl rfl (hn := ?_)
    refine LWo.nil (hN10 _ ?_)
    refine LWP.cond_split rfl (fun h11 => ?_) (fun h11 => ?_)
    · -- t22 = True
      try simp only [List.length_map, decide_eq_true_eq, decide_eq_false_iff_not, Int.ofNat_lt, Int.ofNat_le, Int.not_lt, Int.not_le, ge_iff_le, gt_iff_lt, Nat.not_le, Nat.not_lt] at h11
      refine LWP.seq_k fun N12 hN12 => ?_
      refine LWP.region (l := [_,_,_,_]) ?_
      refine LWo.move _ rfl (hn := ?_)
      refine LWo.move _ rfl (hn := ?_)
      refine LWo.append [v] u_LLimpl_Value u_LLimpl_Value (fun _ h => by cases h) s_Limpl_Value i_Limpl_Value rfl rfl rfl rfl rfl rfl (Nat.le_refl _) (.inl rfl) rfl rfl (by simp; omega) (by simp; omega) (hn := ?_)
      refine LWo.assign _ rfl (hn := ?_)
      refine LWo.nil (hN12 _ ?_)
      refine LWP.ret (QRet.own1 (.inr rfl) rfl rfl rfl rfl (by simp) ⟨(by have e : i = xs.length := (by simp at h11; omega); subst e; simp [List.take_of_length_le]), rfl⟩)
    · -- t22 = False
      try simp only [List.length_map, decide_eq_true_eq, decide_eq_false_iff_not, Int.ofNat_lt, Int.ofNat_le, Int.not_lt, Int.not_le, ge_iff_le, gt_iff_lt, Nat.not_le, Nat.not_lt] at h11
      refine LWP.skip (hN9 _ ?_)
      refine LWP.seq_k fun N13 hN13 => ?_
      refine LWP.seq_k fun N14 hN14 => ?_
      refine LWP.region (l := [_,_,_,_,_,_]) ?_
      have hin : i < xs.length := by simp at h11; omega
      refine LWo.ownCap 0 rfl (by omega) (ho := rfl) (fun c hc1 hc2 => ?_)
      refine LWo.move _ rfl (hn := ?_)
      refine LWo.move _ rfl (hn := ?_)
      refine LWo.int _ rfl rfl (add_in (by simp only [List.length_cons, List.length_nil]; omega) (by simp only [List.length_cons, List.length_nil]; omega)) (hn := ?_)
      refine LWo.move _ rfl (hn := ?_)
      refine LWo.capC u_LLimpl_Value rfl (hn := ?_)
      refine LWo.int _ rfl rfl rfl (hn := ?_)
      refine LWo.nil (hN14 _ ?_)
      refine LWP.cond_split rfl (fun h15 => ?_) (fun h15 => ?_)
      · -- t31 = True
        try simp only [List.length_map, decide_eq_true_eq, decide_eq_false_iff_not, Int.ofNat_lt, Int.ofNat_le, Int.not_lt, Int.not_le, ge_iff_le, gt_iff_lt, Nat.not_le, Nat.not_lt] at h15
        refine LWP.seq_k fun N16 hN16 => ?_
        have hcc : c < i + (xs.length + 1 - i) := by simp at h15; omega
        refine LWP.region (l := [_,_,_,_,_,_,_,_,_,_]) ?_
        refine LWo.move _ rfl (hn := ?_)
        refine LWo.move _ rfl (hn := ?_)
        refine LWo.cutCC u_LLimpl_Value s_Limpl_Value rfl rfl rfl (h := i) ⟨_, rfl⟩ (by omega) (by omega) (hn := ?_)
        refine LWo.move _ rfl (hn := ?_)
        refine LWo.move _ rfl (hn := ?_)
        refine LWo.int _ rfl rfl (add_in (by simp only [List.length_cons, List.length_nil]; omega) (by simp only [List.length_cons, List.length_nil]; omega)) (hn := ?_)
        refine LWo.move _ rfl (hn := ?_)
        refine LWo.int _ rfl rfl (sub_in (by simp only [List.length_cons, List.length_nil]; omega) (by simp only [List.length_cons, List.length_nil]; omega)) (hn := ?_)
        refine LWo.appendMake (m := xs.length + 1 - i) 40 (.imm (.slice none 0 0)) u_LLimpl_Value u_int i_Limpl_Value (zs := [.slice none 0 0]) rfl rfl (by simp [Value.oneCell']) rfl (.own rfl rfl rfl rfl (by show i ≤ xs.length; omega) rfl hcc (fun x hx => hu x (List.mem_of_mem_take hx))) (congrArg (fun z => LV.imm (Value.int .i64 z)) (show ((xs.length : Int) + (([v] : List LV).length : Nat)) - (i : Int) = ((xs.length + 1 - i : Nat) : Int) by simp; omega)) rfl rfl (by simp; omega) (by simp; omega) (by omega) (by decide) (hn := ?_)
        refine LWo.assign _ rfl (hn := ?_)
        refine LWo.nil (hN16 _ ?_)
        refine LWP.seq_k fun N17 hN17 => ?_
        refine LWP.region (l := [_,_,_,_,_]) ?_
        refine LWo.move _ rfl (hn := ?_)
        refine LWo.move _ rfl (hn := ?_)
        refine LWo.cutOwn (l := i) (h := xs.length + 1) u_LLimpl_Value s_Limpl_Value rfl rfl rfl ⟨_, rfl⟩ (show xs.length + 1 = (xs.take i).length + (xs.length + 1 - i) by rw [List.length_take]; omega) trivial (.inl rfl) (by omega) (show xs.length + 1 ≤ (xs.take i).length + (xs.length + 1 - i) by rw [List.length_take]; omega) rfl rfl (hn := ?_)
        refine LWo.move _ rfl (hn := ?_)
        refine LWo.copy [v] u_LLimpl_Value s_Limpl_Value rfl (by omega) rfl rfl rfl rfl (by simp; omega) (.sl rfl rfl rfl) (by simp; omega) (hn := ?_)
        refine LWo.nil (hN17 _ ?_)
        refine LWP.seq_k fun N18 hN18 => ?_
        refine LWP.drawPU (l := [_,_,_,_,_,_,_,_]) (o := _) [0, 1, 7, 9] [(46, [9]), (47, [1]), (48, [7]), (49, [47, 48]), (50, [46, 49]), (51, [0]), (52, [1]), (53, [51, 52])] [9] 54 [50, 53] 40 mixed (by kernel_rfl) ?_
        refine ⟨rfl, _, fun u hu hh => LWo.move _ hu.1 (hn := LWo.nil ⟨rfl, .inl rfl, good0⟩), ?_⟩
        refine ⟨rfl, _, fun u hu hh => LWo.move (.imm (.int _ _)) hu.1 (hn := LWo.nil ⟨rfl, .inl rfl, good0⟩), ?_⟩
        refine ⟨rfl, _, fun u hu hh => LWo.move (.imm (.int _ _)) hu.1 (hn := LWo.nil ⟨rfl, .inl rfl, good0⟩), ?_⟩
        refine ⟨rfl, _, fun u hu hh => LWo.int _ hu.1 hu.2.1 (add_in (by simp only [List.length_cons, List.length_nil]; omega) (by simp only [List.length_cons, List.length_nil]; omega)) (hn := LWo.nil ⟨rfl, .inl rfl, good0⟩), ?_⟩
        refine ⟨rfl, _, fun u hu hh => LWo.cutOwn (l := i + 1) (h := xs.length + 1) u_LLimpl_Value s_Limpl_Value hu.1 (hh _ _ rfl) rfl ⟨_, hu.2.1.trans (congrArg (fun z => LV.imm (Value.int .i64 z)) (show ((i : Int) + (([v] : List LV).length : Nat)) = ((i + 1 : Nat) : Int) by simp))⟩ (show xs.length + 1 = (xs.take i).length + (xs.length + 1 - i) by rw [List.length_take]; omega) trivial (.inl rfl) (by omega) (show xs.length + 1 ≤ (xs.take i).length + (xs.length + 1 - i) by rw [List.length_take]; omega) rfl rfl (hn := LWo.nil ⟨rfl, .inl rfl, good0⟩), ?_⟩
        refine ⟨rfl, _, fun u hu hh => LWo.move _ hu.1 (hn := LWo.nil ⟨rfl, .inl rfl, good0⟩), ?_⟩
        refine ⟨rfl, _, fun u hu hh => LWo.move (.imm (.int _ _)) hu.1 (hn := LWo.nil ⟨rfl, .inl rfl, good0⟩), ?_⟩
        refine ⟨rfl, _, fun u hu hh => LWo.cutC (l := i) (h := xs.length) u_LLimpl_Value s_Limpl_Value hu.1 (hh _ _ rfl) rfl ⟨_, hu.2.1⟩ rfl (by omega) (by omega) rfl rfl (hn := LWo.nil ⟨rfl, .inl rfl, good0⟩), ?_⟩
        refine ⟨rfl, _, _, fun u hu hh => LWo.copy (xs.drop i) u_LLimpl_Value s_Limpl_Value hu.1 (by omega) (hh _ _ rfl) rfl rfl rfl (by simp; omega) (.own hu.2.1 (hh _ _ rfl) rfl rfl (by simp; omega) (by simp [List.take_of_length_le]) (by simp only [List.length_drop]; omega)) (by simp only [List.length_drop]; omega) (hn := LWo.nil ⟨rfl, .inl rfl, good0⟩), rfl, by kernel_rfl, hN18 _ ?_⟩
        refine LWP.seq_k fun N19 hN19 => ?_
        refine LWP.region (l := [_,_]) ?_
        refine LWo.move _ rfl (hn := ?_)
        refine LWo.assign _ rfl (hn := ?_)
        refine LWo.nil (hN19 _ ?_)
        refine LWP.ret (QRet.own1 (.inr rfl) rfl rfl rfl rfl (by simp; omega) ⟨by refine congrArg (fun l => LV.nw 1 l false) ?_; simp only [Nat.zero_add, Nat.sub_zero]; rw [← (show xs.length + 1 = (xs.take i).length + (xs.length + 1 - i) by rw [List.length_take]; omega)]; exact ins_fresh (m := xs.length + 1 - i) hi (by omega), rfl⟩)
      · -- t31 = False
        try simp only [List.length_map, decide_eq_true_eq, decide_eq_false_iff_not, Int.ofNat_lt, Int.ofNat_le, Int.not_lt, Int.not_le, ge_iff_le, gt_iff_lt, Nat.not_le, Nat.not_lt] at h15
        refine LWP.skip (hN13 _ ?_)
        refine LWP.seq_k fun N20 hN20 => ?_
        have hcc : xs.length + 1 ≤ c := by simp at h15; omega
        refine LWP.region (l := [_,_,_,_,_,_]) ?_
        refine LWo.move _ rfl (hn := ?_)
        refine LWo.move _ rfl (hn := ?_)
        refine LWo.move _ rfl (hn := ?_)
        refine LWo.int _ rfl rfl (add_in (by simp only [List.length_cons, List.length_nil]; omega) (by simp only [List.length_cons, List.length_nil]; omega)) (hn := ?_)
        refine LWo.cutC (l := 0) (h := xs.length + 1) u_LLimpl_Value s_Limpl_Value rfl rfl rfl rfl ⟨_, congrArg (fun z => LV.imm (Value.int .i64 z)) (show ((xs.length : Int) + (([v] : List LV).length : Nat)) = ((xs.length + 1 : Nat) : Int) by simp)⟩ (by omega) (by omega) rfl rfl (hn := ?_)
        refine LWo.assign _ rfl (hn := ?_)
        refine LWo.nil (hN20 _ ?_)
        refine LWP.seq_k fun N21 hN21 => ?_
        refine LWP.seq_k fun N22 hN22 => ?_
        refine LWP.region (l := [_,_,_,_,_,_,_,_]) ?_
        refine LWo.move _ rfl (hn := ?_)
        refine LWo.move _ rfl (hn := ?_)
        refine LWo.move _ rfl (hn := ?_)
        refine LWo.move _ rfl (hn := ?_)
        refine LWo.int _ rfl rfl (add_in (by simp only [List.length_cons, List.length_nil]; omega) (by simp only [List.length_cons, List.length_nil]; omega)) (hn := ?_)
        refine LWo.cutOwn (l := i + 1) (h := xs.length + 1) u_LLimpl_Value s_Limpl_Value rfl rfl rfl ⟨_, congrArg (fun z => LV.imm (Value.int .i64 z)) (show ((i : Int) + (([v] : List LV).length : Nat)) = ((i + 1 : Nat) : Int) by simp)⟩ rfl trivial (.inl rfl) (by omega) (by omega) rfl rfl (hn := ?_)
        refine LWo.overlaps ov_LLimpl_Value u_LLimpl_Value s_Limpl_Value (by decide) rfl rfl (by simp) rfl rfl (by omega) (hn := ?_)
        refine LWo.not rfl (hn := ?_)
        refine LWo.nil (hN22 _ ?_)
        refine LWP.condT rfl rfl ?_
        refine LWP.seq_k fun N23 hN23 => ?_
        refine LWP.drawPU (l := [_,_,_,_,_,_,_,_]) (o := _) [0, 1, 2, 7] [(69, [0]), (70, [1]), (71, [7]), (72, [70, 71]), (73, [69, 72]), (74, [0]), (75, [1]), (76, [74, 75])] [0, 1, 2] 77 [73, 76] 1 mixed (by kernel_rfl) ?_
        refine ⟨rfl, _, fun u hu hh => LWo.move _ hu.1 (hn := LWo.nil ⟨rfl, .inl rfl, good0⟩), ?_⟩
        refine ⟨rfl, _, fun u hu hh => LWo.move (.imm (.int _ _)) hu.1 (hn := LWo.nil ⟨rfl, .inl rfl, good0⟩), ?_⟩
        refine ⟨rfl, _, fun u hu hh => LWo.move (.imm (.int _ _)) hu.1 (hn := LWo.nil ⟨rfl, .inl rfl, good0⟩), ?_⟩
        refine ⟨rfl, _, fun u hu hh => LWo.int _ hu.1 hu.2.1 (add_in (by simp only [List.length_cons, List.length_nil]; omega) (by simp only [List.length_cons, List.length_nil]; omega)) (hn := LWo.nil ⟨rfl, .inl rfl, good0⟩), ?_⟩
        refine ⟨rfl, _, fun u hu hh => LWo.cutOwn (l := i + 1) (h := xs.length + 1) u_LLimpl_Value s_Limpl_Value hu.1 (hh _ _ rfl) rfl ⟨_, hu.2.1.trans (congrArg (fun z => LV.imm (Value.int .i64 z)) (show ((i : Int) + (([v] : List LV).length : Nat)) = ((i + 1 : Nat) : Int) by simp))⟩ rfl trivial (.inl rfl) (by omega) (by omega) rfl rfl (hn := LWo.nil ⟨rfl, .inl rfl, good0⟩), ?_⟩
        refine ⟨rfl, _, fun u hu hh => LWo.move _ hu.1 (hn := LWo.nil ⟨rfl, .inl rfl, good0⟩), ?_⟩
        refine ⟨rfl, _, fun u hu hh => LWo.move (.imm (.int _ _)) hu.1 (hn := LWo.nil ⟨rfl, .inl rfl, good0⟩), ?_⟩
        refine ⟨rfl, _, fun u hu hh => LWo.cutOwn (l := i) (h := xs.length + 1) u_LLimpl_Value s_Limpl_Value hu.1 (hh _ _ rfl) rfl ⟨_, hu.2.1⟩ rfl trivial (.inl rfl) (by omega) (by omega) rfl rfl (hn := LWo.nil ⟨rfl, .inl rfl, good0⟩), ?_⟩
        refine ⟨rfl, _, _, fun u hu hh => LWo.copy (xs.drop i) u_LLimpl_Value s_Limpl_Value hu.1 (by omega) (hh _ _ rfl) rfl rfl rfl (by simp; omega) (.own hu.2.1 (hh _ _ rfl) rfl rfl (by simp; omega) (by simp [List.take_of_length_le]) (by simp only [List.length_drop]; omega)) (by simp only [List.length_drop]; omega) (hn := LWo.nil ⟨rfl, .inl rfl, good0⟩), rfl, by kernel_rfl, hN23 _ ?_⟩
        refine LWP.seq_k fun N24 hN24 => ?_
        refine LWP.region (l := [_,_,_,_,_]) ?_
        refine LWo.move _ rfl (hn := ?_)
        refine LWo.move _ rfl (hn := ?_)
        refine LWo.cutOwn (l := i) (h := xs.length + 1) u_LLimpl_Value s_Limpl_Value rfl rfl rfl ⟨_, rfl⟩ rfl trivial (.inl rfl) (by omega) (by omega) rfl rfl (hn := ?_)
        refine LWo.move _ rfl (hn := ?_)
        refine LWo.copy [v] u_LLimpl_Value s_Limpl_Value rfl (by omega) rfl rfl rfl rfl (by simp; omega) (.sl rfl rfl rfl) (by simp; omega) (hn := ?_)
        refine LWo.nil (hN24 _ ?_)
        refine LWP.seq_k fun N25 hN25 => ?_
        refine LWP.region (l := [_,_]) ?_
        refine LWo.move _ rfl (hn := ?_)
        refine LWo.assign _ rfl (hn := ?_)
        refine LWo.nil (hN25 _ ?_)
        refine LWP.ret (QRet.own1 (.inr rfl) rfl rfl rfl rfl (by simp; omega) ⟨by refine congrArg (fun l => LV.nw 1 l false) ?_; simp only [Nat.zero_add, Nat.sub_zero]; exact ins_place hi hin, rfl⟩)

def m_slices_Insert_LLimpl_Value_Limpl_Value (o0 : List (List S_impl_Value)) (a1 : Int) (a2 : List (List S_impl_Value)) : Option (List (List S_impl_Value)) :=
  match a2 with
  | [v] => if 0 ≤ a1 ∧ a1 ≤ o0.length ∧ o0.length ≤ 1000000000 then some (o0.take a1.toNat ++ v :: o0.drop a1.toNat) else none
  | _ => none
theorem c_slices_Insert_LLimpl_Value_Limpl_Value (o0 : List (List S_impl_Value)) (a1 : Int) (a2 : List (List S_impl_Value)) (r : List (List S_impl_Value)) (h : m_slices_Insert_LLimpl_Value_Limpl_Value o0 a1 a2 = some r) : Does Try.prog f_slices_Insert_LLimpl_Value_Limpl_Value [.own 0 0 o0.length, e_int a1, .sl 1 (a2.map e_Limpl_Value)] [(0, lob 1 e_Limpl_Value o0)] (fun x hh => x = .nw 1 (r.map e_Limpl_Value) false ∧ hh = []) := by
  unfold m_slices_Insert_LLimpl_Value_Limpl_Value at h
  split at h
  · rename_i v
    split at h
    · rename_i h1
      cases h
      have := cc_slices_Insert_LLimpl_Value_Limpl_Value (o0.map e_Limpl_Value) (e_Limpl_Value v) a1.toNat (by rw [List.length_map]; omega) rfl (by intro x hx; obtain ⟨y, _, rfl⟩ := List.mem_map.1 hx; rfl) (by rw [List.length_map]; omega)
      rw [List.length_map, Int.toNat_of_nonneg h1.1] at this
      have em : (o0.take a1.toNat ++ v :: o0.drop a1.toNat).map e_Limpl_Value = (o0.map e_Limpl_Value).take a1.toNat ++ e_Limpl_Value v :: (o0.map e_Limpl_Value).drop a1.toNat := by simp
      rw [em]
      exact this
    · cases h
  · cases h



theorem cc_slices_Clip_LLimpl_Value_Limpl_Value (xs : List LV) : Does Try.prog f_slices_Clip_LLimpl_Value_Limpl_Value [.own 0 0 xs.length] [(0, { kind := .fro, sz := 1, elems := xs })] (fun r h => r = .nw 1 xs false ∧ h = []) := by
  refine Does.go [0] F_slices_Clip_LLimpl_Value_Limpl_Value rfl e_slices_Clip_LLimpl_Value_Limpl_Value n_slices_Clip_LLimpl_Value_Limpl_Value rfl (ts := [2]) rfl rfl rfl ?_
  intro w0 ok0 lent ρ0
  refine LWP.seq_k fun N1 hN1 => ?_
  refine LWP.region (l := [_]) ?_
  refine LWo.assign _ rfl (hn := ?_)
  refine LWo.nil (hN1 _ ?_)
  refine LWP.seq_k fun N2 hN2 => ?_
  refine LWP.region (l := [_,_,_,_,_,_,_]) ?_
  refine LWo.move _ rfl (hn := ?_)
  refine LWo.move _ rfl (hn := ?_)
  refine LWo.len u_LLimpl_Value rfl (hn := ?_)
  refine LWo.move _ rfl (hn := ?_)
  refine LWo.len u_LLimpl_Value rfl (hn := ?_)
  refine LWo.cutOwn (l := 0) (h := xs.length) u_LLimpl_Value s_Limpl_Value rfl rfl rfl rfl ⟨_, rfl⟩ ⟨_, _, rfl, Nat.le_refl _, Nat.le_refl _⟩ (.inr (by simp)) (Nat.zero_le _) (Nat.le_refl _) rfl rfl (hn := ?_)
  refine LWo.assign _ rfl (hn := ?_)
  refine LWo.nil (hN2 _ ?_)
  refine LWP.ret (QRet.own1 (.inr rfl) rfl rfl rfl rfl (by simp) ⟨?_, rfl⟩)
  clear hN1 hN2
  exact congrArg (fun l => LV.nw 1 l false) (by simp)
def m_slices_Clip_LLimpl_Value_Limpl_Value_o (o0 : List (List S_impl_Value)) : Option (List (List S_impl_Value)) := some o0
theorem c_slices_Clip_LLimpl_Value_Limpl_Value_o (o0 : List (List S_impl_Value)) (r : List (List S_impl_Value)) (h : m_slices_Clip_LLimpl_Value_Limpl_Value_o o0 = some r) : Does Try.prog f_slices_Clip_LLimpl_Value_Limpl_Value [.own 0 0 o0.length] [(0, lob 1 e_Limpl_Value o0)] (fun x hh => x = .nw 1 (r.map e_Limpl_Value) false ∧ hh = []) := by
  cases h
  have := cc_slices_Clip_LLimpl_Value_Limpl_Value (o0.map e_Limpl_Value)
  rw [List.length_map] at this
  exact this



def m_slices_Clip_LLimpl_Value_Limpl_Value (a0 : (List (List S_impl_Value))) : Option (List (List S_impl_Value)) :=
  (cut3? a0 (0 : Int) (a0.length : Int) (a0.length : Int)).bind fun x3 =>
  some x3
theorem c_slices_Clip_LLimpl_Value_Limpl_Value (a0 : (List (List S_impl_Value))) (r : (List (List S_impl_Value))) (h : m_slices_Clip_LLimpl_Value_Limpl_Value a0 = some r) : Ret Try.prog f_slices_Clip_LLimpl_Value_Limpl_Value [e_LLimpl_Value a0] (e_LLimpl_Value r) := by
  refine Does.goG [] F_slices_Clip_LLimpl_Value_Limpl_Value rfl e_slices_Clip_LLimpl_Value_Limpl_Value n_slices_Clip_LLimpl_Value_Limpl_Value rfl (rvs := [.tmp 2]) rfl rfl ?_
  intro w0 ok0 lent ρ0
  refine LWP.seq_k fun N1 hN1 => ?_
  refine LWP.region (l := [_]) ?_
  refine LWo.assign _ rfl (hn := ?_)
  refine LWo.weakT 2 (e_LLimpl_Value ([] : (List (List S_impl_Value)))) rfl .nil ?_
  refine LWo.nil (hN1 _ ?_)
  refine LWP.seq_k fun N2 hN2 => ?_
  refine LWP.region (l := [_,_,_,_,_,_,_]) ?_
  refine LWo.move (e_LLimpl_Value a0) rfl (hn := ?_)
  refine LWo.move (e_LLimpl_Value a0) rfl (hn := ?_)
  refine LWo.lenM (f := e_Limpl_Value) (l := a0) u_LLimpl_Value rfl (hn := ?_)
  refine LWo.move (e_LLimpl_Value a0) rfl (hn := ?_)
  refine LWo.lenM (f := e_Limpl_Value) (l := a0) u_LLimpl_Value rfl (hn := ?_)
  refine bk h fun x3 e3 h => ?_
  refine LWo.cutM3 (f := e_Limpl_Value) e3 u_LLimpl_Value s_Limpl_Value rfl rfl ⟨_, rfl⟩ ⟨_, rfl⟩ (hn := ?_)
  refine LWo.assign (e_LLimpl_Value x3) rfl (hn := ?_)
  refine LWo.nil (hN2 _ ?_)
  obtain rfl := Option.some.inj h
  refine LWP.ret (QG.mk (.inr rfl) (.cons (.tmp (x := (e_LLimpl_Value x3)) rfl) (.nil)) (RetOK.one0 (.pure rfl) (by decide)) rfl rfl)

def m_impl_rowsCopy_j1 (o1003 : (List (List S_impl_Value))) : Option (List (List S_impl_Value)) :=
  (m_slices_Clip_LLimpl_Value_Limpl_Value_o o1003).bind fun x17 =>
  some x17
def m_impl_rowsCopy_l1 : Nat → (List (List S_impl_Value)) → Int → Int → (List (List S_impl_Value)) → Option (List (List S_impl_Value))
  | 0, _, _, _, _ => none
  | n1 + 1, t6, t7, t8, o1003 =>
    bif decide (t8 < t7) then ((at? t6 t8).bind fun x12 =>
    (m_impl_clone_impl_Value x12).bind fun x13 =>
    (app? o1003 ([x13] : (List (List S_impl_Value)))).bind fun x14 =>
    (ckI (t8 + (1 : Int))).bind fun x15 =>
    (m_impl_rowsCopy_l1  n1) t6 t7 x15 x14)
    else (m_impl_rowsCopy_j1  o1003)
def m_impl_rowsCopy (a0 : (List (List S_impl_Value))) : Option (List (List S_impl_Value)) :=
  m_impl_rowsCopy_l1  (((a0.length : Int) - (0 : Int)).toNat + 1) a0 (a0.length : Int) (0 : Int) ([] : (List (List S_impl_Value)))
theorem c_impl_rowsCopy (a0 : (List (List S_impl_Value))) (r : (List (List S_impl_Value))) (h : m_impl_rowsCopy a0 = some r) : Ret Try.prog f_impl_rowsCopy [e_LLimpl_Value a0] (.nw 1 (r.map e_Limpl_Value) false) := by
  refine Does.goG [] F_impl_rowsCopy rfl e_impl_rowsCopy n_impl_rowsCopy rfl (rvs := [.tmp 2]) rfl rfl ?_
  intro w0 ok0 lent ρ0
  refine LWP.seq_k fun N1 hN1 => ?_
  refine LWP.region (l := [_]) ?_
  refine LWo.assign _ rfl (hn := ?_)
  refine LWo.ownNil 2 1002 1 rfl rfl rfl ?_
  refine LWo.known 2 (.own 1002 0 ([] : (List (List S_impl_Value))).length) rfl ?_
  refine LWo.nil (hN1 _ ?_)
  refine LWP.seq_k fun N2 hN2 => ?_
  refine LWP.region (l := [_]) ?_
  refine LWo.assign _ rfl (hn := ?_)
  refine LWo.ownNil 3 1003 1 rfl rfl rfl ?_
  refine LWo.known 3 (.own 1003 0 ([] : (List (List S_impl_Value))).length) rfl ?_
  refine LWo.nil (hN2 _ ?_)
  refine LWP.join (α := (List (List S_impl_Value))) (fun z : (List (List S_impl_Value)) => [(3, (.own 1003 0 (z).length))]) (fun z : (List (List S_impl_Value)) => [(1003, (lob 1 e_Limpl_Value z))]) (fun z : (List (List S_impl_Value)) => m_impl_rowsCopy_j1  z) r (fun _ => by simp [hkeys]) ?_ ?_
  · rintro o1003 h
    replace h : m_impl_rowsCopy_j1  o1003 = some _ := h
    refine LWP.seq_k fun N16 hN16 => ?_
    refine LWP.region (l := [_,_,_]) ?_
    refine LWo.move (.own 1003 0 (o1003).length) rfl (hn := ?_)
    refine bk h fun x17 e17 h => ?_
    refine LWo.tcallN (e := e_Limpl_Value) (e' := e_Limpl_Value) 1019 rfl rfl (c_slices_Clip_LLimpl_Value_Limpl_Value_o _ _ e17) (fun _ => rfl) rfl rfl rfl rfl (hn := ?_)
    refine LWo.assign (.own 1019 0 (x17).length) rfl (hn := ?_)
    refine LWo.nil (hN16 _ ?_)
    obtain rfl := Option.some.inj h
    refine LWP.ret (QG.mk (.inr rfl) (.cons (.tmp (x := (.own 1019 0 (x17).length)) rfl) (.nil)) (RetOK.one0 (.nwM rfl rfl) (by decide)) rfl rfl)
  · intro N3 hN3
    refine LWP.seq_k fun N4 hN4 => ?_
    refine LWP.region (l := [_,_,_]) ?_
    refine LWo.move (e_LLimpl_Value a0) rfl (hn := ?_)
    refine LWo.lenM (f := e_Limpl_Value) (l := a0) u_LLimpl_Value rfl (hn := ?_)
    refine LWo.move (e_int (0 : Int)) rfl (hn := ?_)
    refine LWo.nil (hN4 _ ?_)
    refine LWP.block ?_
    refine LWP.loopM (α := (List (List S_impl_Value)) × Int × Int × (List (List S_impl_Value))) (fun z : (List (List S_impl_Value)) × Int × Int × (List (List S_impl_Value)) => [(3, (.own 1003 0 (z.2.2.2).length)), (6, (e_LLimpl_Value z.1)), (7, (e_int z.2.1)), (8, (e_int z.2.2.1))]) (fun z : (List (List S_impl_Value)) × Int × Int × (List (List S_impl_Value)) => [(1003, (lob 1 e_Limpl_Value z.2.2.2))]) (fun n1 (z : (List (List S_impl_Value)) × Int × Int × (List (List S_impl_Value))) => m_impl_rowsCopy_l1  n1 z.1 z.2.1 z.2.2.1 z.2.2.2) r _ (a0, (a0.length : Int), (0 : Int), ([] : (List (List S_impl_Value)))) h (fun _ => rfl) (fun _ => by simp [hkeys]) ⟨rfl, rfl, rfl, rfl, trivial⟩ ⟨rfl, trivial⟩ ?_
    rintro n1 ⟨t6, t7, t8, o1003⟩ h N5 hN5
    replace h : m_impl_rowsCopy_l1  (n1 + 1) t6 t7 t8 o1003 = some _ := h
    refine LWP.seq_k fun N7 hN7 => ?_
    refine LWP.region (l := [_]) ?_
    refine LWo.int _ rfl rfl rfl (hn := ?_)
    refine LWo.nil (hN7 _ ?_)
    refine LWP.seq_k fun N8 hN8 => ?_
    refine LWP.cond_split rfl (fun h9 => ?_) (fun h9 => ?_)
    · have h := bT h9 h
      refine LWP.skip (hN8 _ ?_)
      refine LWP.seq_k fun N10 hN10 => ?_
      refine LWP.block ?_
      refine LWP.seq_k fun N11 hN11 => ?_
      refine LWP.region (l := [_,_,_]) ?_
      refine bk h fun x12 e12 h => ?_
      refine LWo.indexM (f := e_Limpl_Value) e12 u_LLimpl_Value s_Limpl_Value rfl rfl (hn := ?_)
      refine LWo.load1 (c := (e_Limpl_Value x12)) g_Limpl_Value rfl (hn := ?_)
      refine LWo.assign (e_Limpl_Value x12) rfl (hn := ?_)
      refine LWo.nil (hN11 _ ?_)
      refine LWP.region (l := [_,_,_,_,_,_]) ?_
      refine LWo.move (.own 1003 0 (o1003).length) rfl (hn := ?_)
      refine LWo.move (e_Limpl_Value x12) rfl (hn := ?_)
      refine bk h fun x13 e13 h => ?_
      refine LWo.vcall rfl rfl (c_impl_clone_impl_Value _ _ e13) (.same (.nil)) (hn := ?_)
      refine LWo.lit (ops := [_]) [(e_Limpl_Value x13)] u_LLimpl_Value s_Limpl_Value z_Limpl_Value rfl rfl rfl rfl rfl rfl (hn := ?_)
      refine bk h fun x14 e14 h => ?_
      refine LWo.appendM (f := e_Limpl_Value) e14 rfl u_LLimpl_Value u_LLimpl_Value (fun _ h => by cases h) s_Limpl_Value i_Limpl_Value rfl rfl rfl (.sl rfl) rfl rfl (hn := ?_)
      refine LWo.assign (.own 1003 0 (x14).length) rfl (hn := ?_)
      refine LWo.nil (hN10 _ ?_)
      refine LWP.region (l := [_,_]) ?_
      refine bk h fun x15 e15 h => ?_
      refine LWo.int _ rfl rfl (add_ck e15) (hn := ?_)
      refine LWo.move (e_int x15) rfl (hn := ?_)
      refine LWo.nil (hN5 (t6, t7, x15, x14) _ ⟨rfl, rfl, rfl, rfl, trivial⟩ ⟨rfl, trivial⟩ h)
    · have h := bF h9 h
      refine LWP.exit (hN3 o1003 _ ⟨rfl, trivial⟩ ⟨rfl, trivial⟩ h)

def m_impl_RowsSorted_j4 (o1003 : (List (List S_impl_Value))) : Option (List (List S_impl_Value)) :=
  (m_impl_rowsCopy o1003).bind fun x29 =>
  some x29
def m_impl_RowsSorted_j3 (k1 : (List (List S_impl_Value)) → Int → Int → (List (List S_impl_Value)) → Option (List (List S_impl_Value))) (t7 : (List (List S_impl_Value))) (t8 : Int) (t9 : Int) (o1033 : (List (List S_impl_Value))) : Option (List (List S_impl_Value)) :=
  (ckI (t9 + (1 : Int))).bind fun x27 =>
  k1 t7 t8 x27 o1033
def m_impl_RowsSorted_j2 (k1 : (List (List S_impl_Value)) → Int → Int → (List (List S_impl_Value)) → Option (List (List S_impl_Value))) (t5 : (List S_impl_Value)) (t6 : Int) (t7 : (List (List S_impl_Value))) (t8 : Int) (t9 : Int) (o1003 : (List (List S_impl_Value))) : Option (List (List S_impl_Value)) :=
  (m_slices_Insert_LLimpl_Value_Limpl_Value o1003 t6 ([t5] : (List (List S_impl_Value)))).bind fun x26 =>
  m_impl_RowsSorted_j3  k1 t7 t8 t9 x26
def m_impl_RowsSorted_j1 (k1 : (List (List S_impl_Value)) → Int → Int → (List (List S_impl_Value)) → Option (List (List S_impl_Value))) (k2 : (List S_impl_Value) → Int → (List (List S_impl_Value)) → Int → Int → (List (List S_impl_Value)) → Option (List (List S_impl_Value))) (t5 : (List S_impl_Value)) (t6 : Int) (t7 : (List (List S_impl_Value))) (t8 : Int) (t9 : Int) (t26 : Bool) (o1003 : (List (List S_impl_Value))) : Option (List (List S_impl_Value)) :=
  bif t26 then ((ckI (t6 - (1 : Int))).bind fun x25 =>
  k2 t5 x25 t7 t8 t9 o1003)
  else (m_impl_RowsSorted_j2  k1 t5 t6 t7 t8 t9 o1003)
def m_impl_RowsSorted_l2 (k1 : (List (List S_impl_Value)) → Int → Int → (List (List S_impl_Value)) → Option (List (List S_impl_Value))) : Nat → (List S_impl_Value) → Int → (List (List S_impl_Value)) → Int → Int → (List (List S_impl_Value)) → Option (List (List S_impl_Value))
  | 0, _, _, _, _, _, _ => none
  | n2 + 1, t5, t6, t7, t8, t9, o1003 =>
    bif decide (t6 > (0 : Int)) then ((ckI (t6 - (1 : Int))).bind fun x20 =>
      (at? o1003 x20).bind fun x21 =>
      (at? o1003 x20).bind fun x22 =>
      (m_impl_RowOrder x22 t5).bind fun x23 =>
      m_impl_RowsSorted_j1  k1 (m_impl_RowsSorted_l2  k1 n2) t5 t6 t7 t8 t9 (decide (x23 > (0 : Int))) o1003)
    else (m_impl_RowsSorted_j1  k1 (m_impl_RowsSorted_l2  k1 n2) t5 t6 t7 t8 t9 false o1003)
def m_impl_RowsSorted_l1 : Nat → (List (List S_impl_Value)) → Int → Int → (List (List S_impl_Value)) → Option (List (List S_impl_Value))
  | 0, _, _, _, _ => none
  | n1 + 1, t7, t8, t9, o1003 =>
    bif decide (t9 < t8) then ((at? t7 t9).bind fun x12 =>
    m_impl_RowsSorted_l2  (m_impl_RowsSorted_l1  n1) (1000000000) x12 (o1003.length : Int) t7 t8 t9 o1003)
    else (m_impl_RowsSorted_j4  o1003)
def m_impl_RowsSorted (a0 : (List (List S_impl_Value))) : Option (List (List S_impl_Value)) :=
  m_impl_RowsSorted_l1  (((a0.length : Int) - (0 : Int)).toNat + 1) a0 (a0.length : Int) (0 : Int) ([] : (List (List S_impl_Value)))
theorem c_impl_RowsSorted (a0 : (List (List S_impl_Value))) (r : (List (List S_impl_Value))) (h : m_impl_RowsSorted a0 = some r) : Ret Try.prog f_impl_RowsSorted [e_LLimpl_Value a0] (e_LLimpl_Value r) := by
  refine Does.goG [] F_impl_RowsSorted rfl e_impl_RowsSorted n_impl_RowsSorted rfl (rvs := [.tmp 2]) rfl rfl ?_
  intro w0 ok0 lent ρ0
  refine LWP.seq_k fun N1 hN1 => ?_
  refine LWP.region (l := [_]) ?_
  refine LWo.assign _ rfl (hn := ?_)
  refine LWo.weakT 2 (e_LLimpl_Value ([] : (List (List S_impl_Value)))) rfl .nil ?_
  refine LWo.nil (hN1 _ ?_)
  refine LWP.seq_k fun N2 hN2 => ?_
  refine LWP.region (l := [_]) ?_
  refine LWo.assign _ rfl (hn := ?_)
  refine LWo.ownNil 3 1003 1 rfl rfl rfl ?_
  refine LWo.known 3 (.own 1003 0 ([] : (List (List S_impl_Value))).length) rfl ?_
  refine LWo.nil (hN2 _ ?_)
  refine LWP.join (α := (List (List S_impl_Value))) (fun z : (List (List S_impl_Value)) => [(3, (.own 1003 0 (z).length))]) (fun z : (List (List S_impl_Value)) => [(1003, (lob 1 e_Limpl_Value z))]) (fun z : (List (List S_impl_Value)) => m_impl_RowsSorted_j4  z) r (fun _ => by simp [hkeys]) ?_ ?_
  · rintro o1003 h
    replace h : m_impl_RowsSorted_j4  o1003 = some _ := h
    refine LWP.seq_k fun N28 hN28 => ?_
    refine LWP.region (l := [_,_,_]) ?_
    refine LWo.move (.own 1003 0 (o1003).length) rfl (hn := ?_)
    refine bk h fun x29 e29 h => ?_
    refine LWo.frzL (f := e_Limpl_Value) (l := o1003) [3, 35] 1003 rfl rfl ⟨rfl, rfl, trivial⟩ ?_
    refine LWo.vcall rfl rfl (c_impl_rowsCopy _ _ e29) (.same (.nil)) (hn := ?_)
    refine LWo.assign (e_LLimpl_Value x29) rfl (hn := ?_)
    refine LWo.nil (hN28 _ ?_)
    obtain rfl := Option.some.inj h
    refine LWP.ret (QG.mk (.inr rfl) (.cons (.tmp (x := (e_LLimpl_Value x29)) rfl) (.nil)) (RetOK.one0 (.pure rfl) (by decide)) rfl rfl)
  · intro N3 hN3
    refine LWP.seq_k fun N4 hN4 => ?_
    refine LWP.region (l := [_,_,_]) ?_
    refine LWo.move (e_LLimpl_Value a0) rfl (hn := ?_)
    refine LWo.lenM (f := e_Limpl_Value) (l := a0) u_LLimpl_Value rfl (hn := ?_)
    refine LWo.move (e_int (0 : Int)) rfl (hn := ?_)
    refine LWo.nil (hN4 _ ?_)
    refine LWP.block ?_
    refine LWP.loopM (α := (List (List S_impl_Value)) × Int × Int × (List (List S_impl_Value))) (fun z : (List (List S_impl_Value)) × Int × Int × (List (List S_impl_Value)) => [(3, (.own 1003 0 (z.2.2.2).length)), (7, (e_LLimpl_Value z.1)), (8, (e_int z.2.1)), (9, (e_int z.2.2.1))]) (fun z : (List (List S_impl_Value)) × Int × Int × (List (List S_impl_Value)) => [(1003, (lob 1 e_Limpl_Value z.2.2.2))]) (fun n1 (z : (List (List S_impl_Value)) × Int × Int × (List (List S_impl_Value))) => m_impl_RowsSorted_l1  n1 z.1 z.2.1 z.2.2.1 z.2.2.2) r _ (a0, (a0.length : Int), (0 : Int), ([] : (List (List S_impl_Value)))) h (fun _ => rfl) (fun _ => by simp [hkeys]) ⟨rfl, rfl, rfl, rfl, trivial⟩ ⟨rfl, trivial⟩ ?_
    rintro n1 ⟨t7, t8, t9, o1003⟩ h N5 hN5
    replace h : m_impl_RowsSorted_l1  (n1 + 1) t7 t8 t9 o1003 = some _ := h
    refine LWP.seq_k fun N7 hN7 => ?_
    refine LWP.region (l := [_]) ?_
    refine LWo.int _ rfl rfl rfl (hn := ?_)
    refine LWo.nil (hN7 _ ?_)
    refine LWP.seq_k fun N8 hN8 => ?_
    refine LWP.cond_split rfl (fun h9 => ?_) (fun h9 => ?_)
    · have h := bT h9 h
      refine LWP.skip (hN8 _ ?_)
      refine LWP.join (α := (List (List S_impl_Value)) × Int × Int × (List (List S_impl_Value))) (fun z : (List (List S_impl_Value)) × Int × Int × (List (List S_impl_Value)) => [(3, (.own 1033 0 (z.2.2.2).length)), (7, (e_LLimpl_Value z.1)), (8, (e_int z.2.1)), (9, (e_int z.2.2.1))]) (fun z : (List (List S_impl_Value)) × Int × Int × (List (List S_impl_Value)) => [(1033, (lob 1 e_Limpl_Value z.2.2.2))]) (fun z : (List (List S_impl_Value)) × Int × Int × (List (List S_impl_Value)) => m_impl_RowsSorted_j3  (m_impl_RowsSorted_l1  n1) z.1 z.2.1 z.2.2.1 z.2.2.2) r (fun _ => by simp [hkeys]) ?_ ?_
      · rintro ⟨t7, t8, t9, o1033⟩ h
        replace h : m_impl_RowsSorted_j3  (m_impl_RowsSorted_l1  n1) t7 t8 t9 o1033 = some _ := h
        refine LWP.region (l := [_,_]) ?_
        refine bk h fun x27 e27 h => ?_
        refine LWo.int _ rfl rfl (add_ck e27) (hn := ?_)
        refine LWo.move (e_int x27) rfl (hn := ?_)
        refine LWo.rekey 3 1033 1003 rfl rfl rfl rfl rfl rfl ?_
        refine LWo.nil (hN5 (t7, t8, x27, o1033) _ ⟨rfl, rfl, rfl, rfl, trivial⟩ ⟨rfl, trivial⟩ h)
      · intro N10 hN10
        refine LWP.block ?_
        refine LWP.seq_k fun N11 hN11 => ?_
        refine LWP.region (l := [_,_,_]) ?_
        refine bk h fun x12 e12 h => ?_
        refine LWo.indexM (f := e_Limpl_Value) e12 u_LLimpl_Value s_Limpl_Value rfl rfl (hn := ?_)
        refine LWo.load1 (c := (e_Limpl_Value x12)) g_Limpl_Value rfl (hn := ?_)
        refine LWo.assign (e_Limpl_Value x12) rfl (hn := ?_)
        refine LWo.nil (hN11 _ ?_)
        refine LWP.seq_k fun N13 hN13 => ?_
        refine LWP.region (l := [_,_,_]) ?_
        refine LWo.move (.own 1003 0 (o1003).length) rfl (hn := ?_)
        refine LWo.lenO u_LLimpl_Value rfl (hn := ?_)
        refine LWo.assign (e_int (o1003.length : Int)) rfl (hn := ?_)
        refine LWo.nil (hN13 _ ?_)
        refine LWP.join (α := (List S_impl_Value) × Int × (List (List S_impl_Value)) × Int × Int × (List (List S_impl_Value))) (fun z : (List S_impl_Value) × Int × (List (List S_impl_Value)) × Int × Int × (List (List S_impl_Value)) => [(3, (.own 1003 0 (z.2.2.2.2.2).length)), (5, (e_Limpl_Value z.1)), (6, (e_int z.2.1)), (7, (e_LLimpl_Value z.2.2.1)), (8, (e_int z.2.2.2.1)), (9, (e_int z.2.2.2.2.1))]) (fun z : (List S_impl_Value) × Int × (List (List S_impl_Value)) × Int × Int × (List (List S_impl_Value)) => [(1003, (lob 1 e_Limpl_Value z.2.2.2.2.2))]) (fun z : (List S_impl_Value) × Int × (List (List S_impl_Value)) × Int × Int × (List (List S_impl_Value)) => m_impl_RowsSorted_j2  (m_impl_RowsSorted_l1  n1) z.1 z.2.1 z.2.2.1 z.2.2.2.1 z.2.2.2.2.1 z.2.2.2.2.2) r (fun _ => by simp [hkeys]) ?_ ?_
        · rintro ⟨t5, t6, t7, t8, t9, o1003⟩ h
          replace h : m_impl_RowsSorted_j2  (m_impl_RowsSorted_l1  n1) t5 t6 t7 t8 t9 o1003 = some _ := h
          refine LWP.region (l := [_,_,_,_,_,_]) ?_
          refine LWo.move (.own 1003 0 (o1003).length) rfl (hn := ?_)
          refine LWo.move (e_int t6) rfl (hn := ?_)
          refine LWo.move (e_Limpl_Value t5) rfl (hn := ?_)
          refine LWo.lit (ops := [_]) [(e_Limpl_Value t5)] u_LLimpl_Value s_Limpl_Value z_Limpl_Value rfl rfl rfl rfl rfl rfl (hn := ?_)
          refine bk h fun x26 e26 h => ?_
          refine LWo.tcallN (e := e_Limpl_Value) (e' := e_Limpl_Value) 1033 rfl rfl (c_slices_Insert_LLimpl_Value_Limpl_Value _ _ _ _ e26) (fun _ => rfl) rfl rfl rfl rfl (hn := ?_)
          refine LWo.assign (.own 1033 0 (x26).length) rfl (hn := ?_)
          refine LWo.nil (hN10 (t7, t8, t9, x26) _ ⟨rfl, rfl, rfl, rfl, trivial⟩ ⟨rfl, trivial⟩ h)
        · intro N14 hN14
          refine LWP.block ?_
          refine LWP.loopM (α := (List S_impl_Value) × Int × (List (List S_impl_Value)) × Int × Int × (List (List S_impl_Value))) (fun z : (List S_impl_Value) × Int × (List (List S_impl_Value)) × Int × Int × (List (List S_impl_Value)) => [(3, (.own 1003 0 (z.2.2.2.2.2).length)), (5, (e_Limpl_Value z.1)), (6, (e_int z.2.1)), (7, (e_LLimpl_Value z.2.2.1)), (8, (e_int z.2.2.2.1)), (9, (e_int z.2.2.2.2.1))]) (fun z : (List S_impl_Value) × Int × (List (List S_impl_Value)) × Int × Int × (List (List S_impl_Value)) => [(1003, (lob 1 e_Limpl_Value z.2.2.2.2.2))]) (fun n2 (z : (List S_impl_Value) × Int × (List (List S_impl_Value)) × Int × Int × (List (List S_impl_Value))) => m_impl_RowsSorted_l2  (m_impl_RowsSorted_l1  n1) n2 z.1 z.2.1 z.2.2.1 z.2.2.2.1 z.2.2.2.2.1 z.2.2.2.2.2) r _ (x12, (o1003.length : Int), t7, t8, t9, o1003) h (fun _ => rfl) (fun _ => by simp [hkeys]) ⟨rfl, rfl, rfl, rfl, rfl, rfl, trivial⟩ ⟨rfl, trivial⟩ ?_
          rintro n2 ⟨t5, t6, t7, t8, t9, o1003⟩ h N15 hN15
          replace h : m_impl_RowsSorted_l2  (m_impl_RowsSorted_l1  n1) (n2 + 1) t5 t6 t7 t8 t9 o1003 = some _ := h
          refine LWP.seq_k fun N17 hN17 => ?_
          refine LWP.join (α := (List S_impl_Value) × Int × (List (List S_impl_Value)) × Int × Int × Bool × (List (List S_impl_Value))) (fun z : (List S_impl_Value) × Int × (List (List S_impl_Value)) × Int × Int × Bool × (List (List S_impl_Value)) => [(3, (.own 1003 0 (z.2.2.2.2.2.2).length)), (5, (e_Limpl_Value z.1)), (6, (e_int z.2.1)), (7, (e_LLimpl_Value z.2.2.1)), (8, (e_int z.2.2.2.1)), (9, (e_int z.2.2.2.2.1)), (26, (e_bool z.2.2.2.2.2.1))]) (fun z : (List S_impl_Value) × Int × (List (List S_impl_Value)) × Int × Int × Bool × (List (List S_impl_Value)) => [(1003, (lob 1 e_Limpl_Value z.2.2.2.2.2.2))]) (fun z : (List S_impl_Value) × Int × (List (List S_impl_Value)) × Int × Int × Bool × (List (List S_impl_Value)) => m_impl_RowsSorted_j1  (m_impl_RowsSorted_l1  n1) (m_impl_RowsSorted_l2  (m_impl_RowsSorted_l1  n1) n2) z.1 z.2.1 z.2.2.1 z.2.2.2.1 z.2.2.2.2.1 z.2.2.2.2.2.1 z.2.2.2.2.2.2) r (fun _ => by simp [hkeys]) ?_ ?_
          · rintro ⟨t5, t6, t7, t8, t9, t26, o1003⟩ h
            replace h : m_impl_RowsSorted_j1  (m_impl_RowsSorted_l1  n1) (m_impl_RowsSorted_l2  (m_impl_RowsSorted_l1  n1) n2) t5 t6 t7 t8 t9 t26 o1003 = some _ := h
            refine LWP.cond_split rfl (fun h24 => ?_) (fun h24 => ?_)
            · have h := bT h24 h
              refine LWP.skip (hN17 _ ?_)
              refine LWP.block ?_
              refine LWP.region (l := [_,_,_]) ?_
              refine LWo.move (e_int t6) rfl (hn := ?_)
              refine bk h fun x25 e25 h => ?_
              refine LWo.int _ rfl rfl (sub_ck e25) (hn := ?_)
              refine LWo.assign (e_int x25) rfl (hn := ?_)
              refine LWo.nil (hN15 (t5, x25, t7, t8, t9, o1003) _ ⟨rfl, rfl, rfl, rfl, rfl, rfl, trivial⟩ ⟨rfl, trivial⟩ h)
            · have h := bF h24 h
              refine LWP.exit (hN14 (t5, t6, t7, t8, t9, o1003) _ ⟨rfl, rfl, rfl, rfl, rfl, rfl, trivial⟩ ⟨rfl, trivial⟩ h)
          · intro N18 hN18
            refine LWP.region (l := [_,_,_,_,_,_,_,_,_,_,_,_]) ?_
            refine LWo.move (e_int t6) rfl (hn := ?_)
            refine LWo.int _ rfl rfl rfl (hn := ?_)
            refine LWo.move (e_bool (decide (t6 > (0 : Int)))) rfl (hn := ?_)
            refine LWo.byCases (t := 17) _ rfl (fun h19 => ?_) (fun h19 => ?_)
            · have h := bT h19 h
              refine LWo.guardY (t := 17) rfl h19 rfl rfl ?_
              refine LWo.move (.own 1003 0 (o1003).length) rfl (hn := ?_)
              refine LWo.guardY (t := 17) rfl h19 rfl rfl ?_
              refine LWo.move (e_int t6) rfl (hn := ?_)
              refine bk h fun x20 e20 h => ?_
              refine LWo.guardY (t := 17) rfl h19 rfl rfl ?_
              refine LWo.int _ rfl rfl (sub_ck e20) (hn := ?_)
              refine bk h fun x21 e21 h => ?_
              refine LWo.guardY (t := 17) rfl h19 rfl rfl ?_
              refine LWo.indexO e21 rfl u_LLimpl_Value s_Limpl_Value rfl rfl rfl (hn := ?_)
              refine bk h fun x22 e22 h => ?_
              refine LWo.guardY (t := 17) rfl h19 rfl rfl ?_
              refine LWo.loadO1 (e_Limpl_Value x22) e22 g_Limpl_Value rfl rfl rfl (hn := ?_)
              refine LWo.guardY (t := 17) rfl h19 rfl rfl ?_
              refine LWo.move (e_Limpl_Value t5) rfl (hn := ?_)
              refine bk h fun x23 e23 h => ?_
              refine LWo.guardY (t := 17) rfl h19 rfl rfl ?_
              refine LWo.vcall rfl rfl (c_impl_RowOrder _ _ _ e23) (.same (.same (.nil))) (hn := ?_)
              refine LWo.guardY (t := 17) rfl h19 rfl rfl ?_
              refine LWo.int _ rfl rfl rfl (hn := ?_)
              refine LWo.pickTM (e_bool (decide (x23 > (0 : Int)))) rfl h19 rfl (hn := ?_)
              refine LWo.nil (hN18 (t5, t6, t7, t8, t9, decide (x23 > (0 : Int)), o1003) _ ⟨rfl, rfl, rfl, rfl, rfl, rfl, rfl, trivial⟩ ⟨rfl, trivial⟩ h)
            · have h := bF h19 h
              refine LWo.guardNU (t := 17) rfl h19 rfl rfl rfl rfl rfl ?_
              refine LWo.guardNU (t := 17) rfl h19 rfl rfl rfl rfl rfl ?_
              refine LWo.guardNU (t := 17) rfl h19 rfl rfl rfl rfl rfl ?_
              refine LWo.guardNU (t := 17) rfl h19 rfl rfl rfl rfl rfl ?_
              refine LWo.guardNU (t := 17) rfl h19 rfl rfl rfl rfl rfl ?_
              refine LWo.guardNU (t := 17) rfl h19 rfl rfl rfl rfl rfl ?_
              refine LWo.guardNU (t := 17) rfl h19 rfl rfl rfl rfl rfl ?_
              refine LWo.guardNU (t := 17) rfl h19 rfl rfl rfl rfl rfl ?_
              refine LWo.pickFM (e_bool false) rfl h19 rfl (hn := ?_)
              refine LWo.nil (hN18 (t5, t6, t7, t8, t9, false, o1003) _ ⟨rfl, rfl, rfl, rfl, rfl, rfl, rfl, trivial⟩ ⟨rfl, trivial⟩ h)
    · have h := bF h9 h
      refine LWP.exit (hN3 o1003 _ ⟨rfl, trivial⟩ ⟨rfl, trivial⟩ h)
end Go.Proofs.Ytemfdnnhknepbaa
