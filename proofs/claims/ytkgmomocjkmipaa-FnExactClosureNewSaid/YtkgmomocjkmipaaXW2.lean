/- Mirrors of functions, and that the functions return what the mirrors say. -/
import Derived.Test.YtkgmomocjkmipaaXW1
set_option linter.unusedVariables false
set_option linter.unusedSimpArgs false
set_option linter.unnecessarySimpa false
namespace Go.Proofs.Ytkgmomocjkmipaa
open Go.Proofs Go.Lift Go.RowKit
theorem cc_slices_Clip_Limpl_Pair_impl_Pair (xs : List LV) : Does Try.prog f_slices_Clip_Limpl_Pair_impl_Pair [.own 0 0 xs.length] [(0, { kind := .fro, sz := 2, elems := xs })] (fun r h => r = .nw 2 xs false ∧ h = []) := by
  refine Does.go [0] F_slices_Clip_Limpl_Pair_impl_Pair rfl e_slices_Clip_Limpl_Pair_impl_Pair n_slices_Clip_Limpl_Pair_impl_Pair rfl (ts := [2]) rfl rfl rfl ?_
  intro w0 ok0 lent ρ0
  refine LWP.seq_k fun N1 hN1 => ?_
  refine LWP.region (l := [_]) ?_
  refine LWo.assign _ rfl (hn := ?_)
  refine LWo.nil (hN1 _ ?_)
  refine LWP.seq_k fun N2 hN2 => ?_
  refine LWP.region (l := [_,_,_,_,_,_,_]) ?_
  refine LWo.move _ rfl (hn := ?_)
  refine LWo.move _ rfl (hn := ?_)
  refine LWo.len u_Limpl_Pair rfl (hn := ?_)
  refine LWo.move _ rfl (hn := ?_)
  refine LWo.len u_Limpl_Pair rfl (hn := ?_)
  refine LWo.cutOwn (l := 0) (h := xs.length) u_Limpl_Pair s_impl_Pair rfl rfl rfl rfl ⟨_, rfl⟩ ⟨_, _, rfl, Nat.le_refl _, Nat.le_refl _⟩ (.inr (by simp)) (Nat.zero_le _) (Nat.le_refl _) rfl rfl (hn := ?_)
  refine LWo.assign _ rfl (hn := ?_)
  refine LWo.nil (hN2 _ ?_)
  refine LWP.ret (QRet.own1 (.inr rfl) rfl rfl rfl rfl (by simp) ⟨?_, rfl⟩)
  clear hN1 hN2
  exact congrArg (fun l => LV.nw 2 l false) (by simp)
def m_slices_Clip_Limpl_Pair_impl_Pair_o (o0 : List S_impl_Pair) : Option (List S_impl_Pair) := some o0
theorem c_slices_Clip_Limpl_Pair_impl_Pair_o (o0 : List S_impl_Pair) (r : List S_impl_Pair) (h : m_slices_Clip_Limpl_Pair_impl_Pair_o o0 = some r) : Does Try.prog f_slices_Clip_Limpl_Pair_impl_Pair [.own 0 0 o0.length] [(0, lob 2 e_impl_Pair o0)] (fun x hh => x = .nw 2 (r.map e_impl_Pair) false ∧ hh = []) := by
  cases h
  have := cc_slices_Clip_Limpl_Pair_impl_Pair (o0.map e_impl_Pair)
  rw [List.length_map] at this
  exact this



def m_slices_Clip_Limpl_Pair_impl_Pair (a0 : (List S_impl_Pair)) : Option (List S_impl_Pair) :=
  (cut3? a0 (0 : Int) (a0.length : Int) (a0.length : Int)).bind fun x3 =>
  some x3
theorem c_slices_Clip_Limpl_Pair_impl_Pair (a0 : (List S_impl_Pair)) (r : (List S_impl_Pair)) (h : m_slices_Clip_Limpl_Pair_impl_Pair a0 = some r) : Ret Try.prog f_slices_Clip_Limpl_Pair_impl_Pair [e_Limpl_Pair a0] (e_Limpl_Pair r) := by
  refine Does.goG [] F_slices_Clip_Limpl_Pair_impl_Pair rfl e_slices_Clip_Limpl_Pair_impl_Pair n_slices_Clip_Limpl_Pair_impl_Pair rfl (rvs := [.tmp 2]) rfl rfl ?_
  intro w0 ok0 lent ρ0
  refine LWP.seq_k fun N1 hN1 => ?_
  refine LWP.region (l := [_]) ?_
  refine LWo.assign _ rfl (hn := ?_)
  refine LWo.weakT 2 (e_Limpl_Pair ([] : (List S_impl_Pair))) rfl .nil ?_
  refine LWo.nil (hN1 _ ?_)
  refine LWP.seq_k fun N2 hN2 => ?_
  refine LWP.region (l := [_,_,_,_,_,_,_]) ?_
  refine LWo.move (e_Limpl_Pair a0) rfl (hn := ?_)
  refine LWo.move (e_Limpl_Pair a0) rfl (hn := ?_)
  refine LWo.lenM (f := e_impl_Pair) (l := a0) u_Limpl_Pair rfl (hn := ?_)
  refine LWo.move (e_Limpl_Pair a0) rfl (hn := ?_)
  refine LWo.lenM (f := e_impl_Pair) (l := a0) u_Limpl_Pair rfl (hn := ?_)
  refine bk h fun x3 e3 h => ?_
  refine LWo.cutM3 (f := e_impl_Pair) e3 u_Limpl_Pair s_impl_Pair rfl rfl ⟨_, rfl⟩ ⟨_, rfl⟩ (hn := ?_)
  refine LWo.assign (e_Limpl_Pair x3) rfl (hn := ?_)
  refine LWo.nil (hN2 _ ?_)
  obtain rfl := Option.some.inj h
  refine LWP.ret (QG.mk (.inr rfl) (.cons (.tmp (x := (e_Limpl_Pair x3)) rfl) (.nil)) (RetOK.one0 (.pure rfl) (by decide)) rfl rfl)

def m_impl_clone_impl_Pair (a0 : (List S_impl_Pair)) : Option (List S_impl_Pair) :=
  bif ((a0.length : Int) == (0 : Int)) then (some ([] : (List S_impl_Pair)))
  else ((appN? a0).bind fun x7 =>
  (m_slices_Clip_Limpl_Pair_impl_Pair_o x7).bind fun x8 =>
  some x8)
theorem c_impl_clone_impl_Pair (a0 : (List S_impl_Pair)) (r : (List S_impl_Pair)) (h : m_impl_clone_impl_Pair a0 = some r) : Ret Try.prog f_impl_clone_impl_Pair [e_Limpl_Pair a0] (.nw 2 (r.map e_impl_Pair) false) := by
  refine Does.goG [] F_impl_clone_impl_Pair rfl e_impl_clone_impl_Pair n_impl_clone_impl_Pair rfl (rvs := [.tmp 2]) rfl rfl ?_
  intro w0 ok0 lent ρ0
  refine LWP.seq_k fun N1 hN1 => ?_
  refine LWP.region (l := [_]) ?_
  refine LWo.assign _ rfl (hn := ?_)
  refine LWo.ownNil 2 1002 2 rfl rfl rfl ?_
  refine LWo.known 2 (.own 1002 0 ([] : (List S_impl_Pair)).length) rfl ?_
  refine LWo.nil (hN1 _ ?_)
  refine LWP.seq_k fun N2 hN2 => ?_
  refine LWP.seq_k fun N3 hN3 => ?_
  refine LWP.region (l := [_,_,_]) ?_
  refine LWo.move (e_Limpl_Pair a0) rfl (hn := ?_)
  refine LWo.lenM (f := e_impl_Pair) (l := a0) u_Limpl_Pair rfl (hn := ?_)
  refine LWo.int _ rfl rfl rfl (hn := ?_)
  refine LWo.nil (hN3 _ ?_)
  refine LWP.cond_split rfl (fun h4 => ?_) (fun h4 => ?_)
  ·have h := bT h4 h
   refine LWP.seq_k fun N5 hN5 => ?_
   refine LWP.region (l := [_]) ?_
   refine LWo.assign _ rfl (hn := ?_)
   refine LWo.ownNil 2 1002 2 rfl rfl rfl ?_
   refine LWo.known 2 (.own 1002 0 ([] : (List S_impl_Pair)).length) rfl ?_
   refine LWo.nil (hN5 _ ?_)
   obtain rfl := Option.some.inj h
   refine LWP.ret (QG.mk (.inr rfl) (.cons (.tmp (x := (.own 1002 0 (([] : (List S_impl_Pair))).length)) rfl) (.nil)) (RetOK.one0 (.nwM rfl rfl) (by decide)) rfl rfl)
  ·have h := bF h4 h
   refine LWP.skip (hN2 _ ?_)
   refine LWP.seq_k fun N6 hN6 => ?_
   refine LWP.region (l := [_,_,_,_]) ?_
   refine LWo.move (e_Limpl_Pair a0) rfl (hn := ?_)
   refine bk h fun x7 e7 h => ?_
   refine LWo.appendC (f := e_impl_Pair) 1007 e7 u_Limpl_Pair u_Limpl_Pair (fun _ h => by cases h) i_impl_Pair rfl rfl (.sl rfl) (fun _ => rfl) rfl rfl (hn := ?_)
   refine bk h fun x8 e8 h => ?_
   refine LWo.tcallN (e := e_impl_Pair) (e' := e_impl_Pair) 1008 rfl rfl (c_slices_Clip_Limpl_Pair_impl_Pair_o _ _ e8) (fun _ => rfl) rfl rfl rfl rfl (hn := ?_)
   refine LWo.assign (.own 1008 0 (x8).length) rfl (hn := ?_)
   refine LWo.nil (hN6 _ ?_)
   obtain rfl := Option.some.inj h
   refine LWP.ret (QG.mk (.inr rfl) (.cons (.tmp (x := (.own 1008 0 (x8).length)) rfl) (.nil)) (RetOK.one0 (.nwM rfl rfl) (by decide)) rfl rfl)

instance : Inhabited S_impl_Pair := ⟨⟨0, 0⟩⟩
theorem xs_nan (a : Int) : m_cmp_isNaN_int a = some false := by unfold m_cmp_isNaN_int; simp
theorem xs_cmp (a b : Int) : m_cmp_Compare_int a b = some (if a < b then -1 else if b < a then 1 else 0) := by
  unfold m_cmp_Compare_int
  rw [xs_nan, xs_nan, Option.bind_some, Option.bind_some, cond_false, cond_false]
  by_cases h : a < b
  · rw [decide_eq_true h, if_pos h]; rfl
  · rw [decide_eq_false h, if_neg h, cond_false]
    by_cases h2 : b < a
    · rw [decide_eq_true (show a > b from h2), if_pos h2]; rfl
    · rw [decide_eq_false (show ¬ a > b from h2), if_neg h2]; rfl
theorem xs_or (a b : Int) : m_cmp_Or_int [a, b] = some (if a = 0 then b else a) := by
  unfold m_cmp_Or_int
  show m_cmp_Or_int_l1 3 0 [a, b] 2 0 = _
  by_cases h : a = 0
  · rw [if_pos h]
    subst h
    by_cases h2 : b = 0
    · subst h2; rfl
    · have e : (b != 0) = true := by simp [h2]
      show (bif b != 0 then some b else _) = _
      rw [e, cond_true]
  · have e : (a != 0) = true := by simp [h]
    rw [if_neg h]
    show (bif a != 0 then some a else _) = _
    rw [e, cond_true]
def cf_impl_Pair_order (a b : S_impl_Pair) : Int := (m_impl_Pair_order a b).getD 0
theorem tot_impl_Pair_order (a b : S_impl_Pair) : m_impl_Pair_order a b = some (cf_impl_Pair_order a b) := by
  unfold cf_impl_Pair_order m_impl_Pair_order
  rw [xs_cmp, Option.bind_some, xs_cmp, Option.bind_some, xs_or, Option.bind_some]
  rfl
theorem lt_impl_Pair_order (a b : S_impl_Pair) : cf_impl_Pair_order a b < 0 ↔ a.From < b.From ∨ (a.From = b.From ∧ a.To < b.To) := by
  unfold cf_impl_Pair_order m_impl_Pair_order
  rw [xs_cmp, Option.bind_some, xs_cmp, Option.bind_some, xs_or, Option.bind_some, Option.getD_some]
  constructor
  · intro h
    split at h <;> split at h <;> (try split at h) <;> (try split at h) <;> (try split at h) <;> omega
  · intro h
    split <;> split <;> (try split) <;> (try split) <;> (try split) <;> omega
theorem ord_impl_Pair_order : Order cf_impl_Pair_order where
  swo := by
    have h : ∀ x y : S_impl_Pair, Go.Proofs.ltOf cf_impl_Pair_order x y = true ↔ (x.From < y.From ∨ (x.From = y.From ∧ x.To < y.To)) := fun x y => by
      unfold Go.Proofs.ltOf
      rw [decide_eq_true_eq]
      exact lt_impl_Pair_order x y
    have h' : ∀ x y : S_impl_Pair, Go.Proofs.ltOf cf_impl_Pair_order x y = false ↔ ¬ (x.From < y.From ∨ (x.From = y.From ∧ x.To < y.To)) := fun x y => by
      rw [← h, Bool.not_eq_true]
    exact ⟨fun x => by rw [h']; omega, fun x y z => by rw [h, h, h]; omega, fun x y z => by rw [h', h', h']; omega⟩
  tot := by
    intro x y
    have h' : ∀ x y : S_impl_Pair, Go.Proofs.ltOf cf_impl_Pair_order x y = false ↔ ¬ (x.From < y.From ∨ (x.From = y.From ∧ x.To < y.To)) := fun x y => by
      rw [← lt_impl_Pair_order, ← decide_eq_false_iff_not]
      rfl
    rw [h', h']
    intro a b
    obtain ⟨x1, x2⟩ := x
    obtain ⟨y1, y2⟩ := y
    simp only at a b
    obtain rfl : x1 = y1 := by omega
    obtain rfl : x2 = y2 := by omega
    rfl

def ren_slices_SortFunc_Limpl_Pair_impl_Pair : Go.Shelf.Ren := ⟨fun n => match n with | 6 => 131 | 14 => 175 | 15 => 176 | 20 => 198 | 21 => 199 | 22 => 200 | 23 => 201 | 24 => 202 | 25 => 203 | 26 => 204 | 27 => 205 | 28 => 206 | 29 => 207 | 46 => 220 | 47 => 221 | 48 => 222 | 49 => 223 | 50 => 224 | 57 => 231 | _ => 0, fun n => match n with | 0 => 0 | 1 => 1 | 2 => 2 | 3 => 3 | 4 => 4 | 5 => 5 | 6 => 6 | 7 => 7 | 8 => 8 | 9 => 9 | 10 => 10 | 11 => 11 | 12 => 12 | 13 => 13 | 14 => 14 | 15 => 15 | 16 => 16 | 17 => 17 | 18 => 18 | 19 => 19 | 20 => 20 | 21 => 21 | 22 => 24 | 23 => 149 | 24 => 33 | 25 => 150 | 27 => 91 | 29 => 185 | 37 => 187 | 38 => 188 | 39 => 189 | 40 => 87 | 42 => 153 | 44 => 202 | 45 => 203 | 46 => 204 | 47 => 205 | 48 => 206 | 49 => 207 | 50 => 173 | 51 => 208 | 52 => 209 | 53 => 210 | 54 => 211 | 55 => 212 | 66 => 220 | 67 => 221 | 68 => 222 | 69 => 223 | 70 => 224 | 71 => 225 | 76 => 232 | 77 => 233 | 78 => 234 | 81 => 236 | 82 => 237 | 83 => 238 | 84 => 239 | 85 => 240 | 86 => 241 | 87 => 242 | 88 => 243 | 89 => 244 | 90 => 245 | 91 => 246 | 92 => 247 | 93 => 248 | 94 => 249 | 95 => 250 | 96 => 251 | _ => 0, fun n => n⟩
theorem lays_slices_SortFunc_Limpl_Pair_impl_Pair : Go.Proofs.SlLaysF0.n6 Try.prog ren_slices_SortFunc_Limpl_Pair_impl_Pair where
  mixed := mixed
  f6 := ⟨"slices.SortFunc[[]loop.example/tablehouse/impl.Pair,loop.example/tablehouse/impl.Pair]", by kernel_rfl, Try.func131.trans (by kernel_rfl)⟩
  f14 := ⟨"slices.pdqsortCmpFunc[loop.example/tablehouse/impl.Pair]", by kernel_rfl, Try.func175.trans (by kernel_rfl)⟩
  f15 := Try.func176.trans (by kernel_rfl)
  f20 := ⟨"slices.insertionSortCmpFunc[loop.example/tablehouse/impl.Pair]", by kernel_rfl, Try.func198.trans (by kernel_rfl)⟩
  f21 := ⟨"slices.heapSortCmpFunc[loop.example/tablehouse/impl.Pair]", by kernel_rfl, Try.func199.trans (by kernel_rfl)⟩
  f22 := ⟨"slices.breakPatternsCmpFunc[loop.example/tablehouse/impl.Pair]", by kernel_rfl, Try.func200.trans (by kernel_rfl)⟩
  f23 := ⟨"slices.choosePivotCmpFunc[loop.example/tablehouse/impl.Pair]", by kernel_rfl, Try.func201.trans (by kernel_rfl)⟩
  f24 := ⟨"slices.reverseRangeCmpFunc[loop.example/tablehouse/impl.Pair]", by kernel_rfl, Try.func202.trans (by kernel_rfl)⟩
  f25 := ⟨"slices.partialInsertionSortCmpFunc[loop.example/tablehouse/impl.Pair]", by kernel_rfl, Try.func203.trans (by kernel_rfl)⟩
  f26 := ⟨"slices.partitionEqualCmpFunc[loop.example/tablehouse/impl.Pair]", by kernel_rfl, Try.func204.trans (by kernel_rfl)⟩
  f27 := ⟨"slices.partitionCmpFunc[loop.example/tablehouse/impl.Pair]", by kernel_rfl, Try.func205.trans (by kernel_rfl)⟩
  f28 := Try.func206.trans (by kernel_rfl)
  f29 := Try.func207.trans (by kernel_rfl)
  f46 := ⟨"slices.siftDownCmpFunc[loop.example/tablehouse/impl.Pair]", by kernel_rfl, Try.func220.trans (by kernel_rfl)⟩
  f47 := Try.func221.trans (by kernel_rfl)
  f48 := Try.func222.trans (by kernel_rfl)
  f49 := ⟨"slices.medianAdjacentCmpFunc[loop.example/tablehouse/impl.Pair]", by kernel_rfl, Try.func223.trans (by kernel_rfl)⟩
  f50 := ⟨"slices.medianCmpFunc[loop.example/tablehouse/impl.Pair]", by kernel_rfl, Try.func224.trans (by kernel_rfl)⟩
  f57 := ⟨"slices.order2CmpFunc[loop.example/tablehouse/impl.Pair]", by kernel_rfl, Try.func231.trans (by kernel_rfl)⟩
  t0 := Try.underlying0
  a0 := Try.isAgg0
  z0 := Try.sizeOf0
  v0 := Try.zeroValue0
  t3 := Try.underlying3
  a3 := Try.isAgg3
  z3 := Try.sizeOf3
  v3 := Try.zeroValue3
  t4 := Try.underlying4
  a4 := Try.isAgg4
  z4 := Try.sizeOf4
  v4 := Try.zeroValue4
  t5 := Try.underlying5
  a5 := Try.isAgg5
  z5 := Try.sizeOf5
  v5 := Try.zeroValue5
  t9 := Try.underlying9
  a9 := Try.isAgg9
  z9 := Try.sizeOf9
  v9 := Try.zeroValue9
  t22 := Try.underlying24
  a22 := Try.isAgg24
  z22 := Try.sizeOf24
  v22 := Try.zeroValue24
  t25 := Try.underlying150
  a25 := Try.isAgg150
  z25 := Try.sizeOf150
  v25 := Try.zeroValue150
  t39 := Try.underlying189
  a39 := Try.isAgg189
  z39 := Try.sizeOf189
  v39 := Try.zeroValue189
  t45 := Try.underlying203
  a45 := Try.isAgg203
  z45 := Try.sizeOf203
  v45 := Try.zeroValue203
  t46 := Try.underlying204
  a46 := Try.isAgg204
  z46 := Try.sizeOf204
  v46 := Try.zeroValue204
  t50 := Try.underlying173
  a50 := Try.isAgg173
  z50 := Try.sizeOf173
  v50 := Try.zeroValue173
  t53 := Try.underlying210
  a53 := Try.isAgg210
  z53 := Try.sizeOf210
  v53 := Try.zeroValue210
  t55 := Try.underlying212
  a55 := Try.isAgg212
  z55 := Try.sizeOf212
  v55 := Try.zeroValue212
  t66 := Try.underlying220
  a66 := Try.isAgg220
  z66 := Try.sizeOf220
  v66 := Try.zeroValue220
  t70 := Try.underlying224
  a70 := Try.isAgg224
  z70 := Try.sizeOf224
  v70 := Try.zeroValue224
  t76 := Try.underlying232
  a76 := Try.isAgg232
  z76 := Try.sizeOf232
  v76 := Try.zeroValue232
  t77 := Try.underlying233
  a77 := Try.isAgg233
  z77 := Try.sizeOf233
  v77 := Try.zeroValue233
def enc_slices_SortFunc_Limpl_Pair_impl_Pair (v : S_impl_Pair) : List Value := [.int .i64 v.From, .int .i64 v.To]
def m_slices_SortFunc_Limpl_Pair_impl_Pair_by_impl_Pair_order (o0 : List S_impl_Pair) : Option (List S_impl_Pair) := if o0.length < 4000000000000000000 then some (o0.mergeSort fun x y => !decide (cf_impl_Pair_order y x < 0)) else none
set_option maxRecDepth 100000 in
theorem c_slices_SortFunc_Limpl_Pair_impl_Pair_by_impl_Pair_order (o0 : List S_impl_Pair) (r : List S_impl_Pair) (h : m_slices_SortFunc_Limpl_Pair_impl_Pair_by_impl_Pair_order o0 = some r) : Does Try.prog f_slices_SortFunc_Limpl_Pair_impl_Pair [.own 0 0 o0.length, .clo f_impl_Pair_order []] [(0, lob 2 e_impl_Pair o0)] (fun x hh => x = .tup [] ∧ hh = [(0, lob 2 e_impl_Pair r)]) := by
  unfold m_slices_SortFunc_Limpl_Pair_impl_Pair_by_impl_Pair_order at h
  split at h
  · rename_i hl
    cases h
    exact sortFunc_does lays_slices_SortFunc_Limpl_Pair_impl_Pair e_impl_Pair enc_slices_SortFunc_Limpl_Pair_impl_Pair 2 (by decide) (fun _ => rfl) (fun _ => rfl) (fun x v hv => by simp only [enc_slices_SortFunc_Limpl_Pair_impl_Pair, List.mem_cons, List.mem_nil_iff, or_false] at hv; rcases hv with rfl | rfl <;> rfl) (by intros; kernel_rfl) (by intros; kernel_rfl) cf_impl_Pair_order ord_impl_Pair_order f_impl_Pair_order [] rfl (fun a b => c_impl_Pair_order a b _ (tot_impl_Pair_order a b)) o0 (by omega)
  · cases h
theorem k_slices_SortFunc_Limpl_Pair_impl_Pair_by_impl_Pair_order (o0 : List S_impl_Pair) (r : List S_impl_Pair) (h : m_slices_SortFunc_Limpl_Pair_impl_Pair_by_impl_Pair_order o0 = some r) (k : Nat) : Does Try.prog f_slices_SortFunc_Limpl_Pair_impl_Pair [.own k 0 o0.length, .clo f_impl_Pair_order []] [(k, lob 2 e_impl_Pair o0)] (fun x hh => x = .tup [] ∧ hh = [(k, lob 2 e_impl_Pair r)]) :=
  Does.nameO (c_slices_SortFunc_Limpl_Pair_impl_Pair_by_impl_Pair_order o0 r h) (fun _ => rfl) k


def m_slices_Compact_Limpl_Pair_impl_Pair_j4 (o1000 : (List S_impl_Pair)) : Option (List S_impl_Pair) :=
  some o1000
def m_slices_Compact_Limpl_Pair_impl_Pair_j3 (k1 : Int → (List S_impl_Pair) → Option (List S_impl_Pair)) (t3 : Int) (o1000 : (List S_impl_Pair)) : Option (List S_impl_Pair) :=
  (ckI (t3 + (1 : Int))).bind fun x51 =>
  k1 x51 o1000
def m_slices_Compact_Limpl_Pair_impl_Pair_j2 (k1 : Int → (List S_impl_Pair) → Option (List S_impl_Pair)) (t3 : Int) (o1000 : (List S_impl_Pair)) : Option (List S_impl_Pair) :=
  (rng? t3 ((o1000).length : Int) ((o1000).length)).bind fun u47 =>
  (rng? (0 : Int) t3 ((o1000).length)).bind fun u49 =>
  (leN ((t3).toNat) (o1000.take (0 + (t3).toNat)).length).bind fun u50 =>
  some ((o1000.take (0 + (t3).toNat)).take ((t3).toNat))
def m_slices_Compact_Limpl_Pair_impl_Pair_j1 (k1 : Int → (List S_impl_Pair) → Option (List S_impl_Pair)) (k2 : Int → Nat → Nat → Int → (List S_impl_Pair) → Option (List S_impl_Pair)) (t3 : Int) (t4o : Nat) (t4n : Nat) (t5 : Int) (o1000 : (List S_impl_Pair)) : Option (List S_impl_Pair) :=
  (ckI (t5 + (1 : Int))).bind fun x45 =>
  k2 t3 t4o t4n x45 o1000
def m_slices_Compact_Limpl_Pair_impl_Pair_l2 (k1 : Int → (List S_impl_Pair) → Option (List S_impl_Pair)) : Nat → Int → Nat → Nat → Int → (List S_impl_Pair) → Option (List S_impl_Pair)
  | 0, _, _, _, _, _ => none
  | n2 + 1, t3, t4o, t4n, t5, o1000 =>
    bif decide (t5 < ((t4n : Nat) : Int)) then ((atc? o1000 t4o t4n t5).bind fun x32 =>
    (at? o1000 ((t4o + (t5).toNat : Nat) : Int)).bind fun x33 =>
    (ckI (t5 - (1 : Int))).bind fun x34 =>
    (atc? o1000 t4o t4n x34).bind fun x35 =>
    (at? o1000 ((t4o + (x34).toNat : Nat) : Int)).bind fun x36 =>
    bif (!(decide (x33 = x36))) then ((atc? o1000 t4o t4n t5).bind fun x39 =>
      (at? o1000 ((t4o + (t5).toNat : Nat) : Int)).bind fun x40 =>
      (at? o1000 t3).bind fun x41 =>
      (at? o1000 t3).bind fun x42 =>
      lt (x40) fun y43 =>
      (ckI (t3 + (1 : Int))).bind fun x44 =>
      m_slices_Compact_Limpl_Pair_impl_Pair_j1  k1 (m_slices_Compact_Limpl_Pair_impl_Pair_l2  k1 n2) x44 t4o t4n t5 (o1000.set (t3).toNat y43))
    else (m_slices_Compact_Limpl_Pair_impl_Pair_j1  k1 (m_slices_Compact_Limpl_Pair_impl_Pair_l2  k1 n2) t3 t4o t4n t5 o1000))
    else (m_slices_Compact_Limpl_Pair_impl_Pair_j2  k1 t3 o1000)
def m_slices_Compact_Limpl_Pair_impl_Pair_l1 : Nat → Int → (List S_impl_Pair) → Option (List S_impl_Pair)
  | 0, _, _ => none
  | n1 + 1, t3, o1000 =>
    bif decide (t3 < (o1000.length : Int)) then ((at? o1000 t3).bind fun x15 =>
    (at? o1000 t3).bind fun x16 =>
    (ckI (t3 - (1 : Int))).bind fun x17 =>
    (at? o1000 x17).bind fun x18 =>
    (at? o1000 x17).bind fun x19 =>
    bif (decide (x16 = x19)) then ((rng? t3 ((o1000).length : Int) ((o1000).length)).bind fun u22 =>
      m_slices_Compact_Limpl_Pair_impl_Pair_l2  (m_slices_Compact_Limpl_Pair_impl_Pair_l1  n1) ((((((o1000).length - (t3).toNat) : Nat) : Int) - (1 : Int)).toNat + 1) t3 (0 + (t3).toNat) ((o1000).length - (t3).toNat) (1 : Int) o1000)
    else (m_slices_Compact_Limpl_Pair_impl_Pair_j3  (m_slices_Compact_Limpl_Pair_impl_Pair_l1  n1) t3 o1000))
    else (m_slices_Compact_Limpl_Pair_impl_Pair_j4  o1000)
def m_slices_Compact_Limpl_Pair_impl_Pair (o0 : (List S_impl_Pair)) : Option (List S_impl_Pair) :=
  bif decide ((o0.length : Int) < (2 : Int)) then (some o0)
  else (m_slices_Compact_Limpl_Pair_impl_Pair_l1  (((o0.length : Int) - (1 : Int)).toNat + 1) (1 : Int) o0)
theorem c_slices_Compact_Limpl_Pair_impl_Pair (o0 : (List S_impl_Pair)) (r : (List S_impl_Pair)) (h : m_slices_Compact_Limpl_Pair_impl_Pair o0 = some r) : Does Try.prog f_slices_Compact_Limpl_Pair_impl_Pair [.own 0 0 o0.length] [(0, (lob 2 e_impl_Pair o0))] (fun x hh => x = .nw 2 (r.map e_impl_Pair) false ∧ hh = []) := by
  refine Does.goG [0] F_slices_Compact_Limpl_Pair_impl_Pair rfl e_slices_Compact_Limpl_Pair_impl_Pair n_slices_Compact_Limpl_Pair_impl_Pair rfl (rvs := [.tmp 2]) rfl rfl ?_
  intro w0 ok0 lent ρ0
  refine LWP.rekey 0 0 1000 rfl rfl rfl rfl rfl rfl ?_
  refine LWP.tell [(0, (.own 1000 0 (o0).length))] [(1000, (lob 2 e_impl_Pair o0))] ⟨rfl, trivial⟩ ⟨rfl, trivial⟩ (by simp [hkeys]) ?_
  refine LWP.seq_k fun N1 hN1 => ?_
  refine LWP.region (l := [_]) ?_
  refine LWo.assign _ rfl (hn := ?_)
  refine LWo.ownNil 2 1002 2 rfl rfl rfl ?_
  refine LWo.known 2 (.own 1002 0 ([] : (List S_impl_Pair)).length) rfl ?_
  refine LWo.nil (hN1 _ ?_)
  refine LWP.seq_k fun N2 hN2 => ?_
  refine LWP.seq_k fun N3 hN3 => ?_
  refine LWP.region (l := [_,_,_]) ?_
  refine LWo.move (.own 1000 0 (o0).length) rfl (hn := ?_)
  refine LWo.lenO u_Limpl_Pair rfl (hn := ?_)
  refine LWo.int _ rfl rfl rfl (hn := ?_)
  refine LWo.nil (hN3 _ ?_)
  refine LWP.cond_split rfl (fun h4 => ?_) (fun h4 => ?_)
  ·have h := bT h4 h
   refine LWP.seq_k fun N5 hN5 => ?_
   refine LWP.region (l := [_,_]) ?_
   refine LWo.move (.own 1000 0 (o0).length) rfl (hn := ?_)
   refine LWo.assign (.own 1000 0 (o0).length) rfl (hn := ?_)
   refine LWo.nil (hN5 _ ?_)
   obtain rfl := Option.some.inj h
   refine LWP.ret (QG.mk (.inr rfl) (.cons (.tmp (x := (.own 1000 0 (o0).length)) rfl) (.nil)) (RetOK.one0 (.nwM rfl rfl) (by decide)) rfl rfl)
  ·have h := bF h4 h
   refine LWP.skip (hN2 _ ?_)
   refine LWP.join (α := (List S_impl_Pair)) (fun z : (List S_impl_Pair) => [(0, (.own 1000 0 (z).length))]) (fun z : (List S_impl_Pair) => [(1000, (lob 2 e_impl_Pair z))]) (fun z : (List S_impl_Pair) => m_slices_Compact_Limpl_Pair_impl_Pair_j4  z) r (fun _ => by simp [hkeys]) ?_ ?_
   ·rintro o1000 h
    replace h : m_slices_Compact_Limpl_Pair_impl_Pair_j4  o1000 = some _ := h
    refine LWP.seq_k fun N52 hN52 => ?_
    refine LWP.region (l := [_,_]) ?_
    refine LWo.move (.own 1000 0 (o1000).length) rfl (hn := ?_)
    refine LWo.assign (.own 1000 0 (o1000).length) rfl (hn := ?_)
    refine LWo.nil (hN52 _ ?_)
    obtain rfl := Option.some.inj h
    refine LWP.ret (QG.mk (.inr rfl) (.cons (.tmp (x := (.own 1000 0 (o1000).length)) rfl) (.nil)) (RetOK.one0 (.nwM rfl rfl) (by decide)) rfl rfl)
   ·intro N6 hN6
    refine LWP.seq_k fun N7 hN7 => ?_
    refine LWP.region (l := [_]) ?_
    refine LWo.assign (e_int (1 : Int)) rfl (hn := ?_)
    refine LWo.nil (hN7 _ ?_)
    refine LWP.block ?_
    refine LWP.loopM (α := Int × (List S_impl_Pair)) (fun z : Int × (List S_impl_Pair) => [(0, (.own 1000 0 (z.2).length)), (3, (e_int z.1))]) (fun z : Int × (List S_impl_Pair) => [(1000, (lob 2 e_impl_Pair z.2))]) (fun n1 (z : Int × (List S_impl_Pair)) => m_slices_Compact_Limpl_Pair_impl_Pair_l1  n1 z.1 z.2) r _ ((1 : Int), o0) h (fun _ => rfl) (fun _ => by simp [hkeys]) ⟨rfl, rfl, trivial⟩ ⟨rfl, trivial⟩ ?_
    rintro n1 ⟨t3, o1000⟩ h N8 hN8
    replace h : m_slices_Compact_Limpl_Pair_impl_Pair_l1  (n1 + 1) t3 o1000 = some _ := h
    refine LWP.seq_k fun N10 hN10 => ?_
    refine LWP.seq_k fun N11 hN11 => ?_
    refine LWP.region (l := [_,_,_,_]) ?_
    refine LWo.move (e_int t3) rfl (hn := ?_)
    refine LWo.move (.own 1000 0 (o1000).length) rfl (hn := ?_)
    refine LWo.lenO u_Limpl_Pair rfl (hn := ?_)
    refine LWo.int _ rfl rfl rfl (hn := ?_)
    refine LWo.nil (hN11 _ ?_)
    refine LWP.cond_split rfl (fun h12 => ?_) (fun h12 => ?_)
    ·have h := bT h12 h
     refine LWP.skip (hN10 _ ?_)
     refine LWP.join (α := Int × (List S_impl_Pair)) (fun z : Int × (List S_impl_Pair) => [(0, (.own 1000 0 (z.2).length)), (3, (e_int z.1))]) (fun z : Int × (List S_impl_Pair) => [(1000, (lob 2 e_impl_Pair z.2))]) (fun z : Int × (List S_impl_Pair) => m_slices_Compact_Limpl_Pair_impl_Pair_j3  (m_slices_Compact_Limpl_Pair_impl_Pair_l1  n1) z.1 z.2) r (fun _ => by simp [hkeys]) ?_ ?_
     ·rintro ⟨t3, o1000⟩ h
      replace h : m_slices_Compact_Limpl_Pair_impl_Pair_j3  (m_slices_Compact_Limpl_Pair_impl_Pair_l1  n1) t3 o1000 = some _ := h
      refine LWP.region (l := [_,_,_]) ?_
      refine LWo.move (e_int t3) rfl (hn := ?_)
      refine bk h fun x51 e51 h => ?_
      refine LWo.int _ rfl rfl (add_ck e51) (hn := ?_)
      refine LWo.assign (e_int x51) rfl (hn := ?_)
      refine LWo.nil (hN8 (x51, o1000) _ ⟨rfl, rfl, trivial⟩ ⟨rfl, trivial⟩ h)
     ·intro N13 hN13
      refine LWP.block ?_
      refine LWP.seq_k fun N14 hN14 => ?_
      refine bk h fun x15 e15 h => ?_
      refine bk h fun x16 e16 h => ?_
      refine bk h fun x17 e17 h => ?_
      refine bk h fun x18 e18 h => ?_
      refine bk h fun x19 e19 h => ?_
      refine LWP.drawF (l := [_,_,_,_,_,_,_,_,_,_]) [] [0, 3] [([0], []), ([3], []), ([16, 17], [1000]), ([18], [1000]), ([0], []), ([3], []), ([21], []), ([20, 22], [1000]), ([23], [1000]), ([19, 24], [])] [0, 3, 25] [1000] mixed (by kernel_rfl) rfl (by decide) ?_
      refine dq 16 rfl (fun _ g u h => LWo.move (.own 1000 0 (o1000).length) u.1 (hn := .nil (zn g))) ?_
      refine dq 17 rfl (fun _ g u h => LWo.move (e_int t3) u.1 (hn := .nil (zn g))) ?_
      refine dq 18 rfl (fun _ g u h => LWo.indexO e15 rfl u_Limpl_Pair s_impl_Pair u.1 u.2.1 h.1 (hn := .nil (zn g))) ?_
      refine dq 19 rfl (fun _ g u h => LWo.loadON ((e_impl_Pair x16)).cells e16 g_impl_Pair s_impl_Pair u.1 h.1 rfl rfl (hn := .nil (zn g))) ?_
      refine dq 20 rfl (fun _ g u h => LWo.move (.own 1000 0 (o1000).length) u.1 (hn := .nil (zn g))) ?_
      refine dq 21 rfl (fun _ g u h => LWo.move (e_int t3) u.1 (hn := .nil (zn g))) ?_
      refine dq 22 rfl (fun _ g u h => LWo.int _ u.1 rfl (sub_ck e17) (hn := .nil (zn g))) ?_
      refine dq 23 rfl (fun _ g u h => LWo.indexO e18 rfl u_Limpl_Pair s_impl_Pair u.1 u.2.1 h.1 (hn := .nil (zn g))) ?_
      refine dq 24 rfl (fun _ g u h => LWo.loadON ((e_impl_Pair x19)).cells e19 g_impl_Pair s_impl_Pair u.1 h.1 rfl rfl (hn := .nil (zn g))) ?_
      refine dq 25 rfl (fun _ g u h => LWo.eq_impl_Pair _ _ u.1 u.2.1 (hn := .nil (zn g))) ?_
      refine ⟨rfl, by kernel_rfl, hN14 _ ?_⟩
      refine LWP.cond_split rfl (fun h20 => ?_) (fun h20 => ?_)
      ·have h := bT h20 h
       refine LWP.seq_k fun N21 hN21 => ?_
       refine LWP.region (l := [_,_,_,_]) ?_
       refine LWo.move (.own 1000 0 (o1000).length) rfl (hn := ?_)
       refine LWo.move (e_int t3) rfl (hn := ?_)
       refine bk h fun u22 e22 h => ?_
       refine LWo.cutOM e22 u_Limpl_Pair s_impl_Pair rfl rfl ⟨_, rfl⟩ rfl (hn := ?_)
       refine LWo.assign (.own 1000 (0 + (t3).toNat) ((o1000).length - (t3).toNat)) rfl (hn := ?_)
       refine LWo.nil (hN21 _ ?_)
       refine LWP.join (α := Int × (List S_impl_Pair)) (fun z : Int × (List S_impl_Pair) => [(0, (.own 1000 0 (z.2).length)), (3, (e_int z.1))]) (fun z : Int × (List S_impl_Pair) => [(1000, (lob 2 e_impl_Pair z.2))]) (fun z : Int × (List S_impl_Pair) => m_slices_Compact_Limpl_Pair_impl_Pair_j2  (m_slices_Compact_Limpl_Pair_impl_Pair_l1  n1) z.1 z.2) r (fun _ => by simp [hkeys]) ?_ ?_
       ·rintro ⟨t3, o1000⟩ h
        replace h : m_slices_Compact_Limpl_Pair_impl_Pair_j2  (m_slices_Compact_Limpl_Pair_impl_Pair_l1  n1) t3 o1000 = some _ := h
        refine LWP.seq_k fun N46 hN46 => ?_
        refine LWP.region (l := [_,_,_,_]) ?_
        refine LWo.move (.own 1000 0 (o1000).length) rfl (hn := ?_)
        refine LWo.move (e_int t3) rfl (hn := ?_)
        refine bk h fun u47 e47 h => ?_
        refine LWo.cutOM e47 u_Limpl_Pair s_impl_Pair rfl rfl ⟨_, rfl⟩ rfl (hn := ?_)
        refine LWo.clearO (f := e_impl_Pair) (l := o1000) none u_Limpl_Pair z_impl_Pair rfl rfl rfl rfl rfl (hn := ?_)
        refine LWo.nil (hN46 _ ?_)
        refine LWP.seq_k fun N48 hN48 => ?_
        refine LWP.region (l := [_,_,_,_]) ?_
        refine LWo.move (.own 1000 0 ((o1000).length)) rfl (hn := ?_)
        refine LWo.move (e_int t3) rfl (hn := ?_)
        refine bk h fun u49 e49 h => ?_
        refine LWo.cutOM e49 u_Limpl_Pair s_impl_Pair rfl rfl rfl ⟨_, rfl⟩ (hn := ?_)
        refine LWo.assign (.own 1000 0 ((t3).toNat)) rfl (hn := ?_)
        refine LWo.nil (hN48 _ ?_)
        refine bk h fun u50 e50 h => ?_
        obtain rfl := Option.some.inj h
        refine LWP.ret (QG.mk (.inr rfl) (.cons (.tmp (x := (.own 1000 0 ((t3).toNat))) rfl) (.nil)) (RetOK.one0 (.nwT (leN_b e50) rfl) (by decide)) rfl rfl)
       ·intro N23 hN23
        refine LWP.seq_k fun N24 hN24 => ?_
        refine LWP.region (l := [_]) ?_
        refine LWo.assign (e_int (1 : Int)) rfl (hn := ?_)
        refine LWo.nil (hN24 _ ?_)
        refine LWP.block ?_
        refine LWP.loopM (α := Int × Nat × Nat × Int × (List S_impl_Pair)) (fun z : Int × Nat × Nat × Int × (List S_impl_Pair) => [(0, (.own 1000 0 (z.2.2.2.2).length)), (3, (e_int z.1)), (4, (.own 1000 z.2.1 z.2.2.1)), (5, (e_int z.2.2.2.1))]) (fun z : Int × Nat × Nat × Int × (List S_impl_Pair) => [(1000, (lob 2 e_impl_Pair z.2.2.2.2))]) (fun n2 (z : Int × Nat × Nat × Int × (List S_impl_Pair)) => m_slices_Compact_Limpl_Pair_impl_Pair_l2  (m_slices_Compact_Limpl_Pair_impl_Pair_l1  n1) n2 z.1 z.2.1 z.2.2.1 z.2.2.2.1 z.2.2.2.2) r _ (t3, (0 + (t3).toNat), ((o1000).length - (t3).toNat), (1 : Int), o1000) h (fun _ => rfl) (fun _ => by simp [hkeys]) ⟨rfl, rfl, rfl, rfl, trivial⟩ ⟨rfl, trivial⟩ ?_
        rintro n2 ⟨t3, t4o, t4n, t5, o1000⟩ h N25 hN25
        replace h : m_slices_Compact_Limpl_Pair_impl_Pair_l2  (m_slices_Compact_Limpl_Pair_impl_Pair_l1  n1) (n2 + 1) t3 t4o t4n t5 o1000 = some _ := h
        refine LWP.seq_k fun N27 hN27 => ?_
        refine LWP.seq_k fun N28 hN28 => ?_
        refine LWP.region (l := [_,_,_,_]) ?_
        refine LWo.move (e_int t5) rfl (hn := ?_)
        refine LWo.move (.own 1000 t4o t4n) rfl (hn := ?_)
        refine LWo.lenO u_Limpl_Pair rfl (hn := ?_)
        refine LWo.int _ rfl rfl rfl (hn := ?_)
        refine LWo.nil (hN28 _ ?_)
        refine LWP.cond_split rfl (fun h29 => ?_) (fun h29 => ?_)
        ·have h := bT h29 h
         refine LWP.skip (hN27 _ ?_)
         refine LWP.join (α := Int × Nat × Nat × Int × (List S_impl_Pair)) (fun z : Int × Nat × Nat × Int × (List S_impl_Pair) => [(0, (.own 1000 0 (z.2.2.2.2).length)), (3, (e_int z.1)), (4, (.own 1000 z.2.1 z.2.2.1)), (5, (e_int z.2.2.2.1))]) (fun z : Int × Nat × Nat × Int × (List S_impl_Pair) => [(1000, (lob 2 e_impl_Pair z.2.2.2.2))]) (fun z : Int × Nat × Nat × Int × (List S_impl_Pair) => m_slices_Compact_Limpl_Pair_impl_Pair_j1  (m_slices_Compact_Limpl_Pair_impl_Pair_l1  n1) (m_slices_Compact_Limpl_Pair_impl_Pair_l2  (m_slices_Compact_Limpl_Pair_impl_Pair_l1  n1) n2) z.1 z.2.1 z.2.2.1 z.2.2.2.1 z.2.2.2.2) r (fun _ => by simp [hkeys]) ?_ ?_
         ·rintro ⟨t3, t4o, t4n, t5, o1000⟩ h
          replace h : m_slices_Compact_Limpl_Pair_impl_Pair_j1  (m_slices_Compact_Limpl_Pair_impl_Pair_l1  n1) (m_slices_Compact_Limpl_Pair_impl_Pair_l2  (m_slices_Compact_Limpl_Pair_impl_Pair_l1  n1) n2) t3 t4o t4n t5 o1000 = some _ := h
          refine LWP.region (l := [_,_,_]) ?_
          refine LWo.move (e_int t5) rfl (hn := ?_)
          refine bk h fun x45 e45 h => ?_
          refine LWo.int _ rfl rfl (add_ck e45) (hn := ?_)
          refine LWo.assign (e_int x45) rfl (hn := ?_)
          refine LWo.nil (hN25 (t3, t4o, t4n, x45, o1000) _ ⟨rfl, rfl, rfl, rfl, trivial⟩ ⟨rfl, trivial⟩ h)
         ·intro N30 hN30
          refine LWP.block ?_
          refine LWP.seq_k fun N31 hN31 => ?_
          refine bk h fun x32 e32 h => ?_
          refine bk h fun x33 e33 h => ?_
          refine bk h fun x34 e34 h => ?_
          refine bk h fun x35 e35 h => ?_
          refine bk h fun x36 e36 h => ?_
          refine LWP.drawF (l := [_,_,_,_,_,_,_,_,_,_]) [] [0, 3, 4, 5] [([4], []), ([5], []), ([35, 36], [1000]), ([37], [1000]), ([4], []), ([5], []), ([40], []), ([39, 41], [1000]), ([42], [1000]), ([38, 43], [])] [0, 3, 4, 5, 44] [1000] mixed (by kernel_rfl) rfl (by decide) ?_
          refine dq 35 rfl (fun _ g u h => LWo.move (.own 1000 t4o t4n) u.1 (hn := .nil (zn g))) ?_
          refine dq 36 rfl (fun _ g u h => LWo.move (e_int t5) u.1 (hn := .nil (zn g))) ?_
          refine dq 37 rfl (fun _ g u h => LWo.indexOC e32 u_Limpl_Pair s_impl_Pair u.1 u.2.1 h.1 (hn := .nil (zn g))) ?_
          refine dq 38 rfl (fun _ g u h => LWo.loadON ((e_impl_Pair x33)).cells e33 g_impl_Pair s_impl_Pair u.1 h.1 rfl rfl (hn := .nil (zn g))) ?_
          refine dq 39 rfl (fun _ g u h => LWo.move (.own 1000 t4o t4n) u.1 (hn := .nil (zn g))) ?_
          refine dq 40 rfl (fun _ g u h => LWo.move (e_int t5) u.1 (hn := .nil (zn g))) ?_
          refine dq 41 rfl (fun _ g u h => LWo.int _ u.1 rfl (sub_ck e34) (hn := .nil (zn g))) ?_
          refine dq 42 rfl (fun _ g u h => LWo.indexOC e35 u_Limpl_Pair s_impl_Pair u.1 u.2.1 h.1 (hn := .nil (zn g))) ?_
          refine dq 43 rfl (fun _ g u h => LWo.loadON ((e_impl_Pair x36)).cells e36 g_impl_Pair s_impl_Pair u.1 h.1 rfl rfl (hn := .nil (zn g))) ?_
          refine dq 44 rfl (fun _ g u h => LWo.ne_impl_Pair _ _ u.1 u.2.1 (hn := .nil (zn g))) ?_
          refine ⟨rfl, by kernel_rfl, hN31 _ ?_⟩
          refine LWP.cond_split rfl (fun h37 => ?_) (fun h37 => ?_)
          ·have h := bT h37 h
           refine LWP.seq_k fun N38 hN38 => ?_
           refine LWP.region (l := [_,_,_,_,_,_,_,_]) ?_
           refine LWo.move (.own 1000 0 (o1000).length) rfl (hn := ?_)
           refine LWo.move (e_int t3) rfl (hn := ?_)
           refine LWo.move (.own 1000 t4o t4n) rfl (hn := ?_)
           refine LWo.move (e_int t5) rfl (hn := ?_)
           refine bk h fun x39 e39 h => ?_
           refine LWo.indexOC e39 u_Limpl_Pair s_impl_Pair rfl rfl rfl (hn := ?_)
           refine bk h fun x40 e40 h => ?_
           refine LWo.loadON ((e_impl_Pair x40)).cells e40 g_impl_Pair s_impl_Pair rfl rfl rfl rfl (hn := ?_)
           refine bk h fun x41 e41 h => ?_
           refine LWo.indexO e41 rfl u_Limpl_Pair s_impl_Pair rfl rfl rfl (hn := ?_)
           refine bk h fun x42 e42 h => ?_
           refine lk h fun y43 e43 h => ?_
           refine LWo.storeO y43 e42 s_impl_Pair rfl rfl rfl rfl rfl rfl rfl (by rw [e43]; rfl) (hn := ?_)
           refine LWo.nil (hN38 _ ?_)
           refine LWP.region (l := [_,_,_]) ?_
           refine LWo.move (e_int t3) rfl (hn := ?_)
           refine bk h fun x44 e44 h => ?_
           refine LWo.int _ rfl rfl (add_ck e44) (hn := ?_)
           refine LWo.assign (e_int x44) rfl (hn := ?_)
           refine LWo.nil (hN30 (x44, t4o, t4n, t5, (o1000.set (t3).toNat y43)) _ ⟨(congrArg (LV.own 1000 0) List.length_set.symm), rfl, rfl, rfl, trivial⟩ ⟨rfl, trivial⟩ h)
          ·have h := bF h37 h
           refine LWP.skip (hN30 (t3, t4o, t4n, t5, o1000) _ ⟨rfl, rfl, rfl, rfl, trivial⟩ ⟨rfl, trivial⟩ h)
        ·have h := bF h29 h
         refine LWP.exit (hN23 (t3, o1000) _ ⟨rfl, rfl, trivial⟩ ⟨rfl, trivial⟩ h)
      ·have h := bF h20 h
       refine LWP.skip (hN13 (t3, o1000) _ ⟨rfl, rfl, trivial⟩ ⟨rfl, trivial⟩ h)
    ·have h := bF h12 h
     refine LWP.exit (hN6 o1000 _ ⟨rfl, trivial⟩ ⟨rfl, trivial⟩ h)

def m_impl_pairs (o0 : (List S_impl_Pair)) : Option (List S_impl_Pair) :=
  (m_slices_SortFunc_Limpl_Pair_impl_Pair_by_impl_Pair_order o0).bind fun x3 =>
  (lenQ x3.length o0.length ()).bind fun u4 =>
  (m_slices_Compact_Limpl_Pair_impl_Pair x3).bind fun x6 =>
  (m_impl_clone_impl_Pair x6).bind fun x7 =>
  some x7
theorem c_impl_pairs (o0 : (List S_impl_Pair)) (r : (List S_impl_Pair)) (h : m_impl_pairs o0 = some r) : Does Try.prog f_impl_pairs [.own 0 0 o0.length] [(0, (lob 2 e_impl_Pair o0))] (fun x hh => x = .nw 2 (r.map e_impl_Pair) false ∧ hh = []) := by
  refine Does.goG [0] F_impl_pairs rfl e_impl_pairs n_impl_pairs rfl (rvs := [.tmp 2]) rfl rfl ?_
  intro w0 ok0 lent ρ0
  refine LWP.rekey 0 0 1000 rfl rfl rfl rfl rfl rfl ?_
  refine LWP.tell [(0, (.own 1000 0 (o0).length))] [(1000, (lob 2 e_impl_Pair o0))] ⟨rfl, trivial⟩ ⟨rfl, trivial⟩ (by simp [hkeys]) ?_
  refine LWP.seq_k fun N1 hN1 => ?_
  refine LWP.region (l := [_]) ?_
  refine LWo.assign _ rfl (hn := ?_)
  refine LWo.ownNil 2 1002 2 rfl rfl rfl ?_
  refine LWo.known 2 (.own 1002 0 ([] : (List S_impl_Pair)).length) rfl ?_
  refine LWo.nil (hN1 _ ?_)
  refine LWP.seq_k fun N2 hN2 => ?_
  refine LWP.region (l := [_,_]) ?_
  refine LWo.move (.own 1000 0 (o0).length) rfl (hn := ?_)
  refine bk h fun x3 e3 h => ?_
  refine bk h fun u4 e4 h => ?_
  refine LWo.ucallM (e := e_impl_Pair) rfl rfl (k_slices_SortFunc_Limpl_Pair_impl_Pair_by_impl_Pair_order _ _ e3 1000) rfl rfl (some 4) rfl (hn := ?_)
  refine LWo.nil (hN2 _ ?_)
  refine LWP.seq_k fun N5 hN5 => ?_
  refine LWP.region (l := [_,_,_,_]) ?_
  refine LWo.move (.own 1000 0 (o0).length) rfl (hn := ?_)
  refine bk h fun x6 e6 h => ?_
  refine LWo.tcallN (e := e_impl_Pair) (e' := e_impl_Pair) 1006 rfl rfl (c_slices_Compact_Limpl_Pair_impl_Pair _ _ e6) (fun _ => rfl) rfl ((lenQ_some e4).1.symm) rfl rfl (hn := ?_)
  refine bk h fun x7 e7 h => ?_
  refine LWo.frzL (f := e_impl_Pair) (l := x6) [6] 1006 rfl rfl ⟨rfl, trivial⟩ ?_
  refine LWo.ncall (e := e_impl_Pair) 1007 rfl rfl (c_impl_clone_impl_Pair _ _ e7) (.same (.nil)) rfl (hn := ?_)
  refine LWo.assign (.own 1007 0 (x7).length) rfl (hn := ?_)
  refine LWo.nil (hN5 _ ?_)
  obtain rfl := Option.some.inj h
  refine LWP.ret (QG.mk (.inr rfl) (.cons (.tmp (x := (.own 1007 0 (x7).length)) rfl) (.nil)) (RetOK.one0 (.nwM rfl rfl) (by decide)) rfl rfl)

def m_impl_joined_j3 (o1005 : (List S_impl_Pair)) : Option (List S_impl_Pair) :=
  (m_impl_pairs o1005).bind fun x30 =>
  some x30
def m_impl_joined_j2 (k1 : (List S_impl_Pair) → (List S_impl_Pair) → Int → Int → (List S_impl_Pair) → Option (List S_impl_Pair)) (t1 : (List S_impl_Pair)) (t10 : (List S_impl_Pair)) (t11 : Int) (t12 : Int) (o1005 : (List S_impl_Pair)) : Option (List S_impl_Pair) :=
  (ckI (t12 + (1 : Int))).bind fun x28 =>
  k1 t1 t10 t11 x28 o1005
def m_impl_joined_j1 (k1 : (List S_impl_Pair) → (List S_impl_Pair) → Int → Int → (List S_impl_Pair) → Option (List S_impl_Pair)) (k2 : (List S_impl_Pair) → (List S_impl_Pair) → Int → Int → (List S_impl_Pair) → Int → Int → S_impl_Pair → (List S_impl_Pair) → Option (List S_impl_Pair)) (t1 : (List S_impl_Pair)) (t10 : (List S_impl_Pair)) (t11 : Int) (t12 : Int) (t16 : (List S_impl_Pair)) (t17 : Int) (t18 : Int) (o7 : S_impl_Pair) (o1005 : (List S_impl_Pair)) : Option (List S_impl_Pair) :=
  (ckI (t18 + (1 : Int))).bind fun x27 =>
  k2 t1 t10 t11 t12 t16 t17 x27 o7 o1005
def m_impl_joined_l2 (k1 : (List S_impl_Pair) → (List S_impl_Pair) → Int → Int → (List S_impl_Pair) → Option (List S_impl_Pair)) : Nat → (List S_impl_Pair) → (List S_impl_Pair) → Int → Int → (List S_impl_Pair) → Int → Int → S_impl_Pair → (List S_impl_Pair) → Option (List S_impl_Pair)
  | 0, _, _, _, _, _, _, _, _, _ => none
  | n2 + 1, t1, t10, t11, t12, t16, t17, t18, o7, o1005 =>
    bif decide (t18 < t17) then ((at? t16 t18).bind fun x22 =>
    lt (x22) fun y23 =>
    bif (o7.To == y23.From) then ((app? o1005 ([(⟨o7.From, y23.To⟩ : S_impl_Pair)] : (List S_impl_Pair))).bind fun x26 =>
      m_impl_joined_j1  k1 (m_impl_joined_l2  k1 n2) t1 t10 t11 t12 t16 t17 t18 o7 x26)
    else (m_impl_joined_j1  k1 (m_impl_joined_l2  k1 n2) t1 t10 t11 t12 t16 t17 t18 o7 o1005))
    else (m_impl_joined_j2  k1 t1 t10 t11 t12 o1005)
def m_impl_joined_l1 : Nat → (List S_impl_Pair) → (List S_impl_Pair) → Int → Int → (List S_impl_Pair) → Option (List S_impl_Pair)
  | 0, _, _, _, _, _ => none
  | n1 + 1, t1, t10, t11, t12, o1005 =>
    bif decide (t12 < t11) then ((at? t10 t12).bind fun x12 =>
    lt (x12) fun y13 =>
    m_impl_joined_l2  (m_impl_joined_l1  n1) (((t1.length : Int) - (0 : Int)).toNat + 1) t1 t10 t11 t12 t1 (t1.length : Int) (0 : Int) y13 o1005)
    else (m_impl_joined_j3  o1005)
def m_impl_joined (a0 : (List S_impl_Pair)) (a1 : (List S_impl_Pair)) : Option (List S_impl_Pair) :=
  m_impl_joined_l1  (((a0.length : Int) - (0 : Int)).toNat + 1) a1 a0 (a0.length : Int) (0 : Int) ([] : (List S_impl_Pair))
theorem c_impl_joined (a0 : (List S_impl_Pair)) (a1 : (List S_impl_Pair)) (r : (List S_impl_Pair)) (h : m_impl_joined a0 a1 = some r) : Ret Try.prog f_impl_joined [e_Limpl_Pair a0, e_Limpl_Pair a1] (.nw 2 (r.map e_impl_Pair) false) := by
  refine Does.goG [] F_impl_joined rfl e_impl_joined n_impl_joined rfl (rvs := [.tmp 4]) rfl rfl ?_
  intro w0 ok0 lent ρ0
  refine LWP.seq_k fun N1 hN1 => ?_
  refine LWP.region (l := [_]) ?_
  refine LWo.assign _ rfl (hn := ?_)
  refine LWo.ownNil 4 1004 2 rfl rfl rfl ?_
  refine LWo.known 4 (.own 1004 0 ([] : (List S_impl_Pair)).length) rfl ?_
  refine LWo.nil (hN1 _ ?_)
  refine LWP.seq_k fun N2 hN2 => ?_
  refine LWP.region (l := [_]) ?_
  refine LWo.assign _ rfl (hn := ?_)
  refine LWo.ownNil 5 1005 2 rfl rfl rfl ?_
  refine LWo.known 5 (.own 1005 0 ([] : (List S_impl_Pair)).length) rfl ?_
  refine LWo.nil (hN2 _ ?_)
  refine LWP.join (α := (List S_impl_Pair)) (fun z : (List S_impl_Pair) => [(5, (.own 1005 0 (z).length))]) (fun z : (List S_impl_Pair) => [(1005, (lob 2 e_impl_Pair z))]) (fun z : (List S_impl_Pair) => m_impl_joined_j3  z) r (fun _ => by simp [hkeys]) ?_ ?_
  ·rintro o1005 h
   replace h : m_impl_joined_j3  o1005 = some _ := h
   refine LWP.seq_k fun N29 hN29 => ?_
   refine LWP.region (l := [_,_,_]) ?_
   refine LWo.move (.own 1005 0 (o1005).length) rfl (hn := ?_)
   refine bk h fun x30 e30 h => ?_
   refine LWo.tcallN (e := e_impl_Pair) (e' := e_impl_Pair) 1038 rfl rfl (c_impl_pairs _ _ e30) (fun _ => rfl) rfl rfl rfl rfl (hn := ?_)
   refine LWo.assign (.own 1038 0 (x30).length) rfl (hn := ?_)
   refine LWo.nil (hN29 _ ?_)
   obtain rfl := Option.some.inj h
   refine LWP.ret (QG.mk (.inr rfl) (.cons (.tmp (x := (.own 1038 0 (x30).length)) rfl) (.nil)) (RetOK.one0 (.nwM rfl rfl) (by decide)) rfl rfl)
  ·intro N3 hN3
   refine LWP.seq_k fun N4 hN4 => ?_
   refine LWP.region (l := [_,_,_]) ?_
   refine LWo.move (e_Limpl_Pair a0) rfl (hn := ?_)
   refine LWo.lenM (f := e_impl_Pair) (l := a0) u_Limpl_Pair rfl (hn := ?_)
   refine LWo.move (e_int (0 : Int)) rfl (hn := ?_)
   refine LWo.nil (hN4 _ ?_)
   refine LWP.block ?_
   refine LWP.loopM (α := (List S_impl_Pair) × (List S_impl_Pair) × Int × Int × (List S_impl_Pair)) (fun z : (List S_impl_Pair) × (List S_impl_Pair) × Int × Int × (List S_impl_Pair) => [(1, (e_Limpl_Pair z.1)), (5, (.own 1005 0 (z.2.2.2.2).length)), (10, (e_Limpl_Pair z.2.1)), (11, (e_int z.2.2.1)), (12, (e_int z.2.2.2.1))]) (fun z : (List S_impl_Pair) × (List S_impl_Pair) × Int × Int × (List S_impl_Pair) => [(1005, (lob 2 e_impl_Pair z.2.2.2.2))]) (fun n1 (z : (List S_impl_Pair) × (List S_impl_Pair) × Int × Int × (List S_impl_Pair)) => m_impl_joined_l1  n1 z.1 z.2.1 z.2.2.1 z.2.2.2.1 z.2.2.2.2) r _ (a1, a0, (a0.length : Int), (0 : Int), ([] : (List S_impl_Pair))) h (fun _ => rfl) (fun _ => by simp [hkeys]) ⟨rfl, rfl, rfl, rfl, rfl, trivial⟩ ⟨rfl, trivial⟩ ?_
   rintro n1 ⟨t1, t10, t11, t12, o1005⟩ h N5 hN5
   replace h : m_impl_joined_l1  (n1 + 1) t1 t10 t11 t12 o1005 = some _ := h
   refine LWP.seq_k fun N7 hN7 => ?_
   refine LWP.region (l := [_]) ?_
   refine LWo.int _ rfl rfl rfl (hn := ?_)
   refine LWo.nil (hN7 _ ?_)
   refine LWP.seq_k fun N8 hN8 => ?_
   refine LWP.cond_split rfl (fun h9 => ?_) (fun h9 => ?_)
   ·have h := bT h9 h
    refine LWP.skip (hN8 _ ?_)
    refine LWP.join (α := (List S_impl_Pair) × (List S_impl_Pair) × Int × Int × (List S_impl_Pair)) (fun z : (List S_impl_Pair) × (List S_impl_Pair) × Int × Int × (List S_impl_Pair) => [(1, (e_Limpl_Pair z.1)), (5, (.own 1005 0 (z.2.2.2.2).length)), (10, (e_Limpl_Pair z.2.1)), (11, (e_int z.2.2.1)), (12, (e_int z.2.2.2.1))]) (fun z : (List S_impl_Pair) × (List S_impl_Pair) × Int × Int × (List S_impl_Pair) => [(1005, (lob 2 e_impl_Pair z.2.2.2.2))]) (fun z : (List S_impl_Pair) × (List S_impl_Pair) × Int × Int × (List S_impl_Pair) => m_impl_joined_j2  (m_impl_joined_l1  n1) z.1 z.2.1 z.2.2.1 z.2.2.2.1 z.2.2.2.2) r (fun _ => by simp [hkeys]) ?_ ?_
    ·rintro ⟨t1, t10, t11, t12, o1005⟩ h
     replace h : m_impl_joined_j2  (m_impl_joined_l1  n1) t1 t10 t11 t12 o1005 = some _ := h
     refine LWP.region (l := [_,_]) ?_
     refine bk h fun x28 e28 h => ?_
     refine LWo.int _ rfl rfl (add_ck e28) (hn := ?_)
     refine LWo.move (e_int x28) rfl (hn := ?_)
     refine LWo.nil (hN5 (t1, t10, t11, x28, o1005) _ ⟨rfl, rfl, rfl, rfl, rfl, trivial⟩ ⟨rfl, trivial⟩ h)
    ·intro N10 hN10
     refine LWP.block ?_
     refine LWP.seq_k fun N11 hN11 => ?_
     refine LWP.region (l := [_,_,_,_]) ?_
     refine bk h fun x12 e12 h => ?_
     refine LWo.indexM (f := e_impl_Pair) e12 u_Limpl_Pair s_impl_Pair rfl rfl (hn := ?_)
     refine LWo.loadN ((e_impl_Pair x12)).cells g_impl_Pair s_impl_Pair rfl (Nat.le_of_ble_eq_true rfl) rfl (hn := ?_)
     refine LWo.alloc_impl_Pair 7 rfl (hn := ?_)
     refine lk h fun y13 e13 h => ?_
     refine LWo.storeW (y := (⟨(0 : Int), (0 : Int)⟩ : S_impl_Pair)) y13 s_impl_Pair rfl rfl rfl rfl rfl rfl (by rw [e13]; exact .refl) rfl (hn := ?_)
     refine LWo.nil (hN11 _ ?_)
     refine LWP.seq_k fun N14 hN14 => ?_
     refine LWP.region (l := [_,_,_]) ?_
     refine LWo.move (e_Limpl_Pair t1) rfl (hn := ?_)
     refine LWo.lenM (f := e_impl_Pair) (l := t1) u_Limpl_Pair rfl (hn := ?_)
     refine LWo.move (e_int (0 : Int)) rfl (hn := ?_)
     refine LWo.nil (hN14 _ ?_)
     refine LWP.block ?_
     refine LWP.loopM (α := (List S_impl_Pair) × (List S_impl_Pair) × Int × Int × (List S_impl_Pair) × Int × Int × S_impl_Pair × (List S_impl_Pair)) (fun z : (List S_impl_Pair) × (List S_impl_Pair) × Int × Int × (List S_impl_Pair) × Int × Int × S_impl_Pair × (List S_impl_Pair) => [(1, (e_Limpl_Pair z.1)), (5, (.own 1005 0 (z.2.2.2.2.2.2.2.2).length)), (7, (.ptr 7 0 0)), (10, (e_Limpl_Pair z.2.1)), (11, (e_int z.2.2.1)), (12, (e_int z.2.2.2.1)), (16, (e_Limpl_Pair z.2.2.2.2.1)), (17, (e_int z.2.2.2.2.2.1)), (18, (e_int z.2.2.2.2.2.2.1))]) (fun z : (List S_impl_Pair) × (List S_impl_Pair) × Int × Int × (List S_impl_Pair) × Int × Int × S_impl_Pair × (List S_impl_Pair) => [(7, (vob 2 e_impl_Pair z.2.2.2.2.2.2.2.1)), (1005, (lob 2 e_impl_Pair z.2.2.2.2.2.2.2.2))]) (fun n2 (z : (List S_impl_Pair) × (List S_impl_Pair) × Int × Int × (List S_impl_Pair) × Int × Int × S_impl_Pair × (List S_impl_Pair)) => m_impl_joined_l2  (m_impl_joined_l1  n1) n2 z.1 z.2.1 z.2.2.1 z.2.2.2.1 z.2.2.2.2.1 z.2.2.2.2.2.1 z.2.2.2.2.2.2.1 z.2.2.2.2.2.2.2.1 z.2.2.2.2.2.2.2.2) r _ (t1, t10, t11, t12, t1, (t1.length : Int), (0 : Int), y13, o1005) h (fun _ => rfl) (fun _ => by simp [hkeys]) ⟨rfl, rfl, rfl, rfl, rfl, rfl, rfl, rfl, rfl, trivial⟩ ⟨rfl, rfl, trivial⟩ ?_
     rintro n2 ⟨t1, t10, t11, t12, t16, t17, t18, o7, o1005⟩ h N15 hN15
     replace h : m_impl_joined_l2  (m_impl_joined_l1  n1) (n2 + 1) t1 t10 t11 t12 t16 t17 t18 o7 o1005 = some _ := h
     refine LWP.seq_k fun N17 hN17 => ?_
     refine LWP.region (l := [_]) ?_
     refine LWo.int _ rfl rfl rfl (hn := ?_)
     refine LWo.nil (hN17 _ ?_)
     refine LWP.seq_k fun N18 hN18 => ?_
     refine LWP.cond_split rfl (fun h19 => ?_) (fun h19 => ?_)
     ·have h := bT h19 h
      refine LWP.skip (hN18 _ ?_)
      refine LWP.join (α := (List S_impl_Pair) × (List S_impl_Pair) × Int × Int × (List S_impl_Pair) × Int × Int × S_impl_Pair × (List S_impl_Pair)) (fun z : (List S_impl_Pair) × (List S_impl_Pair) × Int × Int × (List S_impl_Pair) × Int × Int × S_impl_Pair × (List S_impl_Pair) => [(1, (e_Limpl_Pair z.1)), (5, (.own 1005 0 (z.2.2.2.2.2.2.2.2).length)), (7, (.ptr 7 0 0)), (10, (e_Limpl_Pair z.2.1)), (11, (e_int z.2.2.1)), (12, (e_int z.2.2.2.1)), (16, (e_Limpl_Pair z.2.2.2.2.1)), (17, (e_int z.2.2.2.2.2.1)), (18, (e_int z.2.2.2.2.2.2.1))]) (fun z : (List S_impl_Pair) × (List S_impl_Pair) × Int × Int × (List S_impl_Pair) × Int × Int × S_impl_Pair × (List S_impl_Pair) => [(7, (vob 2 e_impl_Pair z.2.2.2.2.2.2.2.1)), (1005, (lob 2 e_impl_Pair z.2.2.2.2.2.2.2.2))]) (fun z : (List S_impl_Pair) × (List S_impl_Pair) × Int × Int × (List S_impl_Pair) × Int × Int × S_impl_Pair × (List S_impl_Pair) => m_impl_joined_j1  (m_impl_joined_l1  n1) (m_impl_joined_l2  (m_impl_joined_l1  n1) n2) z.1 z.2.1 z.2.2.1 z.2.2.2.1 z.2.2.2.2.1 z.2.2.2.2.2.1 z.2.2.2.2.2.2.1 z.2.2.2.2.2.2.2.1 z.2.2.2.2.2.2.2.2) r (fun _ => by simp [hkeys]) ?_ ?_
      ·rintro ⟨t1, t10, t11, t12, t16, t17, t18, o7, o1005⟩ h
       replace h : m_impl_joined_j1  (m_impl_joined_l1  n1) (m_impl_joined_l2  (m_impl_joined_l1  n1) n2) t1 t10 t11 t12 t16 t17 t18 o7 o1005 = some _ := h
       refine LWP.region (l := [_,_]) ?_
       refine bk h fun x27 e27 h => ?_
       refine LWo.int _ rfl rfl (add_ck e27) (hn := ?_)
       refine LWo.move (e_int x27) rfl (hn := ?_)
       refine LWo.nil (hN15 (t1, t10, t11, t12, t16, t17, x27, o7, o1005) _ ⟨rfl, rfl, rfl, rfl, rfl, rfl, rfl, rfl, rfl, trivial⟩ ⟨rfl, rfl, trivial⟩ h)
      ·intro N20 hN20
       refine LWP.block ?_
       refine LWP.seq_k fun N21 hN21 => ?_
       refine LWP.region (l := [_,_,_,_]) ?_
       refine bk h fun x22 e22 h => ?_
       refine LWo.indexM (f := e_impl_Pair) e22 u_Limpl_Pair s_impl_Pair rfl rfl (hn := ?_)
       refine LWo.loadN ((e_impl_Pair x22)).cells g_impl_Pair s_impl_Pair rfl (Nat.le_of_ble_eq_true rfl) rfl (hn := ?_)
       refine LWo.alloc_impl_Pair 9 rfl (hn := ?_)
       refine lk h fun y23 e23 h => ?_
       refine LWo.storeW (y := (⟨(0 : Int), (0 : Int)⟩ : S_impl_Pair)) y23 s_impl_Pair rfl rfl rfl rfl rfl rfl (by rw [e23]; exact .refl) rfl (hn := ?_)
       refine LWo.nil (hN21 _ ?_)
       refine LWP.seq_k fun N24 hN24 => ?_
       refine LWP.region (l := [_,_,_,_,_]) ?_
       refine LWo.fieldPtr u_impl_Pair rfl s_int rfl rfl (hn := ?_)
       refine LWo.loadV1 (e_int o7.To)  g_int rfl rfl rfl (hn := ?_)
       refine LWo.fieldPtr u_impl_Pair rfl s_int rfl rfl (hn := ?_)
       refine LWo.loadV1 (e_int y23.From)  g_int rfl rfl rfl (hn := ?_)
       refine LWo.int _ rfl rfl rfl (hn := ?_)
       refine LWo.nil (hN24 _ ?_)
       refine LWP.cond_split rfl (fun h25 => ?_) (fun h25 => ?_)
       ·have h := bT h25 h
        refine LWP.region (l := [_,_,_,_,_,_,_,_,_]) ?_
        refine LWo.move (.own 1005 0 (o1005).length) rfl (hn := ?_)
        refine LWo.fieldPtr u_impl_Pair rfl s_int rfl rfl (hn := ?_)
        refine LWo.loadV1 (e_int o7.From)  g_int rfl rfl rfl (hn := ?_)
        refine LWo.fieldPtr u_impl_Pair rfl s_int rfl rfl (hn := ?_)
        refine LWo.loadV1 (e_int y23.To)  g_int rfl rfl rfl (hn := ?_)
        refine LWo.build_impl_Pair (parts := [_, _]) (⟨o7.From, y23.To⟩ : S_impl_Pair) rfl rfl rfl .refl (hn := ?_)
        refine LWo.lit (ops := [_]) [(e_impl_Pair (⟨o7.From, y23.To⟩ : S_impl_Pair))] u_Limpl_Pair s_impl_Pair z_impl_Pair rfl rfl rfl rfl rfl rfl (hn := ?_)
        refine bk h fun x26 e26 h => ?_
        refine LWo.appendM (f := e_impl_Pair) e26 rfl u_Limpl_Pair u_Limpl_Pair (fun _ h => by cases h) s_impl_Pair i_impl_Pair rfl rfl rfl (.sl rfl) rfl rfl (hn := ?_)
        refine LWo.assign (.own 1005 0 (x26).length) rfl (hn := ?_)
        refine LWo.nil (hN20 (t1, t10, t11, t12, t16, t17, t18, o7, x26) _ ⟨rfl, rfl, rfl, rfl, rfl, rfl, rfl, rfl, rfl, trivial⟩ ⟨rfl, rfl, trivial⟩ h)
       ·have h := bF h25 h
        refine LWP.skip (hN20 (t1, t10, t11, t12, t16, t17, t18, o7, o1005) _ ⟨rfl, rfl, rfl, rfl, rfl, rfl, rfl, rfl, rfl, trivial⟩ ⟨rfl, rfl, trivial⟩ h)
     ·have h := bF h19 h
      refine LWP.exit (hN10 (t1, t10, t11, t12, o1005) _ ⟨rfl, rfl, rfl, rfl, rfl, trivial⟩ ⟨rfl, trivial⟩ h)
   ·have h := bF h9 h
    refine LWP.exit (hN3 o1005 _ ⟨rfl, trivial⟩ ⟨rfl, trivial⟩ h)

def m_slices_Index_Limpl_Pair_impl_Pair_j1  : Option Int :=
  some (-1 : Int)
def m_slices_Index_Limpl_Pair_impl_Pair_l1 : Nat → (List S_impl_Pair) → S_impl_Pair → Int → Int → Option Int
  | 0, _, _, _, _ => none
  | n1 + 1, t0, t3, t7, t8 =>
    bif decide (t8 < t7) then ((at? t0 t8).bind fun x12 =>
    bif (decide (t3 = x12)) then (some t8)
    else ((ckI (t8 + (1 : Int))).bind fun x15 =>
    (m_slices_Index_Limpl_Pair_impl_Pair_l1  n1) t0 t3 t7 x15))
    else (m_slices_Index_Limpl_Pair_impl_Pair_j1  )
def m_slices_Index_Limpl_Pair_impl_Pair (a0 : (List S_impl_Pair)) (a1 : S_impl_Pair) : Option Int :=
  m_slices_Index_Limpl_Pair_impl_Pair_l1  (((a0.length : Int) - (0 : Int)).toNat + 1) a0 a1 (a0.length : Int) (0 : Int)
theorem c_slices_Index_Limpl_Pair_impl_Pair (a0 : (List S_impl_Pair)) (a1 : S_impl_Pair) (r : Int) (h : m_slices_Index_Limpl_Pair_impl_Pair a0 a1 = some r) : Ret Try.prog f_slices_Index_Limpl_Pair_impl_Pair [e_Limpl_Pair a0, e_impl_Pair a1] (e_int r) := by
  refine Does.goG [] F_slices_Index_Limpl_Pair_impl_Pair rfl e_slices_Index_Limpl_Pair_impl_Pair n_slices_Index_Limpl_Pair_impl_Pair rfl (rvs := [.tmp 4]) rfl rfl ?_
  intro w0 ok0 lent ρ0
  refine LWP.seq_k fun N1 hN1 => ?_
  refine LWP.region (l := [_,_]) ?_
  refine LWo.boxF (e_impl_Pair a1) rfl rfl rfl (hn := ?_)
  refine LWo.assign (e_int (0 : Int)) rfl (hn := ?_)
  refine LWo.nil (hN1 _ ?_)
  refine LWP.join (α := Unit) (fun z : Unit => []) (fun z : Unit => []) (fun z : Unit => m_slices_Index_Limpl_Pair_impl_Pair_j1  ) r (fun _ => by simp [hkeys]) ?_ ?_
  ·rintro _ h
   replace h : m_slices_Index_Limpl_Pair_impl_Pair_j1   = some _ := h
   refine LWP.seq_k fun N16 hN16 => ?_
   refine LWP.region (l := [_]) ?_
   refine LWo.assign (e_int (-1 : Int)) rfl (hn := ?_)
   refine LWo.nil (hN16 _ ?_)
   obtain rfl := Option.some.inj h
   refine LWP.ret (QG.mk (.inr rfl) (.cons (.tmp (x := (e_int (-1 : Int))) rfl) (.nil)) (RetOK.one0 (.pure rfl) (by decide)) rfl rfl)
  ·intro N2 hN2
   refine LWP.seq_k fun N3 hN3 => ?_
   refine LWP.region (l := [_,_,_]) ?_
   refine LWo.move (e_Limpl_Pair a0) rfl (hn := ?_)
   refine LWo.lenM (f := e_impl_Pair) (l := a0) u_Limpl_Pair rfl (hn := ?_)
   refine LWo.move (e_int (0 : Int)) rfl (hn := ?_)
   refine LWo.nil (hN3 _ ?_)
   refine LWP.block ?_
   refine LWP.loopM (α := (List S_impl_Pair) × S_impl_Pair × Int × Int) (fun z : (List S_impl_Pair) × S_impl_Pair × Int × Int => [(0, (e_Limpl_Pair z.1)), (3, (.fp (e_impl_Pair z.2.1).cells)), (7, (e_int z.2.2.1)), (8, (e_int z.2.2.2))]) (fun z : (List S_impl_Pair) × S_impl_Pair × Int × Int => []) (fun n1 (z : (List S_impl_Pair) × S_impl_Pair × Int × Int) => m_slices_Index_Limpl_Pair_impl_Pair_l1  n1 z.1 z.2.1 z.2.2.1 z.2.2.2) r _ (a0, a1, (a0.length : Int), (0 : Int)) h (fun _ => rfl) (fun _ => by simp [hkeys]) ⟨rfl, rfl, rfl, rfl, trivial⟩ trivial ?_
   rintro n1 ⟨t0, t3, t7, t8⟩ h N4 hN4
   replace h : m_slices_Index_Limpl_Pair_impl_Pair_l1  (n1 + 1) t0 t3 t7 t8 = some _ := h
   refine LWP.seq_k fun N6 hN6 => ?_
   refine LWP.region (l := [_]) ?_
   refine LWo.int _ rfl rfl rfl (hn := ?_)
   refine LWo.nil (hN6 _ ?_)
   refine LWP.seq_k fun N7 hN7 => ?_
   refine LWP.cond_split rfl (fun h8 => ?_) (fun h8 => ?_)
   ·have h := bT h8 h
    refine LWP.skip (hN7 _ ?_)
    refine LWP.seq_k fun N9 hN9 => ?_
    refine LWP.block ?_
    refine LWP.seq_k fun N10 hN10 => ?_
    refine LWP.region (l := [_,_]) ?_
    refine LWo.move (e_int t8) rfl (hn := ?_)
    refine LWo.assign (e_int t8) rfl (hn := ?_)
    refine LWo.nil (hN10 _ ?_)
    refine LWP.seq_k fun N11 hN11 => ?_
    refine bk h fun x12 e12 h => ?_
    refine LWP.drawF (l := [_,_,_,_,_,_]) [] [0, 3, 5, 7, 8] [([3], []), ([0], []), ([5], []), ([12, 13], []), ([14], []), ([11, 15], [])] [0, 3, 5, 7, 8, 16] [] mixed (by kernel_rfl) rfl (by decide) ?_
    refine dq 11 rfl (fun _ g u h => LWo.loadN ((e_impl_Pair t3)).cells g_impl_Pair s_impl_Pair u.1 (Nat.le_of_ble_eq_true rfl) rfl (hn := .nil (zn g))) ?_
    refine dq 12 rfl (fun _ g u h => LWo.move (e_Limpl_Pair t0) u.1 (hn := .nil (zn g))) ?_
    refine dq 13 rfl (fun _ g u h => LWo.move (e_int t8) u.1 (hn := .nil (zn g))) ?_
    refine dq 14 rfl (fun _ g u h => LWo.indexM (f := e_impl_Pair) e12 u_Limpl_Pair s_impl_Pair u.1 u.2.1 (hn := .nil (zn g))) ?_
    refine dq 15 rfl (fun _ g u h => LWo.loadN ((e_impl_Pair x12)).cells g_impl_Pair s_impl_Pair u.1 (Nat.le_of_ble_eq_true rfl) rfl (hn := .nil (zn g))) ?_
    refine dq 16 rfl (fun _ g u h => LWo.eq_impl_Pair _ _ u.1 u.2.1 (hn := .nil (zn g))) ?_
    refine ⟨rfl, by kernel_rfl, hN11 _ ?_⟩
    refine LWP.cond_split rfl (fun h13 => ?_) (fun h13 => ?_)
    ·have h := bT h13 h
     refine LWP.seq_k fun N14 hN14 => ?_
     refine LWP.region (l := [_,_]) ?_
     refine LWo.move (e_int t8) rfl (hn := ?_)
     refine LWo.assign (e_int t8) rfl (hn := ?_)
     refine LWo.nil (hN14 _ ?_)
     obtain rfl := Option.some.inj h
     refine LWP.ret (QG.mk (.inr rfl) (.cons (.tmp (x := (e_int t8)) rfl) (.nil)) (RetOK.one0 (.pure rfl) (by decide)) rfl rfl)
    ·have h := bF h13 h
     refine LWP.skip (hN9 _ ?_)
     refine LWP.region (l := [_,_]) ?_
     refine bk h fun x15 e15 h => ?_
     refine LWo.int _ rfl rfl (add_ck e15) (hn := ?_)
     refine LWo.move (e_int x15) rfl (hn := ?_)
     refine LWo.nil (hN4 (t0, t3, t7, x15) _ ⟨rfl, rfl, rfl, rfl, trivial⟩ trivial h)
   ·have h := bF h8 h
    refine LWP.exit (hN2 () _ trivial trivial h)

def m_slices_Contains_Limpl_Pair_impl_Pair (a0 : (List S_impl_Pair)) (a1 : S_impl_Pair) : Option Bool :=
  (m_slices_Index_Limpl_Pair_impl_Pair a0 a1).bind fun x3 =>
  some (decide (x3 ≥ (0 : Int)))
theorem c_slices_Contains_Limpl_Pair_impl_Pair (a0 : (List S_impl_Pair)) (a1 : S_impl_Pair) (r : Bool) (h : m_slices_Contains_Limpl_Pair_impl_Pair a0 a1 = some r) : Ret Try.prog f_slices_Contains_Limpl_Pair_impl_Pair [e_Limpl_Pair a0, e_impl_Pair a1] (e_bool r) := by
  refine Does.goG [] F_slices_Contains_Limpl_Pair_impl_Pair rfl e_slices_Contains_Limpl_Pair_impl_Pair n_slices_Contains_Limpl_Pair_impl_Pair rfl (rvs := [.tmp 4]) rfl rfl ?_
  intro w0 ok0 lent ρ0
  refine LWP.seq_k fun N1 hN1 => ?_
  refine LWP.region (l := [_,_]) ?_
  refine LWo.boxF (e_impl_Pair a1) rfl rfl rfl (hn := ?_)
  refine LWo.assign (e_bool false) rfl (hn := ?_)
  refine LWo.nil (hN1 _ ?_)
  refine LWP.seq_k fun N2 hN2 => ?_
  refine LWP.region (l := [_,_,_,_,_]) ?_
  refine LWo.move (e_Limpl_Pair a0) rfl (hn := ?_)
  refine LWo.loadN ((e_impl_Pair a1)).cells g_impl_Pair s_impl_Pair rfl (Nat.le_of_ble_eq_true rfl) rfl (hn := ?_)
  refine bk h fun x3 e3 h => ?_
  refine LWo.vcall rfl rfl (c_slices_Index_Limpl_Pair_impl_Pair _ _ _ e3) (.same (.same (.nil))) (hn := ?_)
  refine LWo.int _ rfl rfl rfl (hn := ?_)
  refine LWo.assign (e_bool (decide (x3 ≥ (0 : Int)))) rfl (hn := ?_)
  refine LWo.nil (hN2 _ ?_)
  obtain rfl := Option.some.inj h
  refine LWP.ret (QG.mk (.inr rfl) (.cons (.tmp (x := (e_bool (decide (x3 ≥ (0 : Int))))) rfl) (.nil)) (RetOK.one0 (.pure rfl) (by decide)) rfl rfl)

def m_impl_ClosureNew_1 (a0 : S_impl_Pair) (a1 : (List S_impl_Pair)) : Option Bool :=
  (m_slices_Contains_Limpl_Pair_impl_Pair a1 a0).bind fun x3 =>
  some x3
theorem c_impl_ClosureNew_1 (a0 : S_impl_Pair) (a1 : (List S_impl_Pair)) (r : Bool) (h : m_impl_ClosureNew_1 a0 a1 = some r) : Ret Try.prog f_impl_ClosureNew_1 [e_impl_Pair a0, .fp (e_Limpl_Pair a1).cells] (e_bool r) := by
  refine Does.goG [] F_impl_ClosureNew_1 rfl e_impl_ClosureNew_1 n_impl_ClosureNew_1 rfl (rvs := [.tmp 3]) rfl rfl ?_
  intro w0 ok0 lent ρ0
  refine LWP.seq_k fun N1 hN1 => ?_
  refine LWP.region (l := [_,_]) ?_
  refine LWo.boxF (e_impl_Pair a0) rfl rfl rfl (hn := ?_)
  refine LWo.assign (e_bool false) rfl (hn := ?_)
  refine LWo.nil (hN1 _ ?_)
  refine LWP.seq_k fun N2 hN2 => ?_
  refine LWP.region (l := [_,_,_,_]) ?_
  refine LWo.load1 (c := (e_Limpl_Pair a1)) g_Limpl_Pair rfl (hn := ?_)
  refine LWo.loadN ((e_impl_Pair a0)).cells g_impl_Pair s_impl_Pair rfl (Nat.le_of_ble_eq_true rfl) rfl (hn := ?_)
  refine bk h fun x3 e3 h => ?_
  refine LWo.vcall rfl rfl (c_slices_Contains_Limpl_Pair_impl_Pair _ _ _ e3) (.same (.same (.nil))) (hn := ?_)
  refine LWo.assign (e_bool x3) rfl (hn := ?_)
  refine LWo.nil (hN2 _ ?_)
  obtain rfl := Option.some.inj h
  refine LWP.ret (QG.mk (.inr rfl) (.cons (.tmp (x := (e_bool x3)) rfl) (.nil)) (RetOK.one0 (.pure rfl) (by decide)) rfl rfl)

def m_slices_IndexFunc_Limpl_Pair_impl_Pair_j1 (p1 : S_impl_Pair → Option Bool)  : Option Int :=
  some (-1 : Int)
def m_slices_IndexFunc_Limpl_Pair_impl_Pair_l1 (p1 : S_impl_Pair → Option Bool) : Nat → (List S_impl_Pair) → Int → Int → Option Int
  | 0, _, _, _ => none
  | n1 + 1, t0, t7, t8 =>
    bif decide (t8 < t7) then ((at? t0 t8).bind fun x12 =>
    (p1 x12).bind fun x13 =>
    bif x13 then (some t8)
    else ((ckI (t8 + (1 : Int))).bind fun x16 =>
    (m_slices_IndexFunc_Limpl_Pair_impl_Pair_l1 p1 n1) t0 t7 x16))
    else (m_slices_IndexFunc_Limpl_Pair_impl_Pair_j1 p1 )
def m_slices_IndexFunc_Limpl_Pair_impl_Pair (a0 : (List S_impl_Pair)) (p1 : S_impl_Pair → Option Bool) : Option Int :=
  m_slices_IndexFunc_Limpl_Pair_impl_Pair_l1 p1 (((a0.length : Int) - (0 : Int)).toNat + 1) a0 (a0.length : Int) (0 : Int)
theorem c_slices_IndexFunc_Limpl_Pair_impl_Pair (a0 : (List S_impl_Pair)) (p1 : S_impl_Pair → Option Bool) (f1 : FuncId) (q1 : List LV) (hq1 : ∀ k, LV.at?.atL k q1 = false) (hf1 : ∀ a0 v, p1 a0 = some v → Ret Try.prog f1 (e_impl_Pair a0 :: q1) (e_bool v)) (r : Int) (h : m_slices_IndexFunc_Limpl_Pair_impl_Pair a0 p1 = some r) : Ret Try.prog f_slices_IndexFunc_Limpl_Pair_impl_Pair [e_Limpl_Pair a0, .clo f1 q1] (e_int r) := by
  refine Does.goG [] F_slices_IndexFunc_Limpl_Pair_impl_Pair rfl e_slices_IndexFunc_Limpl_Pair_impl_Pair n_slices_IndexFunc_Limpl_Pair_impl_Pair rfl (rvs := [.tmp 4]) rfl rfl ?_
  intro w0 ok0 lent ρ0
  refine LWP.seq_k fun N1 hN1 => ?_
  refine LWP.region (l := [_]) ?_
  refine LWo.assign (e_int (0 : Int)) rfl (hn := ?_)
  refine LWo.nil (hN1 _ ?_)
  refine LWP.join (α := Unit) (fun z : Unit => []) (fun z : Unit => []) (fun z : Unit => m_slices_IndexFunc_Limpl_Pair_impl_Pair_j1 p1 ) r (fun _ => by simp [hkeys]) ?_ ?_
  ·rintro _ h
   replace h : m_slices_IndexFunc_Limpl_Pair_impl_Pair_j1 p1  = some _ := h
   refine LWP.seq_k fun N17 hN17 => ?_
   refine LWP.region (l := [_]) ?_
   refine LWo.assign (e_int (-1 : Int)) rfl (hn := ?_)
   refine LWo.nil (hN17 _ ?_)
   obtain rfl := Option.some.inj h
   refine LWP.ret (QG.mk (.inr rfl) (.cons (.tmp (x := (e_int (-1 : Int))) rfl) (.nil)) (RetOK.one0 (.pure rfl) (by decide)) rfl rfl)
  ·intro N2 hN2
   refine LWP.seq_k fun N3 hN3 => ?_
   refine LWP.region (l := [_,_,_]) ?_
   refine LWo.move (e_Limpl_Pair a0) rfl (hn := ?_)
   refine LWo.lenM (f := e_impl_Pair) (l := a0) u_Limpl_Pair rfl (hn := ?_)
   refine LWo.move (e_int (0 : Int)) rfl (hn := ?_)
   refine LWo.nil (hN3 _ ?_)
   refine LWP.block ?_
   refine LWP.loopM (α := (List S_impl_Pair) × Int × Int) (fun z : (List S_impl_Pair) × Int × Int => [(0, (e_Limpl_Pair z.1)), (1, (.clo f1 q1)), (7, (e_int z.2.1)), (8, (e_int z.2.2))]) (fun z : (List S_impl_Pair) × Int × Int => []) (fun n1 (z : (List S_impl_Pair) × Int × Int) => m_slices_IndexFunc_Limpl_Pair_impl_Pair_l1 p1 n1 z.1 z.2.1 z.2.2) r _ (a0, (a0.length : Int), (0 : Int)) h (fun _ => rfl) (fun _ => by simp [hkeys]) ⟨rfl, rfl, rfl, rfl, trivial⟩ trivial ?_
   rintro n1 ⟨t0, t7, t8⟩ h N4 hN4
   replace h : m_slices_IndexFunc_Limpl_Pair_impl_Pair_l1 p1 (n1 + 1) t0 t7 t8 = some _ := h
   refine LWP.seq_k fun N6 hN6 => ?_
   refine LWP.region (l := [_]) ?_
   refine LWo.int _ rfl rfl rfl (hn := ?_)
   refine LWo.nil (hN6 _ ?_)
   refine LWP.seq_k fun N7 hN7 => ?_
   refine LWP.cond_split rfl (fun h8 => ?_) (fun h8 => ?_)
   ·have h := bT h8 h
    refine LWP.skip (hN7 _ ?_)
    refine LWP.seq_k fun N9 hN9 => ?_
    refine LWP.block ?_
    refine LWP.seq_k fun N10 hN10 => ?_
    refine LWP.region (l := [_,_]) ?_
    refine LWo.move (e_int t8) rfl (hn := ?_)
    refine LWo.assign (e_int t8) rfl (hn := ?_)
    refine LWo.nil (hN10 _ ?_)
    refine LWP.seq_k fun N11 hN11 => ?_
    refine LWP.region (l := [_,_,_,_,_,_]) ?_
    refine LWo.move (.clo f1 q1) rfl (hn := ?_)
    refine LWo.move (e_Limpl_Pair t0) rfl (hn := ?_)
    refine LWo.move (e_int t8) rfl (hn := ?_)
    refine bk h fun x12 e12 h => ?_
    refine LWo.indexM (f := e_impl_Pair) e12 u_Limpl_Pair s_impl_Pair rfl rfl (hn := ?_)
    refine LWo.loadN ((e_impl_Pair x12)).cells g_impl_Pair s_impl_Pair rfl (Nat.le_of_ble_eq_true rfl) rfl (hn := ?_)
    refine bk h fun x13 e13 h => ?_
    refine LWo.vcall rfl rfl (hf1 _ _ e13) .refl (hn := ?_)
    refine LWo.nil (hN11 _ ?_)
    refine LWP.cond_split rfl (fun h14 => ?_) (fun h14 => ?_)
    ·have h := bT h14 h
     refine LWP.seq_k fun N15 hN15 => ?_
     refine LWP.region (l := [_,_]) ?_
     refine LWo.move (e_int t8) rfl (hn := ?_)
     refine LWo.assign (e_int t8) rfl (hn := ?_)
     refine LWo.nil (hN15 _ ?_)
     obtain rfl := Option.some.inj h
     refine LWP.ret (QG.mk (.inr rfl) (.cons (.tmp (x := (e_int t8)) rfl) (.nil)) (RetOK.one0 (.pure rfl) (by decide)) rfl rfl)
    ·have h := bF h14 h
     refine LWP.skip (hN9 _ ?_)
     refine LWP.region (l := [_,_]) ?_
     refine bk h fun x16 e16 h => ?_
     refine LWo.int _ rfl rfl (add_ck e16) (hn := ?_)
     refine LWo.move (e_int x16) rfl (hn := ?_)
     refine LWo.nil (hN4 (t0, t7, x16) _ ⟨rfl, rfl, rfl, rfl, trivial⟩ trivial h)
   ·have h := bF h8 h
    refine LWP.exit (hN2 () _ trivial trivial h)

def m_slices_DeleteFunc_Limpl_Pair_impl_Pair_j2 (p1 : S_impl_Pair → Option Bool) (t5 : Int) (o1000 : (List S_impl_Pair)) : Option (List S_impl_Pair) :=
  (rng? t5 ((o1000).length : Int) ((o1000).length)).bind fun u31 =>
  (rng? (0 : Int) t5 ((o1000).length)).bind fun u33 =>
  (leN ((t5).toNat) (o1000.take (0 + (t5).toNat)).length).bind fun u34 =>
  some ((o1000.take (0 + (t5).toNat)).take ((t5).toNat))
def m_slices_DeleteFunc_Limpl_Pair_impl_Pair_j1 (p1 : S_impl_Pair → Option Bool) (k1 : Int → Int → (List S_impl_Pair) → Option (List S_impl_Pair)) (t5 : Int) (t6 : Int) (o1000 : (List S_impl_Pair)) : Option (List S_impl_Pair) :=
  (ckI (t6 + (1 : Int))).bind fun x29 =>
  k1 t5 x29 o1000
def m_slices_DeleteFunc_Limpl_Pair_impl_Pair_l1 (p1 : S_impl_Pair → Option Bool) : Nat → Int → Int → (List S_impl_Pair) → Option (List S_impl_Pair)
  | 0, _, _, _ => none
  | n1 + 1, t5, t6, o1000 =>
    bif decide (t6 < (o1000.length : Int)) then ((at? o1000 t6).bind fun x18 =>
    (at? o1000 t6).bind fun x19 =>
    lt (x19) fun y20 =>
    (p1 y20).bind fun x22 =>
    bif (!x22) then ((at? o1000 t5).bind fun x25 =>
      (at? o1000 t5).bind fun x26 =>
      lt (y20) fun y27 =>
      (ckI (t5 + (1 : Int))).bind fun x28 =>
      m_slices_DeleteFunc_Limpl_Pair_impl_Pair_j1 p1 (m_slices_DeleteFunc_Limpl_Pair_impl_Pair_l1 p1 n1) x28 t6 (o1000.set (t5).toNat y27))
    else (m_slices_DeleteFunc_Limpl_Pair_impl_Pair_j1 p1 (m_slices_DeleteFunc_Limpl_Pair_impl_Pair_l1 p1 n1) t5 t6 o1000))
    else (m_slices_DeleteFunc_Limpl_Pair_impl_Pair_j2 p1 t5 o1000)
def m_slices_DeleteFunc_Limpl_Pair_impl_Pair (o0 : (List S_impl_Pair)) (p1 : S_impl_Pair → Option Bool) : Option (List S_impl_Pair) :=
  (m_slices_IndexFunc_Limpl_Pair_impl_Pair o0 p1).bind fun x3 =>
  bif (x3 == (-1 : Int)) then (some o0)
  else ((ckI (x3 + (1 : Int))).bind fun x10 =>
  m_slices_DeleteFunc_Limpl_Pair_impl_Pair_l1 p1 (((o0.length : Int) - x10).toNat + 1) x3 x10 o0)
theorem c_slices_DeleteFunc_Limpl_Pair_impl_Pair (o0 : (List S_impl_Pair)) (p1 : S_impl_Pair → Option Bool) (f1 : FuncId) (q1 : List LV) (hq1 : ∀ k, LV.at?.atL k q1 = false) (hf1 : ∀ a0 v, p1 a0 = some v → Ret Try.prog f1 (e_impl_Pair a0 :: q1) (e_bool v)) (r : (List S_impl_Pair)) (h : m_slices_DeleteFunc_Limpl_Pair_impl_Pair o0 p1 = some r) : Does Try.prog f_slices_DeleteFunc_Limpl_Pair_impl_Pair [.own 0 0 o0.length, .clo f1 q1] [(0, (lob 2 e_impl_Pair o0))] (fun x hh => x = .nw 2 (r.map e_impl_Pair) false ∧ hh = []) := by
  refine Does.goG [0] F_slices_DeleteFunc_Limpl_Pair_impl_Pair rfl e_slices_DeleteFunc_Limpl_Pair_impl_Pair n_slices_DeleteFunc_Limpl_Pair_impl_Pair rfl (rvs := [.tmp 4]) rfl rfl ?_
  intro w0 ok0 lent ρ0
  refine LWP.rekey 0 0 1000 rfl rfl rfl rfl rfl rfl ?_
  refine LWP.tell [(0, (.own 1000 0 (o0).length)), (1, (.clo f1 q1))] [(1000, (lob 2 e_impl_Pair o0))] ⟨rfl, get_kill_of (get_kill_of rfl (hq1 1000)) (hq1 0), trivial⟩ ⟨rfl, trivial⟩ (by simp [hkeys]) ?_
  refine LWP.seq_k fun N1 hN1 => ?_
  refine LWP.region (l := [_]) ?_
  refine LWo.assign _ rfl (hn := ?_)
  refine LWo.ownNil 4 1004 2 rfl rfl rfl ?_
  refine LWo.known 1 (.clo f1 q1) (get_kill_of rfl (hq1 1004)) ?_
  refine LWo.known 4 (.own 1004 0 ([] : (List S_impl_Pair)).length) rfl ?_
  refine LWo.nil (hN1 _ ?_)
  refine LWP.seq_k fun N2 hN2 => ?_
  refine LWP.region (l := [_,_,_,_]) ?_
  refine LWo.move (.own 1000 0 (o0).length) rfl (hn := ?_)
  refine LWo.move (.clo f1 q1) rfl (hn := ?_)
  refine bk h fun x3 e3 h => ?_
  refine LWo.wcall rfl rfl (c_slices_IndexFunc_Limpl_Pair_impl_Pair _ _ f1 q1 hq1 hf1 _ e3) (.viewM rfl rfl rfl (.same (.nil))) rfl (hn := ?_)
  refine LWo.assign (e_int x3) rfl (hn := ?_)
  refine LWo.nil (hN2 _ ?_)
  refine LWP.seq_k fun N4 hN4 => ?_
  refine LWP.seq_k fun N5 hN5 => ?_
  refine LWP.region (l := [_,_]) ?_
  refine LWo.move (e_int x3) rfl (hn := ?_)
  refine LWo.int _ rfl rfl rfl (hn := ?_)
  refine LWo.nil (hN5 _ ?_)
  refine LWP.cond_split rfl (fun h6 => ?_) (fun h6 => ?_)
  ·have h := bT h6 h
   refine LWP.seq_k fun N7 hN7 => ?_
   refine LWP.region (l := [_,_]) ?_
   refine LWo.move (.own 1000 0 (o0).length) rfl (hn := ?_)
   refine LWo.assign (.own 1000 0 (o0).length) rfl (hn := ?_)
   refine LWo.nil (hN7 _ ?_)
   obtain rfl := Option.some.inj h
   refine LWP.ret (QG.mk (.inr rfl) (.cons (.tmp (x := (.own 1000 0 (o0).length)) rfl) (.nil)) (RetOK.one0 (.nwM rfl rfl) (by decide)) rfl rfl)
  ·have h := bF h6 h
   refine LWP.skip (hN4 _ ?_)
   refine LWP.join (α := Int × (List S_impl_Pair)) (fun z : Int × (List S_impl_Pair) => [(0, (.own 1000 0 (z.2).length)), (5, (e_int z.1))]) (fun z : Int × (List S_impl_Pair) => [(1000, (lob 2 e_impl_Pair z.2))]) (fun z : Int × (List S_impl_Pair) => m_slices_DeleteFunc_Limpl_Pair_impl_Pair_j2 p1 z.1 z.2) r (fun _ => by simp [hkeys]) ?_ ?_
   ·rintro ⟨t5, o1000⟩ h
    replace h : m_slices_DeleteFunc_Limpl_Pair_impl_Pair_j2 p1 t5 o1000 = some _ := h
    refine LWP.seq_k fun N30 hN30 => ?_
    refine LWP.region (l := [_,_,_,_]) ?_
    refine LWo.move (.own 1000 0 (o1000).length) rfl (hn := ?_)
    refine LWo.move (e_int t5) rfl (hn := ?_)
    refine bk h fun u31 e31 h => ?_
    refine LWo.cutOM e31 u_Limpl_Pair s_impl_Pair rfl rfl ⟨_, rfl⟩ rfl (hn := ?_)
    refine LWo.clearO (f := e_impl_Pair) (l := o1000) none u_Limpl_Pair z_impl_Pair rfl rfl rfl rfl rfl (hn := ?_)
    refine LWo.nil (hN30 _ ?_)
    refine LWP.seq_k fun N32 hN32 => ?_
    refine LWP.region (l := [_,_,_,_]) ?_
    refine LWo.move (.own 1000 0 ((o1000).length)) rfl (hn := ?_)
    refine LWo.move (e_int t5) rfl (hn := ?_)
    refine bk h fun u33 e33 h => ?_
    refine LWo.cutOM e33 u_Limpl_Pair s_impl_Pair rfl rfl rfl ⟨_, rfl⟩ (hn := ?_)
    refine LWo.assign (.own 1000 0 ((t5).toNat)) rfl (hn := ?_)
    refine LWo.nil (hN32 _ ?_)
    refine bk h fun u34 e34 h => ?_
    obtain rfl := Option.some.inj h
    refine LWP.ret (QG.mk (.inr rfl) (.cons (.tmp (x := (.own 1000 0 ((t5).toNat))) rfl) (.nil)) (RetOK.one0 (.nwT (leN_b e34) rfl) (by decide)) rfl rfl)
   ·intro N8 hN8
    refine LWP.seq_k fun N9 hN9 => ?_
    refine LWP.region (l := [_,_,_]) ?_
    refine LWo.move (e_int x3) rfl (hn := ?_)
    refine bk h fun x10 e10 h => ?_
    refine LWo.int _ rfl rfl (add_ck e10) (hn := ?_)
    refine LWo.assign (e_int x10) rfl (hn := ?_)
    refine LWo.nil (hN9 _ ?_)
    refine LWP.block ?_
    refine LWP.loopM (α := Int × Int × (List S_impl_Pair)) (fun z : Int × Int × (List S_impl_Pair) => [(0, (.own 1000 0 (z.2.2).length)), (1, (.clo f1 q1)), (5, (e_int z.1)), (6, (e_int z.2.1))]) (fun z : Int × Int × (List S_impl_Pair) => [(1000, (lob 2 e_impl_Pair z.2.2))]) (fun n1 (z : Int × Int × (List S_impl_Pair)) => m_slices_DeleteFunc_Limpl_Pair_impl_Pair_l1 p1 n1 z.1 z.2.1 z.2.2) r _ (x3, x10, o0) h (fun _ => rfl) (fun _ => by simp [hkeys]) ⟨rfl, rfl, rfl, rfl, trivial⟩ ⟨rfl, trivial⟩ ?_
    rintro n1 ⟨t5, t6, o1000⟩ h N11 hN11
    replace h : m_slices_DeleteFunc_Limpl_Pair_impl_Pair_l1 p1 (n1 + 1) t5 t6 o1000 = some _ := h
    refine LWP.seq_k fun N13 hN13 => ?_
    refine LWP.seq_k fun N14 hN14 => ?_
    refine LWP.region (l := [_,_,_,_]) ?_
    refine LWo.move (e_int t6) rfl (hn := ?_)
    refine LWo.move (.own 1000 0 (o1000).length) rfl (hn := ?_)
    refine LWo.lenO u_Limpl_Pair rfl (hn := ?_)
    refine LWo.int _ rfl rfl rfl (hn := ?_)
    refine LWo.nil (hN14 _ ?_)
    refine LWP.cond_split rfl (fun h15 => ?_) (fun h15 => ?_)
    ·have h := bT h15 h
     refine LWP.skip (hN13 _ ?_)
     refine LWP.join (α := Int × Int × (List S_impl_Pair)) (fun z : Int × Int × (List S_impl_Pair) => [(0, (.own 1000 0 (z.2.2).length)), (1, (.clo f1 q1)), (5, (e_int z.1)), (6, (e_int z.2.1))]) (fun z : Int × Int × (List S_impl_Pair) => [(1000, (lob 2 e_impl_Pair z.2.2))]) (fun z : Int × Int × (List S_impl_Pair) => m_slices_DeleteFunc_Limpl_Pair_impl_Pair_j1 p1 (m_slices_DeleteFunc_Limpl_Pair_impl_Pair_l1 p1 n1) z.1 z.2.1 z.2.2) r (fun _ => by simp [hkeys]) ?_ ?_
     ·rintro ⟨t5, t6, o1000⟩ h
      replace h : m_slices_DeleteFunc_Limpl_Pair_impl_Pair_j1 p1 (m_slices_DeleteFunc_Limpl_Pair_impl_Pair_l1 p1 n1) t5 t6 o1000 = some _ := h
      refine LWP.region (l := [_,_,_]) ?_
      refine LWo.move (e_int t6) rfl (hn := ?_)
      refine bk h fun x29 e29 h => ?_
      refine LWo.int _ rfl rfl (add_ck e29) (hn := ?_)
      refine LWo.assign (e_int x29) rfl (hn := ?_)
      refine LWo.nil (hN11 (t5, x29, o1000) _ ⟨rfl, rfl, rfl, rfl, trivial⟩ ⟨rfl, trivial⟩ h)
     ·intro N16 hN16
      refine LWP.block ?_
      refine LWP.seq_k fun N17 hN17 => ?_
      refine LWP.region (l := [_,_,_,_,_,_]) ?_
      refine LWo.move (.own 1000 0 (o1000).length) rfl (hn := ?_)
      refine LWo.move (e_int t6) rfl (hn := ?_)
      refine bk h fun x18 e18 h => ?_
      refine LWo.indexO e18 rfl u_Limpl_Pair s_impl_Pair rfl rfl rfl (hn := ?_)
      refine bk h fun x19 e19 h => ?_
      refine LWo.loadON ((e_impl_Pair x19)).cells e19 g_impl_Pair s_impl_Pair rfl rfl rfl rfl (hn := ?_)
      refine LWo.alloc_impl_Pair 7 rfl (hn := ?_)
      refine LWo.known 1 (.clo f1 q1) (get_kill_of rfl (hq1 7)) ?_
      refine lk h fun y20 e20 h => ?_
      refine LWo.storeW (y := (⟨(0 : Int), (0 : Int)⟩ : S_impl_Pair)) y20 s_impl_Pair rfl rfl rfl rfl rfl rfl (by rw [e20]; exact .refl) rfl (hn := ?_)
      refine LWo.nil (hN17 _ ?_)
      refine LWP.seq_k fun N21 hN21 => ?_
      refine LWP.region (l := [_,_,_,_]) ?_
      refine LWo.move (.clo f1 q1) rfl (hn := ?_)
      refine LWo.loadVN ((e_impl_Pair y20)).cells  g_impl_Pair s_impl_Pair rfl rfl rfl rfl (hn := ?_)
      refine bk h fun x22 e22 h => ?_
      refine LWo.vcall rfl rfl (hf1 _ _ e22) .refl (hn := ?_)
      refine LWo.not rfl (hn := ?_)
      refine LWo.nil (hN21 _ ?_)
      refine LWP.cond_split rfl (fun h23 => ?_) (fun h23 => ?_)
      ·have h := bT h23 h
       refine LWP.seq_k fun N24 hN24 => ?_
       refine LWP.region (l := [_,_,_,_,_]) ?_
       refine LWo.move (.own 1000 0 (o1000).length) rfl (hn := ?_)
       refine LWo.move (e_int t5) rfl (hn := ?_)
       refine LWo.loadVN ((e_impl_Pair y20)).cells  g_impl_Pair s_impl_Pair rfl rfl rfl rfl (hn := ?_)
       refine bk h fun x25 e25 h => ?_
       refine LWo.indexO e25 rfl u_Limpl_Pair s_impl_Pair rfl rfl rfl (hn := ?_)
       refine bk h fun x26 e26 h => ?_
       refine lk h fun y27 e27 h => ?_
       refine LWo.storeO y27 e26 s_impl_Pair rfl rfl rfl rfl rfl rfl rfl (by rw [e27]; rfl) (hn := ?_)
       refine LWo.nil (hN24 _ ?_)
       refine LWP.region (l := [_,_,_]) ?_
       refine LWo.move (e_int t5) rfl (hn := ?_)
       refine bk h fun x28 e28 h => ?_
       refine LWo.int _ rfl rfl (add_ck e28) (hn := ?_)
       refine LWo.assign (e_int x28) rfl (hn := ?_)
       refine LWo.nil (hN16 (x28, t6, (o1000.set (t5).toNat y27)) _ ⟨(congrArg (LV.own 1000 0) List.length_set.symm), rfl, rfl, rfl, trivial⟩ ⟨rfl, trivial⟩ h)
      ·have h := bF h23 h
       refine LWP.skip (hN16 (t5, t6, o1000) _ ⟨rfl, rfl, rfl, rfl, trivial⟩ ⟨rfl, trivial⟩ h)
    ·have h := bF h15 h
     refine LWP.exit (hN8 (t5, o1000) _ ⟨rfl, rfl, trivial⟩ ⟨rfl, trivial⟩ h)

theorem cc_slices_Grow_Limpl_Pair_impl_Pair (n : Nat) (hb : n ≤ 1000000000) : Ret Try.prog f_slices_Grow_Limpl_Pair_impl_Pair [.imm (.slice none 0 0), e_int n] (.nw 2 [] false) := by
  refine Does.go [] F_slices_Grow_Limpl_Pair_impl_Pair rfl e_slices_Grow_Limpl_Pair_impl_Pair n_slices_Grow_Limpl_Pair_impl_Pair rfl (ts := [4]) rfl rfl rfl ?_
  intro w0 ok0 lent ρ0
  refine LWP.seq_k fun N1 hN1 => ?_
  refine LWP.region (l := [_]) ?_
  refine LWo.assign _ rfl (hn := ?_)
  refine LWo.nil (hN1 _ ?_)
  refine LWP.seq_k fun N2 hN2 => ?_
  refine LWP.seq_k fun N3 hN3 => ?_
  refine LWP.region (l := [_,_]) ?_
  refine LWo.move _ rfl (hn := ?_)
  refine LWo.int _ rfl rfl rfl (hn := ?_)
  refine LWo.nil (hN3 _ ?_)
  refine LWP.cond_split rfl (fun h4 => ?_) (fun h4 => ?_)
  · try simp only [List.length_map, decide_eq_true_eq, decide_eq_false_iff_not, Int.ofNat_lt, Int.ofNat_le, Int.not_lt, Int.not_le, ge_iff_le, gt_iff_lt, Nat.not_le, Nat.not_lt] at h4
    clear hN1 hN2 hN3
    omega
  · try simp only [List.length_map, decide_eq_true_eq, decide_eq_false_iff_not, Int.ofNat_lt, Int.ofNat_le, Int.not_lt, Int.not_le, ge_iff_le, gt_iff_lt, Nat.not_le, Nat.not_lt] at h4
    refine LWP.skip (hN2 _ ?_)
    refine LWP.seq_k fun N5 hN5 => ?_
    refine LWP.seq_k fun N6 hN6 => ?_
    refine LWP.region (l := [_,_,_,_,_,_,_,_]) ?_
    refine LWo.move _ rfl (hn := ?_)
    refine LWo.move _ rfl (hn := ?_)
    refine LWo.capNil u_Limpl_Pair rfl (hn := ?_)
    refine LWo.move _ rfl (hn := ?_)
    refine LWo.len u_Limpl_Pair rfl (hn := ?_)
    refine LWo.int _ rfl rfl (sub_in (by omega) (by omega)) (hn := ?_)
    refine LWo.int _ rfl rfl (sub_in (by omega) (by omega)) (hn := ?_)
    refine LWo.assign _ rfl (hn := ?_)
    refine LWo.nil (hN6 _ ?_)
    refine LWP.seq_k fun N7 hN7 => ?_
    refine LWP.region (l := [_,_]) ?_
    refine LWo.move _ rfl (hn := ?_)
    refine LWo.int _ rfl rfl rfl (hn := ?_)
    refine LWo.nil (hN7 _ ?_)
    refine LWP.cond_split rfl (fun h8 => ?_) (fun h8 => ?_)
    · try simp only [List.length_map, decide_eq_true_eq, decide_eq_false_iff_not, Int.ofNat_lt, Int.ofNat_le, Int.not_lt, Int.not_le, ge_iff_le, gt_iff_lt, Nat.not_le, Nat.not_lt] at h8
      refine LWP.region (l := [_,_,_,_,_,_,_,_,_,_]) ?_
      refine LWo.move _ rfl (hn := ?_)
      refine LWo.move _ rfl (hn := ?_)
      refine LWo.capNil u_Limpl_Pair rfl (hn := ?_)
      refine LWo.cutNil u_Limpl_Pair s_impl_Pair rfl rfl ⟨_, rfl⟩ (hn := ?_)
      refine LWo.move _ rfl (hn := ?_)
      refine LWo.appendMake (m := n) 22 (.agg ([Go.Value.int Go.IntKind.i64 0, Go.Value.int Go.IntKind.i64 0].map LV.imm)) u_Limpl_Pair u_int i_impl_Pair (zs := [Go.Value.int Go.IntKind.i64 0, Go.Value.int Go.IntKind.i64 0]) rfl rfl (by simp [Value.oneCell']) rfl (.nil rfl (by simp at h8; omega)) (congrArg (fun z => LV.imm (Value.int .i64 z)) (show (n : Int) - (0 - ((0 : Nat) : Int)) = (n : Int) by omega)) rfl rfl (by simp; omega) (by simp; omega) (by simp at h8; omega) (by decide) (hn := ?_)
      refine LWo.move _ rfl (hn := ?_)
      refine LWo.len u_Limpl_Pair rfl (hn := ?_)
      refine LWo.cutOwn (l := 0) (h := 0) u_Limpl_Pair s_impl_Pair rfl rfl rfl rfl ⟨_, rfl⟩ trivial (.inl rfl) (Nat.le_refl _) (Nat.zero_le _) rfl rfl (hn := ?_)
      refine LWo.assign _ rfl (hn := ?_)
      refine LWo.nil (hN5 _ ?_)
      refine LWP.seq_k fun N9 hN9 => ?_
      refine LWP.region (l := [_,_]) ?_
      refine LWo.move _ rfl (hn := ?_)
      refine LWo.assign _ rfl (hn := ?_)
      refine LWo.nil (hN9 _ ?_)
      refine LWP.ret (QRet.own1 (.inr rfl) rfl rfl rfl rfl (Nat.zero_le _) ⟨?_, rfl⟩)
      clear hN1 hN2 hN3 hN5 hN6 hN7 hN9
      rfl
    · try simp only [List.length_map, decide_eq_true_eq, decide_eq_false_iff_not, Int.ofNat_lt, Int.ofNat_le, Int.not_lt, Int.not_le, ge_iff_le, gt_iff_lt, Nat.not_le, Nat.not_lt] at h8
      refine LWP.skip (hN5 _ ?_)
      refine LWP.seq_k fun N10 hN10 => ?_
      refine LWP.region (l := [_,_]) ?_
      refine LWo.move _ rfl (hn := ?_)
      refine LWo.assign _ rfl (hn := ?_)
      refine LWo.nil (hN10 _ ?_)
      refine LWP.ret (QRet.nil1 (sz := 2) (dp := false) (.inr rfl) rfl ⟨?_, rfl⟩)
      clear hN1 hN2 hN3 hN5 hN6 hN7 hN10
      rfl

def m_slices_Grow_Limpl_Pair_impl_Pair (a1 : Int) : Option (List S_impl_Pair) := if 0 ≤ a1 ∧ a1 ≤ 1000000000 then some [] else none
theorem c_slices_Grow_Limpl_Pair_impl_Pair (a1 : Int) (r : List S_impl_Pair) (h : m_slices_Grow_Limpl_Pair_impl_Pair a1 = some r) : Ret Try.prog f_slices_Grow_Limpl_Pair_impl_Pair [.imm (.slice none 0 0), e_int a1] (.nw 2 (r.map e_impl_Pair) false) := by
  unfold m_slices_Grow_Limpl_Pair_impl_Pair at h
  split at h
  · rename_i h1
    cases h
    have := cc_slices_Grow_Limpl_Pair_impl_Pair a1.toNat (by omega)
    rw [Int.toNat_of_nonneg h1.1] at this
    exact this
  · cases h



def m_slices_Concat_Limpl_Pair_impl_Pair_j2 (o1024 : (List S_impl_Pair)) : Option (List S_impl_Pair) :=
  some o1024
def m_slices_Concat_Limpl_Pair_impl_Pair_l2 : Nat → (List (List S_impl_Pair)) → Int → Int → (List S_impl_Pair) → Option (List S_impl_Pair)
  | 0, _, _, _, _ => none
  | n2 + 1, t25, t26, t27, o1024 =>
    bif decide (t27 < t26) then ((at? t25 t27).bind fun x29 =>
    (app? o1024 x29).bind fun x30 =>
    (ckI (t27 + (1 : Int))).bind fun x31 =>
    (m_slices_Concat_Limpl_Pair_impl_Pair_l2  n2) t25 t26 x31 x30)
    else (m_slices_Concat_Limpl_Pair_impl_Pair_j2  o1024)
def m_slices_Concat_Limpl_Pair_impl_Pair_j1 (t0 : (List (List S_impl_Pair))) (t3 : Int) : Option (List S_impl_Pair) :=
  (m_slices_Grow_Limpl_Pair_impl_Pair t3).bind fun x19 =>
  m_slices_Concat_Limpl_Pair_impl_Pair_l2  (((t0.length : Int) - (0 : Int)).toNat + 1) t0 (t0.length : Int) (0 : Int) x19
def m_slices_Concat_Limpl_Pair_impl_Pair_l1 : Nat → (List (List S_impl_Pair)) → Int → (List (List S_impl_Pair)) → Int → Int → Option (List S_impl_Pair)
  | 0, _, _, _, _, _ => none
  | n1 + 1, t0, t3, t9, t10, t11 =>
    bif decide (t11 < t10) then ((at? t9 t11).bind fun x12 =>
    (ckI (t3 + (x12.length : Int))).bind fun x14 =>
    bif decide (x14 < (0 : Int)) then (none)
    else ((ckI (t11 + (1 : Int))).bind fun x17 =>
    (m_slices_Concat_Limpl_Pair_impl_Pair_l1  n1) t0 x14 t9 t10 x17))
    else (m_slices_Concat_Limpl_Pair_impl_Pair_j1  t0 t3)
def m_slices_Concat_Limpl_Pair_impl_Pair (a0 : (List (List S_impl_Pair))) : Option (List S_impl_Pair) :=
  m_slices_Concat_Limpl_Pair_impl_Pair_l1  (((a0.length : Int) - (0 : Int)).toNat + 1) a0 (0 : Int) a0 (a0.length : Int) (0 : Int)
theorem c_slices_Concat_Limpl_Pair_impl_Pair (a0 : (List (List S_impl_Pair))) (r : (List S_impl_Pair)) (h : m_slices_Concat_Limpl_Pair_impl_Pair a0 = some r) : Ret Try.prog f_slices_Concat_Limpl_Pair_impl_Pair [e_LLimpl_Pair a0] (.nw 2 (r.map e_impl_Pair) false) := by
  refine Does.goG [] F_slices_Concat_Limpl_Pair_impl_Pair rfl e_slices_Concat_Limpl_Pair_impl_Pair n_slices_Concat_Limpl_Pair_impl_Pair rfl (rvs := [.tmp 2]) rfl rfl ?_
  intro w0 ok0 lent ρ0
  refine LWP.seq_k fun N1 hN1 => ?_
  refine LWP.region (l := [_]) ?_
  refine LWo.assign _ rfl (hn := ?_)
  refine LWo.ownNil 2 1002 2 rfl rfl rfl ?_
  refine LWo.known 2 (.own 1002 0 ([] : (List S_impl_Pair)).length) rfl ?_
  refine LWo.nil (hN1 _ ?_)
  refine LWP.seq_k fun N2 hN2 => ?_
  refine LWP.region (l := [_]) ?_
  refine LWo.assign (e_int (0 : Int)) rfl (hn := ?_)
  refine LWo.nil (hN2 _ ?_)
  refine LWP.join (α := (List (List S_impl_Pair)) × Int) (fun z : (List (List S_impl_Pair)) × Int => [(0, (e_LLimpl_Pair z.1)), (3, (e_int z.2))]) (fun z : (List (List S_impl_Pair)) × Int => []) (fun z : (List (List S_impl_Pair)) × Int => m_slices_Concat_Limpl_Pair_impl_Pair_j1  z.1 z.2) r (fun _ => by simp [hkeys]) ?_ ?_
  ·rintro ⟨t0, t3⟩ h
   replace h : m_slices_Concat_Limpl_Pair_impl_Pair_j1  t0 t3 = some _ := h
   refine LWP.seq_k fun N18 hN18 => ?_
   refine LWP.region (l := [_,_,_]) ?_
   refine LWo.move (e_int t3) rfl (hn := ?_)
   refine bk h fun x19 e19 h => ?_
   refine LWo.ncall (e := e_impl_Pair) 1024 rfl rfl (c_slices_Grow_Limpl_Pair_impl_Pair _ _ e19) (.same (.same (.nil))) rfl (hn := ?_)
   refine LWo.assign (.own 1024 0 (x19).length) rfl (hn := ?_)
   refine LWo.nil (hN18 _ ?_)
   refine LWP.join (α := (List S_impl_Pair)) (fun z : (List S_impl_Pair) => [(6, (.own 1024 0 (z).length))]) (fun z : (List S_impl_Pair) => [(1024, (lob 2 e_impl_Pair z))]) (fun z : (List S_impl_Pair) => m_slices_Concat_Limpl_Pair_impl_Pair_j2  z) r (fun _ => by simp [hkeys]) ?_ ?_
   ·rintro o1024 h
    replace h : m_slices_Concat_Limpl_Pair_impl_Pair_j2  o1024 = some _ := h
    refine LWP.seq_k fun N32 hN32 => ?_
    refine LWP.region (l := [_,_]) ?_
    refine LWo.move (.own 1024 0 (o1024).length) rfl (hn := ?_)
    refine LWo.assign (.own 1024 0 (o1024).length) rfl (hn := ?_)
    refine LWo.nil (hN32 _ ?_)
    obtain rfl := Option.some.inj h
    refine LWP.ret (QG.mk (.inr rfl) (.cons (.tmp (x := (.own 1024 0 (o1024).length)) rfl) (.nil)) (RetOK.one0 (.nwM rfl rfl) (by decide)) rfl rfl)
   ·intro N20 hN20
    refine LWP.seq_k fun N21 hN21 => ?_
    refine LWP.region (l := [_,_,_]) ?_
    refine LWo.move (e_LLimpl_Pair t0) rfl (hn := ?_)
    refine LWo.lenM (f := e_Limpl_Pair) (l := t0) u_LLimpl_Pair rfl (hn := ?_)
    refine LWo.move (e_int (0 : Int)) rfl (hn := ?_)
    refine LWo.nil (hN21 _ ?_)
    refine LWP.block ?_
    refine LWP.loopM (α := (List (List S_impl_Pair)) × Int × Int × (List S_impl_Pair)) (fun z : (List (List S_impl_Pair)) × Int × Int × (List S_impl_Pair) => [(6, (.own 1024 0 (z.2.2.2).length)), (25, (e_LLimpl_Pair z.1)), (26, (e_int z.2.1)), (27, (e_int z.2.2.1))]) (fun z : (List (List S_impl_Pair)) × Int × Int × (List S_impl_Pair) => [(1024, (lob 2 e_impl_Pair z.2.2.2))]) (fun n2 (z : (List (List S_impl_Pair)) × Int × Int × (List S_impl_Pair)) => m_slices_Concat_Limpl_Pair_impl_Pair_l2  n2 z.1 z.2.1 z.2.2.1 z.2.2.2) r _ (t0, (t0.length : Int), (0 : Int), x19) h (fun _ => rfl) (fun _ => by simp [hkeys]) ⟨rfl, rfl, rfl, rfl, trivial⟩ ⟨rfl, trivial⟩ ?_
    rintro n2 ⟨t25, t26, t27, o1024⟩ h N22 hN22
    replace h : m_slices_Concat_Limpl_Pair_impl_Pair_l2  (n2 + 1) t25 t26 t27 o1024 = some _ := h
    refine LWP.seq_k fun N24 hN24 => ?_
    refine LWP.region (l := [_]) ?_
    refine LWo.int _ rfl rfl rfl (hn := ?_)
    refine LWo.nil (hN24 _ ?_)
    refine LWP.seq_k fun N25 hN25 => ?_
    refine LWP.cond_split rfl (fun h26 => ?_) (fun h26 => ?_)
    ·have h := bT h26 h
     refine LWP.skip (hN25 _ ?_)
     refine LWP.seq_k fun N27 hN27 => ?_
     refine LWP.block ?_
     refine LWP.seq_k fun N28 hN28 => ?_
     refine LWP.region (l := [_,_,_]) ?_
     refine bk h fun x29 e29 h => ?_
     refine LWo.indexM (f := e_Limpl_Pair) e29 u_LLimpl_Pair s_Limpl_Pair rfl rfl (hn := ?_)
     refine LWo.load1 (c := (e_Limpl_Pair x29)) g_Limpl_Pair rfl (hn := ?_)
     refine LWo.assign (e_Limpl_Pair x29) rfl (hn := ?_)
     refine LWo.nil (hN28 _ ?_)
     refine LWP.region (l := [_,_,_,_]) ?_
     refine LWo.move (.own 1024 0 (o1024).length) rfl (hn := ?_)
     refine LWo.move (e_Limpl_Pair x29) rfl (hn := ?_)
     refine bk h fun x30 e30 h => ?_
     refine LWo.appendM (f := e_impl_Pair) e30 rfl u_Limpl_Pair u_Limpl_Pair (fun _ h => by cases h) s_impl_Pair i_impl_Pair rfl rfl rfl (.sl rfl) rfl rfl (hn := ?_)
     refine LWo.assign (.own 1024 0 (x30).length) rfl (hn := ?_)
     refine LWo.nil (hN27 _ ?_)
     refine LWP.region (l := [_,_]) ?_
     refine bk h fun x31 e31 h => ?_
     refine LWo.int _ rfl rfl (add_ck e31) (hn := ?_)
     refine LWo.move (e_int x31) rfl (hn := ?_)
     refine LWo.nil (hN22 (t25, t26, x31, x30) _ ⟨rfl, rfl, rfl, rfl, trivial⟩ ⟨rfl, trivial⟩ h)
    ·have h := bF h26 h
     refine LWP.exit (hN20 o1024 _ ⟨rfl, trivial⟩ ⟨rfl, trivial⟩ h)
  ·intro N3 hN3
   refine LWP.seq_k fun N4 hN4 => ?_
   refine LWP.region (l := [_,_,_]) ?_
   refine LWo.move (e_LLimpl_Pair a0) rfl (hn := ?_)
   refine LWo.lenM (f := e_Limpl_Pair) (l := a0) u_LLimpl_Pair rfl (hn := ?_)
   refine LWo.move (e_int (0 : Int)) rfl (hn := ?_)
   refine LWo.nil (hN4 _ ?_)
   refine LWP.block ?_
   refine LWP.loopM (α := (List (List S_impl_Pair)) × Int × (List (List S_impl_Pair)) × Int × Int) (fun z : (List (List S_impl_Pair)) × Int × (List (List S_impl_Pair)) × Int × Int => [(0, (e_LLimpl_Pair z.1)), (3, (e_int z.2.1)), (9, (e_LLimpl_Pair z.2.2.1)), (10, (e_int z.2.2.2.1)), (11, (e_int z.2.2.2.2))]) (fun z : (List (List S_impl_Pair)) × Int × (List (List S_impl_Pair)) × Int × Int => []) (fun n1 (z : (List (List S_impl_Pair)) × Int × (List (List S_impl_Pair)) × Int × Int) => m_slices_Concat_Limpl_Pair_impl_Pair_l1  n1 z.1 z.2.1 z.2.2.1 z.2.2.2.1 z.2.2.2.2) r _ (a0, (0 : Int), a0, (a0.length : Int), (0 : Int)) h (fun _ => rfl) (fun _ => by simp [hkeys]) ⟨rfl, rfl, rfl, rfl, rfl, trivial⟩ trivial ?_
   rintro n1 ⟨t0, t3, t9, t10, t11⟩ h N5 hN5
   replace h : m_slices_Concat_Limpl_Pair_impl_Pair_l1  (n1 + 1) t0 t3 t9 t10 t11 = some _ := h
   refine LWP.seq_k fun N7 hN7 => ?_
   refine LWP.region (l := [_]) ?_
   refine LWo.int _ rfl rfl rfl (hn := ?_)
   refine LWo.nil (hN7 _ ?_)
   refine LWP.seq_k fun N8 hN8 => ?_
   refine LWP.cond_split rfl (fun h9 => ?_) (fun h9 => ?_)
   ·have h := bT h9 h
    refine LWP.skip (hN8 _ ?_)
    refine LWP.seq_k fun N10 hN10 => ?_
    refine LWP.block ?_
    refine LWP.seq_k fun N11 hN11 => ?_
    refine LWP.region (l := [_,_,_]) ?_
    refine bk h fun x12 e12 h => ?_
    refine LWo.indexM (f := e_Limpl_Pair) e12 u_LLimpl_Pair s_Limpl_Pair rfl rfl (hn := ?_)
    refine LWo.load1 (c := (e_Limpl_Pair x12)) g_Limpl_Pair rfl (hn := ?_)
    refine LWo.assign (e_Limpl_Pair x12) rfl (hn := ?_)
    refine LWo.nil (hN11 _ ?_)
    refine LWP.seq_k fun N13 hN13 => ?_
    refine LWP.region (l := [_,_,_,_,_]) ?_
    refine LWo.move (e_int t3) rfl (hn := ?_)
    refine LWo.move (e_Limpl_Pair x12) rfl (hn := ?_)
    refine LWo.lenM (f := e_impl_Pair) (l := x12) u_Limpl_Pair rfl (hn := ?_)
    refine bk h fun x14 e14 h => ?_
    refine LWo.int _ rfl rfl (add_ck e14) (hn := ?_)
    refine LWo.assign (e_int x14) rfl (hn := ?_)
    refine LWo.nil (hN13 _ ?_)
    refine LWP.seq_k fun N15 hN15 => ?_
    refine LWP.region (l := [_,_]) ?_
    refine LWo.move (e_int x14) rfl (hn := ?_)
    refine LWo.int _ rfl rfl rfl (hn := ?_)
    refine LWo.nil (hN15 _ ?_)
    refine LWP.cond_split rfl (fun h16 => ?_) (fun h16 => ?_)
    ·have h := bT h16 h
     refine LWP.region (l := [_,_]) ?_
     exact no h
    ·have h := bF h16 h
     refine LWP.skip (hN10 _ ?_)
     refine LWP.region (l := [_,_]) ?_
     refine bk h fun x17 e17 h => ?_
     refine LWo.int _ rfl rfl (add_ck e17) (hn := ?_)
     refine LWo.move (e_int x17) rfl (hn := ?_)
     refine LWo.nil (hN5 (t0, x14, t9, t10, x17) _ ⟨rfl, rfl, rfl, rfl, rfl, trivial⟩ trivial h)
   ·have h := bF h9 h
    refine LWP.exit (hN3 (t0, t3) _ ⟨rfl, rfl, trivial⟩ trivial h)

def m_impl_ClosureNew_j1 (o3 : (List S_impl_Pair)) : Option (List S_impl_Pair) :=
  (m_impl_clone_impl_Pair o3).bind fun x24 =>
  some x24
def m_impl_ClosureNew_l1 : Nat → (List S_impl_Pair) → (List S_impl_Pair) → (List S_impl_Pair) → Option (List S_impl_Pair)
  | 0, _, _, _ => none
  | n1 + 1, t0, t4, o3 =>
    bif decide ((t4.length : Int) > (0 : Int)) then ((m_impl_joined t4 t0).bind fun x18 =>
    (m_slices_DeleteFunc_Limpl_Pair_impl_Pair x18 (fun b0_ => m_impl_ClosureNew_1 b0_ o3)).bind fun x19 =>
    (m_slices_Concat_Limpl_Pair_impl_Pair ([o3, x19] : (List (List S_impl_Pair)))).bind fun x20 =>
    (m_impl_pairs x20).bind fun x21 =>
    lt (x21) fun y22 =>
    (m_impl_ClosureNew_l1  n1) t0 x19 y22)
    else (m_impl_ClosureNew_j1  o3)
def m_impl_ClosureNew (a0 : (List S_impl_Pair)) : Option (List S_impl_Pair) :=
  (m_impl_PairsOk a0).bind fun x4 =>
  bif (!x4) then (some ([] : (List S_impl_Pair)))
  else ((m_impl_clone_impl_Pair a0).bind fun x8 =>
  lt (x8) fun y9 =>
  m_impl_ClosureNew_l1  (1000000000) a0 y9 y9)
theorem c_impl_ClosureNew (a0 : (List S_impl_Pair)) (r : (List S_impl_Pair)) (h : m_impl_ClosureNew a0 = some r) : Ret Try.prog f_impl_ClosureNew [e_Limpl_Pair a0] (.nw 2 (r.map e_impl_Pair) false) := by
  refine Does.goG [] F_impl_ClosureNew rfl e_impl_ClosureNew n_impl_ClosureNew rfl (rvs := [.tmp 2]) rfl rfl ?_
  intro w0 ok0 lent ρ0
  refine LWP.seq_k fun N1 hN1 => ?_
  refine LWP.region (l := [_]) ?_
  refine LWo.assign _ rfl (hn := ?_)
  refine LWo.ownNil 2 1002 2 rfl rfl rfl ?_
  refine LWo.known 2 (.own 1002 0 ([] : (List S_impl_Pair)).length) rfl ?_
  refine LWo.nil (hN1 _ ?_)
  refine LWP.seq_k fun N2 hN2 => ?_
  refine LWP.seq_k fun N3 hN3 => ?_
  refine LWP.region (l := [_,_,_]) ?_
  refine LWo.move (e_Limpl_Pair a0) rfl (hn := ?_)
  refine bk h fun x4 e4 h => ?_
  refine LWo.vcall rfl rfl (c_impl_PairsOk _ _ e4) (.same (.nil)) (hn := ?_)
  refine LWo.not rfl (hn := ?_)
  refine LWo.nil (hN3 _ ?_)
  refine LWP.cond_split rfl (fun h5 => ?_) (fun h5 => ?_)
  ·have h := bT h5 h
   refine LWP.seq_k fun N6 hN6 => ?_
   refine LWP.region (l := [_]) ?_
   refine LWo.assign _ rfl (hn := ?_)
   refine LWo.ownNil 2 1002 2 rfl rfl rfl ?_
   refine LWo.known 2 (.own 1002 0 ([] : (List S_impl_Pair)).length) rfl ?_
   refine LWo.nil (hN6 _ ?_)
   obtain rfl := Option.some.inj h
   refine LWP.ret (QG.mk (.inr rfl) (.cons (.tmp (x := (.own 1002 0 (([] : (List S_impl_Pair))).length)) rfl) (.nil)) (RetOK.one0 (.nwM rfl rfl) (by decide)) rfl rfl)
  ·have h := bF h5 h
   refine LWP.skip (hN2 _ ?_)
   refine LWP.seq_k fun N7 hN7 => ?_
   refine LWP.region (l := [_,_,_,_]) ?_
   refine LWo.move (e_Limpl_Pair a0) rfl (hn := ?_)
   refine bk h fun x8 e8 h => ?_
   refine LWo.vcall rfl rfl (c_impl_clone_impl_Pair _ _ e8) (.same (.nil)) (hn := ?_)
   refine LWo.alloc_Limpl_Pair 3 rfl (hn := ?_)
   refine lk h fun y9 e9 h => ?_
   refine LWo.storeW (y := []) y9 s_Limpl_Pair rfl rfl rfl rfl rfl rfl (by rw [e9]; exact .refl) rfl (hn := ?_)
   refine LWo.nil (hN7 _ ?_)
   refine LWP.join (α := (List S_impl_Pair)) (fun z : (List S_impl_Pair) => [(3, (.ptr 3 0 0))]) (fun z : (List S_impl_Pair) => [(3, (vob 1 e_Limpl_Pair z))]) (fun z : (List S_impl_Pair) => m_impl_ClosureNew_j1  z) r (fun _ => by simp [hkeys]) ?_ ?_
   ·rintro o3 h
    replace h : m_impl_ClosureNew_j1  o3 = some _ := h
    refine LWP.seq_k fun N23 hN23 => ?_
    refine LWP.region (l := [_,_,_]) ?_
    refine LWo.loadV1 (e_Limpl_Pair o3)  g_Limpl_Pair rfl rfl rfl (hn := ?_)
    refine bk h fun x24 e24 h => ?_
    refine LWo.ncall (e := e_impl_Pair) 1025 rfl rfl (c_impl_clone_impl_Pair _ _ e24) (.same (.nil)) rfl (hn := ?_)
    refine LWo.assign (.own 1025 0 (x24).length) rfl (hn := ?_)
    refine LWo.nil (hN23 _ ?_)
    obtain rfl := Option.some.inj h
    refine LWP.ret (QG.mk (.inr rfl) (.cons (.tmp (x := (.own 1025 0 (x24).length)) rfl) (.nil)) (RetOK.one0 (.nwM rfl rfl) (by decide)) rfl rfl)
   ·intro N10 hN10
    refine LWP.seq_k fun N11 hN11 => ?_
    refine LWP.region (l := [_,_]) ?_
    refine LWo.loadV1 (e_Limpl_Pair y9)  g_Limpl_Pair rfl rfl rfl (hn := ?_)
    refine LWo.assign (e_Limpl_Pair y9) rfl (hn := ?_)
    refine LWo.nil (hN11 _ ?_)
    refine LWP.block ?_
    refine LWP.loopM (α := (List S_impl_Pair) × (List S_impl_Pair) × (List S_impl_Pair)) (fun z : (List S_impl_Pair) × (List S_impl_Pair) × (List S_impl_Pair) => [(0, (e_Limpl_Pair z.1)), (3, (.ptr 3 0 0)), (4, (e_Limpl_Pair z.2.1))]) (fun z : (List S_impl_Pair) × (List S_impl_Pair) × (List S_impl_Pair) => [(3, (vob 1 e_Limpl_Pair z.2.2))]) (fun n1 (z : (List S_impl_Pair) × (List S_impl_Pair) × (List S_impl_Pair)) => m_impl_ClosureNew_l1  n1 z.1 z.2.1 z.2.2) r _ (a0, y9, y9) h (fun _ => rfl) (fun _ => by simp [hkeys]) ⟨rfl, rfl, rfl, trivial⟩ ⟨rfl, trivial⟩ ?_
    rintro n1 ⟨t0, t4, o3⟩ h N12 hN12
    replace h : m_impl_ClosureNew_l1  (n1 + 1) t0 t4 o3 = some _ := h
    refine LWP.seq_k fun N14 hN14 => ?_
    refine LWP.seq_k fun N15 hN15 => ?_
    refine LWP.region (l := [_,_,_]) ?_
    refine LWo.move (e_Limpl_Pair t4) rfl (hn := ?_)
    refine LWo.lenM (f := e_impl_Pair) (l := t4) u_Limpl_Pair rfl (hn := ?_)
    refine LWo.int _ rfl rfl rfl (hn := ?_)
    refine LWo.nil (hN15 _ ?_)
    refine LWP.cond_split rfl (fun h16 => ?_) (fun h16 => ?_)
    ·have h := bT h16 h
     refine LWP.skip (hN14 _ ?_)
     refine LWP.block ?_
     refine LWP.seq_k fun N17 hN17 => ?_
     refine LWP.region (l := [_,_,_,_,_,_]) ?_
     refine LWo.move (e_Limpl_Pair t4) rfl (hn := ?_)
     refine LWo.move (e_Limpl_Pair t0) rfl (hn := ?_)
     refine bk h fun x18 e18 h => ?_
     refine LWo.ncall (e := e_impl_Pair) 1016 rfl rfl (c_impl_joined _ _ _ e18) (.same (.same (.nil))) rfl (hn := ?_)
     refine LWo.makeFuncM [(.ptr 3 0 0)] rfl rfl (hn := ?_)
     refine bk h fun x19 e19 h => ?_
     refine LWo.tcallNV (e := e_impl_Pair) (e' := e_impl_Pair) 1018 rfl rfl (c_slices_DeleteFunc_Limpl_Pair_impl_Pair _ _ f_impl_ClosureNew_1 [.fp (e_Limpl_Pair o3).cells] (fun _ => rfl) (fun b0_ v hv => c_impl_ClosureNew_1 b0_ o3 v hv) _ e19) (fun _ => rfl) rfl (.same (.viewC (pa := []) (pb := []) rfl rfl rfl rfl (by simp [hkeys]) (.nil))) rfl (fun _ => rfl) rfl (hn := ?_)
     refine LWo.assign (.own 1018 0 (x19).length) rfl (hn := ?_)
     refine LWo.nil (hN17 _ ?_)
     refine LWP.region (l := [_,_,_,_,_,_]) ?_
     refine LWo.loadV1 (e_Limpl_Pair o3)  g_Limpl_Pair rfl rfl rfl (hn := ?_)
     refine LWo.move (.own 1018 0 (x19).length) rfl (hn := ?_)
     refine LWo.frzL (f := e_impl_Pair) (l := x19) [4, 18, 20] 1018 rfl rfl ⟨rfl, rfl, rfl, trivial⟩ ?_
     refine LWo.lit (ops := [_, _]) [(e_Limpl_Pair o3), (e_Limpl_Pair x19)] u_LLimpl_Pair s_Limpl_Pair z_Limpl_Pair rfl rfl rfl rfl rfl rfl (hn := ?_)
     refine bk h fun x20 e20 h => ?_
     refine LWo.ncall (e := e_impl_Pair) 1022 rfl rfl (c_slices_Concat_Limpl_Pair_impl_Pair _ _ e20) (.same (.nil)) rfl (hn := ?_)
     refine bk h fun x21 e21 h => ?_
     refine LWo.tcallN (e := e_impl_Pair) (e' := e_impl_Pair) 1023 rfl rfl (c_impl_pairs _ _ e21) (fun _ => rfl) rfl rfl rfl rfl (hn := ?_)
     refine lk h fun y22 e22 h => ?_
     refine LWo.frzL (f := e_impl_Pair) (l := x21) [23] 1023 rfl rfl ⟨rfl, trivial⟩ ?_
     refine LWo.storeW (y := o3) y22 s_Limpl_Pair rfl rfl rfl rfl rfl rfl (by rw [e22]; exact .refl) rfl (hn := ?_)
     refine LWo.nil (hN12 (t0, x19, y22) _ ⟨rfl, rfl, rfl, trivial⟩ ⟨rfl, trivial⟩ h)
    ·have h := bF h16 h
     refine LWP.exit (hN10 o3 _ ⟨rfl, trivial⟩ ⟨rfl, trivial⟩ h)

def m_laws_eqPair (a0 : S_impl_Pair) (a1 : S_impl_Pair) : Option Bool :=
  bif (a0.From != a1.From) then (some false)
  else (bif (a0.To != a1.To) then (some false)
  else (some true))
theorem c_laws_eqPair (a0 : S_impl_Pair) (a1 : S_impl_Pair) (r : Bool) (h : m_laws_eqPair a0 a1 = some r) : Ret Try.prog f_laws_eqPair [e_impl_Pair a0, e_impl_Pair a1] (e_bool r) := by
  refine Does.goG [] F_laws_eqPair rfl e_laws_eqPair n_laws_eqPair rfl (rvs := [.tmp 4]) rfl rfl ?_
  intro w0 ok0 lent ρ0
  refine LWP.seq_k fun N1 hN1 => ?_
  refine LWP.region (l := [_,_,_]) ?_
  refine LWo.boxF (e_impl_Pair a0) rfl rfl rfl (hn := ?_)
  refine LWo.boxF (e_impl_Pair a1) rfl rfl rfl (hn := ?_)
  refine LWo.assign (e_bool false) rfl (hn := ?_)
  refine LWo.nil (hN1 _ ?_)
  refine LWP.seq_k fun N2 hN2 => ?_
  refine LWP.seq_k fun N3 hN3 => ?_
  refine LWP.region (l := [_,_,_,_,_]) ?_
  refine LWo.fieldAddr _ u_impl_Pair rfl s_int rfl rfl (hn := ?_)
  refine LWo.load1 (c := (e_int a0.From)) g_int rfl (hn := ?_)
  refine LWo.fieldAddr _ u_impl_Pair rfl s_int rfl rfl (hn := ?_)
  refine LWo.load1 (c := (e_int a1.From)) g_int rfl (hn := ?_)
  refine LWo.int _ rfl rfl rfl (hn := ?_)
  refine LWo.nil (hN3 _ ?_)
  refine LWP.cond_split rfl (fun h4 => ?_) (fun h4 => ?_)
  ·have h := bT h4 h
   refine LWP.seq_k fun N5 hN5 => ?_
   refine LWP.region (l := [_]) ?_
   refine LWo.assign (e_bool false) rfl (hn := ?_)
   refine LWo.nil (hN5 _ ?_)
   obtain rfl := Option.some.inj h
   refine LWP.ret (QG.mk (.inr rfl) (.cons (.tmp (x := (e_bool false)) rfl) (.nil)) (RetOK.one0 (.pure rfl) (by decide)) rfl rfl)
  ·have h := bF h4 h
   refine LWP.skip (hN2 _ ?_)
   refine LWP.seq_k fun N6 hN6 => ?_
   refine LWP.seq_k fun N7 hN7 => ?_
   refine LWP.region (l := [_,_,_,_,_]) ?_
   refine LWo.fieldAddr _ u_impl_Pair rfl s_int rfl rfl (hn := ?_)
   refine LWo.load1 (c := (e_int a0.To)) g_int rfl (hn := ?_)
   refine LWo.fieldAddr _ u_impl_Pair rfl s_int rfl rfl (hn := ?_)
   refine LWo.load1 (c := (e_int a1.To)) g_int rfl (hn := ?_)
   refine LWo.int _ rfl rfl rfl (hn := ?_)
   refine LWo.nil (hN7 _ ?_)
   refine LWP.cond_split rfl (fun h8 => ?_) (fun h8 => ?_)
   ·have h := bT h8 h
    refine LWP.seq_k fun N9 hN9 => ?_
    refine LWP.region (l := [_]) ?_
    refine LWo.assign (e_bool false) rfl (hn := ?_)
    refine LWo.nil (hN9 _ ?_)
    obtain rfl := Option.some.inj h
    refine LWP.ret (QG.mk (.inr rfl) (.cons (.tmp (x := (e_bool false)) rfl) (.nil)) (RetOK.one0 (.pure rfl) (by decide)) rfl rfl)
   ·have h := bF h8 h
    refine LWP.skip (hN6 _ ?_)
    refine LWP.seq_k fun N10 hN10 => ?_
    refine LWP.region (l := [_]) ?_
    refine LWo.assign (e_bool true) rfl (hn := ?_)
    refine LWo.nil (hN10 _ ?_)
    obtain rfl := Option.some.inj h
    refine LWP.ret (QG.mk (.inr rfl) (.cons (.tmp (x := (e_bool true)) rfl) (.nil)) (RetOK.one0 (.pure rfl) (by decide)) rfl rfl)

def m_laws_eqPairS_j1  : Option Bool :=
  some true
def m_laws_eqPairS_l1 : Nat → (List S_impl_Pair) → (List S_impl_Pair) → Int → Option Bool
  | 0, _, _, _ => none
  | n1 + 1, t0, t1, t5 =>
    bif decide (t5 < (t0.length : Int)) then ((at? t0 t5).bind fun x15 =>
    (at? t1 t5).bind fun x16 =>
    (m_laws_eqPair x15 x16).bind fun x17 =>
    bif (!x17) then (some false)
    else ((ckI (t5 + (1 : Int))).bind fun x20 =>
    (m_laws_eqPairS_l1  n1) t0 t1 x20))
    else (m_laws_eqPairS_j1  )
def m_laws_eqPairS (a0 : (List S_impl_Pair)) (a1 : (List S_impl_Pair)) : Option Bool :=
  bif ((a0.length : Int) != (a1.length : Int)) then (some false)
  else (m_laws_eqPairS_l1  (((a0.length : Int) - (0 : Int)).toNat + 1) a0 a1 (0 : Int))
theorem c_laws_eqPairS (a0 : (List S_impl_Pair)) (a1 : (List S_impl_Pair)) (r : Bool) (h : m_laws_eqPairS a0 a1 = some r) : Ret Try.prog f_laws_eqPairS [e_Limpl_Pair a0, e_Limpl_Pair a1] (e_bool r) := by
  refine Does.goG [] F_laws_eqPairS rfl e_laws_eqPairS n_laws_eqPairS rfl (rvs := [.tmp 4]) rfl rfl ?_
  intro w0 ok0 lent ρ0
  refine LWP.seq_k fun N1 hN1 => ?_
  refine LWP.region (l := [_]) ?_
  refine LWo.assign (e_bool false) rfl (hn := ?_)
  refine LWo.nil (hN1 _ ?_)
  refine LWP.seq_k fun N2 hN2 => ?_
  refine LWP.seq_k fun N3 hN3 => ?_
  refine LWP.region (l := [_,_,_,_,_]) ?_
  refine LWo.move (e_Limpl_Pair a0) rfl (hn := ?_)
  refine LWo.lenM (f := e_impl_Pair) (l := a0) u_Limpl_Pair rfl (hn := ?_)
  refine LWo.move (e_Limpl_Pair a1) rfl (hn := ?_)
  refine LWo.lenM (f := e_impl_Pair) (l := a1) u_Limpl_Pair rfl (hn := ?_)
  refine LWo.int _ rfl rfl rfl (hn := ?_)
  refine LWo.nil (hN3 _ ?_)
  refine LWP.cond_split rfl (fun h4 => ?_) (fun h4 => ?_)
  ·have h := bT h4 h
   refine LWP.seq_k fun N5 hN5 => ?_
   refine LWP.region (l := [_]) ?_
   refine LWo.assign (e_bool false) rfl (hn := ?_)
   refine LWo.nil (hN5 _ ?_)
   obtain rfl := Option.some.inj h
   refine LWP.ret (QG.mk (.inr rfl) (.cons (.tmp (x := (e_bool false)) rfl) (.nil)) (RetOK.one0 (.pure rfl) (by decide)) rfl rfl)
  ·have h := bF h4 h
   refine LWP.skip (hN2 _ ?_)
   refine LWP.join (α := Unit) (fun z : Unit => []) (fun z : Unit => []) (fun z : Unit => m_laws_eqPairS_j1  ) r (fun _ => by simp [hkeys]) ?_ ?_
   ·rintro _ h
    replace h : m_laws_eqPairS_j1   = some _ := h
    refine LWP.seq_k fun N21 hN21 => ?_
    refine LWP.region (l := [_]) ?_
    refine LWo.assign (e_bool true) rfl (hn := ?_)
    refine LWo.nil (hN21 _ ?_)
    obtain rfl := Option.some.inj h
    refine LWP.ret (QG.mk (.inr rfl) (.cons (.tmp (x := (e_bool true)) rfl) (.nil)) (RetOK.one0 (.pure rfl) (by decide)) rfl rfl)
   ·intro N6 hN6
    refine LWP.seq_k fun N7 hN7 => ?_
    refine LWP.region (l := [_]) ?_
    refine LWo.assign (e_int (0 : Int)) rfl (hn := ?_)
    refine LWo.nil (hN7 _ ?_)
    refine LWP.block ?_
    refine LWP.loopM (α := (List S_impl_Pair) × (List S_impl_Pair) × Int) (fun z : (List S_impl_Pair) × (List S_impl_Pair) × Int => [(0, (e_Limpl_Pair z.1)), (1, (e_Limpl_Pair z.2.1)), (5, (e_int z.2.2))]) (fun z : (List S_impl_Pair) × (List S_impl_Pair) × Int => []) (fun n1 (z : (List S_impl_Pair) × (List S_impl_Pair) × Int) => m_laws_eqPairS_l1  n1 z.1 z.2.1 z.2.2) r _ (a0, a1, (0 : Int)) h (fun _ => rfl) (fun _ => by simp [hkeys]) ⟨rfl, rfl, rfl, trivial⟩ trivial ?_
    rintro n1 ⟨t0, t1, t5⟩ h N8 hN8
    replace h : m_laws_eqPairS_l1  (n1 + 1) t0 t1 t5 = some _ := h
    refine LWP.seq_k fun N10 hN10 => ?_
    refine LWP.seq_k fun N11 hN11 => ?_
    refine LWP.region (l := [_,_,_,_]) ?_
    refine LWo.move (e_int t5) rfl (hn := ?_)
    refine LWo.move (e_Limpl_Pair t0) rfl (hn := ?_)
    refine LWo.lenM (f := e_impl_Pair) (l := t0) u_Limpl_Pair rfl (hn := ?_)
    refine LWo.int _ rfl rfl rfl (hn := ?_)
    refine LWo.nil (hN11 _ ?_)
    refine LWP.cond_split rfl (fun h12 => ?_) (fun h12 => ?_)
    ·have h := bT h12 h
     refine LWP.skip (hN10 _ ?_)
     refine LWP.seq_k fun N13 hN13 => ?_
     refine LWP.block ?_
     refine LWP.seq_k fun N14 hN14 => ?_
     refine bk h fun x15 e15 h => ?_
     refine bk h fun x16 e16 h => ?_
     refine bk h fun x17 e17 h => ?_
     refine LWP.drawF (l := [_,_,_,_,_,_,_,_,_,_]) [] [0, 1, 5] [([0], []), ([5], []), ([17, 18], []), ([19], []), ([1], []), ([5], []), ([21, 22], []), ([23], []), ([20, 24], []), ([25], [])] [0, 1, 5, 26] [] mixed (by kernel_rfl) rfl (by decide) ?_
     refine dq 17 rfl (fun _ g u h => LWo.move (e_Limpl_Pair t0) u.1 (hn := .nil (zn g))) ?_
     refine dq 18 rfl (fun _ g u h => LWo.move (e_int t5) u.1 (hn := .nil (zn g))) ?_
     refine dq 19 rfl (fun _ g u h => LWo.indexM (f := e_impl_Pair) e15 u_Limpl_Pair s_impl_Pair u.1 u.2.1 (hn := .nil (zn g))) ?_
     refine dq 20 rfl (fun _ g u h => LWo.loadN ((e_impl_Pair x15)).cells g_impl_Pair s_impl_Pair u.1 (Nat.le_of_ble_eq_true rfl) rfl (hn := .nil (zn g))) ?_
     refine dq 21 rfl (fun _ g u h => LWo.move (e_Limpl_Pair t1) u.1 (hn := .nil (zn g))) ?_
     refine dq 22 rfl (fun _ g u h => LWo.move (e_int t5) u.1 (hn := .nil (zn g))) ?_
     refine dq 23 rfl (fun _ g u h => LWo.indexM (f := e_impl_Pair) e16 u_Limpl_Pair s_impl_Pair u.1 u.2.1 (hn := .nil (zn g))) ?_
     refine dq 24 rfl (fun _ g u h => LWo.loadN ((e_impl_Pair x16)).cells g_impl_Pair s_impl_Pair u.1 (Nat.le_of_ble_eq_true rfl) rfl (hn := .nil (zn g))) ?_
     refine dq 25 rfl (fun _ g u h => LWo.vcall rfl (av2 u.1 u.2.1) (c_laws_eqPair _ _ _ e17) (.same (.same (.nil))) (hn := .nil (zn g))) ?_
     refine dq 26 rfl (fun _ g u h => LWo.not u.1 (hn := .nil (zn g))) ?_
     refine ⟨rfl, by kernel_rfl, hN14 _ ?_⟩
     refine LWP.cond_split rfl (fun h18 => ?_) (fun h18 => ?_)
     ·have h := bT h18 h
      refine LWP.seq_k fun N19 hN19 => ?_
      refine LWP.region (l := [_]) ?_
      refine LWo.assign (e_bool false) rfl (hn := ?_)
      refine LWo.nil (hN19 _ ?_)
      obtain rfl := Option.some.inj h
      refine LWP.ret (QG.mk (.inr rfl) (.cons (.tmp (x := (e_bool false)) rfl) (.nil)) (RetOK.one0 (.pure rfl) (by decide)) rfl rfl)
     ·have h := bF h18 h
      refine LWP.skip (hN13 _ ?_)
      refine LWP.region (l := [_,_,_]) ?_
      refine LWo.move (e_int t5) rfl (hn := ?_)
      refine bk h fun x20 e20 h => ?_
      refine LWo.int _ rfl rfl (add_ck e20) (hn := ?_)
      refine LWo.assign (e_int x20) rfl (hn := ?_)
      refine LWo.nil (hN8 (t0, t1, x20) _ ⟨rfl, rfl, rfl, trivial⟩ trivial h)
    ·have h := bF h12 h
     refine LWP.exit (hN6 () _ trivial trivial h)

def m_laws_markPairS_j1 (t1 : Int) (o0 : (List S_impl_Pair)) : Option (Int × (List S_impl_Pair)) :=
  some (t1, o0)
def m_laws_markPairS_l1 : Nat → Int → Int → (List S_impl_Pair) → Option (Int × (List S_impl_Pair))
  | 0, _, _, _ => none
  | n1 + 1, t1, t5, o0 =>
    bif decide (t5 < (o0.length : Int)) then ((at? o0 t5).bind fun x11 =>
    (at? o0 t5).bind fun x12 =>
    lt ({ x12 with From := t1 }) fun y13 =>
    (ckI (t1 + (1 : Int))).bind fun x15 =>
    (at? (o0.set (t5).toNat y13) t5).bind fun x17 =>
    (at? (o0.set (t5).toNat y13) t5).bind fun x18 =>
    lt ({ x18 with To := x15 }) fun y19 =>
    (ckI (x15 + (1 : Int))).bind fun x20 =>
    (ckI (t5 + (1 : Int))).bind fun x21 =>
    (m_laws_markPairS_l1  n1) x20 x21 ((o0.set (t5).toNat y13).set (t5).toNat y19))
    else (m_laws_markPairS_j1  t1 o0)
def m_laws_markPairS (o0 : (List S_impl_Pair)) (a1 : Int) : Option (Int × (List S_impl_Pair)) :=
  m_laws_markPairS_l1  (((o0.length : Int) - (0 : Int)).toNat + 1) a1 (0 : Int) o0
theorem c_laws_markPairS (o0 : (List S_impl_Pair)) (a1 : Int) (r : (Int × (List S_impl_Pair))) (h : m_laws_markPairS o0 a1 = some r) : Does Try.prog f_laws_markPairS [.own 0 0 o0.length, e_int a1] [(0, (lob 2 e_impl_Pair o0))] (fun x hh => x = e_int r.1 ∧ hh = [(0, (lob 2 e_impl_Pair r.2))]) := by
  refine Does.goG [0] F_laws_markPairS rfl e_laws_markPairS n_laws_markPairS rfl (rvs := [.tmp 4]) rfl rfl ?_
  intro w0 ok0 lent ρ0
  refine LWP.seq_k fun N1 hN1 => ?_
  refine LWP.region (l := [_]) ?_
  refine LWo.assign (e_int (0 : Int)) rfl (hn := ?_)
  refine LWo.nil (hN1 _ ?_)
  refine LWP.join (α := Int × (List S_impl_Pair)) (fun z : Int × (List S_impl_Pair) => [(1, (e_int z.1))]) (fun z : Int × (List S_impl_Pair) => [(0, (lob 2 e_impl_Pair z.2))]) (fun z : Int × (List S_impl_Pair) => m_laws_markPairS_j1  z.1 z.2) r (fun _ => by simp [hkeys]) ?_ ?_
  ·rintro ⟨t1, o0⟩ h
   replace h : m_laws_markPairS_j1  t1 o0 = some _ := h
   refine LWP.seq_k fun N22 hN22 => ?_
   refine LWP.region (l := [_,_]) ?_
   refine LWo.move (e_int t1) rfl (hn := ?_)
   refine LWo.assign (e_int t1) rfl (hn := ?_)
   refine LWo.nil (hN22 _ ?_)
   obtain rfl := Option.some.inj h
   refine LWP.ret (QG.mk (.inr rfl) (.cons (.tmp (x := (e_int t1)) rfl) (.nil)) (RetOK.one1 (.pure rfl) (by decide) rfl rfl rfl rfl rfl) rfl rfl)
  ·intro N2 hN2
   refine LWP.seq_k fun N3 hN3 => ?_
   refine LWP.region (l := [_]) ?_
   refine LWo.assign (e_int (0 : Int)) rfl (hn := ?_)
   refine LWo.nil (hN3 _ ?_)
   refine LWP.block ?_
   refine LWP.loopM (α := Int × Int × (List S_impl_Pair)) (fun z : Int × Int × (List S_impl_Pair) => [(0, (.own 0 0 (z.2.2).length)), (1, (e_int z.1)), (5, (e_int z.2.1))]) (fun z : Int × Int × (List S_impl_Pair) => [(0, (lob 2 e_impl_Pair z.2.2))]) (fun n1 (z : Int × Int × (List S_impl_Pair)) => m_laws_markPairS_l1  n1 z.1 z.2.1 z.2.2) r _ (a1, (0 : Int), o0) h (fun _ => rfl) (fun _ => by simp [hkeys]) ⟨rfl, rfl, rfl, trivial⟩ ⟨rfl, trivial⟩ ?_
   rintro n1 ⟨t1, t5, o0⟩ h N4 hN4
   replace h : m_laws_markPairS_l1  (n1 + 1) t1 t5 o0 = some _ := h
   refine LWP.seq_k fun N6 hN6 => ?_
   refine LWP.seq_k fun N7 hN7 => ?_
   refine LWP.region (l := [_,_,_,_]) ?_
   refine LWo.move (e_int t5) rfl (hn := ?_)
   refine LWo.move (.own 0 0 (o0).length) rfl (hn := ?_)
   refine LWo.lenO u_Limpl_Pair rfl (hn := ?_)
   refine LWo.int _ rfl rfl rfl (hn := ?_)
   refine LWo.nil (hN7 _ ?_)
   refine LWP.cond_split rfl (fun h8 => ?_) (fun h8 => ?_)
   ·have h := bT h8 h
    refine LWP.skip (hN6 _ ?_)
    refine LWP.seq_k fun N9 hN9 => ?_
    refine LWP.block ?_
    refine LWP.seq_k fun N10 hN10 => ?_
    refine LWP.region (l := [_,_,_,_,_,_]) ?_
    refine LWo.move (.own 0 0 (o0).length) rfl (hn := ?_)
    refine LWo.move (e_int t5) rfl (hn := ?_)
    refine LWo.move (e_int t1) rfl (hn := ?_)
    refine bk h fun x11 e11 h => ?_
    refine LWo.indexO e11 rfl u_Limpl_Pair s_impl_Pair rfl rfl rfl (hn := ?_)
    refine LWo.fieldPtr u_impl_Pair rfl s_int rfl rfl (hn := ?_)
    refine bk h fun x12 e12 h => ?_
    refine lk h fun y13 e13 h => ?_
    refine LWo.storeO y13 e12 s_int rfl rfl rfl rfl rfl rfl rfl (by rw [e13]; rfl) (hn := ?_)
    refine LWo.nil (hN10 _ ?_)
    refine LWP.seq_k fun N14 hN14 => ?_
    refine LWP.region (l := [_,_,_]) ?_
    refine LWo.move (e_int t1) rfl (hn := ?_)
    refine bk h fun x15 e15 h => ?_
    refine LWo.int _ rfl rfl (add_ck e15) (hn := ?_)
    refine LWo.assign (e_int x15) rfl (hn := ?_)
    refine LWo.nil (hN14 _ ?_)
    refine LWP.seq_k fun N16 hN16 => ?_
    refine LWP.region (l := [_,_,_,_,_,_]) ?_
    refine LWo.move (.own 0 0 (o0).length) rfl (hn := ?_)
    refine LWo.move (e_int t5) rfl (hn := ?_)
    refine LWo.move (e_int x15) rfl (hn := ?_)
    refine bk h fun x17 e17 h => ?_
    refine LWo.indexO e17 List.length_set.symm u_Limpl_Pair s_impl_Pair rfl rfl rfl (hn := ?_)
    refine LWo.fieldPtr u_impl_Pair rfl s_int rfl rfl (hn := ?_)
    refine bk h fun x18 e18 h => ?_
    refine lk h fun y19 e19 h => ?_
    refine LWo.storeO y19 e18 s_int rfl rfl rfl rfl rfl rfl rfl (by rw [e19]; rfl) (hn := ?_)
    refine LWo.nil (hN16 _ ?_)
    refine LWP.region (l := [_,_,_]) ?_
    refine LWo.move (e_int x15) rfl (hn := ?_)
    refine bk h fun x20 e20 h => ?_
    refine LWo.int _ rfl rfl (add_ck e20) (hn := ?_)
    refine LWo.assign (e_int x20) rfl (hn := ?_)
    refine LWo.nil (hN9 _ ?_)
    refine LWP.region (l := [_,_,_]) ?_
    refine LWo.move (e_int t5) rfl (hn := ?_)
    refine bk h fun x21 e21 h => ?_
    refine LWo.int _ rfl rfl (add_ck e21) (hn := ?_)
    refine LWo.assign (e_int x21) rfl (hn := ?_)
    refine LWo.nil (hN4 (x20, x21, ((o0.set (t5).toNat y13).set (t5).toNat y19)) _ ⟨(congrArg (LV.own 0 0) (List.length_set.symm.trans List.length_set.symm)), rfl, rfl, trivial⟩ ⟨rfl, trivial⟩ h)
   ·have h := bF h8 h
    refine LWP.exit (hN2 (t1, o0) _ ⟨rfl, trivial⟩ ⟨rfl, trivial⟩ h)
theorem k_laws_markPairS (o0 : (List S_impl_Pair)) (a1 : Int) (r : (Int × (List S_impl_Pair))) (h : m_laws_markPairS o0 a1 = some r) (k : Nat) : Does Try.prog f_laws_markPairS [.own k 0 o0.length, e_int a1] [(k, (lob 2 e_impl_Pair o0))] (fun x hh => x = e_int r.1 ∧ hh = [(k, (lob 2 e_impl_Pair r.2))]) :=
  Does.nameO (c_laws_markPairS o0 a1 r h) (fun _ => rfl) k

def m_laws_heldPairS_j1 (t1 : Int) : Option Int :=
  some t1
def m_laws_heldPairS_l1 : Nat → (List S_impl_Pair) → Int → Int → Option Int
  | 0, _, _, _ => none
  | n1 + 1, t0, t1, t5 =>
    bif decide (t5 < (t0.length : Int)) then ((at? t0 t5).bind fun x12 =>
    bif (x12.From != t1) then (some (-1 : Int))
    else ((ckI (t1 + (1 : Int))).bind fun x16 =>
    (at? t0 t5).bind fun x19 =>
    bif (x19.To != x16) then (some (-1 : Int))
    else ((ckI (x16 + (1 : Int))).bind fun x22 =>
    (ckI (t5 + (1 : Int))).bind fun x23 =>
    (m_laws_heldPairS_l1  n1) t0 x22 x23)))
    else (m_laws_heldPairS_j1  t1)
def m_laws_heldPairS (a0 : (List S_impl_Pair)) (a1 : Int) : Option Int :=
  m_laws_heldPairS_l1  (((a0.length : Int) - (0 : Int)).toNat + 1) a0 a1 (0 : Int)
theorem c_laws_heldPairS (a0 : (List S_impl_Pair)) (a1 : Int) (r : Int) (h : m_laws_heldPairS a0 a1 = some r) : Ret Try.prog f_laws_heldPairS [e_Limpl_Pair a0, e_int a1] (e_int r) := by
  refine Does.goG [] F_laws_heldPairS rfl e_laws_heldPairS n_laws_heldPairS rfl (rvs := [.tmp 4]) rfl rfl ?_
  intro w0 ok0 lent ρ0
  refine LWP.seq_k fun N1 hN1 => ?_
  refine LWP.region (l := [_]) ?_
  refine LWo.assign (e_int (0 : Int)) rfl (hn := ?_)
  refine LWo.nil (hN1 _ ?_)
  refine LWP.join (α := Int) (fun z : Int => [(1, (e_int z))]) (fun z : Int => []) (fun z : Int => m_laws_heldPairS_j1  z) r (fun _ => by simp [hkeys]) ?_ ?_
  ·rintro t1 h
   replace h : m_laws_heldPairS_j1  t1 = some _ := h
   refine LWP.seq_k fun N24 hN24 => ?_
   refine LWP.region (l := [_,_]) ?_
   refine LWo.move (e_int t1) rfl (hn := ?_)
   refine LWo.assign (e_int t1) rfl (hn := ?_)
   refine LWo.nil (hN24 _ ?_)
   obtain rfl := Option.some.inj h
   refine LWP.ret (QG.mk (.inr rfl) (.cons (.tmp (x := (e_int t1)) rfl) (.nil)) (RetOK.one0 (.pure rfl) (by decide)) rfl rfl)
  ·intro N2 hN2
   refine LWP.seq_k fun N3 hN3 => ?_
   refine LWP.region (l := [_]) ?_
   refine LWo.assign (e_int (0 : Int)) rfl (hn := ?_)
   refine LWo.nil (hN3 _ ?_)
   refine LWP.block ?_
   refine LWP.loopM (α := (List S_impl_Pair) × Int × Int) (fun z : (List S_impl_Pair) × Int × Int => [(0, (e_Limpl_Pair z.1)), (1, (e_int z.2.1)), (5, (e_int z.2.2))]) (fun z : (List S_impl_Pair) × Int × Int => []) (fun n1 (z : (List S_impl_Pair) × Int × Int) => m_laws_heldPairS_l1  n1 z.1 z.2.1 z.2.2) r _ (a0, a1, (0 : Int)) h (fun _ => rfl) (fun _ => by simp [hkeys]) ⟨rfl, rfl, rfl, trivial⟩ trivial ?_
   rintro n1 ⟨t0, t1, t5⟩ h N4 hN4
   replace h : m_laws_heldPairS_l1  (n1 + 1) t0 t1 t5 = some _ := h
   refine LWP.seq_k fun N6 hN6 => ?_
   refine LWP.seq_k fun N7 hN7 => ?_
   refine LWP.region (l := [_,_,_,_]) ?_
   refine LWo.move (e_int t5) rfl (hn := ?_)
   refine LWo.move (e_Limpl_Pair t0) rfl (hn := ?_)
   refine LWo.lenM (f := e_impl_Pair) (l := t0) u_Limpl_Pair rfl (hn := ?_)
   refine LWo.int _ rfl rfl rfl (hn := ?_)
   refine LWo.nil (hN7 _ ?_)
   refine LWP.cond_split rfl (fun h8 => ?_) (fun h8 => ?_)
   ·have h := bT h8 h
    refine LWP.skip (hN6 _ ?_)
    refine LWP.seq_k fun N9 hN9 => ?_
    refine LWP.block ?_
    refine LWP.seq_k fun N10 hN10 => ?_
    refine LWP.seq_k fun N11 hN11 => ?_
    refine LWP.region (l := [_,_,_,_,_,_,_]) ?_
    refine LWo.move (e_Limpl_Pair t0) rfl (hn := ?_)
    refine LWo.move (e_int t5) rfl (hn := ?_)
    refine bk h fun x12 e12 h => ?_
    refine LWo.indexM (f := e_impl_Pair) e12 u_Limpl_Pair s_impl_Pair rfl rfl (hn := ?_)
    refine LWo.fieldAddr _ u_impl_Pair rfl s_int rfl rfl (hn := ?_)
    refine LWo.load1 (c := (e_int x12.From)) g_int rfl (hn := ?_)
    refine LWo.move (e_int t1) rfl (hn := ?_)
    refine LWo.int _ rfl rfl rfl (hn := ?_)
    refine LWo.nil (hN11 _ ?_)
    refine LWP.cond_split rfl (fun h13 => ?_) (fun h13 => ?_)
    ·have h := bT h13 h
     refine LWP.seq_k fun N14 hN14 => ?_
     refine LWP.region (l := [_]) ?_
     refine LWo.assign (e_int (-1 : Int)) rfl (hn := ?_)
     refine LWo.nil (hN14 _ ?_)
     obtain rfl := Option.some.inj h
     refine LWP.ret (QG.mk (.inr rfl) (.cons (.tmp (x := (e_int (-1 : Int))) rfl) (.nil)) (RetOK.one0 (.pure rfl) (by decide)) rfl rfl)
    ·have h := bF h13 h
     refine LWP.skip (hN10 _ ?_)
     refine LWP.seq_k fun N15 hN15 => ?_
     refine LWP.region (l := [_,_,_]) ?_
     refine LWo.move (e_int t1) rfl (hn := ?_)
     refine bk h fun x16 e16 h => ?_
     refine LWo.int _ rfl rfl (add_ck e16) (hn := ?_)
     refine LWo.assign (e_int x16) rfl (hn := ?_)
     refine LWo.nil (hN15 _ ?_)
     refine LWP.seq_k fun N17 hN17 => ?_
     refine LWP.seq_k fun N18 hN18 => ?_
     refine LWP.region (l := [_,_,_,_,_,_,_]) ?_
     refine LWo.move (e_Limpl_Pair t0) rfl (hn := ?_)
     refine LWo.move (e_int t5) rfl (hn := ?_)
     refine bk h fun x19 e19 h => ?_
     refine LWo.indexM (f := e_impl_Pair) e19 u_Limpl_Pair s_impl_Pair rfl rfl (hn := ?_)
     refine LWo.fieldAddr _ u_impl_Pair rfl s_int rfl rfl (hn := ?_)
     refine LWo.load1 (c := (e_int x19.To)) g_int rfl (hn := ?_)
     refine LWo.move (e_int x16) rfl (hn := ?_)
     refine LWo.int _ rfl rfl rfl (hn := ?_)
     refine LWo.nil (hN18 _ ?_)
     refine LWP.cond_split rfl (fun h20 => ?_) (fun h20 => ?_)
     ·have h := bT h20 h
      refine LWP.seq_k fun N21 hN21 => ?_
      refine LWP.region (l := [_]) ?_
      refine LWo.assign (e_int (-1 : Int)) rfl (hn := ?_)
      refine LWo.nil (hN21 _ ?_)
      obtain rfl := Option.some.inj h
      refine LWP.ret (QG.mk (.inr rfl) (.cons (.tmp (x := (e_int (-1 : Int))) rfl) (.nil)) (RetOK.one0 (.pure rfl) (by decide)) rfl rfl)
     ·have h := bF h20 h
      refine LWP.skip (hN17 _ ?_)
      refine LWP.region (l := [_,_,_]) ?_
      refine LWo.move (e_int x16) rfl (hn := ?_)
      refine bk h fun x22 e22 h => ?_
      refine LWo.int _ rfl rfl (add_ck e22) (hn := ?_)
      refine LWo.assign (e_int x22) rfl (hn := ?_)
      refine LWo.nil (hN9 _ ?_)
      refine LWP.region (l := [_,_,_]) ?_
      refine LWo.move (e_int t5) rfl (hn := ?_)
      refine bk h fun x23 e23 h => ?_
      refine LWo.int _ rfl rfl (add_ck e23) (hn := ?_)
      refine LWo.assign (e_int x23) rfl (hn := ?_)
      refine LWo.nil (hN4 (t0, x22, x23) _ ⟨rfl, rfl, rfl, trivial⟩ trivial h)
   ·have h := bF h8 h
    refine LWP.exit (hN2 t1 _ ⟨rfl, trivial⟩ trivial h)

def m_laws_FnExactClosureNew_j1 (t0 : (List S_laws_Pair)) (t4 : (List S_impl_Pair)) (t42 : Bool) (o1022 : (List S_impl_Pair)) : Option Bool :=
  bif t42 then (some false)
  else ((m_laws_markPairS o1022 (1 : Int)).bind fun x39 =>
  (lenQ x39.2.length o1022.length ()).bind fun u40 =>
  (m_laws_heldPairS x39.2 (1 : Int)).bind fun x43 =>
  bif decide (x43 < (0 : Int)) then (some false)
  else (bif (x43 != x39.1) then (some false)
  else ((m_laws_toPairS t0).bind fun x53 =>
  (m_impl_ClosureNew x53).bind fun x54 =>
  (m_laws_eqPairS x54 t4).bind fun x57 =>
  bif (!x57) then (some false)
  else ((m_laws_heldPairS x39.2 (1 : Int)).bind fun x62 =>
  bif decide (x62 < (0 : Int)) then (some false)
  else (bif (x62 != x39.1) then (some false)
  else (some true))))))
def m_laws_FnExactClosureNew (a0 : (List S_laws_Pair)) : Option Bool :=
  (m_laws_szPairS a0 (1048576 : Int)).bind fun x4 =>
  bif decide (x4 < (0 : Int)) then (some true)
  else ((m_laws_toPairS a0).bind fun x10 =>
  (m_spec_ClosureNew x10).bind fun x11 =>
  (m_laws_toPairS a0).bind fun x13 =>
  (m_impl_ClosureNew x13).bind fun x15 =>
  (m_laws_eqPairS x15 x11).bind fun x18 =>
  bif (!x18) then (some false)
  else ((m_laws_toPairS a0).bind fun x23 =>
  (m_laws_eqPairS x13 x23).bind fun x24 =>
  bif (!x24) then (some false)
  else ((m_laws_markPairS x13 (1 : Int)).bind fun x29 =>
  (lenQ x29.2.length x13.length ()).bind fun u30 =>
  bif decide (x29.1 < (0 : Int)) then (m_laws_FnExactClosureNew_j1  a0 x11 true x15)
  else ((m_laws_eqPairS x15 x11).bind fun x34 =>
    m_laws_FnExactClosureNew_j1  a0 x11 (!x34) x15))))
theorem c_laws_FnExactClosureNew (a0 : (List S_laws_Pair)) (r : Bool) (h : m_laws_FnExactClosureNew a0 = some r) : Ret Try.prog f_laws_FnExactClosureNew [e_Llaws_Pair a0] (e_bool r) := by
  refine Does.goG [] F_laws_FnExactClosureNew rfl e_laws_FnExactClosureNew n_laws_FnExactClosureNew rfl (rvs := [.tmp 2]) rfl rfl ?_
  intro w0 ok0 lent ρ0
  refine LWP.seq_k fun N1 hN1 => ?_
  refine LWP.region (l := [_]) ?_
  refine LWo.assign (e_bool false) rfl (hn := ?_)
  refine LWo.nil (hN1 _ ?_)
  refine LWP.seq_k fun N2 hN2 => ?_
  refine LWP.region (l := [_]) ?_
  refine LWo.assign (e_int (1048576 : Int)) rfl (hn := ?_)
  refine LWo.nil (hN2 _ ?_)
  refine LWP.seq_k fun N3 hN3 => ?_
  refine LWP.region (l := [_,_,_,_]) ?_
  refine LWo.move (e_Llaws_Pair a0) rfl (hn := ?_)
  refine LWo.move (e_int (1048576 : Int)) rfl (hn := ?_)
  refine bk h fun x4 e4 h => ?_
  refine LWo.vcall rfl rfl (c_laws_szPairS _ _ _ e4) (.same (.same (.nil))) (hn := ?_)
  refine LWo.assign (e_int x4) rfl (hn := ?_)
  refine LWo.nil (hN3 _ ?_)
  refine LWP.seq_k fun N5 hN5 => ?_
  refine LWP.seq_k fun N6 hN6 => ?_
  refine LWP.region (l := [_,_]) ?_
  refine LWo.move (e_int x4) rfl (hn := ?_)
  refine LWo.int _ rfl rfl rfl (hn := ?_)
  refine LWo.nil (hN6 _ ?_)
  refine LWP.cond_split rfl (fun h7 => ?_) (fun h7 => ?_)
  ·have h := bT h7 h
   refine LWP.seq_k fun N8 hN8 => ?_
   refine LWP.region (l := [_]) ?_
   refine LWo.assign (e_bool true) rfl (hn := ?_)
   refine LWo.nil (hN8 _ ?_)
   obtain rfl := Option.some.inj h
   refine LWP.ret (QG.mk (.inr rfl) (.cons (.tmp (x := (e_bool true)) rfl) (.nil)) (RetOK.one0 (.pure rfl) (by decide)) rfl rfl)
  ·have h := bF h7 h
   refine LWP.skip (hN5 _ ?_)
   refine LWP.seq_k fun N9 hN9 => ?_
   refine LWP.region (l := [_,_,_,_]) ?_
   refine LWo.move (e_Llaws_Pair a0) rfl (hn := ?_)
   refine bk h fun x10 e10 h => ?_
   refine LWo.vcall rfl rfl (c_laws_toPairS _ _ e10) (.same (.nil)) (hn := ?_)
   refine bk h fun x11 e11 h => ?_
   refine LWo.vcall rfl rfl (c_spec_ClosureNew _ _ e11) (.same (.nil)) (hn := ?_)
   refine LWo.assign (e_Limpl_Pair x11) rfl (hn := ?_)
   refine LWo.nil (hN9 _ ?_)
   refine LWP.seq_k fun N12 hN12 => ?_
   refine LWP.region (l := [_,_,_]) ?_
   refine LWo.move (e_Llaws_Pair a0) rfl (hn := ?_)
   refine bk h fun x13 e13 h => ?_
   refine LWo.ncall (e := e_impl_Pair) 1020 rfl rfl (c_laws_toPairS _ _ e13) (.same (.nil)) rfl (hn := ?_)
   refine LWo.assign (.own 1020 0 (x13).length) rfl (hn := ?_)
   refine LWo.nil (hN12 _ ?_)
   refine LWP.seq_k fun N14 hN14 => ?_
   refine LWP.region (l := [_,_,_]) ?_
   refine LWo.move (.own 1020 0 (x13).length) rfl (hn := ?_)
   refine bk h fun x15 e15 h => ?_
   refine LWo.ncallV (e := e_impl_Pair) 1022 rfl rfl (c_impl_ClosureNew _ _ e15) (.viewM rfl rfl rfl (.nil)) (fun _ => rfl) rfl (hn := ?_)
   refine LWo.assign (.own 1022 0 (x15).length) rfl (hn := ?_)
   refine LWo.nil (hN14 _ ?_)
   refine LWP.seq_k fun N16 hN16 => ?_
   refine LWP.seq_k fun N17 hN17 => ?_
   refine LWP.region (l := [_,_,_,_]) ?_
   refine LWo.move (.own 1022 0 (x15).length) rfl (hn := ?_)
   refine LWo.move (e_Limpl_Pair x11) rfl (hn := ?_)
   refine bk h fun x18 e18 h => ?_
   refine LWo.wcall rfl rfl (c_laws_eqPairS _ _ _ e18) (.viewM rfl rfl rfl (.same (.nil))) rfl (hn := ?_)
   refine LWo.not rfl (hn := ?_)
   refine LWo.nil (hN17 _ ?_)
   refine LWP.cond_split rfl (fun h19 => ?_) (fun h19 => ?_)
   ·have h := bT h19 h
    refine LWP.seq_k fun N20 hN20 => ?_
    refine LWP.region (l := [_]) ?_
    refine LWo.assign (e_bool false) rfl (hn := ?_)
    refine LWo.nil (hN20 _ ?_)
    obtain rfl := Option.some.inj h
    refine LWP.ret (QG.mk (.inr rfl) (.cons (.tmp (x := (e_bool false)) rfl) (.nil)) (RetOK.one0 (.pure rfl) (by decide)) rfl rfl)
   ·have h := bF h19 h
    refine LWP.skip (hN16 _ ?_)
    refine LWP.seq_k fun N21 hN21 => ?_
    refine LWP.seq_k fun N22 hN22 => ?_
    refine LWP.region (l := [_,_,_,_,_]) ?_
    refine LWo.move (.own 1020 0 (x13).length) rfl (hn := ?_)
    refine LWo.move (e_Llaws_Pair a0) rfl (hn := ?_)
    refine bk h fun x23 e23 h => ?_
    refine LWo.vcall rfl rfl (c_laws_toPairS _ _ e23) (.same (.nil)) (hn := ?_)
    refine bk h fun x24 e24 h => ?_
    refine LWo.wcall rfl rfl (c_laws_eqPairS _ _ _ e24) (.viewM rfl rfl rfl (.same (.nil))) rfl (hn := ?_)
    refine LWo.not rfl (hn := ?_)
    refine LWo.nil (hN22 _ ?_)
    refine LWP.cond_split rfl (fun h25 => ?_) (fun h25 => ?_)
    ·have h := bT h25 h
     refine LWP.seq_k fun N26 hN26 => ?_
     refine LWP.region (l := [_]) ?_
     refine LWo.assign (e_bool false) rfl (hn := ?_)
     refine LWo.nil (hN26 _ ?_)
     obtain rfl := Option.some.inj h
     refine LWP.ret (QG.mk (.inr rfl) (.cons (.tmp (x := (e_bool false)) rfl) (.nil)) (RetOK.one0 (.pure rfl) (by decide)) rfl rfl)
    ·have h := bF h25 h
     refine LWP.skip (hN21 _ ?_)
     refine LWP.seq_k fun N27 hN27 => ?_
     refine LWP.region (l := [_]) ?_
     refine LWo.assign (e_int (1 : Int)) rfl (hn := ?_)
     refine LWo.nil (hN27 _ ?_)
     refine LWP.seq_k fun N28 hN28 => ?_
     refine LWP.region (l := [_,_,_,_]) ?_
     refine LWo.move (.own 1020 0 (x13).length) rfl (hn := ?_)
     refine LWo.move (e_int (1 : Int)) rfl (hn := ?_)
     refine bk h fun x29 e29 h => ?_
     refine bk h fun u30 e30 h => ?_
     refine LWo.ucallM (e := e_impl_Pair) rfl rfl (k_laws_markPairS _ _ _ e29 1020) rfl rfl (some 34) rfl (hn := ?_)
     refine LWo.assign (e_int x29.1) rfl (hn := ?_)
     refine LWo.nil (hN28 _ ?_)
     refine LWP.seq_k fun N31 hN31 => ?_
     refine LWP.join (α := (List S_laws_Pair) × (List S_impl_Pair) × Bool × (List S_impl_Pair)) (fun z : (List S_laws_Pair) × (List S_impl_Pair) × Bool × (List S_impl_Pair) => [(0, (e_Llaws_Pair z.1)), (4, (e_Limpl_Pair z.2.1)), (6, (.own 1022 0 (z.2.2.2).length)), (42, (e_bool z.2.2.1))]) (fun z : (List S_laws_Pair) × (List S_impl_Pair) × Bool × (List S_impl_Pair) => [(1022, (lob 2 e_impl_Pair z.2.2.2))]) (fun z : (List S_laws_Pair) × (List S_impl_Pair) × Bool × (List S_impl_Pair) => m_laws_FnExactClosureNew_j1  z.1 z.2.1 z.2.2.1 z.2.2.2) r (fun _ => by simp [hkeys]) ?_ ?_
     ·rintro ⟨t0, t4, t42, o1022⟩ h
      replace h : m_laws_FnExactClosureNew_j1  t0 t4 t42 o1022 = some _ := h
      refine LWP.cond_split rfl (fun h35 => ?_) (fun h35 => ?_)
      ·have h := bT h35 h
       refine LWP.seq_k fun N36 hN36 => ?_
       refine LWP.region (l := [_]) ?_
       refine LWo.assign (e_bool false) rfl (hn := ?_)
       refine LWo.nil (hN36 _ ?_)
       obtain rfl := Option.some.inj h
       refine LWP.ret (QG.mk (.inr rfl) (.cons (.tmp (x := (e_bool false)) rfl) (.nil)) (RetOK.one0 (.pure rfl) (by decide)) rfl rfl)
      ·have h := bF h35 h
       refine LWP.skip (hN31 _ ?_)
       refine LWP.seq_k fun N37 hN37 => ?_
       refine LWP.region (l := [_]) ?_
       refine LWo.assign (e_int (1 : Int)) rfl (hn := ?_)
       refine LWo.nil (hN37 _ ?_)
       refine LWP.seq_k fun N38 hN38 => ?_
       refine LWP.region (l := [_,_,_,_]) ?_
       refine LWo.move (.own 1022 0 (o1022).length) rfl (hn := ?_)
       refine LWo.move (e_int (1 : Int)) rfl (hn := ?_)
       refine bk h fun x39 e39 h => ?_
       refine bk h fun u40 e40 h => ?_
       refine LWo.ucallM (e := e_impl_Pair) rfl rfl (k_laws_markPairS _ _ _ e39 1022) rfl rfl (some 45) rfl (hn := ?_)
       refine LWo.assign (e_int x39.1) rfl (hn := ?_)
       refine LWo.nil (hN38 _ ?_)
       refine LWP.seq_k fun N41 hN41 => ?_
       refine LWP.region (l := [_]) ?_
       refine LWo.assign (e_int (1 : Int)) rfl (hn := ?_)
       refine LWo.nil (hN41 _ ?_)
       refine LWP.seq_k fun N42 hN42 => ?_
       refine LWP.region (l := [_,_,_,_]) ?_
       refine LWo.move (.own 1022 0 (o1022).length) rfl (hn := ?_)
       refine LWo.move (e_int (1 : Int)) rfl (hn := ?_)
       refine bk h fun x43 e43 h => ?_
       refine LWo.wcall rfl rfl (c_laws_heldPairS _ _ _ e43) (.viewM rfl ((lenQ_some e40).1.symm) rfl (.same (.nil))) rfl (hn := ?_)
       refine LWo.assign (e_int x43) rfl (hn := ?_)
       refine LWo.nil (hN42 _ ?_)
       refine LWP.seq_k fun N44 hN44 => ?_
       refine LWP.seq_k fun N45 hN45 => ?_
       refine LWP.region (l := [_,_]) ?_
       refine LWo.move (e_int x43) rfl (hn := ?_)
       refine LWo.int _ rfl rfl rfl (hn := ?_)
       refine LWo.nil (hN45 _ ?_)
       refine LWP.cond_split rfl (fun h46 => ?_) (fun h46 => ?_)
       ·have h := bT h46 h
        refine LWP.seq_k fun N47 hN47 => ?_
        refine LWP.region (l := [_]) ?_
        refine LWo.assign (e_bool false) rfl (hn := ?_)
        refine LWo.nil (hN47 _ ?_)
        obtain rfl := Option.some.inj h
        refine LWP.ret (QG.mk (.inr rfl) (.cons (.tmp (x := (e_bool false)) rfl) (.nil)) (RetOK.one0 (.pure rfl) (by decide)) rfl rfl)
       ·have h := bF h46 h
        refine LWP.skip (hN44 _ ?_)
        refine LWP.seq_k fun N48 hN48 => ?_
        refine LWP.seq_k fun N49 hN49 => ?_
        refine LWP.region (l := [_,_,_]) ?_
        refine LWo.move (e_int x43) rfl (hn := ?_)
        refine LWo.move (e_int x39.1) rfl (hn := ?_)
        refine LWo.int _ rfl rfl rfl (hn := ?_)
        refine LWo.nil (hN49 _ ?_)
        refine LWP.cond_split rfl (fun h50 => ?_) (fun h50 => ?_)
        ·have h := bT h50 h
         refine LWP.seq_k fun N51 hN51 => ?_
         refine LWP.region (l := [_]) ?_
         refine LWo.assign (e_bool false) rfl (hn := ?_)
         refine LWo.nil (hN51 _ ?_)
         obtain rfl := Option.some.inj h
         refine LWP.ret (QG.mk (.inr rfl) (.cons (.tmp (x := (e_bool false)) rfl) (.nil)) (RetOK.one0 (.pure rfl) (by decide)) rfl rfl)
        ·have h := bF h50 h
         refine LWP.skip (hN48 _ ?_)
         refine LWP.seq_k fun N52 hN52 => ?_
         refine LWP.region (l := [_,_,_,_]) ?_
         refine LWo.move (e_Llaws_Pair t0) rfl (hn := ?_)
         refine bk h fun x53 e53 h => ?_
         refine LWo.vcall rfl rfl (c_laws_toPairS _ _ e53) (.same (.nil)) (hn := ?_)
         refine bk h fun x54 e54 h => ?_
         refine LWo.vcall rfl rfl (c_impl_ClosureNew _ _ e54) (.same (.nil)) (hn := ?_)
         refine LWo.assign (e_Limpl_Pair x54) rfl (hn := ?_)
         refine LWo.nil (hN52 _ ?_)
         refine LWP.seq_k fun N55 hN55 => ?_
         refine LWP.seq_k fun N56 hN56 => ?_
         refine LWP.region (l := [_,_,_,_]) ?_
         refine LWo.move (e_Limpl_Pair x54) rfl (hn := ?_)
         refine LWo.move (e_Limpl_Pair t4) rfl (hn := ?_)
         refine bk h fun x57 e57 h => ?_
         refine LWo.vcall rfl rfl (c_laws_eqPairS _ _ _ e57) (.same (.same (.nil))) (hn := ?_)
         refine LWo.not rfl (hn := ?_)
         refine LWo.nil (hN56 _ ?_)
         refine LWP.cond_split rfl (fun h58 => ?_) (fun h58 => ?_)
         ·have h := bT h58 h
          refine LWP.seq_k fun N59 hN59 => ?_
          refine LWP.region (l := [_]) ?_
          refine LWo.assign (e_bool false) rfl (hn := ?_)
          refine LWo.nil (hN59 _ ?_)
          obtain rfl := Option.some.inj h
          refine LWP.ret (QG.mk (.inr rfl) (.cons (.tmp (x := (e_bool false)) rfl) (.nil)) (RetOK.one0 (.pure rfl) (by decide)) rfl rfl)
         ·have h := bF h58 h
          refine LWP.skip (hN55 _ ?_)
          refine LWP.seq_k fun N60 hN60 => ?_
          refine LWP.region (l := [_]) ?_
          refine LWo.assign (e_int (1 : Int)) rfl (hn := ?_)
          refine LWo.nil (hN60 _ ?_)
          refine LWP.seq_k fun N61 hN61 => ?_
          refine LWP.region (l := [_,_,_,_]) ?_
          refine LWo.move (.own 1022 0 (o1022).length) rfl (hn := ?_)
          refine LWo.move (e_int (1 : Int)) rfl (hn := ?_)
          refine bk h fun x62 e62 h => ?_
          refine LWo.wcall rfl rfl (c_laws_heldPairS _ _ _ e62) (.viewM rfl ((lenQ_some e40).1.symm) rfl (.same (.nil))) rfl (hn := ?_)
          refine LWo.assign (e_int x62) rfl (hn := ?_)
          refine LWo.nil (hN61 _ ?_)
          refine LWP.seq_k fun N63 hN63 => ?_
          refine LWP.seq_k fun N64 hN64 => ?_
          refine LWP.region (l := [_,_]) ?_
          refine LWo.move (e_int x62) rfl (hn := ?_)
          refine LWo.int _ rfl rfl rfl (hn := ?_)
          refine LWo.nil (hN64 _ ?_)
          refine LWP.cond_split rfl (fun h65 => ?_) (fun h65 => ?_)
          ·have h := bT h65 h
           refine LWP.seq_k fun N66 hN66 => ?_
           refine LWP.region (l := [_]) ?_
           refine LWo.assign (e_bool false) rfl (hn := ?_)
           refine LWo.nil (hN66 _ ?_)
           obtain rfl := Option.some.inj h
           refine LWP.ret (QG.mk (.inr rfl) (.cons (.tmp (x := (e_bool false)) rfl) (.nil)) (RetOK.one0 (.pure rfl) (by decide)) rfl rfl)
          ·have h := bF h65 h
           refine LWP.skip (hN63 _ ?_)
           refine LWP.seq_k fun N67 hN67 => ?_
           refine LWP.seq_k fun N68 hN68 => ?_
           refine LWP.region (l := [_,_,_]) ?_
           refine LWo.move (e_int x62) rfl (hn := ?_)
           refine LWo.move (e_int x39.1) rfl (hn := ?_)
           refine LWo.int _ rfl rfl rfl (hn := ?_)
           refine LWo.nil (hN68 _ ?_)
           refine LWP.cond_split rfl (fun h69 => ?_) (fun h69 => ?_)
           ·have h := bT h69 h
            refine LWP.seq_k fun N70 hN70 => ?_
            refine LWP.region (l := [_]) ?_
            refine LWo.assign (e_bool false) rfl (hn := ?_)
            refine LWo.nil (hN70 _ ?_)
            obtain rfl := Option.some.inj h
            refine LWP.ret (QG.mk (.inr rfl) (.cons (.tmp (x := (e_bool false)) rfl) (.nil)) (RetOK.one0 (.pure rfl) (by decide)) rfl rfl)
           ·have h := bF h69 h
            refine LWP.skip (hN67 _ ?_)
            refine LWP.seq_k fun N71 hN71 => ?_
            refine LWP.region (l := [_]) ?_
            refine LWo.assign (e_bool true) rfl (hn := ?_)
            refine LWo.nil (hN71 _ ?_)
            obtain rfl := Option.some.inj h
            refine LWP.ret (QG.mk (.inr rfl) (.cons (.tmp (x := (e_bool true)) rfl) (.nil)) (RetOK.one0 (.pure rfl) (by decide)) rfl rfl)
     ·intro N32 hN32
      refine LWP.region (l := [_,_,_,_,_,_,_,_]) ?_
      refine LWo.move (e_int x29.1) rfl (hn := ?_)
      refine LWo.int _ rfl rfl rfl (hn := ?_)
      refine LWo.move (e_bool (decide (x29.1 < (0 : Int)))) rfl (hn := ?_)
      refine LWo.byCases (t := 37) _ rfl (fun h33 => ?_) (fun h33 => ?_)
      ·have h := bT h33 h
       refine LWo.guardNU (t := 37) rfl h33 rfl rfl rfl rfl rfl ?_
       refine LWo.guardNU (t := 37) rfl h33 rfl rfl rfl rfl rfl ?_
       refine LWo.guardNU (t := 37) rfl h33 rfl rfl rfl rfl rfl ?_
       refine LWo.guardNU (t := 37) rfl h33 rfl rfl rfl rfl rfl ?_
       refine LWo.pickTM (e_bool true) rfl h33 rfl (hn := ?_)
       refine LWo.nil (hN32 (a0, x11, true, x15) _ ⟨rfl, rfl, rfl, rfl, trivial⟩ ⟨rfl, trivial⟩ h)
      ·have h := bF h33 h
       refine LWo.guardY (t := 37) rfl h33 rfl rfl ?_
       refine LWo.move (.own 1022 0 (x15).length) rfl (hn := ?_)
       refine LWo.guardY (t := 37) rfl h33 rfl rfl ?_
       refine LWo.move (e_Limpl_Pair x11) rfl (hn := ?_)
       refine bk h fun x34 e34 h => ?_
       refine LWo.guardY (t := 37) rfl h33 rfl rfl ?_
       refine LWo.wcall rfl rfl (c_laws_eqPairS _ _ _ e34) (.viewM rfl rfl rfl (.same (.nil))) rfl (hn := ?_)
       refine LWo.guardY (t := 37) rfl h33 rfl rfl ?_
       refine LWo.not rfl (hn := ?_)
       refine LWo.pickFM (e_bool (!x34)) rfl h33 rfl (hn := ?_)
       refine LWo.nil (hN32 (a0, x11, (!x34), x15) _ ⟨rfl, rfl, rfl, rfl, trivial⟩ ⟨rfl, trivial⟩ h)
end Go.Proofs.Ytkgmomocjkmipaa
