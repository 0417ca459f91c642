/- Mirrors of functions, and that the functions return what the mirrors say. -/
import Derived.Test.YtkgmomocjkmipaaXW2
set_option linter.unusedVariables false
set_option linter.unusedSimpArgs false
set_option linter.unnecessarySimpa false
namespace Go.Proofs.Ytkgmomocjkmipaa
open Go.Proofs Go.Lift Go.RowKit
def m_slices_Delete_Limpl_Tally_impl_Tally (o0 : List S_impl_Tally) (a1 a2 : Int) : Option (List S_impl_Tally) := if 0 ≤ a1 ∧ a1 ≤ a2 ∧ a2 ≤ o0.length ∧ o0.length ≤ 1000000000 then some (o0.take a1.toNat ++ o0.drop a2.toNat) else none
theorem c_slices_Delete_Limpl_Tally_impl_Tally (o0 : List S_impl_Tally) (a1 a2 : Int) (r : List S_impl_Tally) (h : m_slices_Delete_Limpl_Tally_impl_Tally o0 a1 a2 = some r) : Does Try.prog f_slices_Delete_Limpl_Tally_impl_Tally [.own 0 0 o0.length, e_int a1, e_int a2] [(0, lob 4 e_impl_Tally o0)] (fun x hh => x = .nw 4 (r.map e_impl_Tally) false ∧ hh = []) := by
  unfold m_slices_Delete_Limpl_Tally_impl_Tally at h
  split at h
  · rename_i h1
    cases h
    obtain ⟨i, rfl⟩ : ∃ i : Nat, a1 = i := ⟨a1.toNat, by omega⟩
    obtain ⟨j, rfl⟩ : ∃ j : Nat, a2 = j := ⟨a2.toNat, by omega⟩
    simp only [Int.toNat_natCast]
    refine Does.goG [0] F_slices_Delete_Limpl_Tally_impl_Tally rfl e_slices_Delete_Limpl_Tally_impl_Tally n_slices_Delete_Limpl_Tally_impl_Tally rfl (rvs := [.tmp 6]) rfl rfl ?_
    intro w0 ok0 lent ρ0
    refine LWP.rekey 0 0 1000 rfl rfl rfl rfl rfl rfl ?_
    refine LWP.tell [(0, .own 1000 0 o0.length), (1, e_int i), (2, e_int j)] [(1000, lob 4 e_impl_Tally o0)] ⟨rfl, rfl, rfl, trivial⟩ ⟨rfl, trivial⟩ (by simp [hkeys]) ?_
    refine LWP.seq_k fun N1 hN1 => ?_
    refine LWP.region (l := [_]) ?_
    refine LWo.assign _ rfl (hn := ?_)
    refine LWo.nil (hN1 _ ?_)
    refine LWP.seq_k fun N2 hN2 => ?_
    refine LWP.region (l := [_,_,_,_,_,_]) ?_
    refine LWo.move (.own 1000 0 o0.length) rfl (hn := ?_)
    refine LWo.move (e_int i) rfl (hn := ?_)
    refine LWo.move (e_int j) rfl (hn := ?_)
    refine LWo.move (.own 1000 0 o0.length) rfl (hn := ?_)
    refine LWo.lenO u_Limpl_Tally rfl (hn := ?_)
    refine LWo.cutOM3 (f := e_impl_Tally) (l := o0) (lo := (i : Int)) (hi := (j : Int)) (rng_of (by omega)) u_Limpl_Tally s_impl_Tally rfl rfl ⟨_, rfl⟩ rfl rfl (hn := ?_)
    refine LWo.nil (hN2 _ ?_)
    refine LWP.seq_k fun N4 hN4 => ?_
    refine LWP.seq_k fun N5 hN5 => ?_
    refine LWP.region (l := [_,_,_]) ?_
    refine LWo.move (e_int i) rfl (hn := ?_)
    refine LWo.move (e_int j) rfl (hn := ?_)
    refine LWo.int (.bool ((i : Int) == (j : Int))) rfl rfl rfl (hn := ?_)
    refine LWo.nil (hN5 _ ?_)
    refine LWP.cond_split rfl (fun h6 => ?_) (fun h6 => ?_)
    · refine LWP.seq_k fun N7 hN7 => ?_
      refine LWP.region (l := [_,_]) ?_
      refine LWo.move (.own 1000 0 o0.length) rfl (hn := ?_)
      refine LWo.assign (.own 1000 0 o0.length) rfl (hn := ?_)
      refine LWo.nil (hN7 _ ?_)
      have hij : i = j := by simp at h6; omega
      subst hij
      refine LWP.ret (QG.mk (.inr rfl) (.cons (.tmp (x := .own 1000 0 o0.length) rfl) .nil) (RetOK.one0 (.nwM rfl rfl) (by decide)) (congrArg (fun l => LV.nw 4 (List.map e_impl_Tally l) false) (by simp)) rfl)
    · refine LWP.skip (hN4 _ ?_)
      have hij : i < j := by
        have : ¬ i = j := by simp at h6; omega
        omega
      refine LWP.seq_k fun N8 hN8 => ?_
      refine LWP.region (l := [_,_,_]) ?_
      refine LWo.move (.own 1000 0 o0.length) rfl (hn := ?_)
      refine LWo.lenO u_Limpl_Tally rfl (hn := ?_)
      refine LWo.assign (e_int (o0.length : Int)) rfl (hn := ?_)
      refine LWo.ownCap 0 rfl (by omega) (ho := rfl) (fun c hc1 hc2 => ?_)
      refine LWo.nil (hN8 _ ?_)
      refine LWP.seq_k fun N9 hN9 => ?_
      refine LWP.drawE (l := [_,_,_,_,_,_,_,_]) [] [0, 1, 2, 7] [([0], []), ([1], []), ([20, 21], [1000]), ([0], []), ([2], []), ([23, 24], [1000]), ([22, 25], [1000]), ([26], [])] [0, 7] [1000] mixed (by kernel_rfl) rfl (by decide) ?_
      refine ⟨rfl, .put 20 _, trivial, fun u hg hu hh => LWo.move (.ownc 1000 0 o0.length c) hu.1 (hn := LWo.nil ⟨rfl, .inl rfl, hg⟩), ?_⟩
      refine ⟨rfl, .put 21 _, trivial, fun u hg hu hh => LWo.move (e_int i) hu.1 (hn := LWo.nil ⟨rfl, .inl rfl, hg⟩), ?_⟩
      refine ⟨rfl, .put 22 _, trivial, fun u hg hu hh => LWo.cutCC (h := i) u_Limpl_Tally s_impl_Tally hu.1 hh.1 rfl ⟨_, hu.2.1⟩ (by omega) (by omega) (hn := LWo.nil ⟨rfl, .inl rfl, hg⟩), ?_⟩
      refine ⟨rfl, .put 23 _, trivial, fun u hg hu hh => LWo.move (.ownc 1000 0 o0.length c) hu.1 (hn := LWo.nil ⟨rfl, .inl rfl, hg⟩), ?_⟩
      refine ⟨rfl, .put 24 _, trivial, fun u hg hu hh => LWo.move (e_int j) hu.1 (hn := LWo.nil ⟨rfl, .inl rfl, hg⟩), ?_⟩
      refine ⟨rfl, .put 25 _, trivial, fun u hg hu hh => LWo.cutC (l := j) (h := o0.length) u_Limpl_Tally s_impl_Tally hu.1 hh.1 rfl ⟨_, hu.2.1⟩ rfl (by omega) (by omega) rfl rfl (hn := LWo.nil ⟨rfl, .inl rfl, hg⟩), ?_⟩
      refine ⟨rfl, .upd (some 26) _ 1000 _, (fun _ h => by cases h), fun u hg hu hh => LWo.appendIn (f := e_impl_Tally) (l := o0) (m := (o0.drop (0 + j)).take (o0.length - j)) (by simp; omega) (by omega) u_Limpl_Tally u_Limpl_Tally (fun _ h => by cases h) s_impl_Tally hu.1 hh.1 (.cut hu.2.1 (by omega) hh.1 rfl) (hn := LWo.nil ⟨rfl, .inl rfl, Ef.good_ok (e := .upd (some 26) _ 1000 _) (fun _ h => by cases h) hg⟩), ?_⟩
      refine ⟨rfl, .put 0 _, trivial, fun u hg hu hh => LWo.assign _ hu.1 (hn := LWo.nil ⟨rfl, .inl rfl, hg⟩), ?_⟩
      refine ⟨rfl, by kernel_rfl, hN9 _ ?_⟩
      have hml : ((o0.drop (0 + j)).take (o0.length - j)).length = o0.length - j := by simp
      refine LWP.seq_k fun N10 hN10 => ?_
      refine LWP.region (l := [_,_,_,_,_,_]) ?_
      refine LWo.move (.ownc 1000 0 (i + ((o0.drop (0 + j)).take (o0.length - j)).length) c) rfl (hn := ?_)
      refine LWo.move (.ownc 1000 0 (i + ((o0.drop (0 + j)).take (o0.length - j)).length) c) rfl (hn := ?_)
      refine LWo.forgetC 28 rfl ?_
      refine LWo.lenO u_Limpl_Tally rfl (hn := ?_)
      refine LWo.move (e_int (o0.length : Int)) rfl (hn := ?_)
      refine LWo.cutC (l := i + ((o0.drop (0 + j)).take (o0.length - j)).length) (h := o0.length) u_Limpl_Tally s_impl_Tally rfl rfl rfl ⟨_, rfl⟩ ⟨_, rfl⟩ (by omega) (by omega) rfl rfl (hn := ?_)
      refine LWo.clearO (f := e_impl_Tally) (l := o0.take i ++ (o0.drop (0 + j)).take (o0.length - j)) none u_Limpl_Tally z_impl_Tally rfl rfl rfl rfl rfl (hn := ?_)
      refine LWo.nil (hN10 _ ?_)
      refine LWP.seq_k fun N11 hN11 => ?_
      refine LWP.region (l := [_,_]) ?_
      refine LWo.move (.ownc 1000 0 (i + ((o0.drop (0 + j)).take (o0.length - j)).length) c) rfl (hn := ?_)
      refine LWo.assign (.ownc 1000 0 (i + ((o0.drop (0 + j)).take (o0.length - j)).length) c) rfl (hn := ?_)
      refine LWo.forgetC 6 rfl ?_
      refine LWo.nil (hN11 _ ?_)
      refine LWP.ret (QG.mk (.inr rfl) (.cons (.tmp (x := .own 1000 0 (i + ((o0.drop (0 + j)).take (o0.length - j)).length)) rfl) .nil) (RetOK.one0 (.nwT (by simp; omega) rfl) (by decide)) (congrArg (fun l => LV.nw 4 (List.map e_impl_Tally l) false) ?_) rfl)
      have e1 : (o0.drop (0 + j)).take (o0.length - j) = o0.drop j := by
        rw [Nat.zero_add]; exact List.take_of_length_le (by simp)
      rw [e1, Nat.zero_add, List.take_take, Nat.min_self]
      exact List.take_of_length_le (by simp; omega)
  · cases h



def m_impl_tell_j4 (o1087 : (List S_impl_Tally)) : Option (List S_impl_Tally) :=
  some o1087
def m_impl_tell_j3 (t7 : Int) (t82 : Bool) (o1026 : (List S_impl_Tally)) : Option (List S_impl_Tally) :=
  bif t82 then ((ckI (t7 + (1 : Int))).bind fun x41 =>
    (m_slices_Delete_Limpl_Tally_impl_Tally o1026 t7 x41).bind fun x42 =>
    m_impl_tell_j4  x42)
  else (m_impl_tell_j4  o1026)
def m_impl_tell_j2 (t7 : Int) (t9 : Int) (o1026 : (List S_impl_Tally)) : Option (List S_impl_Tally) :=
  (at? o1026 t9).bind fun x35 =>
  bif (x35.Rows == (0 : Int)) then ((at? o1026 t9).bind fun x37 =>
    bif (x37.Many == (0 : Int)) then ((at? o1026 t9).bind fun x39 =>
      m_impl_tell_j3  t7 (x39.Sum == (0 : Int)) o1026)
    else (m_impl_tell_j3  t7 false o1026))
  else (m_impl_tell_j3  t7 false o1026)
def m_impl_tell_j1 (t1 : (List S_impl_Value)) (t2 : Int) (t7 : Int) (o1026 : (List S_impl_Tally)) : Option (List S_impl_Tally) :=
  (at? o1026 t7).bind fun x12 =>
  (at? o1026 t7).bind fun x14 =>
  (ckI (x14.Rows + t2)).bind fun x15 =>
  (at? o1026 t7).bind fun x16 =>
  lt ({ x16 with Rows := x15 }) fun y17 =>
  (at? t1 (1 : Int)).bind fun x20 =>
  bif (x20.Kind == (1 : Int)) then ((at? (o1026.set (t7).toNat y17) t7).bind fun x23 =>
    (ckI (x23.Many + t2)).bind fun x24 =>
    (at? (o1026.set (t7).toNat y17) t7).bind fun x25 =>
    lt ({ x25 with Many := x24 }) fun y26 =>
    (at? ((o1026.set (t7).toNat y17).set (t7).toNat y26) t7).bind fun x27 =>
    (at? t1 (1 : Int)).bind fun x28 =>
    (ckI (t2 * x28.N)).bind fun x29 =>
    (ckI (x27.Sum + x29)).bind fun x30 =>
    (at? ((o1026.set (t7).toNat y17).set (t7).toNat y26) t7).bind fun x31 =>
    lt ({ x31 with Sum := x30 }) fun y32 =>
    m_impl_tell_j2  t7 t7 (((o1026.set (t7).toNat y17).set (t7).toNat y26).set (t7).toNat y32))
  else (m_impl_tell_j2  t7 t7 (o1026.set (t7).toNat y17))
def m_impl_tell (o0 : (List S_impl_Tally)) (a1 : (List S_impl_Value)) (a2 : Int) : Option (List S_impl_Tally) :=
  (cut? a1 (0 : Int) (1 : Int)).bind fun x3 =>
  (m_slices_BinarySearchFunc_Limpl_Tally_impl_Tally_Limpl_Value o0 x3 (fun b0_ b1_ => m_impl_tell_1 b0_ b1_ )).bind fun x4 =>
  bif (!x4.2) then ((cut? a1 (0 : Int) (1 : Int)).bind fun x8 =>
    (m_impl_clone_impl_Value x8).bind fun x9 =>
    (m_slices_Insert_Limpl_Tally_impl_Tally o0 x4.1 ([(⟨x9, (0 : Int), (0 : Int), (0 : Int)⟩ : S_impl_Tally)] : (List S_impl_Tally))).bind fun x10 =>
    m_impl_tell_j1  a1 a2 x4.1 x10)
  else (m_impl_tell_j1  a1 a2 x4.1 o0)
theorem c_impl_tell (o0 : (List S_impl_Tally)) (a1 : (List S_impl_Value)) (a2 : Int) (r : (List S_impl_Tally)) (h : m_impl_tell o0 a1 a2 = some r) : Does Try.prog f_impl_tell [.own 0 0 o0.length, e_Limpl_Value a1, e_int a2] [(0, (lob 4 e_impl_Tally o0))] (fun x hh => x = .nw 4 (r.map e_impl_Tally) false ∧ hh = []) := by
  refine Does.goG [0] F_impl_tell rfl e_impl_tell n_impl_tell rfl (rvs := [.tmp 6]) rfl rfl ?_
  intro w0 ok0 lent ρ0
  refine LWP.rekey 0 0 1000 rfl rfl rfl rfl rfl rfl ?_
  refine LWP.tell [(0, (.own 1000 0 (o0).length)), (1, (e_Limpl_Value a1)), (2, (e_int a2))] [(1000, (lob 4 e_impl_Tally o0))] ⟨rfl, rfl, rfl, trivial⟩ ⟨rfl, trivial⟩ (by simp [hkeys]) ?_
  refine LWP.seq_k fun N1 hN1 => ?_
  refine LWP.region (l := [_]) ?_
  refine LWo.assign _ rfl (hn := ?_)
  refine LWo.ownNil 6 1006 4 rfl rfl rfl ?_
  refine LWo.known 6 (.own 1006 0 ([] : (List S_impl_Tally)).length) rfl ?_
  refine LWo.nil (hN1 _ ?_)
  refine LWP.seq_k fun N2 hN2 => ?_
  refine LWP.region (l := [_,_,_,_,_,_,_,_,_]) ?_
  refine LWo.move (.own 1000 0 (o0).length) rfl (hn := ?_)
  refine LWo.move (e_Limpl_Value a1) rfl (hn := ?_)
  refine bk h fun x3 e3 h => ?_
  refine LWo.cutM (f := e_impl_Value) e3 u_Limpl_Value s_impl_Value rfl rfl ⟨_, rfl⟩ (hn := ?_)
  refine bk h fun x4 e4 h => ?_
  refine LWo.wcall rfl rfl (c_slices_BinarySearchFunc_Limpl_Tally_impl_Tally_Limpl_Value _ _ _ f_impl_tell_1 [] (fun _ => rfl) (fun b0_ b1_ v hv => c_impl_tell_1 b0_ b1_  v hv) _ e4) (.viewM rfl rfl rfl (.same (.same (.nil)))) rfl (hn := ?_)
  refine LWo.move (.tup [(e_int x4.1), (e_bool x4.2)]) rfl (hn := ?_)
  refine LWo.extract (e_int x4.1) rfl rfl (hn := ?_)
  refine LWo.extract (e_bool x4.2) rfl rfl (hn := ?_)
  refine LWo.assign (e_int x4.1) rfl (hn := ?_)
  refine LWo.assign (e_bool x4.2) rfl (hn := ?_)
  refine LWo.nil (hN2 _ ?_)
  refine LWP.join (α := (List S_impl_Value) × Int × Int × (List S_impl_Tally)) (fun z : (List S_impl_Value) × Int × Int × (List S_impl_Tally) => [(0, (.own 1026 0 (z.2.2.2).length)), (1, (e_Limpl_Value z.1)), (2, (e_int z.2.1)), (7, (e_int z.2.2.1))]) (fun z : (List S_impl_Value) × Int × Int × (List S_impl_Tally) => [(1026, (lob 4 e_impl_Tally z.2.2.2))]) (fun z : (List S_impl_Value) × Int × Int × (List S_impl_Tally) => m_impl_tell_j1  z.1 z.2.1 z.2.2.1 z.2.2.2) r (fun _ => by simp [hkeys]) ?_ ?_
  ·rintro ⟨t1, t2, t7, o1026⟩ h
   replace h : m_impl_tell_j1  t1 t2 t7 o1026 = some _ := h
   refine LWP.seq_k fun N11 hN11 => ?_
   refine LWP.region (l := [_,_,_,_]) ?_
   refine LWo.move (.own 1026 0 (o1026).length) rfl (hn := ?_)
   refine LWo.move (e_int t7) rfl (hn := ?_)
   refine bk h fun x12 e12 h => ?_
   refine LWo.indexO e12 rfl u_Limpl_Tally s_impl_Tally rfl rfl rfl (hn := ?_)
   refine LWo.assign (.ptr 1026 (t7).toNat 0) rfl (hn := ?_)
   refine LWo.nil (hN11 _ ?_)
   refine LWP.seq_k fun N13 hN13 => ?_
   refine LWP.region (l := [_,_,_,_,_,_,_,_,_]) ?_
   refine LWo.move (.ptr 1026 (t7).toNat 0) rfl (hn := ?_)
   refine LWo.nilCheckPtr rfl (hn := ?_)
   refine LWo.fieldPtr u_impl_Tally rfl s_int rfl rfl (hn := ?_)
   refine bk h fun x14 e14 h => ?_
   refine LWo.loadO1 (e_int x14.Rows) e14 g_int rfl rfl rfl (hn := ?_)
   refine LWo.move (e_int t2) rfl (hn := ?_)
   refine bk h fun x15 e15 h => ?_
   refine LWo.int _ rfl rfl (add_ck e15) (hn := ?_)
   refine LWo.nilCheckPtr rfl (hn := ?_)
   refine LWo.fieldPtr u_impl_Tally rfl s_int rfl rfl (hn := ?_)
   refine bk h fun x16 e16 h => ?_
   refine lk h fun y17 e17 h => ?_
   refine LWo.storeO y17 e16 s_int rfl rfl rfl rfl rfl rfl rfl (by rw [e17]; rfl) (hn := ?_)
   refine LWo.nil (hN13 _ ?_)
   refine LWP.join (α := Int × Int × (List S_impl_Tally)) (fun z : Int × Int × (List S_impl_Tally) => [(0, (.own 1026 0 (z.2.2).length)), (7, (e_int z.1)), (9, (.ptr 1026 (z.2.1).toNat 0))]) (fun z : Int × Int × (List S_impl_Tally) => [(1026, (lob 4 e_impl_Tally z.2.2))]) (fun z : Int × Int × (List S_impl_Tally) => m_impl_tell_j2  z.1 z.2.1 z.2.2) r (fun _ => by simp [hkeys]) ?_ ?_
   ·rintro ⟨t7, t9, o1026⟩ h
    replace h : m_impl_tell_j2  t7 t9 o1026 = some _ := h
    refine LWP.join (α := (List S_impl_Tally)) (fun z : (List S_impl_Tally) => [(0, (.own 1087 0 (z).length))]) (fun z : (List S_impl_Tally) => [(1087, (lob 4 e_impl_Tally z))]) (fun z : (List S_impl_Tally) => m_impl_tell_j4  z) r (fun _ => by simp [hkeys]) ?_ ?_
    ·rintro o1087 h
     replace h : m_impl_tell_j4  o1087 = some _ := h
     refine LWP.seq_k fun N43 hN43 => ?_
     refine LWP.region (l := [_,_]) ?_
     refine LWo.move (.own 1087 0 (o1087).length) rfl (hn := ?_)
     refine LWo.assign (.own 1087 0 (o1087).length) rfl (hn := ?_)
     refine LWo.nil (hN43 _ ?_)
     obtain rfl := Option.some.inj h
     refine LWP.ret (QG.mk (.inr rfl) (.cons (.tmp (x := (.own 1087 0 (o1087).length)) rfl) (.nil)) (RetOK.one0 (.nwM rfl rfl) (by decide)) rfl rfl)
    ·intro N33 hN33
     refine LWP.join (α := Int × Bool × (List S_impl_Tally)) (fun z : Int × Bool × (List S_impl_Tally) => [(0, (.own 1026 0 (z.2.2).length)), (7, (e_int z.1)), (82, (e_bool z.2.1))]) (fun z : Int × Bool × (List S_impl_Tally) => [(1026, (lob 4 e_impl_Tally z.2.2))]) (fun z : Int × Bool × (List S_impl_Tally) => m_impl_tell_j3  z.1 z.2.1 z.2.2) r (fun _ => by simp [hkeys]) ?_ ?_
     ·rintro ⟨t7, t82, o1026⟩ h
      replace h : m_impl_tell_j3  t7 t82 o1026 = some _ := h
      refine LWP.cond_split rfl (fun h40 => ?_) (fun h40 => ?_)
      ·have h := bT h40 h
       refine LWP.region (l := [_,_,_,_,_,_]) ?_
       refine LWo.move (.own 1026 0 (o1026).length) rfl (hn := ?_)
       refine LWo.move (e_int t7) rfl (hn := ?_)
       refine LWo.move (e_int t7) rfl (hn := ?_)
       refine bk h fun x41 e41 h => ?_
       refine LWo.int _ rfl rfl (add_ck e41) (hn := ?_)
       refine bk h fun x42 e42 h => ?_
       refine LWo.tcallN (e := e_impl_Tally) (e' := e_impl_Tally) 1087 rfl rfl (c_slices_Delete_Limpl_Tally_impl_Tally _ _ _ _ e42) (fun _ => rfl) rfl rfl rfl rfl (hn := ?_)
       refine LWo.assign (.own 1087 0 (x42).length) rfl (hn := ?_)
       refine LWo.nil (hN33 x42 _ ⟨rfl, trivial⟩ ⟨rfl, trivial⟩ h)
      ·have h := bF h40 h
       refine LWP.rekey 0 1026 1087 rfl rfl rfl rfl rfl rfl ?_
       refine LWP.skip (hN33 o1026 _ ⟨rfl, trivial⟩ ⟨rfl, trivial⟩ h)
     ·intro N34 hN34
      refine LWP.region (l := [_,_,_,_,_,_,_,_,_,_,_,_,_,_,_,_,_,_,_]) ?_
      refine LWo.move (.ptr 1026 (t9).toNat 0) rfl (hn := ?_)
      refine LWo.nilCheckPtr rfl (hn := ?_)
      refine LWo.fieldPtr u_impl_Tally rfl s_int rfl rfl (hn := ?_)
      refine bk h fun x35 e35 h => ?_
      refine LWo.loadO1 (e_int x35.Rows) e35 g_int rfl rfl rfl (hn := ?_)
      refine LWo.int _ rfl rfl rfl (hn := ?_)
      refine LWo.move (e_bool (x35.Rows == (0 : Int))) rfl (hn := ?_)
      refine LWo.byCases (t := 69) _ rfl (fun h36 => ?_) (fun h36 => ?_)
      ·have h := bT h36 h
       refine LWo.guardY (t := 69) rfl h36 rfl rfl ?_
       refine LWo.move (.ptr 1026 (t9).toNat 0) rfl (hn := ?_)
       refine LWo.guardY (t := 69) rfl h36 rfl rfl ?_
       refine LWo.nilCheckPtr rfl (hn := ?_)
       refine LWo.guardY (t := 69) rfl h36 rfl rfl ?_
       refine LWo.fieldPtr u_impl_Tally rfl s_int rfl rfl (hn := ?_)
       refine bk h fun x37 e37 h => ?_
       refine LWo.guardY (t := 69) rfl h36 rfl rfl ?_
       refine LWo.loadO1 (e_int x37.Many) e37 g_int rfl rfl rfl (hn := ?_)
       refine LWo.guardY (t := 69) rfl h36 rfl rfl ?_
       refine LWo.int _ rfl rfl rfl (hn := ?_)
       refine LWo.pickTM (e_bool (x37.Many == (0 : Int))) rfl h36 rfl (hn := ?_)
       refine LWo.move (e_bool (x37.Many == (0 : Int))) rfl (hn := ?_)
       refine LWo.byCases (t := 76) _ rfl (fun h38 => ?_) (fun h38 => ?_)
       ·have h := bT h38 h
        refine LWo.guardY (t := 76) rfl h38 rfl rfl ?_
        refine LWo.move (.ptr 1026 (t9).toNat 0) rfl (hn := ?_)
        refine LWo.guardY (t := 76) rfl h38 rfl rfl ?_
        refine LWo.nilCheckPtr rfl (hn := ?_)
        refine LWo.guardY (t := 76) rfl h38 rfl rfl ?_
        refine LWo.fieldPtr u_impl_Tally rfl s_int rfl rfl (hn := ?_)
        refine bk h fun x39 e39 h => ?_
        refine LWo.guardY (t := 76) rfl h38 rfl rfl ?_
        refine LWo.loadO1 (e_int x39.Sum) e39 g_int rfl rfl rfl (hn := ?_)
        refine LWo.guardY (t := 76) rfl h38 rfl rfl ?_
        refine LWo.int _ rfl rfl rfl (hn := ?_)
        refine LWo.pickTM (e_bool (x39.Sum == (0 : Int))) rfl h38 rfl (hn := ?_)
        refine LWo.nil (hN34 (t7, (x39.Sum == (0 : Int)), o1026) _ ⟨rfl, rfl, rfl, trivial⟩ ⟨rfl, trivial⟩ h)
       ·have h := bF h38 h
        refine LWo.guardNU (t := 76) rfl h38 rfl rfl rfl rfl rfl ?_
        refine LWo.guardNU (t := 76) rfl h38 rfl rfl rfl rfl rfl ?_
        refine LWo.guardNU (t := 76) rfl h38 rfl rfl rfl rfl rfl ?_
        refine LWo.guardNU (t := 76) rfl h38 rfl rfl rfl rfl rfl ?_
        refine LWo.guardNU (t := 76) rfl h38 rfl rfl rfl rfl rfl ?_
        refine LWo.pickFM (e_bool false) rfl h38 rfl (hn := ?_)
        refine LWo.nil (hN34 (t7, false, o1026) _ ⟨rfl, rfl, rfl, trivial⟩ ⟨rfl, trivial⟩ h)
      ·have h := bF h36 h
       refine LWo.guardNU (t := 69) rfl h36 rfl rfl rfl rfl rfl ?_
       refine LWo.guardNU (t := 69) rfl h36 rfl rfl rfl rfl rfl ?_
       refine LWo.guardNU (t := 69) rfl h36 rfl rfl rfl rfl rfl ?_
       refine LWo.guardNU (t := 69) rfl h36 rfl rfl rfl rfl rfl ?_
       refine LWo.guardNU (t := 69) rfl h36 rfl rfl rfl rfl rfl ?_
       refine LWo.pickFM (e_bool false) rfl h36 rfl (hn := ?_)
       refine LWo.move (e_bool false) rfl (hn := ?_)
       refine LWo.guardNU (t := 76) rfl rfl rfl rfl rfl rfl rfl ?_
       refine LWo.guardNU (t := 76) rfl rfl rfl rfl rfl rfl rfl ?_
       refine LWo.guardNU (t := 76) rfl rfl rfl rfl rfl rfl rfl ?_
       refine LWo.guardNU (t := 76) rfl rfl rfl rfl rfl rfl rfl ?_
       refine LWo.guardNU (t := 76) rfl rfl rfl rfl rfl rfl rfl ?_
       refine LWo.pickFM (e_bool false) rfl rfl rfl (hn := ?_)
       refine LWo.nil (hN34 (t7, false, o1026) _ ⟨rfl, rfl, rfl, trivial⟩ ⟨rfl, trivial⟩ h)
   ·intro N18 hN18
    refine LWP.seq_k fun N19 hN19 => ?_
    refine LWP.region (l := [_,_,_,_,_]) ?_
    refine LWo.move (e_Limpl_Value t1) rfl (hn := ?_)
    refine bk h fun x20 e20 h => ?_
    refine LWo.indexM (f := e_impl_Value) e20 u_Limpl_Value s_impl_Value rfl rfl (hn := ?_)
    refine LWo.fieldAddr _ u_impl_Value rfl s_int rfl rfl (hn := ?_)
    refine LWo.load1 (c := (e_int x20.Kind)) g_int rfl (hn := ?_)
    refine LWo.int _ rfl rfl rfl (hn := ?_)
    refine LWo.nil (hN19 _ ?_)
    refine LWP.cond_split rfl (fun h21 => ?_) (fun h21 => ?_)
    ·have h := bT h21 h
     refine LWP.seq_k fun N22 hN22 => ?_
     refine LWP.region (l := [_,_,_,_,_,_,_,_,_]) ?_
     refine LWo.move (.ptr 1026 (t7).toNat 0) rfl (hn := ?_)
     refine LWo.nilCheckPtr rfl (hn := ?_)
     refine LWo.fieldPtr u_impl_Tally rfl s_int rfl rfl (hn := ?_)
     refine bk h fun x23 e23 h => ?_
     refine LWo.loadO1 (e_int x23.Many) e23 g_int rfl rfl rfl (hn := ?_)
     refine LWo.move (e_int t2) rfl (hn := ?_)
     refine bk h fun x24 e24 h => ?_
     refine LWo.int _ rfl rfl (add_ck e24) (hn := ?_)
     refine LWo.nilCheckPtr rfl (hn := ?_)
     refine LWo.fieldPtr u_impl_Tally rfl s_int rfl rfl (hn := ?_)
     refine bk h fun x25 e25 h => ?_
     refine lk h fun y26 e26 h => ?_
     refine LWo.storeO y26 e25 s_int rfl rfl rfl rfl rfl rfl rfl (by rw [e26]; rfl) (hn := ?_)
     refine LWo.nil (hN22 _ ?_)
     refine bk h fun x27 e27 h => ?_
     refine bk h fun x28 e28 h => ?_
     refine bk h fun x29 e29 h => ?_
     refine bk h fun x30 e30 h => ?_
     refine bk h fun x31 e31 h => ?_
     refine lk h fun y32 e32 h => ?_
     refine LWP.drawF (l := [_,_,_,_,_,_,_,_,_,_,_,_,_,_]) [] [0, 1, 2, 7, 9] [([9], []), ([51], []), ([52], []), ([53], [1026]), ([2], []), ([1], []), ([56], []), ([57], []), ([58], []), ([55, 59], []), ([54, 60], []), ([51], []), ([62], []), ([61, 63], [1026])] [0, 7, 9] [1026] mixed (by kernel_rfl) rfl (by decide) ?_
     refine dq 51 rfl (fun _ g u h => LWo.move (.ptr 1026 (t7).toNat 0) u.1 (hn := .nil (zn g))) ?_
     refine dq 52 rfl (fun _ g u h => LWo.nilCheckPtr u.1 (hn := .nil (zn g))) ?_
     refine dq 53 rfl (fun _ g u h => LWo.fieldPtr u_impl_Tally rfl s_int u.1 rfl (hn := .nil (zn g))) ?_
     refine dq 54 rfl (fun _ g u h => LWo.loadO1 (e_int x27.Sum) e27 g_int u.1 h.1 rfl (hn := .nil (zn g))) ?_
     refine dq 55 rfl (fun _ g u h => LWo.move (e_int t2) u.1 (hn := .nil (zn g))) ?_
     refine dq 56 rfl (fun _ g u h => LWo.move (e_Limpl_Value t1) u.1 (hn := .nil (zn g))) ?_
     refine dq 57 rfl (fun _ g u h => LWo.indexM (f := e_impl_Value) e28 u_Limpl_Value s_impl_Value u.1 rfl (hn := .nil (zn g))) ?_
     refine dq 58 rfl (fun _ g u h => LWo.fieldAddr _ u_impl_Value rfl s_int u.1 rfl (hn := .nil (zn g))) ?_
     refine dq 59 rfl (fun _ g u h => LWo.load1 (c := (e_int x28.N)) g_int u.1 (hn := .nil (zn g))) ?_
     refine dq 60 rfl (fun _ g u h => LWo.int _ u.1 u.2.1 (mul_ck e29) (hn := .nil (zn g))) ?_
     refine dq 61 rfl (fun _ g u h => LWo.int _ u.1 u.2.1 (add_ck e30) (hn := .nil (zn g))) ?_
     refine dq 62 rfl (fun _ g u h => LWo.nilCheckPtr u.1 (hn := .nil (zn g))) ?_
     refine dq 63 rfl (fun _ g u h => LWo.fieldPtr u_impl_Tally rfl s_int u.1 rfl (hn := .nil (zn g))) ?_
     refine ⟨rfl, .upd none .junk 1026 _, (fun _ h => by cases h), fun _ g u h => LWo.storeO y32 e31 s_int u.2.1 u.1 rfl rfl rfl h.1 rfl (by rw [e32]; rfl) (hn := LWo.nil ⟨rfl, .inl rfl, Ef.good_ok (e := .upd none .junk 1026 _) (fun _ h => by cases h) g⟩), ?_⟩
     refine ⟨rfl, by kernel_rfl, hN18 (t7, t7, (((o1026.set (t7).toNat y17).set (t7).toNat y26).set (t7).toNat y32)) _ ⟨(congrArg (LV.own 1026 0) ((List.length_set.symm.trans List.length_set.symm).trans List.length_set.symm)), rfl, rfl, trivial⟩ ⟨rfl, trivial⟩ h⟩
    ·have h := bF h21 h
     refine LWP.skip (hN18 (t7, t7, (o1026.set (t7).toNat y17)) _ ⟨(congrArg (LV.own 1026 0) List.length_set.symm), rfl, rfl, trivial⟩ ⟨rfl, trivial⟩ h)
  ·intro N5 hN5
   refine LWP.seq_k fun N6 hN6 => ?_
   refine LWP.region (l := [_,_]) ?_
   refine LWo.move (e_bool x4.2) rfl (hn := ?_)
   refine LWo.not rfl (hn := ?_)
   refine LWo.nil (hN6 _ ?_)
   refine LWP.cond_split rfl (fun h7 => ?_) (fun h7 => ?_)
   ·have h := bT h7 h
    refine LWP.region (l := [_,_,_,_,_,_,_,_,_]) ?_
    refine LWo.move (.own 1000 0 (o0).length) rfl (hn := ?_)
    refine LWo.move (e_int x4.1) rfl (hn := ?_)
    refine LWo.move (e_Limpl_Value a1) rfl (hn := ?_)
    refine bk h fun x8 e8 h => ?_
    refine LWo.cutM (f := e_impl_Value) e8 u_Limpl_Value s_impl_Value rfl rfl ⟨_, rfl⟩ (hn := ?_)
    refine bk h fun x9 e9 h => ?_
    refine LWo.vcall rfl rfl (c_impl_clone_impl_Value _ _ e9) (.same (.nil)) (hn := ?_)
    refine LWo.build_impl_Tally (parts := [_]) (⟨x9, (0 : Int), (0 : Int), (0 : Int)⟩ : S_impl_Tally) rfl rfl rfl .refl (hn := ?_)
    refine LWo.lit (ops := [_]) [(e_impl_Tally (⟨x9, (0 : Int), (0 : Int), (0 : Int)⟩ : S_impl_Tally))] u_Limpl_Tally s_impl_Tally z_impl_Tally rfl rfl rfl rfl rfl rfl (hn := ?_)
    refine bk h fun x10 e10 h => ?_
    refine LWo.tcallN (e := e_impl_Tally) (e' := e_impl_Tally) 1026 rfl rfl (c_slices_Insert_Limpl_Tally_impl_Tally _ _ _ _ e10) (fun _ => rfl) rfl rfl rfl rfl (hn := ?_)
    refine LWo.assign (.own 1026 0 (x10).length) rfl (hn := ?_)
    refine LWo.nil (hN5 (a1, a2, x4.1, x10) _ ⟨rfl, rfl, rfl, rfl, trivial⟩ ⟨rfl, trivial⟩ h)
   ·have h := bF h7 h
    refine LWP.rekey 0 1000 1026 rfl rfl rfl rfl rfl rfl ?_
    refine LWP.skip (hN5 (a1, a2, x4.1, o0) _ ⟨rfl, rfl, rfl, rfl, trivial⟩ ⟨rfl, trivial⟩ h)

theorem cc_slices_Clip_Limpl_Tally_impl_Tally (xs : List LV) : Does Try.prog f_slices_Clip_Limpl_Tally_impl_Tally [.own 0 0 xs.length] [(0, { kind := .fro, sz := 4, elems := xs })] (fun r h => r = .nw 4 xs false ∧ h = []) := by
  refine Does.go [0] F_slices_Clip_Limpl_Tally_impl_Tally rfl e_slices_Clip_Limpl_Tally_impl_Tally n_slices_Clip_Limpl_Tally_impl_Tally rfl (ts := [2]) rfl rfl rfl ?_
  intro w0 ok0 lent ρ0
  refine LWP.seq_k fun N1 hN1 => ?_
  refine LWP.region (l := [_]) ?_
  refine LWo.assign _ rfl (hn := ?_)
  refine LWo.nil (hN1 _ ?_)
  refine LWP.seq_k fun N2 hN2 => ?_
  refine LWP.region (l := [_,_,_,_,_,_,_]) ?_
  refine LWo.move _ rfl (hn := ?_)
  refine LWo.move _ rfl (hn := ?_)
  refine LWo.len u_Limpl_Tally rfl (hn := ?_)
  refine LWo.move _ rfl (hn := ?_)
  refine LWo.len u_Limpl_Tally rfl (hn := ?_)
  refine LWo.cutOwn (l := 0) (h := xs.length) u_Limpl_Tally s_impl_Tally rfl rfl rfl rfl ⟨_, rfl⟩ ⟨_, _, rfl, Nat.le_refl _, Nat.le_refl _⟩ (.inr (by simp)) (Nat.zero_le _) (Nat.le_refl _) rfl rfl (hn := ?_)
  refine LWo.assign _ rfl (hn := ?_)
  refine LWo.nil (hN2 _ ?_)
  refine LWP.ret (QRet.own1 (.inr rfl) rfl rfl rfl rfl (by simp) ⟨?_, rfl⟩)
  clear hN1 hN2
  exact congrArg (fun l => LV.nw 4 l false) (by simp)
def m_slices_Clip_Limpl_Tally_impl_Tally_o (o0 : List S_impl_Tally) : Option (List S_impl_Tally) := some o0
theorem c_slices_Clip_Limpl_Tally_impl_Tally_o (o0 : List S_impl_Tally) (r : List S_impl_Tally) (h : m_slices_Clip_Limpl_Tally_impl_Tally_o o0 = some r) : Does Try.prog f_slices_Clip_Limpl_Tally_impl_Tally [.own 0 0 o0.length] [(0, lob 4 e_impl_Tally o0)] (fun x hh => x = .nw 4 (r.map e_impl_Tally) false ∧ hh = []) := by
  cases h
  have := cc_slices_Clip_Limpl_Tally_impl_Tally (o0.map e_impl_Tally)
  rw [List.length_map] at this
  exact this



theorem ccd_slices_Clip_Limpl_Tally_impl_Tally (xs : List LV) : Does Try.prog f_slices_Clip_Limpl_Tally_impl_Tally [.own 0 0 xs.length] [(0, { kind := .deep, sz := 4, elems := xs })] (fun r h => r = .nw 4 xs true ∧ h = []) := by
  refine Does.go [0] F_slices_Clip_Limpl_Tally_impl_Tally rfl e_slices_Clip_Limpl_Tally_impl_Tally n_slices_Clip_Limpl_Tally_impl_Tally rfl (ts := [2]) rfl rfl rfl ?_
  intro w0 ok0 lent ρ0
  refine LWP.seq_k fun N1 hN1 => ?_
  refine LWP.region (l := [_]) ?_
  refine LWo.assign _ rfl (hn := ?_)
  refine LWo.nil (hN1 _ ?_)
  refine LWP.seq_k fun N2 hN2 => ?_
  refine LWP.region (l := [_,_,_,_,_,_,_]) ?_
  refine LWo.move _ rfl (hn := ?_)
  refine LWo.move _ rfl (hn := ?_)
  refine LWo.len u_Limpl_Tally rfl (hn := ?_)
  refine LWo.move _ rfl (hn := ?_)
  refine LWo.len u_Limpl_Tally rfl (hn := ?_)
  refine LWo.cutOwn (l := 0) (h := xs.length) u_Limpl_Tally s_impl_Tally rfl rfl rfl rfl ⟨_, rfl⟩ ⟨_, _, rfl, Nat.le_refl _, Nat.le_refl _⟩ (.inr (by simp)) (Nat.zero_le _) (Nat.le_refl _) rfl rfl (hn := ?_)
  refine LWo.assign _ rfl (hn := ?_)
  refine LWo.nil (hN2 _ ?_)
  refine LWP.ret (QRet.own1D (.inr rfl) rfl rfl rfl rfl (by simp) ⟨?_, rfl⟩)
  clear hN1 hN2
  exact congrArg (fun l => LV.nw 4 l true) (by simp)
def m_slices_Clip_Limpl_Tally_impl_Tally_d (o0 : List S_impl_Tally) : Option (List S_impl_Tally) := some o0
theorem c_slices_Clip_Limpl_Tally_impl_Tally_d (o0 : List S_impl_Tally) (r : List S_impl_Tally) (h : m_slices_Clip_Limpl_Tally_impl_Tally_d o0 = some r) : Does Try.prog f_slices_Clip_Limpl_Tally_impl_Tally [.own 0 0 o0.length] [(0, dob 4 e_impl_Tally o0)] (fun x hh => x = .nw 4 (r.map e_impl_Tally) true ∧ hh = []) := by
  cases h
  have := ccd_slices_Clip_Limpl_Tally_impl_Tally (o0.map e_impl_Tally)
  rw [List.length_map] at this
  exact this



def m_slices_Clip_Limpl_Tally_impl_Tally (a0 : (List S_impl_Tally)) : Option (List S_impl_Tally) :=
  (cut3? a0 (0 : Int) (a0.length : Int) (a0.length : Int)).bind fun x3 =>
  some x3
theorem c_slices_Clip_Limpl_Tally_impl_Tally (a0 : (List S_impl_Tally)) (r : (List S_impl_Tally)) (h : m_slices_Clip_Limpl_Tally_impl_Tally a0 = some r) : Ret Try.prog f_slices_Clip_Limpl_Tally_impl_Tally [e_Limpl_Tally a0] (e_Limpl_Tally r) := by
  refine Does.goG [] F_slices_Clip_Limpl_Tally_impl_Tally rfl e_slices_Clip_Limpl_Tally_impl_Tally n_slices_Clip_Limpl_Tally_impl_Tally rfl (rvs := [.tmp 2]) rfl rfl ?_
  intro w0 ok0 lent ρ0
  refine LWP.seq_k fun N1 hN1 => ?_
  refine LWP.region (l := [_]) ?_
  refine LWo.assign _ rfl (hn := ?_)
  refine LWo.weakT 2 (e_Limpl_Tally ([] : (List S_impl_Tally))) rfl .nil ?_
  refine LWo.nil (hN1 _ ?_)
  refine LWP.seq_k fun N2 hN2 => ?_
  refine LWP.region (l := [_,_,_,_,_,_,_]) ?_
  refine LWo.move (e_Limpl_Tally a0) rfl (hn := ?_)
  refine LWo.move (e_Limpl_Tally a0) rfl (hn := ?_)
  refine LWo.lenM (f := e_impl_Tally) (l := a0) u_Limpl_Tally rfl (hn := ?_)
  refine LWo.move (e_Limpl_Tally a0) rfl (hn := ?_)
  refine LWo.lenM (f := e_impl_Tally) (l := a0) u_Limpl_Tally rfl (hn := ?_)
  refine bk h fun x3 e3 h => ?_
  refine LWo.cutM3 (f := e_impl_Tally) e3 u_Limpl_Tally s_impl_Tally rfl rfl ⟨_, rfl⟩ ⟨_, rfl⟩ (hn := ?_)
  refine LWo.assign (e_Limpl_Tally x3) rfl (hn := ?_)
  refine LWo.nil (hN2 _ ?_)
  obtain rfl := Option.some.inj h
  refine LWP.ret (QG.mk (.inr rfl) (.cons (.tmp (x := (e_Limpl_Tally x3)) rfl) (.nil)) (RetOK.one0 (.pure rfl) (by decide)) rfl rfl)

def m_impl_tallies_j1 (o1003 : (List S_impl_Tally)) : Option (List S_impl_Tally) :=
  (m_slices_Clip_Limpl_Tally_impl_Tally_d o1003).bind fun x19 =>
  some x19
def m_impl_tallies_l1 : Nat → (List S_impl_Tally) → Int → Int → (List S_impl_Tally) → Option (List S_impl_Tally)
  | 0, _, _, _, _ => none
  | n1 + 1, t6, t7, t8, o1003 =>
    bif decide (t8 < t7) then ((at? t6 t8).bind fun x12 =>
    lt (x12) fun y13 =>
    (m_impl_clone_impl_Value y13.Key).bind fun x15 =>
    (app? o1003 ([{ y13 with Key := x15 }] : (List S_impl_Tally))).bind fun x16 =>
    (ckI (t8 + (1 : Int))).bind fun x17 =>
    (m_impl_tallies_l1  n1) t6 t7 x17 x16)
    else (m_impl_tallies_j1  o1003)
def m_impl_tallies (a0 : (List S_impl_Tally)) : Option (List S_impl_Tally) :=
  m_impl_tallies_l1  (((a0.length : Int) - (0 : Int)).toNat + 1) a0 (a0.length : Int) (0 : Int) ([] : (List S_impl_Tally))
theorem c_impl_tallies (a0 : (List S_impl_Tally)) (r : (List S_impl_Tally)) (h : m_impl_tallies a0 = some r) : Ret Try.prog f_impl_tallies [e_Limpl_Tally a0] (.nw 4 (r.map e_impl_Tally) true) := by
  refine Does.goG [] F_impl_tallies rfl e_impl_tallies n_impl_tallies rfl (rvs := [.tmp 2]) rfl rfl ?_
  intro w0 ok0 lent ρ0
  refine LWP.seq_k fun N1 hN1 => ?_
  refine LWP.region (l := [_]) ?_
  refine LWo.assign _ rfl (hn := ?_)
  refine LWo.ownNil 2 1002 4 rfl rfl rfl ?_
  refine LWo.deep0 (sz := 4) e_impl_Tally 1002 rfl ?_
  refine LWo.known 2 (.own 1002 0 ([] : (List S_impl_Tally)).length) rfl ?_
  refine LWo.nil (hN1 _ ?_)
  refine LWP.seq_k fun N2 hN2 => ?_
  refine LWP.region (l := [_]) ?_
  refine LWo.assign _ rfl (hn := ?_)
  refine LWo.ownNil 3 1003 4 rfl rfl rfl ?_
  refine LWo.deep0 (sz := 4) e_impl_Tally 1003 rfl ?_
  refine LWo.known 3 (.own 1003 0 ([] : (List S_impl_Tally)).length) rfl ?_
  refine LWo.nil (hN2 _ ?_)
  refine LWP.join (α := (List S_impl_Tally)) (fun z : (List S_impl_Tally) => [(3, (.own 1003 0 (z).length))]) (fun z : (List S_impl_Tally) => [(1003, (dob 4 e_impl_Tally z))]) (fun z : (List S_impl_Tally) => m_impl_tallies_j1  z) r (fun _ => by simp [hkeys]) ?_ ?_
  ·rintro o1003 h
   replace h : m_impl_tallies_j1  o1003 = some _ := h
   refine LWP.seq_k fun N18 hN18 => ?_
   refine LWP.region (l := [_,_,_]) ?_
   refine LWo.move (.own 1003 0 (o1003).length) rfl (hn := ?_)
   refine bk h fun x19 e19 h => ?_
   refine LWo.tcallND (e := e_impl_Tally) (e' := e_impl_Tally) 1022 rfl rfl (c_slices_Clip_Limpl_Tally_impl_Tally_d _ _ e19) (fun _ => rfl) rfl rfl rfl rfl (hn := ?_)
   refine LWo.assign (.own 1022 0 (x19).length) rfl (hn := ?_)
   refine LWo.nil (hN18 _ ?_)
   obtain rfl := Option.some.inj h
   refine LWP.ret (QG.mk (.inr rfl) (.cons (.tmp (x := (.own 1022 0 (x19).length)) rfl) (.nil)) (RetOK.one0 (.nwD rfl rfl) (by decide)) rfl rfl)
  ·intro N3 hN3
   refine LWP.seq_k fun N4 hN4 => ?_
   refine LWP.region (l := [_,_,_]) ?_
   refine LWo.move (e_Limpl_Tally a0) rfl (hn := ?_)
   refine LWo.lenM (f := e_impl_Tally) (l := a0) u_Limpl_Tally rfl (hn := ?_)
   refine LWo.move (e_int (0 : Int)) rfl (hn := ?_)
   refine LWo.nil (hN4 _ ?_)
   refine LWP.block ?_
   refine LWP.loopM (α := (List S_impl_Tally) × Int × Int × (List S_impl_Tally)) (fun z : (List S_impl_Tally) × Int × Int × (List S_impl_Tally) => [(3, (.own 1003 0 (z.2.2.2).length)), (6, (e_Limpl_Tally z.1)), (7, (e_int z.2.1)), (8, (e_int z.2.2.1))]) (fun z : (List S_impl_Tally) × Int × Int × (List S_impl_Tally) => [(1003, (dob 4 e_impl_Tally z.2.2.2))]) (fun n1 (z : (List S_impl_Tally) × Int × Int × (List S_impl_Tally)) => m_impl_tallies_l1  n1 z.1 z.2.1 z.2.2.1 z.2.2.2) r _ (a0, (a0.length : Int), (0 : Int), ([] : (List S_impl_Tally))) h (fun _ => rfl) (fun _ => by simp [hkeys]) ⟨rfl, rfl, rfl, rfl, trivial⟩ ⟨rfl, trivial⟩ ?_
   rintro n1 ⟨t6, t7, t8, o1003⟩ h N5 hN5
   replace h : m_impl_tallies_l1  (n1 + 1) t6 t7 t8 o1003 = some _ := h
   refine LWP.seq_k fun N7 hN7 => ?_
   refine LWP.region (l := [_]) ?_
   refine LWo.int _ rfl rfl rfl (hn := ?_)
   refine LWo.nil (hN7 _ ?_)
   refine LWP.seq_k fun N8 hN8 => ?_
   refine LWP.cond_split rfl (fun h9 => ?_) (fun h9 => ?_)
   ·have h := bT h9 h
    refine LWP.skip (hN8 _ ?_)
    refine LWP.seq_k fun N10 hN10 => ?_
    refine LWP.block ?_
    refine LWP.seq_k fun N11 hN11 => ?_
    refine LWP.region (l := [_,_,_,_]) ?_
    refine bk h fun x12 e12 h => ?_
    refine LWo.indexM (f := e_impl_Tally) e12 u_Limpl_Tally s_impl_Tally rfl rfl (hn := ?_)
    refine LWo.loadN ((e_impl_Tally x12)).cells g_impl_Tally s_impl_Tally rfl (Nat.le_of_ble_eq_true rfl) rfl (hn := ?_)
    refine LWo.allocX_impl_Tally [(0, .imm (.slice none 0 0))] 5 rfl rfl (hn := ?_)
    refine LWo.nilX 5 100250 0 3 [(0, .own 100250 0 (([] : (List S_impl_Value))).length)] rfl rfl rfl rfl rfl rfl ?_
    refine lk h fun y13 e13 h => ?_
    refine LWo.storeX (f := e_impl_Tally) (y := (⟨[], (0 : Int), (0 : Int), (0 : Int)⟩ : S_impl_Tally)) y13 [] s_impl_Tally rfl rfl rfl rfl rfl rfl (by rw [e13]; rfl) (hn := ?_)
    refine LWo.nil (hN11 _ ?_)
    refine LWP.seq_k fun N14 hN14 => ?_
    refine LWP.region (l := [_,_,_,_,_]) ?_
    refine LWo.fieldPtr u_impl_Tally rfl s_Limpl_Value rfl rfl (hn := ?_)
    refine LWo.loadPtr1 (e_Limpl_Value y13.Key) g_Limpl_Value rfl rfl rfl rfl rfl (hn := ?_)
    refine bk h fun x15 e15 h => ?_
    refine LWo.ncall (e := e_impl_Value) 100250 rfl rfl (c_impl_clone_impl_Value _ _ e15) (.same (.nil)) rfl (hn := ?_)
    refine LWo.fieldPtr u_impl_Tally rfl s_Limpl_Value rfl rfl (hn := ?_)
    refine LWo.storeX (f := e_impl_Tally) (y := y13) y13 [(0, .own 100250 0 (x15).length)] s_Limpl_Value rfl rfl rfl rfl rfl rfl rfl (hn := ?_)
    refine LWo.nil (hN14 _ ?_)
    refine LWP.region (l := [_,_,_,_,_]) ?_
    refine LWo.move (.own 1003 0 (o1003).length) rfl (hn := ?_)
    refine LWo.loadPtrN (ovr (e_impl_Tally y13).cells [(0, .own 100250 0 (x15).length)]) g_impl_Tally s_impl_Tally rfl rfl rfl rfl rfl (fun _ _ => rfl) (hn := ?_)
    refine LWo.junkX 5 0 [(0, .junk)] rfl rfl rfl ?_
    refine LWo.lit1D (ks := [100250]) (f := e_impl_Tally) (v := (.agg (ovr (e_impl_Tally y13).cells [(0, .own 100250 0 (x15).length)]))) 1018 ({ y13 with Key := x15 } : S_impl_Tally) u_Limpl_Tally s_impl_Tally z_impl_Tally rfl rfl rfl rfl rfl rfl rfl rfl (.cons (.own (obj := (lob 3 e_impl_Value x15)) rfl rfl (.inl ⟨rfl, immL_map (e := e_impl_Value) (fun _ => rfl) _⟩) (List.length_map _).symm) (.cons (.imm _) (.cons (.imm _) (.cons (.imm _) .nil)))) (by decide) rfl (hn := ?_)
    refine bk h fun x16 e16 h => ?_
    refine LWo.appendDM (f := e_impl_Tally) e16 rfl rfl u_Limpl_Tally u_Limpl_Tally (fun _ h => by cases h) s_impl_Tally i_impl_Tally rfl rfl rfl rfl rfl rfl rfl rfl (hn := ?_)
    refine LWo.assign (.own 1003 0 (x16).length) rfl (hn := ?_)
    refine LWo.nil (hN10 _ ?_)
    refine LWP.region (l := [_,_]) ?_
    refine bk h fun x17 e17 h => ?_
    refine LWo.int _ rfl rfl (add_ck e17) (hn := ?_)
    refine LWo.move (e_int x17) rfl (hn := ?_)
    refine LWo.nil (hN5 (t6, t7, x17, x16) _ ⟨rfl, rfl, rfl, rfl, trivial⟩ ⟨rfl, trivial⟩ h)
   ·have h := bF h9 h
    refine LWP.exit (hN3 o1003 _ ⟨rfl, trivial⟩ ⟨rfl, trivial⟩ h)

def m_impl_TalliesOf_j2 (o1003 : (List S_impl_Tally)) : Option (List S_impl_Tally) :=
  (m_impl_tallies o1003).bind fun x22 =>
  some x22
def m_impl_TalliesOf_l1 : Nat → (List (List S_impl_Value)) → Int → Int → (List S_impl_Tally) → Option (List S_impl_Tally)
  | 0, _, _, _, _ => none
  | n1 + 1, t13, t14, t15, o1003 =>
    bif decide (t15 < t14) then ((at? t13 t15).bind fun x18 =>
    (m_impl_tell o1003 x18 (1 : Int)).bind fun x19 =>
    (ckI (t15 + (1 : Int))).bind fun x20 =>
    (m_impl_TalliesOf_l1  n1) t13 t14 x20 x19)
    else (m_impl_TalliesOf_j2  o1003)
def m_impl_TalliesOf_j1 (t0 : (List (List S_impl_Value))) (t12 : Bool) : Option (List S_impl_Tally) :=
  bif t12 then (some ([] : (List S_impl_Tally)))
  else (m_impl_TalliesOf_l1  (((t0.length : Int) - (0 : Int)).toNat + 1) t0 (t0.length : Int) (0 : Int) ([] : (List S_impl_Tally)))
def m_impl_TalliesOf (a0 : (List (List S_impl_Value))) : Option (List S_impl_Tally) :=
  bif decide ((a0.length : Int) > (100 : Int)) then (m_impl_TalliesOf_j1  a0 true)
  else ((m_slices_ContainsFunc_LLimpl_Value_Limpl_Value a0 (fun b0_ => m_impl_TalliesOf_1 b0_ )).bind fun x5 =>
    m_impl_TalliesOf_j1  a0 x5)
theorem c_impl_TalliesOf (a0 : (List (List S_impl_Value))) (r : (List S_impl_Tally)) (h : m_impl_TalliesOf a0 = some r) : Ret Try.prog f_impl_TalliesOf [e_LLimpl_Value a0] (.nw 4 (r.map e_impl_Tally) true) := by
  refine Does.goG [] F_impl_TalliesOf rfl e_impl_TalliesOf n_impl_TalliesOf rfl (rvs := [.tmp 2]) rfl rfl ?_
  intro w0 ok0 lent ρ0
  refine LWP.seq_k fun N1 hN1 => ?_
  refine LWP.region (l := [_]) ?_
  refine LWo.assign _ rfl (hn := ?_)
  refine LWo.ownNil 2 1002 4 rfl rfl rfl ?_
  refine LWo.known 2 (.own 1002 0 ([] : (List S_impl_Tally)).length) rfl ?_
  refine LWo.nil (hN1 _ ?_)
  refine LWP.seq_k fun N2 hN2 => ?_
  refine LWP.join (α := (List (List S_impl_Value)) × Bool) (fun z : (List (List S_impl_Value)) × Bool => [(0, (e_LLimpl_Value z.1)), (12, (e_bool z.2))]) (fun z : (List (List S_impl_Value)) × Bool => []) (fun z : (List (List S_impl_Value)) × Bool => m_impl_TalliesOf_j1  z.1 z.2) r (fun _ => by simp [hkeys]) ?_ ?_
  ·rintro ⟨t0, t12⟩ h
   replace h : m_impl_TalliesOf_j1  t0 t12 = some _ := h
   refine LWP.cond_split rfl (fun h6 => ?_) (fun h6 => ?_)
   ·have h := bT h6 h
    refine LWP.seq_k fun N7 hN7 => ?_
    refine LWP.region (l := [_]) ?_
    refine LWo.assign _ rfl (hn := ?_)
    refine LWo.ownNil 2 1002 4 rfl rfl rfl ?_
    refine LWo.known 2 (.own 1002 0 ([] : (List S_impl_Tally)).length) rfl ?_
    refine LWo.nil (hN7 _ ?_)
    obtain rfl := Option.some.inj h
    refine LWP.ret (QG.mk (.inr rfl) (.cons (.tmp (x := (.own 1002 0 (([] : (List S_impl_Tally))).length)) rfl) (.nil)) (RetOK.one0 (.nwE rfl rfl) (by decide)) rfl rfl)
   ·have h := bF h6 h
    refine LWP.skip (hN2 _ ?_)
    refine LWP.seq_k fun N8 hN8 => ?_
    refine LWP.region (l := [_]) ?_
    refine LWo.assign _ rfl (hn := ?_)
    refine LWo.ownNil 3 1003 4 rfl rfl rfl ?_
    refine LWo.known 3 (.own 1003 0 ([] : (List S_impl_Tally)).length) rfl ?_
    refine LWo.nil (hN8 _ ?_)
    refine LWP.join (α := (List S_impl_Tally)) (fun z : (List S_impl_Tally) => [(3, (.own 1003 0 (z).length))]) (fun z : (List S_impl_Tally) => [(1003, (lob 4 e_impl_Tally z))]) (fun z : (List S_impl_Tally) => m_impl_TalliesOf_j2  z) r (fun _ => by simp [hkeys]) ?_ ?_
    ·rintro o1003 h
     replace h : m_impl_TalliesOf_j2  o1003 = some _ := h
     refine LWP.seq_k fun N21 hN21 => ?_
     refine LWP.region (l := [_,_,_]) ?_
     refine LWo.move (.own 1003 0 (o1003).length) rfl (hn := ?_)
     refine bk h fun x22 e22 h => ?_
     refine LWo.ncallD (e := e_impl_Tally) 1024 rfl rfl (c_impl_tallies _ _ e22) (.viewM rfl rfl rfl (.nil)) rfl (hn := ?_)
     refine LWo.assign (.own 1024 0 (x22).length) rfl (hn := ?_)
     refine LWo.nil (hN21 _ ?_)
     obtain rfl := Option.some.inj h
     refine LWP.ret (QG.mk (.inr rfl) (.cons (.tmp (x := (.own 1024 0 (x22).length)) rfl) (.nil)) (RetOK.one0 (.nwD rfl rfl) (by decide)) rfl rfl)
    ·intro N9 hN9
     refine LWP.seq_k fun N10 hN10 => ?_
     refine LWP.region (l := [_,_,_]) ?_
     refine LWo.move (e_LLimpl_Value t0) rfl (hn := ?_)
     refine LWo.lenM (f := e_Limpl_Value) (l := t0) u_LLimpl_Value rfl (hn := ?_)
     refine LWo.move (e_int (0 : Int)) rfl (hn := ?_)
     refine LWo.nil (hN10 _ ?_)
     refine LWP.block ?_
     refine LWP.loopM (α := (List (List S_impl_Value)) × Int × Int × (List S_impl_Tally)) (fun z : (List (List S_impl_Value)) × Int × Int × (List S_impl_Tally) => [(3, (.own 1003 0 (z.2.2.2).length)), (13, (e_LLimpl_Value z.1)), (14, (e_int z.2.1)), (15, (e_int z.2.2.1))]) (fun z : (List (List S_impl_Value)) × Int × Int × (List S_impl_Tally) => [(1003, (lob 4 e_impl_Tally z.2.2.2))]) (fun n1 (z : (List (List S_impl_Value)) × Int × Int × (List S_impl_Tally)) => m_impl_TalliesOf_l1  n1 z.1 z.2.1 z.2.2.1 z.2.2.2) r _ (t0, (t0.length : Int), (0 : Int), ([] : (List S_impl_Tally))) h (fun _ => rfl) (fun _ => by simp [hkeys]) ⟨rfl, rfl, rfl, rfl, trivial⟩ ⟨rfl, trivial⟩ ?_
     rintro n1 ⟨t13, t14, t15, o1003⟩ h N11 hN11
     replace h : m_impl_TalliesOf_l1  (n1 + 1) t13 t14 t15 o1003 = some _ := h
     refine LWP.seq_k fun N13 hN13 => ?_
     refine LWP.region (l := [_]) ?_
     refine LWo.int _ rfl rfl rfl (hn := ?_)
     refine LWo.nil (hN13 _ ?_)
     refine LWP.seq_k fun N14 hN14 => ?_
     refine LWP.cond_split rfl (fun h15 => ?_) (fun h15 => ?_)
     ·have h := bT h15 h
      refine LWP.skip (hN14 _ ?_)
      refine LWP.seq_k fun N16 hN16 => ?_
      refine LWP.block ?_
      refine LWP.seq_k fun N17 hN17 => ?_
      refine LWP.region (l := [_,_,_]) ?_
      refine bk h fun x18 e18 h => ?_
      refine LWo.indexM (f := e_Limpl_Value) e18 u_LLimpl_Value s_Limpl_Value rfl rfl (hn := ?_)
      refine LWo.load1 (c := (e_Limpl_Value x18)) g_Limpl_Value rfl (hn := ?_)
      refine LWo.assign (e_Limpl_Value x18) rfl (hn := ?_)
      refine LWo.nil (hN17 _ ?_)
      refine LWP.region (l := [_,_,_,_]) ?_
      refine LWo.move (.own 1003 0 (o1003).length) rfl (hn := ?_)
      refine LWo.move (e_Limpl_Value x18) rfl (hn := ?_)
      refine bk h fun x19 e19 h => ?_
      refine LWo.tcallN (e := e_impl_Tally) (e' := e_impl_Tally) 1021 rfl rfl (c_impl_tell _ _ _ _ e19) (fun _ => rfl) rfl rfl rfl rfl (hn := ?_)
      refine LWo.assign (.own 1021 0 (x19).length) rfl (hn := ?_)
      refine LWo.nil (hN16 _ ?_)
      refine LWP.region (l := [_,_]) ?_
      refine bk h fun x20 e20 h => ?_
      refine LWo.int _ rfl rfl (add_ck e20) (hn := ?_)
      refine LWo.move (e_int x20) rfl (hn := ?_)
      refine LWo.rekey 3 1021 1003 rfl rfl rfl rfl rfl rfl ?_
      refine LWo.nil (hN11 (t13, t14, x20, x19) _ ⟨rfl, rfl, rfl, rfl, trivial⟩ ⟨rfl, trivial⟩ h)
     ·have h := bF h15 h
      refine LWP.exit (hN9 o1003 _ ⟨rfl, trivial⟩ ⟨rfl, trivial⟩ h)
  ·intro N3 hN3
   refine LWP.region (l := [_,_,_,_,_,_,_]) ?_
   refine LWo.move (e_LLimpl_Value a0) rfl (hn := ?_)
   refine LWo.lenM (f := e_Limpl_Value) (l := a0) u_LLimpl_Value rfl (hn := ?_)
   refine LWo.int _ rfl rfl rfl (hn := ?_)
   refine LWo.move (e_bool (decide ((a0.length : Int) > (100 : Int)))) rfl (hn := ?_)
   refine LWo.byCases (t := 9) _ rfl (fun h4 => ?_) (fun h4 => ?_)
   ·have h := bT h4 h
    refine LWo.guardNU (t := 9) rfl h4 rfl rfl rfl rfl rfl ?_
    refine LWo.guardNU (t := 9) rfl h4 rfl rfl rfl rfl rfl ?_
    refine LWo.pickTM (e_bool true) rfl h4 rfl (hn := ?_)
    refine LWo.nil (hN3 (a0, true) _ ⟨rfl, rfl, trivial⟩ trivial h)
   ·have h := bF h4 h
    refine LWo.guardY (t := 9) rfl h4 rfl rfl ?_
    refine LWo.move (e_LLimpl_Value a0) rfl (hn := ?_)
    refine bk h fun x5 e5 h => ?_
    refine LWo.guardY (t := 9) rfl h4 rfl rfl ?_
    refine LWo.vcall rfl rfl (c_slices_ContainsFunc_LLimpl_Value_Limpl_Value _ _ f_impl_TalliesOf_1 [] (fun _ => rfl) (fun b0_ v hv => c_impl_TalliesOf_1 b0_  v hv) _ e5) (.same (.same (.nil))) (hn := ?_)
    refine LWo.pickFM (e_bool x5) rfl h4 rfl (hn := ?_)
    refine LWo.nil (hN3 (a0, x5) _ ⟨rfl, rfl, trivial⟩ trivial h)

def m_laws_eqValue (a0 : S_impl_Value) (a1 : S_impl_Value) : Option Bool :=
  bif (a0.Kind != a1.Kind) then (some false)
  else (bif (a0.N != a1.N) then (some false)
  else (bif (!(sEq a0.S a1.S)) then (some false)
  else (some true)))
theorem c_laws_eqValue (a0 : S_impl_Value) (a1 : S_impl_Value) (r : Bool) (h : m_laws_eqValue a0 a1 = some r) : Ret Try.prog f_laws_eqValue [e_impl_Value a0, e_impl_Value a1] (e_bool r) := by
  refine Does.goG [] F_laws_eqValue rfl e_laws_eqValue n_laws_eqValue rfl (rvs := [.tmp 4]) rfl rfl ?_
  intro w0 ok0 lent ρ0
  refine LWP.seq_k fun N1 hN1 => ?_
  refine LWP.region (l := [_,_,_]) ?_
  refine LWo.boxF (e_impl_Value a0) rfl rfl rfl (hn := ?_)
  refine LWo.boxF (e_impl_Value a1) rfl rfl rfl (hn := ?_)
  refine LWo.assign (e_bool false) rfl (hn := ?_)
  refine LWo.nil (hN1 _ ?_)
  refine LWP.seq_k fun N2 hN2 => ?_
  refine LWP.seq_k fun N3 hN3 => ?_
  refine LWP.region (l := [_,_,_,_,_]) ?_
  refine LWo.fieldAddr _ u_impl_Value rfl s_int rfl rfl (hn := ?_)
  refine LWo.load1 (c := (e_int a0.Kind)) g_int rfl (hn := ?_)
  refine LWo.fieldAddr _ u_impl_Value rfl s_int rfl rfl (hn := ?_)
  refine LWo.load1 (c := (e_int a1.Kind)) g_int rfl (hn := ?_)
  refine LWo.int _ rfl rfl rfl (hn := ?_)
  refine LWo.nil (hN3 _ ?_)
  refine LWP.cond_split rfl (fun h4 => ?_) (fun h4 => ?_)
  ·have h := bT h4 h
   refine LWP.seq_k fun N5 hN5 => ?_
   refine LWP.region (l := [_]) ?_
   refine LWo.assign (e_bool false) rfl (hn := ?_)
   refine LWo.nil (hN5 _ ?_)
   obtain rfl := Option.some.inj h
   refine LWP.ret (QG.mk (.inr rfl) (.cons (.tmp (x := (e_bool false)) rfl) (.nil)) (RetOK.one0 (.pure rfl) (by decide)) rfl rfl)
  ·have h := bF h4 h
   refine LWP.skip (hN2 _ ?_)
   refine LWP.seq_k fun N6 hN6 => ?_
   refine LWP.seq_k fun N7 hN7 => ?_
   refine LWP.region (l := [_,_,_,_,_]) ?_
   refine LWo.fieldAddr _ u_impl_Value rfl s_int rfl rfl (hn := ?_)
   refine LWo.load1 (c := (e_int a0.N)) g_int rfl (hn := ?_)
   refine LWo.fieldAddr _ u_impl_Value rfl s_int rfl rfl (hn := ?_)
   refine LWo.load1 (c := (e_int a1.N)) g_int rfl (hn := ?_)
   refine LWo.int _ rfl rfl rfl (hn := ?_)
   refine LWo.nil (hN7 _ ?_)
   refine LWP.cond_split rfl (fun h8 => ?_) (fun h8 => ?_)
   ·have h := bT h8 h
    refine LWP.seq_k fun N9 hN9 => ?_
    refine LWP.region (l := [_]) ?_
    refine LWo.assign (e_bool false) rfl (hn := ?_)
    refine LWo.nil (hN9 _ ?_)
    obtain rfl := Option.some.inj h
    refine LWP.ret (QG.mk (.inr rfl) (.cons (.tmp (x := (e_bool false)) rfl) (.nil)) (RetOK.one0 (.pure rfl) (by decide)) rfl rfl)
   ·have h := bF h8 h
    refine LWP.skip (hN6 _ ?_)
    refine LWP.seq_k fun N10 hN10 => ?_
    refine LWP.seq_k fun N11 hN11 => ?_
    refine LWP.region (l := [_,_,_,_,_]) ?_
    refine LWo.fieldAddr _ u_impl_Value rfl s_string rfl rfl (hn := ?_)
    refine LWo.load1 (c := (e_string a0.S)) g_string rfl (hn := ?_)
    refine LWo.fieldAddr _ u_impl_Value rfl s_string rfl rfl (hn := ?_)
    refine LWo.load1 (c := (e_string a1.S)) g_string rfl (hn := ?_)
    refine LWo.str _ rfl rfl rfl (hn := ?_)
    refine LWo.nil (hN11 _ ?_)
    refine LWP.cond_split rfl (fun h12 => ?_) (fun h12 => ?_)
    ·have h := bT h12 h
     refine LWP.seq_k fun N13 hN13 => ?_
     refine LWP.region (l := [_]) ?_
     refine LWo.assign (e_bool false) rfl (hn := ?_)
     refine LWo.nil (hN13 _ ?_)
     obtain rfl := Option.some.inj h
     refine LWP.ret (QG.mk (.inr rfl) (.cons (.tmp (x := (e_bool false)) rfl) (.nil)) (RetOK.one0 (.pure rfl) (by decide)) rfl rfl)
    ·have h := bF h12 h
     refine LWP.skip (hN10 _ ?_)
     refine LWP.seq_k fun N14 hN14 => ?_
     refine LWP.region (l := [_]) ?_
     refine LWo.assign (e_bool true) rfl (hn := ?_)
     refine LWo.nil (hN14 _ ?_)
     obtain rfl := Option.some.inj h
     refine LWP.ret (QG.mk (.inr rfl) (.cons (.tmp (x := (e_bool true)) rfl) (.nil)) (RetOK.one0 (.pure rfl) (by decide)) rfl rfl)

def m_laws_eqValueS_j1  : Option Bool :=
  some true
def m_laws_eqValueS_l1 : Nat → (List S_impl_Value) → (List S_impl_Value) → Int → Option Bool
  | 0, _, _, _ => none
  | n1 + 1, t0, t1, t5 =>
    bif decide (t5 < (t0.length : Int)) then ((at? t0 t5).bind fun x15 =>
    (at? t1 t5).bind fun x16 =>
    (m_laws_eqValue x15 x16).bind fun x17 =>
    bif (!x17) then (some false)
    else ((ckI (t5 + (1 : Int))).bind fun x20 =>
    (m_laws_eqValueS_l1  n1) t0 t1 x20))
    else (m_laws_eqValueS_j1  )
def m_laws_eqValueS (a0 : (List S_impl_Value)) (a1 : (List S_impl_Value)) : Option Bool :=
  bif ((a0.length : Int) != (a1.length : Int)) then (some false)
  else (m_laws_eqValueS_l1  (((a0.length : Int) - (0 : Int)).toNat + 1) a0 a1 (0 : Int))
theorem c_laws_eqValueS (a0 : (List S_impl_Value)) (a1 : (List S_impl_Value)) (r : Bool) (h : m_laws_eqValueS a0 a1 = some r) : Ret Try.prog f_laws_eqValueS [e_Limpl_Value a0, e_Limpl_Value a1] (e_bool r) := by
  refine Does.goG [] F_laws_eqValueS rfl e_laws_eqValueS n_laws_eqValueS rfl (rvs := [.tmp 4]) rfl rfl ?_
  intro w0 ok0 lent ρ0
  refine LWP.seq_k fun N1 hN1 => ?_
  refine LWP.region (l := [_]) ?_
  refine LWo.assign (e_bool false) rfl (hn := ?_)
  refine LWo.nil (hN1 _ ?_)
  refine LWP.seq_k fun N2 hN2 => ?_
  refine LWP.seq_k fun N3 hN3 => ?_
  refine LWP.region (l := [_,_,_,_,_]) ?_
  refine LWo.move (e_Limpl_Value a0) rfl (hn := ?_)
  refine LWo.lenM (f := e_impl_Value) (l := a0) u_Limpl_Value rfl (hn := ?_)
  refine LWo.move (e_Limpl_Value a1) rfl (hn := ?_)
  refine LWo.lenM (f := e_impl_Value) (l := a1) u_Limpl_Value rfl (hn := ?_)
  refine LWo.int _ rfl rfl rfl (hn := ?_)
  refine LWo.nil (hN3 _ ?_)
  refine LWP.cond_split rfl (fun h4 => ?_) (fun h4 => ?_)
  ·have h := bT h4 h
   refine LWP.seq_k fun N5 hN5 => ?_
   refine LWP.region (l := [_]) ?_
   refine LWo.assign (e_bool false) rfl (hn := ?_)
   refine LWo.nil (hN5 _ ?_)
   obtain rfl := Option.some.inj h
   refine LWP.ret (QG.mk (.inr rfl) (.cons (.tmp (x := (e_bool false)) rfl) (.nil)) (RetOK.one0 (.pure rfl) (by decide)) rfl rfl)
  ·have h := bF h4 h
   refine LWP.skip (hN2 _ ?_)
   refine LWP.join (α := Unit) (fun z : Unit => []) (fun z : Unit => []) (fun z : Unit => m_laws_eqValueS_j1  ) r (fun _ => by simp [hkeys]) ?_ ?_
   ·rintro _ h
    replace h : m_laws_eqValueS_j1   = some _ := h
    refine LWP.seq_k fun N21 hN21 => ?_
    refine LWP.region (l := [_]) ?_
    refine LWo.assign (e_bool true) rfl (hn := ?_)
    refine LWo.nil (hN21 _ ?_)
    obtain rfl := Option.some.inj h
    refine LWP.ret (QG.mk (.inr rfl) (.cons (.tmp (x := (e_bool true)) rfl) (.nil)) (RetOK.one0 (.pure rfl) (by decide)) rfl rfl)
   ·intro N6 hN6
    refine LWP.seq_k fun N7 hN7 => ?_
    refine LWP.region (l := [_]) ?_
    refine LWo.assign (e_int (0 : Int)) rfl (hn := ?_)
    refine LWo.nil (hN7 _ ?_)
    refine LWP.block ?_
    refine LWP.loopM (α := (List S_impl_Value) × (List S_impl_Value) × Int) (fun z : (List S_impl_Value) × (List S_impl_Value) × Int => [(0, (e_Limpl_Value z.1)), (1, (e_Limpl_Value z.2.1)), (5, (e_int z.2.2))]) (fun z : (List S_impl_Value) × (List S_impl_Value) × Int => []) (fun n1 (z : (List S_impl_Value) × (List S_impl_Value) × Int) => m_laws_eqValueS_l1  n1 z.1 z.2.1 z.2.2) r _ (a0, a1, (0 : Int)) h (fun _ => rfl) (fun _ => by simp [hkeys]) ⟨rfl, rfl, rfl, trivial⟩ trivial ?_
    rintro n1 ⟨t0, t1, t5⟩ h N8 hN8
    replace h : m_laws_eqValueS_l1  (n1 + 1) t0 t1 t5 = some _ := h
    refine LWP.seq_k fun N10 hN10 => ?_
    refine LWP.seq_k fun N11 hN11 => ?_
    refine LWP.region (l := [_,_,_,_]) ?_
    refine LWo.move (e_int t5) rfl (hn := ?_)
    refine LWo.move (e_Limpl_Value t0) rfl (hn := ?_)
    refine LWo.lenM (f := e_impl_Value) (l := t0) u_Limpl_Value rfl (hn := ?_)
    refine LWo.int _ rfl rfl rfl (hn := ?_)
    refine LWo.nil (hN11 _ ?_)
    refine LWP.cond_split rfl (fun h12 => ?_) (fun h12 => ?_)
    ·have h := bT h12 h
     refine LWP.skip (hN10 _ ?_)
     refine LWP.seq_k fun N13 hN13 => ?_
     refine LWP.block ?_
     refine LWP.seq_k fun N14 hN14 => ?_
     refine bk h fun x15 e15 h => ?_
     refine bk h fun x16 e16 h => ?_
     refine bk h fun x17 e17 h => ?_
     refine LWP.drawF (l := [_,_,_,_,_,_,_,_,_,_]) [] [0, 1, 5] [([0], []), ([5], []), ([17, 18], []), ([19], []), ([1], []), ([5], []), ([21, 22], []), ([23], []), ([20, 24], []), ([25], [])] [0, 1, 5, 26] [] mixed (by kernel_rfl) rfl (by decide) ?_
     refine dq 17 rfl (fun _ g u h => LWo.move (e_Limpl_Value t0) u.1 (hn := .nil (zn g))) ?_
     refine dq 18 rfl (fun _ g u h => LWo.move (e_int t5) u.1 (hn := .nil (zn g))) ?_
     refine dq 19 rfl (fun _ g u h => LWo.indexM (f := e_impl_Value) e15 u_Limpl_Value s_impl_Value u.1 u.2.1 (hn := .nil (zn g))) ?_
     refine dq 20 rfl (fun _ g u h => LWo.loadN ((e_impl_Value x15)).cells g_impl_Value s_impl_Value u.1 (Nat.le_of_ble_eq_true rfl) rfl (hn := .nil (zn g))) ?_
     refine dq 21 rfl (fun _ g u h => LWo.move (e_Limpl_Value t1) u.1 (hn := .nil (zn g))) ?_
     refine dq 22 rfl (fun _ g u h => LWo.move (e_int t5) u.1 (hn := .nil (zn g))) ?_
     refine dq 23 rfl (fun _ g u h => LWo.indexM (f := e_impl_Value) e16 u_Limpl_Value s_impl_Value u.1 u.2.1 (hn := .nil (zn g))) ?_
     refine dq 24 rfl (fun _ g u h => LWo.loadN ((e_impl_Value x16)).cells g_impl_Value s_impl_Value u.1 (Nat.le_of_ble_eq_true rfl) rfl (hn := .nil (zn g))) ?_
     refine dq 25 rfl (fun _ g u h => LWo.vcall rfl (av2 u.1 u.2.1) (c_laws_eqValue _ _ _ e17) (.same (.same (.nil))) (hn := .nil (zn g))) ?_
     refine dq 26 rfl (fun _ g u h => LWo.not u.1 (hn := .nil (zn g))) ?_
     refine ⟨rfl, by kernel_rfl, hN14 _ ?_⟩
     refine LWP.cond_split rfl (fun h18 => ?_) (fun h18 => ?_)
     ·have h := bT h18 h
      refine LWP.seq_k fun N19 hN19 => ?_
      refine LWP.region (l := [_]) ?_
      refine LWo.assign (e_bool false) rfl (hn := ?_)
      refine LWo.nil (hN19 _ ?_)
      obtain rfl := Option.some.inj h
      refine LWP.ret (QG.mk (.inr rfl) (.cons (.tmp (x := (e_bool false)) rfl) (.nil)) (RetOK.one0 (.pure rfl) (by decide)) rfl rfl)
     ·have h := bF h18 h
      refine LWP.skip (hN13 _ ?_)
      refine LWP.region (l := [_,_,_]) ?_
      refine LWo.move (e_int t5) rfl (hn := ?_)
      refine bk h fun x20 e20 h => ?_
      refine LWo.int _ rfl rfl (add_ck e20) (hn := ?_)
      refine LWo.assign (e_int x20) rfl (hn := ?_)
      refine LWo.nil (hN8 (t0, t1, x20) _ ⟨rfl, rfl, rfl, trivial⟩ trivial h)
    ·have h := bF h12 h
     refine LWP.exit (hN6 () _ trivial trivial h)

def m_laws_eqTally (a0 : S_impl_Tally) (a1 : S_impl_Tally) : Option Bool :=
  (m_laws_eqValueS a0.Key a1.Key).bind fun x4 =>
  bif (!x4) then (some false)
  else (bif (a0.Rows != a1.Rows) then (some false)
  else (bif (a0.Many != a1.Many) then (some false)
  else (bif (a0.Sum != a1.Sum) then (some false)
  else (some true))))
theorem c_laws_eqTally (a0 : S_impl_Tally) (a1 : S_impl_Tally) (r : Bool) (h : m_laws_eqTally a0 a1 = some r) : Ret Try.prog f_laws_eqTally [e_impl_Tally a0, e_impl_Tally a1] (e_bool r) := by
  refine Does.goG [] F_laws_eqTally rfl e_laws_eqTally n_laws_eqTally rfl (rvs := [.tmp 4]) rfl rfl ?_
  intro w0 ok0 lent ρ0
  refine LWP.seq_k fun N1 hN1 => ?_
  refine LWP.region (l := [_,_,_]) ?_
  refine LWo.boxF (e_impl_Tally a0) rfl rfl rfl (hn := ?_)
  refine LWo.boxF (e_impl_Tally a1) rfl rfl rfl (hn := ?_)
  refine LWo.assign (e_bool false) rfl (hn := ?_)
  refine LWo.nil (hN1 _ ?_)
  refine LWP.seq_k fun N2 hN2 => ?_
  refine LWP.seq_k fun N3 hN3 => ?_
  refine LWP.region (l := [_,_,_,_,_,_]) ?_
  refine LWo.fieldAddr _ u_impl_Tally rfl s_Limpl_Value rfl rfl (hn := ?_)
  refine LWo.load1 (c := (e_Limpl_Value a0.Key)) g_Limpl_Value rfl (hn := ?_)
  refine LWo.fieldAddr _ u_impl_Tally rfl s_Limpl_Value rfl rfl (hn := ?_)
  refine LWo.load1 (c := (e_Limpl_Value a1.Key)) g_Limpl_Value rfl (hn := ?_)
  refine bk h fun x4 e4 h => ?_
  refine LWo.vcall rfl rfl (c_laws_eqValueS _ _ _ e4) (.same (.same (.nil))) (hn := ?_)
  refine LWo.not rfl (hn := ?_)
  refine LWo.nil (hN3 _ ?_)
  refine LWP.cond_split rfl (fun h5 => ?_) (fun h5 => ?_)
  ·have h := bT h5 h
   refine LWP.seq_k fun N6 hN6 => ?_
   refine LWP.region (l := [_]) ?_
   refine LWo.assign (e_bool false) rfl (hn := ?_)
   refine LWo.nil (hN6 _ ?_)
   obtain rfl := Option.some.inj h
   refine LWP.ret (QG.mk (.inr rfl) (.cons (.tmp (x := (e_bool false)) rfl) (.nil)) (RetOK.one0 (.pure rfl) (by decide)) rfl rfl)
  ·have h := bF h5 h
   refine LWP.skip (hN2 _ ?_)
   refine LWP.seq_k fun N7 hN7 => ?_
   refine LWP.seq_k fun N8 hN8 => ?_
   refine LWP.region (l := [_,_,_,_,_]) ?_
   refine LWo.fieldAddr _ u_impl_Tally rfl s_int rfl rfl (hn := ?_)
   refine LWo.load1 (c := (e_int a0.Rows)) g_int rfl (hn := ?_)
   refine LWo.fieldAddr _ u_impl_Tally rfl s_int rfl rfl (hn := ?_)
   refine LWo.load1 (c := (e_int a1.Rows)) g_int rfl (hn := ?_)
   refine LWo.int _ rfl rfl rfl (hn := ?_)
   refine LWo.nil (hN8 _ ?_)
   refine LWP.cond_split rfl (fun h9 => ?_) (fun h9 => ?_)
   ·have h := bT h9 h
    refine LWP.seq_k fun N10 hN10 => ?_
    refine LWP.region (l := [_]) ?_
    refine LWo.assign (e_bool false) rfl (hn := ?_)
    refine LWo.nil (hN10 _ ?_)
    obtain rfl := Option.some.inj h
    refine LWP.ret (QG.mk (.inr rfl) (.cons (.tmp (x := (e_bool false)) rfl) (.nil)) (RetOK.one0 (.pure rfl) (by decide)) rfl rfl)
   ·have h := bF h9 h
    refine LWP.skip (hN7 _ ?_)
    refine LWP.seq_k fun N11 hN11 => ?_
    refine LWP.seq_k fun N12 hN12 => ?_
    refine LWP.region (l := [_,_,_,_,_]) ?_
    refine LWo.fieldAddr _ u_impl_Tally rfl s_int rfl rfl (hn := ?_)
    refine LWo.load1 (c := (e_int a0.Many)) g_int rfl (hn := ?_)
    refine LWo.fieldAddr _ u_impl_Tally rfl s_int rfl rfl (hn := ?_)
    refine LWo.load1 (c := (e_int a1.Many)) g_int rfl (hn := ?_)
    refine LWo.int _ rfl rfl rfl (hn := ?_)
    refine LWo.nil (hN12 _ ?_)
    refine LWP.cond_split rfl (fun h13 => ?_) (fun h13 => ?_)
    ·have h := bT h13 h
     refine LWP.seq_k fun N14 hN14 => ?_
     refine LWP.region (l := [_]) ?_
     refine LWo.assign (e_bool false) rfl (hn := ?_)
     refine LWo.nil (hN14 _ ?_)
     obtain rfl := Option.some.inj h
     refine LWP.ret (QG.mk (.inr rfl) (.cons (.tmp (x := (e_bool false)) rfl) (.nil)) (RetOK.one0 (.pure rfl) (by decide)) rfl rfl)
    ·have h := bF h13 h
     refine LWP.skip (hN11 _ ?_)
     refine LWP.seq_k fun N15 hN15 => ?_
     refine LWP.seq_k fun N16 hN16 => ?_
     refine LWP.region (l := [_,_,_,_,_]) ?_
     refine LWo.fieldAddr _ u_impl_Tally rfl s_int rfl rfl (hn := ?_)
     refine LWo.load1 (c := (e_int a0.Sum)) g_int rfl (hn := ?_)
     refine LWo.fieldAddr _ u_impl_Tally rfl s_int rfl rfl (hn := ?_)
     refine LWo.load1 (c := (e_int a1.Sum)) g_int rfl (hn := ?_)
     refine LWo.int _ rfl rfl rfl (hn := ?_)
     refine LWo.nil (hN16 _ ?_)
     refine LWP.cond_split rfl (fun h17 => ?_) (fun h17 => ?_)
     ·have h := bT h17 h
      refine LWP.seq_k fun N18 hN18 => ?_
      refine LWP.region (l := [_]) ?_
      refine LWo.assign (e_bool false) rfl (hn := ?_)
      refine LWo.nil (hN18 _ ?_)
      obtain rfl := Option.some.inj h
      refine LWP.ret (QG.mk (.inr rfl) (.cons (.tmp (x := (e_bool false)) rfl) (.nil)) (RetOK.one0 (.pure rfl) (by decide)) rfl rfl)
     ·have h := bF h17 h
      refine LWP.skip (hN15 _ ?_)
      refine LWP.seq_k fun N19 hN19 => ?_
      refine LWP.region (l := [_]) ?_
      refine LWo.assign (e_bool true) rfl (hn := ?_)
      refine LWo.nil (hN19 _ ?_)
      obtain rfl := Option.some.inj h
      refine LWP.ret (QG.mk (.inr rfl) (.cons (.tmp (x := (e_bool true)) rfl) (.nil)) (RetOK.one0 (.pure rfl) (by decide)) rfl rfl)

def m_laws_eqTallyS_j1  : Option Bool :=
  some true
def m_laws_eqTallyS_l1 : Nat → (List S_impl_Tally) → (List S_impl_Tally) → Int → Option Bool
  | 0, _, _, _ => none
  | n1 + 1, t0, t1, t5 =>
    bif decide (t5 < (t0.length : Int)) then ((at? t0 t5).bind fun x15 =>
    (at? t1 t5).bind fun x16 =>
    (m_laws_eqTally x15 x16).bind fun x17 =>
    bif (!x17) then (some false)
    else ((ckI (t5 + (1 : Int))).bind fun x20 =>
    (m_laws_eqTallyS_l1  n1) t0 t1 x20))
    else (m_laws_eqTallyS_j1  )
def m_laws_eqTallyS (a0 : (List S_impl_Tally)) (a1 : (List S_impl_Tally)) : Option Bool :=
  bif ((a0.length : Int) != (a1.length : Int)) then (some false)
  else (m_laws_eqTallyS_l1  (((a0.length : Int) - (0 : Int)).toNat + 1) a0 a1 (0 : Int))
theorem c_laws_eqTallyS (a0 : (List S_impl_Tally)) (a1 : (List S_impl_Tally)) (r : Bool) (h : m_laws_eqTallyS a0 a1 = some r) : Ret Try.prog f_laws_eqTallyS [e_Limpl_Tally a0, e_Limpl_Tally a1] (e_bool r) := by
  refine Does.goG [] F_laws_eqTallyS rfl e_laws_eqTallyS n_laws_eqTallyS rfl (rvs := [.tmp 4]) rfl rfl ?_
  intro w0 ok0 lent ρ0
  refine LWP.seq_k fun N1 hN1 => ?_
  refine LWP.region (l := [_]) ?_
  refine LWo.assign (e_bool false) rfl (hn := ?_)
  refine LWo.nil (hN1 _ ?_)
  refine LWP.seq_k fun N2 hN2 => ?_
  refine LWP.seq_k fun N3 hN3 => ?_
  refine LWP.region (l := [_,_,_,_,_]) ?_
  refine LWo.move (e_Limpl_Tally a0) rfl (hn := ?_)
  refine LWo.lenM (f := e_impl_Tally) (l := a0) u_Limpl_Tally rfl (hn := ?_)
  refine LWo.move (e_Limpl_Tally a1) rfl (hn := ?_)
  refine LWo.lenM (f := e_impl_Tally) (l := a1) u_Limpl_Tally rfl (hn := ?_)
  refine LWo.int _ rfl rfl rfl (hn := ?_)
  refine LWo.nil (hN3 _ ?_)
  refine LWP.cond_split rfl (fun h4 => ?_) (fun h4 => ?_)
  ·have h := bT h4 h
   refine LWP.seq_k fun N5 hN5 => ?_
   refine LWP.region (l := [_]) ?_
   refine LWo.assign (e_bool false) rfl (hn := ?_)
   refine LWo.nil (hN5 _ ?_)
   obtain rfl := Option.some.inj h
   refine LWP.ret (QG.mk (.inr rfl) (.cons (.tmp (x := (e_bool false)) rfl) (.nil)) (RetOK.one0 (.pure rfl) (by decide)) rfl rfl)
  ·have h := bF h4 h
   refine LWP.skip (hN2 _ ?_)
   refine LWP.join (α := Unit) (fun z : Unit => []) (fun z : Unit => []) (fun z : Unit => m_laws_eqTallyS_j1  ) r (fun _ => by simp [hkeys]) ?_ ?_
   ·rintro _ h
    replace h : m_laws_eqTallyS_j1   = some _ := h
    refine LWP.seq_k fun N21 hN21 => ?_
    refine LWP.region (l := [_]) ?_
    refine LWo.assign (e_bool true) rfl (hn := ?_)
    refine LWo.nil (hN21 _ ?_)
    obtain rfl := Option.some.inj h
    refine LWP.ret (QG.mk (.inr rfl) (.cons (.tmp (x := (e_bool true)) rfl) (.nil)) (RetOK.one0 (.pure rfl) (by decide)) rfl rfl)
   ·intro N6 hN6
    refine LWP.seq_k fun N7 hN7 => ?_
    refine LWP.region (l := [_]) ?_
    refine LWo.assign (e_int (0 : Int)) rfl (hn := ?_)
    refine LWo.nil (hN7 _ ?_)
    refine LWP.block ?_
    refine LWP.loopM (α := (List S_impl_Tally) × (List S_impl_Tally) × Int) (fun z : (List S_impl_Tally) × (List S_impl_Tally) × Int => [(0, (e_Limpl_Tally z.1)), (1, (e_Limpl_Tally z.2.1)), (5, (e_int z.2.2))]) (fun z : (List S_impl_Tally) × (List S_impl_Tally) × Int => []) (fun n1 (z : (List S_impl_Tally) × (List S_impl_Tally) × Int) => m_laws_eqTallyS_l1  n1 z.1 z.2.1 z.2.2) r _ (a0, a1, (0 : Int)) h (fun _ => rfl) (fun _ => by simp [hkeys]) ⟨rfl, rfl, rfl, trivial⟩ trivial ?_
    rintro n1 ⟨t0, t1, t5⟩ h N8 hN8
    replace h : m_laws_eqTallyS_l1  (n1 + 1) t0 t1 t5 = some _ := h
    refine LWP.seq_k fun N10 hN10 => ?_
    refine LWP.seq_k fun N11 hN11 => ?_
    refine LWP.region (l := [_,_,_,_]) ?_
    refine LWo.move (e_int t5) rfl (hn := ?_)
    refine LWo.move (e_Limpl_Tally t0) rfl (hn := ?_)
    refine LWo.lenM (f := e_impl_Tally) (l := t0) u_Limpl_Tally rfl (hn := ?_)
    refine LWo.int _ rfl rfl rfl (hn := ?_)
    refine LWo.nil (hN11 _ ?_)
    refine LWP.cond_split rfl (fun h12 => ?_) (fun h12 => ?_)
    ·have h := bT h12 h
     refine LWP.skip (hN10 _ ?_)
     refine LWP.seq_k fun N13 hN13 => ?_
     refine LWP.block ?_
     refine LWP.seq_k fun N14 hN14 => ?_
     refine bk h fun x15 e15 h => ?_
     refine bk h fun x16 e16 h => ?_
     refine bk h fun x17 e17 h => ?_
     refine LWP.drawF (l := [_,_,_,_,_,_,_,_,_,_]) [] [0, 1, 5] [([0], []), ([5], []), ([17, 18], []), ([19], []), ([1], []), ([5], []), ([21, 22], []), ([23], []), ([20, 24], []), ([25], [])] [0, 1, 5, 26] [] mixed (by kernel_rfl) rfl (by decide) ?_
     refine dq 17 rfl (fun _ g u h => LWo.move (e_Limpl_Tally t0) u.1 (hn := .nil (zn g))) ?_
     refine dq 18 rfl (fun _ g u h => LWo.move (e_int t5) u.1 (hn := .nil (zn g))) ?_
     refine dq 19 rfl (fun _ g u h => LWo.indexM (f := e_impl_Tally) e15 u_Limpl_Tally s_impl_Tally u.1 u.2.1 (hn := .nil (zn g))) ?_
     refine dq 20 rfl (fun _ g u h => LWo.loadN ((e_impl_Tally x15)).cells g_impl_Tally s_impl_Tally u.1 (Nat.le_of_ble_eq_true rfl) rfl (hn := .nil (zn g))) ?_
     refine dq 21 rfl (fun _ g u h => LWo.move (e_Limpl_Tally t1) u.1 (hn := .nil (zn g))) ?_
     refine dq 22 rfl (fun _ g u h => LWo.move (e_int t5) u.1 (hn := .nil (zn g))) ?_
     refine dq 23 rfl (fun _ g u h => LWo.indexM (f := e_impl_Tally) e16 u_Limpl_Tally s_impl_Tally u.1 u.2.1 (hn := .nil (zn g))) ?_
     refine dq 24 rfl (fun _ g u h => LWo.loadN ((e_impl_Tally x16)).cells g_impl_Tally s_impl_Tally u.1 (Nat.le_of_ble_eq_true rfl) rfl (hn := .nil (zn g))) ?_
     refine dq 25 rfl (fun _ g u h => LWo.vcall rfl (av2 u.1 u.2.1) (c_laws_eqTally _ _ _ e17) (.same (.same (.nil))) (hn := .nil (zn g))) ?_
     refine dq 26 rfl (fun _ g u h => LWo.not u.1 (hn := .nil (zn g))) ?_
     refine ⟨rfl, by kernel_rfl, hN14 _ ?_⟩
     refine LWP.cond_split rfl (fun h18 => ?_) (fun h18 => ?_)
     ·have h := bT h18 h
      refine LWP.seq_k fun N19 hN19 => ?_
      refine LWP.region (l := [_]) ?_
      refine LWo.assign (e_bool false) rfl (hn := ?_)
      refine LWo.nil (hN19 _ ?_)
      obtain rfl := Option.some.inj h
      refine LWP.ret (QG.mk (.inr rfl) (.cons (.tmp (x := (e_bool false)) rfl) (.nil)) (RetOK.one0 (.pure rfl) (by decide)) rfl rfl)
     ·have h := bF h18 h
      refine LWP.skip (hN13 _ ?_)
      refine LWP.region (l := [_,_,_]) ?_
      refine LWo.move (e_int t5) rfl (hn := ?_)
      refine bk h fun x20 e20 h => ?_
      refine LWo.int _ rfl rfl (add_ck e20) (hn := ?_)
      refine LWo.assign (e_int x20) rfl (hn := ?_)
      refine LWo.nil (hN8 (t0, t1, x20) _ ⟨rfl, rfl, rfl, trivial⟩ trivial h)
    ·have h := bF h12 h
     refine LWP.exit (hN6 () _ trivial trivial h)

def m_laws_eqValueSS_j1  : Option Bool :=
  some true
def m_laws_eqValueSS_l1 : Nat → (List (List S_impl_Value)) → (List (List S_impl_Value)) → Int → Option Bool
  | 0, _, _, _ => none
  | n1 + 1, t0, t1, t5 =>
    bif decide (t5 < (t0.length : Int)) then ((at? t0 t5).bind fun x15 =>
    (at? t1 t5).bind fun x16 =>
    (m_laws_eqValueS x15 x16).bind fun x17 =>
    bif (!x17) then (some false)
    else ((ckI (t5 + (1 : Int))).bind fun x20 =>
    (m_laws_eqValueSS_l1  n1) t0 t1 x20))
    else (m_laws_eqValueSS_j1  )
def m_laws_eqValueSS (a0 : (List (List S_impl_Value))) (a1 : (List (List S_impl_Value))) : Option Bool :=
  bif ((a0.length : Int) != (a1.length : Int)) then (some false)
  else (m_laws_eqValueSS_l1  (((a0.length : Int) - (0 : Int)).toNat + 1) a0 a1 (0 : Int))
theorem c_laws_eqValueSS (a0 : (List (List S_impl_Value))) (a1 : (List (List S_impl_Value))) (r : Bool) (h : m_laws_eqValueSS a0 a1 = some r) : Ret Try.prog f_laws_eqValueSS [e_LLimpl_Value a0, e_LLimpl_Value a1] (e_bool r) := by
  refine Does.goG [] F_laws_eqValueSS rfl e_laws_eqValueSS n_laws_eqValueSS rfl (rvs := [.tmp 4]) rfl rfl ?_
  intro w0 ok0 lent ρ0
  refine LWP.seq_k fun N1 hN1 => ?_
  refine LWP.region (l := [_]) ?_
  refine LWo.assign (e_bool false) rfl (hn := ?_)
  refine LWo.nil (hN1 _ ?_)
  refine LWP.seq_k fun N2 hN2 => ?_
  refine LWP.seq_k fun N3 hN3 => ?_
  refine LWP.region (l := [_,_,_,_,_]) ?_
  refine LWo.move (e_LLimpl_Value a0) rfl (hn := ?_)
  refine LWo.lenM (f := e_Limpl_Value) (l := a0) u_LLimpl_Value rfl (hn := ?_)
  refine LWo.move (e_LLimpl_Value a1) rfl (hn := ?_)
  refine LWo.lenM (f := e_Limpl_Value) (l := a1) u_LLimpl_Value rfl (hn := ?_)
  refine LWo.int _ rfl rfl rfl (hn := ?_)
  refine LWo.nil (hN3 _ ?_)
  refine LWP.cond_split rfl (fun h4 => ?_) (fun h4 => ?_)
  ·have h := bT h4 h
   refine LWP.seq_k fun N5 hN5 => ?_
   refine LWP.region (l := [_]) ?_
   refine LWo.assign (e_bool false) rfl (hn := ?_)
   refine LWo.nil (hN5 _ ?_)
   obtain rfl := Option.some.inj h
   refine LWP.ret (QG.mk (.inr rfl) (.cons (.tmp (x := (e_bool false)) rfl) (.nil)) (RetOK.one0 (.pure rfl) (by decide)) rfl rfl)
  ·have h := bF h4 h
   refine LWP.skip (hN2 _ ?_)
   refine LWP.join (α := Unit) (fun z : Unit => []) (fun z : Unit => []) (fun z : Unit => m_laws_eqValueSS_j1  ) r (fun _ => by simp [hkeys]) ?_ ?_
   ·rintro _ h
    replace h : m_laws_eqValueSS_j1   = some _ := h
    refine LWP.seq_k fun N21 hN21 => ?_
    refine LWP.region (l := [_]) ?_
    refine LWo.assign (e_bool true) rfl (hn := ?_)
    refine LWo.nil (hN21 _ ?_)
    obtain rfl := Option.some.inj h
    refine LWP.ret (QG.mk (.inr rfl) (.cons (.tmp (x := (e_bool true)) rfl) (.nil)) (RetOK.one0 (.pure rfl) (by decide)) rfl rfl)
   ·intro N6 hN6
    refine LWP.seq_k fun N7 hN7 => ?_
    refine LWP.region (l := [_]) ?_
    refine LWo.assign (e_int (0 : Int)) rfl (hn := ?_)
    refine LWo.nil (hN7 _ ?_)
    refine LWP.block ?_
    refine LWP.loopM (α := (List (List S_impl_Value)) × (List (List S_impl_Value)) × Int) (fun z : (List (List S_impl_Value)) × (List (List S_impl_Value)) × Int => [(0, (e_LLimpl_Value z.1)), (1, (e_LLimpl_Value z.2.1)), (5, (e_int z.2.2))]) (fun z : (List (List S_impl_Value)) × (List (List S_impl_Value)) × Int => []) (fun n1 (z : (List (List S_impl_Value)) × (List (List S_impl_Value)) × Int) => m_laws_eqValueSS_l1  n1 z.1 z.2.1 z.2.2) r _ (a0, a1, (0 : Int)) h (fun _ => rfl) (fun _ => by simp [hkeys]) ⟨rfl, rfl, rfl, trivial⟩ trivial ?_
    rintro n1 ⟨t0, t1, t5⟩ h N8 hN8
    replace h : m_laws_eqValueSS_l1  (n1 + 1) t0 t1 t5 = some _ := h
    refine LWP.seq_k fun N10 hN10 => ?_
    refine LWP.seq_k fun N11 hN11 => ?_
    refine LWP.region (l := [_,_,_,_]) ?_
    refine LWo.move (e_int t5) rfl (hn := ?_)
    refine LWo.move (e_LLimpl_Value t0) rfl (hn := ?_)
    refine LWo.lenM (f := e_Limpl_Value) (l := t0) u_LLimpl_Value rfl (hn := ?_)
    refine LWo.int _ rfl rfl rfl (hn := ?_)
    refine LWo.nil (hN11 _ ?_)
    refine LWP.cond_split rfl (fun h12 => ?_) (fun h12 => ?_)
    ·have h := bT h12 h
     refine LWP.skip (hN10 _ ?_)
     refine LWP.seq_k fun N13 hN13 => ?_
     refine LWP.block ?_
     refine LWP.seq_k fun N14 hN14 => ?_
     refine bk h fun x15 e15 h => ?_
     refine bk h fun x16 e16 h => ?_
     refine bk h fun x17 e17 h => ?_
     refine LWP.drawF (l := [_,_,_,_,_,_,_,_,_,_]) [] [0, 1, 5] [([0], []), ([5], []), ([17, 18], []), ([19], []), ([1], []), ([5], []), ([21, 22], []), ([23], []), ([20, 24], []), ([25], [])] [0, 1, 5, 26] [] mixed (by kernel_rfl) rfl (by decide) ?_
     refine dq 17 rfl (fun _ g u h => LWo.move (e_LLimpl_Value t0) u.1 (hn := .nil (zn g))) ?_
     refine dq 18 rfl (fun _ g u h => LWo.move (e_int t5) u.1 (hn := .nil (zn g))) ?_
     refine dq 19 rfl (fun _ g u h => LWo.indexM (f := e_Limpl_Value) e15 u_LLimpl_Value s_Limpl_Value u.1 u.2.1 (hn := .nil (zn g))) ?_
     refine dq 20 rfl (fun _ g u h => LWo.load1 (c := (e_Limpl_Value x15)) g_Limpl_Value u.1 (hn := .nil (zn g))) ?_
     refine dq 21 rfl (fun _ g u h => LWo.move (e_LLimpl_Value t1) u.1 (hn := .nil (zn g))) ?_
     refine dq 22 rfl (fun _ g u h => LWo.move (e_int t5) u.1 (hn := .nil (zn g))) ?_
     refine dq 23 rfl (fun _ g u h => LWo.indexM (f := e_Limpl_Value) e16 u_LLimpl_Value s_Limpl_Value u.1 u.2.1 (hn := .nil (zn g))) ?_
     refine dq 24 rfl (fun _ g u h => LWo.load1 (c := (e_Limpl_Value x16)) g_Limpl_Value u.1 (hn := .nil (zn g))) ?_
     refine dq 25 rfl (fun _ g u h => LWo.vcall rfl (av2 u.1 u.2.1) (c_laws_eqValueS _ _ _ e17) (.same (.same (.nil))) (hn := .nil (zn g))) ?_
     refine dq 26 rfl (fun _ g u h => LWo.not u.1 (hn := .nil (zn g))) ?_
     refine ⟨rfl, by kernel_rfl, hN14 _ ?_⟩
     refine LWP.cond_split rfl (fun h18 => ?_) (fun h18 => ?_)
     ·have h := bT h18 h
      refine LWP.seq_k fun N19 hN19 => ?_
      refine LWP.region (l := [_]) ?_
      refine LWo.assign (e_bool false) rfl (hn := ?_)
      refine LWo.nil (hN19 _ ?_)
      obtain rfl := Option.some.inj h
      refine LWP.ret (QG.mk (.inr rfl) (.cons (.tmp (x := (e_bool false)) rfl) (.nil)) (RetOK.one0 (.pure rfl) (by decide)) rfl rfl)
     ·have h := bF h18 h
      refine LWP.skip (hN13 _ ?_)
      refine LWP.region (l := [_,_,_]) ?_
      refine LWo.move (e_int t5) rfl (hn := ?_)
      refine bk h fun x20 e20 h => ?_
      refine LWo.int _ rfl rfl (add_ck e20) (hn := ?_)
      refine LWo.assign (e_int x20) rfl (hn := ?_)
      refine LWo.nil (hN8 (t0, t1, x20) _ ⟨rfl, rfl, rfl, trivial⟩ trivial h)
    ·have h := bF h12 h
     refine LWP.exit (hN6 () _ trivial trivial h)

def m_laws_markText_j1 (t3 : ByteArray) : Option ByteArray :=
  (sCat? (⟨#[109]⟩ : ByteArray) t3).bind fun x19 =>
  some x19
def m_laws_markText_l1 : Nat → Int → ByteArray → Option ByteArray
  | 0, _, _ => none
  | n1 + 1, t0, t3 =>
    bif decide (t0 > (0 : Int)) then ((remI t0 (10 : Int)).bind fun x14 =>
    (ckI ((48 : Int) + x14)).bind fun x15 =>
    (sCat? (bStr ([(Lift.byteOf x15)] : (List UInt8))) t3).bind fun x16 =>
    (quoI t0 (10 : Int)).bind fun x17 =>
    (m_laws_markText_l1  n1) x17 x16)
    else (m_laws_markText_j1  t3)
def m_laws_markText (a0 : Int) : Option ByteArray :=
  bif decide (a0 ≤ (0 : Int)) then (some (⟨#[109, 48]⟩ : ByteArray))
  else (m_laws_markText_l1  ((a0 - (0 : Int)).toNat + 1) a0 (⟨#[]⟩ : ByteArray))
theorem c_laws_markText (a0 : Int) (r : ByteArray) (h : m_laws_markText a0 = some r) : Ret Try.prog f_laws_markText [e_int a0] (e_string r) := by
  refine Does.goG [] F_laws_markText rfl e_laws_markText n_laws_markText rfl (rvs := [.tmp 2]) rfl rfl ?_
  intro w0 ok0 lent ρ0
  refine LWP.seq_k fun N1 hN1 => ?_
  refine LWP.region (l := [_]) ?_
  refine LWo.assign (e_string (⟨#[]⟩ : ByteArray)) rfl (hn := ?_)
  refine LWo.nil (hN1 _ ?_)
  refine LWP.seq_k fun N2 hN2 => ?_
  refine LWP.seq_k fun N3 hN3 => ?_
  refine LWP.region (l := [_,_]) ?_
  refine LWo.move (e_int a0) rfl (hn := ?_)
  refine LWo.int _ rfl rfl rfl (hn := ?_)
  refine LWo.nil (hN3 _ ?_)
  refine LWP.cond_split rfl (fun h4 => ?_) (fun h4 => ?_)
  ·have h := bT h4 h
   refine LWP.seq_k fun N5 hN5 => ?_
   refine LWP.region (l := [_]) ?_
   refine LWo.assign (e_string (⟨#[109, 48]⟩ : ByteArray)) rfl (hn := ?_)
   refine LWo.nil (hN5 _ ?_)
   obtain rfl := Option.some.inj h
   refine LWP.ret (QG.mk (.inr rfl) (.cons (.tmp (x := (e_string (⟨#[109, 48]⟩ : ByteArray))) rfl) (.nil)) (RetOK.one0 (.pure rfl) (by decide)) rfl rfl)
  ·have h := bF h4 h
   refine LWP.skip (hN2 _ ?_)
   refine LWP.seq_k fun N6 hN6 => ?_
   refine LWP.region (l := [_]) ?_
   refine LWo.assign (e_string (⟨#[]⟩ : ByteArray)) rfl (hn := ?_)
   refine LWo.nil (hN6 _ ?_)
   refine LWP.join (α := ByteArray) (fun z : ByteArray => [(3, (e_string z))]) (fun z : ByteArray => []) (fun z : ByteArray => m_laws_markText_j1  z) r (fun _ => by simp [hkeys]) ?_ ?_
   ·rintro t3 h
    replace h : m_laws_markText_j1  t3 = some _ := h
    refine LWP.seq_k fun N18 hN18 => ?_
    refine LWP.region (l := [_,_,_]) ?_
    refine LWo.move (e_string t3) rfl (hn := ?_)
    refine bk h fun x19 e19 h => ?_
    refine LWo.str _ rfl rfl (cat_ck e19) (hn := ?_)
    refine LWo.assign (e_string x19) rfl (hn := ?_)
    refine LWo.nil (hN18 _ ?_)
    obtain rfl := Option.some.inj h
    refine LWP.ret (QG.mk (.inr rfl) (.cons (.tmp (x := (e_string x19)) rfl) (.nil)) (RetOK.one0 (.pure rfl) (by decide)) rfl rfl)
   ·intro N7 hN7
    refine LWP.block ?_
    refine LWP.loopM (α := Int × ByteArray) (fun z : Int × ByteArray => [(0, (e_int z.1)), (3, (e_string z.2))]) (fun z : Int × ByteArray => []) (fun n1 (z : Int × ByteArray) => m_laws_markText_l1  n1 z.1 z.2) r _ (a0, (⟨#[]⟩ : ByteArray)) h (fun _ => rfl) (fun _ => by simp [hkeys]) ⟨rfl, rfl, trivial⟩ trivial ?_
    rintro n1 ⟨t0, t3⟩ h N8 hN8
    replace h : m_laws_markText_l1  (n1 + 1) t0 t3 = some _ := h
    refine LWP.seq_k fun N10 hN10 => ?_
    refine LWP.seq_k fun N11 hN11 => ?_
    refine LWP.region (l := [_,_]) ?_
    refine LWo.move (e_int t0) rfl (hn := ?_)
    refine LWo.int _ rfl rfl rfl (hn := ?_)
    refine LWo.nil (hN11 _ ?_)
    refine LWP.cond_split rfl (fun h12 => ?_) (fun h12 => ?_)
    ·have h := bT h12 h
     refine LWP.skip (hN10 _ ?_)
     refine LWP.block ?_
     refine LWP.seq_k fun N13 hN13 => ?_
     refine LWP.region (l := [_,_,_,_,_,_,_,_,_]) ?_
     refine LWo.move (e_int t0) rfl (hn := ?_)
     refine bk h fun x14 e14 h => ?_
     refine LWo.int _ rfl rfl (rem_ck e14) (hn := ?_)
     refine bk h fun x15 e15 h => ?_
     refine LWo.int _ rfl rfl (add_ck e15) (hn := ?_)
     refine LWo.convU8 u_int u_uint8 rfl (hn := ?_)
     refine LWo.lit (ops := [_]) [(e_uint8 (Lift.byteOf x15))] u_Luint8 s_uint8 z_uint8 rfl rfl rfl rfl rfl rfl (hn := ?_)
     refine LWo.strM (l := ([(Lift.byteOf x15)] : (List UInt8))) u_Luint8 u_string u_uint8 rfl (hn := ?_)
     refine LWo.move (e_string t3) rfl (hn := ?_)
     refine bk h fun x16 e16 h => ?_
     refine LWo.str _ rfl rfl (cat_ck e16) (hn := ?_)
     refine LWo.assign (e_string x16) rfl (hn := ?_)
     refine LWo.nil (hN13 _ ?_)
     refine LWP.region (l := [_,_,_]) ?_
     refine LWo.move (e_int t0) rfl (hn := ?_)
     refine bk h fun x17 e17 h => ?_
     refine LWo.int _ rfl rfl (quo_ck e17) (hn := ?_)
     refine LWo.assign (e_int x17) rfl (hn := ?_)
     refine LWo.nil (hN8 (x17, x16) _ ⟨rfl, rfl, trivial⟩ trivial h)
    ·have h := bF h12 h
     refine LWP.exit (hN7 t3 _ ⟨rfl, trivial⟩ trivial h)

def m_laws_markValueS_j1 (t1 : Int) (o0 : (List S_impl_Value)) : Option (Int × (List S_impl_Value)) :=
  some (t1, o0)
def m_laws_markValueS_l1 : Nat → Int → Int → (List S_impl_Value) → Option (Int × (List S_impl_Value))
  | 0, _, _, _ => none
  | n1 + 1, t1, t5, o0 =>
    bif decide (t5 < (o0.length : Int)) then ((at? o0 t5).bind fun x11 =>
    (at? o0 t5).bind fun x12 =>
    lt ({ x12 with Kind := t1 }) fun y13 =>
    (ckI (t1 + (1 : Int))).bind fun x15 =>
    (at? (o0.set (t5).toNat y13) t5).bind fun x17 =>
    (at? (o0.set (t5).toNat y13) t5).bind fun x18 =>
    lt ({ x18 with N := x15 }) fun y19 =>
    (ckI (x15 + (1 : Int))).bind fun x21 =>
    (m_laws_markText x21).bind fun x23 =>
    (at? ((o0.set (t5).toNat y13).set (t5).toNat y19) t5).bind fun x24 =>
    (at? ((o0.set (t5).toNat y13).set (t5).toNat y19) t5).bind fun x25 =>
    lt ({ x25 with S := x23 }) fun y26 =>
    (ckI (x21 + (1 : Int))).bind fun x27 =>
    (ckI (t5 + (1 : Int))).bind fun x28 =>
    (m_laws_markValueS_l1  n1) x27 x28 (((o0.set (t5).toNat y13).set (t5).toNat y19).set (t5).toNat y26))
    else (m_laws_markValueS_j1  t1 o0)
def m_laws_markValueS (o0 : (List S_impl_Value)) (a1 : Int) : Option (Int × (List S_impl_Value)) :=
  m_laws_markValueS_l1  (((o0.length : Int) - (0 : Int)).toNat + 1) a1 (0 : Int) o0
theorem c_laws_markValueS (o0 : (List S_impl_Value)) (a1 : Int) (r : (Int × (List S_impl_Value))) (h : m_laws_markValueS o0 a1 = some r) : Does Try.prog f_laws_markValueS [.own 0 0 o0.length, e_int a1] [(0, (lob 3 e_impl_Value o0))] (fun x hh => x = e_int r.1 ∧ hh = [(0, (lob 3 e_impl_Value r.2))]) := by
  refine Does.goG [0] F_laws_markValueS rfl e_laws_markValueS n_laws_markValueS rfl (rvs := [.tmp 4]) rfl rfl ?_
  intro w0 ok0 lent ρ0
  refine LWP.seq_k fun N1 hN1 => ?_
  refine LWP.region (l := [_]) ?_
  refine LWo.assign (e_int (0 : Int)) rfl (hn := ?_)
  refine LWo.nil (hN1 _ ?_)
  refine LWP.join (α := Int × (List S_impl_Value)) (fun z : Int × (List S_impl_Value) => [(1, (e_int z.1))]) (fun z : Int × (List S_impl_Value) => [(0, (lob 3 e_impl_Value z.2))]) (fun z : Int × (List S_impl_Value) => m_laws_markValueS_j1  z.1 z.2) r (fun _ => by simp [hkeys]) ?_ ?_
  ·rintro ⟨t1, o0⟩ h
   replace h : m_laws_markValueS_j1  t1 o0 = some _ := h
   refine LWP.seq_k fun N29 hN29 => ?_
   refine LWP.region (l := [_,_]) ?_
   refine LWo.move (e_int t1) rfl (hn := ?_)
   refine LWo.assign (e_int t1) rfl (hn := ?_)
   refine LWo.nil (hN29 _ ?_)
   obtain rfl := Option.some.inj h
   refine LWP.ret (QG.mk (.inr rfl) (.cons (.tmp (x := (e_int t1)) rfl) (.nil)) (RetOK.one1 (.pure rfl) (by decide) rfl rfl rfl rfl rfl) rfl rfl)
  ·intro N2 hN2
   refine LWP.seq_k fun N3 hN3 => ?_
   refine LWP.region (l := [_]) ?_
   refine LWo.assign (e_int (0 : Int)) rfl (hn := ?_)
   refine LWo.nil (hN3 _ ?_)
   refine LWP.block ?_
   refine LWP.loopM (α := Int × Int × (List S_impl_Value)) (fun z : Int × Int × (List S_impl_Value) => [(0, (.own 0 0 (z.2.2).length)), (1, (e_int z.1)), (5, (e_int z.2.1))]) (fun z : Int × Int × (List S_impl_Value) => [(0, (lob 3 e_impl_Value z.2.2))]) (fun n1 (z : Int × Int × (List S_impl_Value)) => m_laws_markValueS_l1  n1 z.1 z.2.1 z.2.2) r _ (a1, (0 : Int), o0) h (fun _ => rfl) (fun _ => by simp [hkeys]) ⟨rfl, rfl, rfl, trivial⟩ ⟨rfl, trivial⟩ ?_
   rintro n1 ⟨t1, t5, o0⟩ h N4 hN4
   replace h : m_laws_markValueS_l1  (n1 + 1) t1 t5 o0 = some _ := h
   refine LWP.seq_k fun N6 hN6 => ?_
   refine LWP.seq_k fun N7 hN7 => ?_
   refine LWP.region (l := [_,_,_,_]) ?_
   refine LWo.move (e_int t5) rfl (hn := ?_)
   refine LWo.move (.own 0 0 (o0).length) rfl (hn := ?_)
   refine LWo.lenO u_Limpl_Value rfl (hn := ?_)
   refine LWo.int _ rfl rfl rfl (hn := ?_)
   refine LWo.nil (hN7 _ ?_)
   refine LWP.cond_split rfl (fun h8 => ?_) (fun h8 => ?_)
   ·have h := bT h8 h
    refine LWP.skip (hN6 _ ?_)
    refine LWP.seq_k fun N9 hN9 => ?_
    refine LWP.block ?_
    refine LWP.seq_k fun N10 hN10 => ?_
    refine LWP.region (l := [_,_,_,_,_,_]) ?_
    refine LWo.move (.own 0 0 (o0).length) rfl (hn := ?_)
    refine LWo.move (e_int t5) rfl (hn := ?_)
    refine LWo.move (e_int t1) rfl (hn := ?_)
    refine bk h fun x11 e11 h => ?_
    refine LWo.indexO e11 rfl u_Limpl_Value s_impl_Value rfl rfl rfl (hn := ?_)
    refine LWo.fieldPtr u_impl_Value rfl s_int rfl rfl (hn := ?_)
    refine bk h fun x12 e12 h => ?_
    refine lk h fun y13 e13 h => ?_
    refine LWo.storeO y13 e12 s_int rfl rfl rfl rfl rfl rfl rfl (by rw [e13]; rfl) (hn := ?_)
    refine LWo.nil (hN10 _ ?_)
    refine LWP.seq_k fun N14 hN14 => ?_
    refine LWP.region (l := [_,_,_]) ?_
    refine LWo.move (e_int t1) rfl (hn := ?_)
    refine bk h fun x15 e15 h => ?_
    refine LWo.int _ rfl rfl (add_ck e15) (hn := ?_)
    refine LWo.assign (e_int x15) rfl (hn := ?_)
    refine LWo.nil (hN14 _ ?_)
    refine LWP.seq_k fun N16 hN16 => ?_
    refine LWP.region (l := [_,_,_,_,_,_]) ?_
    refine LWo.move (.own 0 0 (o0).length) rfl (hn := ?_)
    refine LWo.move (e_int t5) rfl (hn := ?_)
    refine LWo.move (e_int x15) rfl (hn := ?_)
    refine bk h fun x17 e17 h => ?_
    refine LWo.indexO e17 List.length_set.symm u_Limpl_Value s_impl_Value rfl rfl rfl (hn := ?_)
    refine LWo.fieldPtr u_impl_Value rfl s_int rfl rfl (hn := ?_)
    refine bk h fun x18 e18 h => ?_
    refine lk h fun y19 e19 h => ?_
    refine LWo.storeO y19 e18 s_int rfl rfl rfl rfl rfl rfl rfl (by rw [e19]; rfl) (hn := ?_)
    refine LWo.nil (hN16 _ ?_)
    refine LWP.seq_k fun N20 hN20 => ?_
    refine LWP.region (l := [_,_,_]) ?_
    refine LWo.move (e_int x15) rfl (hn := ?_)
    refine bk h fun x21 e21 h => ?_
    refine LWo.int _ rfl rfl (add_ck e21) (hn := ?_)
    refine LWo.assign (e_int x21) rfl (hn := ?_)
    refine LWo.nil (hN20 _ ?_)
    refine LWP.seq_k fun N22 hN22 => ?_
    refine LWP.region (l := [_,_,_,_,_,_,_]) ?_
    refine LWo.move (.own 0 0 (o0).length) rfl (hn := ?_)
    refine LWo.move (e_int t5) rfl (hn := ?_)
    refine LWo.move (e_int x21) rfl (hn := ?_)
    refine bk h fun x23 e23 h => ?_
    refine LWo.vcall rfl rfl (c_laws_markText _ _ e23) (.same (.nil)) (hn := ?_)
    refine bk h fun x24 e24 h => ?_
    refine LWo.indexO e24 (List.length_set.symm.trans List.length_set.symm) u_Limpl_Value s_impl_Value rfl rfl rfl (hn := ?_)
    refine LWo.fieldPtr u_impl_Value rfl s_string rfl rfl (hn := ?_)
    refine bk h fun x25 e25 h => ?_
    refine lk h fun y26 e26 h => ?_
    refine LWo.storeO y26 e25 s_string rfl rfl rfl rfl rfl rfl rfl (by rw [e26]; rfl) (hn := ?_)
    refine LWo.nil (hN22 _ ?_)
    refine LWP.region (l := [_,_,_]) ?_
    refine LWo.move (e_int x21) rfl (hn := ?_)
    refine bk h fun x27 e27 h => ?_
    refine LWo.int _ rfl rfl (add_ck e27) (hn := ?_)
    refine LWo.assign (e_int x27) rfl (hn := ?_)
    refine LWo.nil (hN9 _ ?_)
    refine LWP.region (l := [_,_,_]) ?_
    refine LWo.move (e_int t5) rfl (hn := ?_)
    refine bk h fun x28 e28 h => ?_
    refine LWo.int _ rfl rfl (add_ck e28) (hn := ?_)
    refine LWo.assign (e_int x28) rfl (hn := ?_)
    refine LWo.nil (hN4 (x27, x28, (((o0.set (t5).toNat y13).set (t5).toNat y19).set (t5).toNat y26)) _ ⟨(congrArg (LV.own 0 0) ((List.length_set.symm.trans List.length_set.symm).trans List.length_set.symm)), rfl, rfl, trivial⟩ ⟨rfl, trivial⟩ h)
   ·have h := bF h8 h
    refine LWP.exit (hN2 (t1, o0) _ ⟨rfl, trivial⟩ ⟨rfl, trivial⟩ h)
theorem k_laws_markValueS (o0 : (List S_impl_Value)) (a1 : Int) (r : (Int × (List S_impl_Value))) (h : m_laws_markValueS o0 a1 = some r) (k : Nat) : Does Try.prog f_laws_markValueS [.own k 0 o0.length, e_int a1] [(k, (lob 3 e_impl_Value o0))] (fun x hh => x = e_int r.1 ∧ hh = [(k, (lob 3 e_impl_Value r.2))]) :=
  Does.nameO (c_laws_markValueS o0 a1 r h) (fun _ => rfl) k

def m_laws_markValueSS_j1 (t1 : Int) (o0 : (List (List S_impl_Value))) : Option (Int × (List (List S_impl_Value))) :=
  some (t1, o0)
def m_laws_markValueSS_l1 : Nat → Int → Int → (List (List S_impl_Value)) → Option (Int × (List (List S_impl_Value)))
  | 0, _, _, _ => none
  | n1 + 1, t1, t5, o0 =>
    bif decide (t5 < (o0.length : Int)) then ((at? o0 t5).bind fun x10 =>
    (at? o0 t5).bind fun x11 =>
    (m_laws_markValueS x11 t1).bind fun x12 =>
    (lenQ x12.2.length x11.length ()).bind fun u13 =>
    lt (x12.2) fun y14 =>
    (ckI (t5 + (1 : Int))).bind fun x15 =>
    (m_laws_markValueSS_l1  n1) x12.1 x15 (o0.set (t5).toNat y14))
    else (m_laws_markValueSS_j1  t1 o0)
def m_laws_markValueSS (o0 : (List (List S_impl_Value))) (a1 : Int) : Option (Int × (List (List S_impl_Value))) :=
  m_laws_markValueSS_l1  (((o0.length : Int) - (0 : Int)).toNat + 1) a1 (0 : Int) o0
theorem c_laws_markValueSS (o0 : (List (List S_impl_Value))) (a1 : Int) (r : (Int × (List (List S_impl_Value)))) (h : m_laws_markValueSS o0 a1 = some r) : Does Try.prog f_laws_markValueSS [.own 0 0 o0.length, e_int a1] [(0, (dob 1 e_Limpl_Value o0))] (fun x hh => x = e_int r.1 ∧ hh = [(0, (dob 1 e_Limpl_Value r.2))]) := by
  refine Does.goG [0] F_laws_markValueSS rfl e_laws_markValueSS n_laws_markValueSS rfl (rvs := [.tmp 4]) rfl rfl ?_
  intro w0 ok0 lent ρ0
  refine LWP.seq_k fun N1 hN1 => ?_
  refine LWP.region (l := [_]) ?_
  refine LWo.assign (e_int (0 : Int)) rfl (hn := ?_)
  refine LWo.nil (hN1 _ ?_)
  refine LWP.join (α := Int × (List (List S_impl_Value))) (fun z : Int × (List (List S_impl_Value)) => [(1, (e_int z.1))]) (fun z : Int × (List (List S_impl_Value)) => [(0, (dob 1 e_Limpl_Value z.2))]) (fun z : Int × (List (List S_impl_Value)) => m_laws_markValueSS_j1  z.1 z.2) r (fun _ => by simp [hkeys]) ?_ ?_
  ·rintro ⟨t1, o0⟩ h
   replace h : m_laws_markValueSS_j1  t1 o0 = some _ := h
   refine LWP.seq_k fun N16 hN16 => ?_
   refine LWP.region (l := [_,_]) ?_
   refine LWo.move (e_int t1) rfl (hn := ?_)
   refine LWo.assign (e_int t1) rfl (hn := ?_)
   refine LWo.nil (hN16 _ ?_)
   obtain rfl := Option.some.inj h
   refine LWP.ret (QG.mk (.inr rfl) (.cons (.tmp (x := (e_int t1)) rfl) (.nil)) (RetOK.one1 (.pure rfl) (by decide) rfl rfl rfl rfl rfl) rfl rfl)
  ·intro N2 hN2
   refine LWP.seq_k fun N3 hN3 => ?_
   refine LWP.region (l := [_]) ?_
   refine LWo.assign (e_int (0 : Int)) rfl (hn := ?_)
   refine LWo.nil (hN3 _ ?_)
   refine LWP.block ?_
   refine LWP.loopM (α := Int × Int × (List (List S_impl_Value))) (fun z : Int × Int × (List (List S_impl_Value)) => [(0, (.own 0 0 (z.2.2).length)), (1, (e_int z.1)), (5, (e_int z.2.1))]) (fun z : Int × Int × (List (List S_impl_Value)) => [(0, (dob 1 e_Limpl_Value z.2.2))]) (fun n1 (z : Int × Int × (List (List S_impl_Value))) => m_laws_markValueSS_l1  n1 z.1 z.2.1 z.2.2) r _ (a1, (0 : Int), o0) h (fun _ => rfl) (fun _ => by simp [hkeys]) ⟨rfl, rfl, rfl, trivial⟩ ⟨rfl, trivial⟩ ?_
   rintro n1 ⟨t1, t5, o0⟩ h N4 hN4
   replace h : m_laws_markValueSS_l1  (n1 + 1) t1 t5 o0 = some _ := h
   refine LWP.seq_k fun N6 hN6 => ?_
   refine LWP.seq_k fun N7 hN7 => ?_
   refine LWP.region (l := [_,_,_,_]) ?_
   refine LWo.move (e_int t5) rfl (hn := ?_)
   refine LWo.move (.own 0 0 (o0).length) rfl (hn := ?_)
   refine LWo.lenO u_LLimpl_Value rfl (hn := ?_)
   refine LWo.int _ rfl rfl rfl (hn := ?_)
   refine LWo.nil (hN7 _ ?_)
   refine LWP.cond_split rfl (fun h8 => ?_) (fun h8 => ?_)
   ·have h := bT h8 h
    refine LWP.skip (hN6 _ ?_)
    refine LWP.seq_k fun N9 hN9 => ?_
    refine LWP.block ?_
    refine LWP.region (l := [_,_,_,_,_,_,_]) ?_
    refine LWo.move (.own 0 0 (o0).length) rfl (hn := ?_)
    refine LWo.move (e_int t5) rfl (hn := ?_)
    refine bk h fun x10 e10 h => ?_
    refine LWo.indexD e10 rfl u_LLimpl_Value s_Limpl_Value rfl rfl rfl (hn := ?_)
    refine bk h fun x11 e11 h => ?_
    refine LWo.takeF (f := e_Limpl_Value) (g := e_impl_Value) (ys := x11) 1015 (.own 1015 0 x11.length) e11 g_Limpl_Value rfl rfl rfl rfl (fun _ => rfl) rfl rfl (hn := ?_)
    refine LWo.move (e_int t1) rfl (hn := ?_)
    refine bk h fun x12 e12 h => ?_
    refine bk h fun u13 e13 h => ?_
    refine lk h fun y14 e14 h => ?_
    refine LWo.ucallM (e := e_impl_Value) rfl rfl (k_laws_markValueS _ _ _ e12 1015) rfl rfl (some 17) rfl (hn := ?_)
    refine LWo.foldF (o := 0) (k2 := 1015) (f := e_Limpl_Value) (g := e_impl_Value) (l := o0) (i := t5) (ys := x12.2) (yo := (.own 1015 0 x11.length)) 0 y14 e11 rfl rfl (lenQ_some e13).1.symm rfl (by rw [e14]; rfl) (fun _ => rfl) (fun _ => rfl) rfl ?_
    refine LWo.assign (e_int x12.1) rfl (hn := ?_)
    refine LWo.nil (hN9 _ ?_)
    refine LWP.region (l := [_,_,_]) ?_
    refine LWo.move (e_int t5) rfl (hn := ?_)
    refine bk h fun x15 e15 h => ?_
    refine LWo.int _ rfl rfl (add_ck e15) (hn := ?_)
    refine LWo.assign (e_int x15) rfl (hn := ?_)
    refine LWo.nil (hN4 (x12.1, x15, (o0.set (t5).toNat y14)) _ ⟨(congrArg (LV.own 0 0) List.length_set.symm), rfl, rfl, trivial⟩ ⟨rfl, trivial⟩ h)
   ·have h := bF h8 h
    refine LWP.exit (hN2 (t1, o0) _ ⟨rfl, trivial⟩ ⟨rfl, trivial⟩ h)
theorem k_laws_markValueSS (o0 : (List (List S_impl_Value))) (a1 : Int) (r : (Int × (List (List S_impl_Value)))) (h : m_laws_markValueSS o0 a1 = some r) (k : Nat) : Does Try.prog f_laws_markValueSS [.own k 0 o0.length, e_int a1] [(k, (dob 1 e_Limpl_Value o0))] (fun x hh => x = e_int r.1 ∧ hh = [(k, (dob 1 e_Limpl_Value r.2))]) :=
  Does.nameOD (c_laws_markValueSS o0 a1 r h) (fun _ => rfl) k

def m_laws_markTallyS_j1 (t1 : Int) (o0 : (List S_impl_Tally)) : Option (Int × (List S_impl_Tally)) :=
  some (t1, o0)
def m_laws_markTallyS_l1 : Nat → Int → Int → (List S_impl_Tally) → Option (Int × (List S_impl_Tally))
  | 0, _, _, _ => none
  | n1 + 1, t1, t5, o0 =>
    bif decide (t5 < (o0.length : Int)) then ((at? o0 t5).bind fun x11 =>
    (at? o0 t5).bind fun x12 =>
    (m_laws_markValueS x12.Key t1).bind fun x13 =>
    (lenQ x13.2.length x12.Key.length ()).bind fun u14 =>
    lt ({ x12 with Key := x13.2 }) fun y15 =>
    (at? (o0.set (t5).toNat y15) t5).bind fun x17 =>
    (at? (o0.set (t5).toNat y15) t5).bind fun x18 =>
    (ckI (x13.1 + (1 : Int))).bind fun x20 =>
    (at? ((o0.set (t5).toNat y15).set (t5).toNat ({ x18 with Rows := x13.1 })) t5).bind fun x22 =>
    (at? ((o0.set (t5).toNat y15).set (t5).toNat ({ x18 with Rows := x13.1 })) t5).bind fun x23 =>
    (ckI (x20 + (1 : Int))).bind fun x25 =>
    (at? (((o0.set (t5).toNat y15).set (t5).toNat ({ x18 with Rows := x13.1 })).set (t5).toNat ({ x23 with Many := x20 })) t5).bind fun x27 =>
    (at? (((o0.set (t5).toNat y15).set (t5).toNat ({ x18 with Rows := x13.1 })).set (t5).toNat ({ x23 with Many := x20 })) t5).bind fun x28 =>
    (ckI (x25 + (1 : Int))).bind fun x29 =>
    (ckI (t5 + (1 : Int))).bind fun x30 =>
    (m_laws_markTallyS_l1  n1) x29 x30 ((((o0.set (t5).toNat y15).set (t5).toNat ({ x18 with Rows := x13.1 })).set (t5).toNat ({ x23 with Many := x20 })).set (t5).toNat ({ x28 with Sum := x25 })))
    else (m_laws_markTallyS_j1  t1 o0)
def m_laws_markTallyS (o0 : (List S_impl_Tally)) (a1 : Int) : Option (Int × (List S_impl_Tally)) :=
  m_laws_markTallyS_l1  (((o0.length : Int) - (0 : Int)).toNat + 1) a1 (0 : Int) o0
theorem c_laws_markTallyS (o0 : (List S_impl_Tally)) (a1 : Int) (r : (Int × (List S_impl_Tally))) (h : m_laws_markTallyS o0 a1 = some r) : Does Try.prog f_laws_markTallyS [.own 0 0 o0.length, e_int a1] [(0, (dob 4 e_impl_Tally o0))] (fun x hh => x = e_int r.1 ∧ hh = [(0, (dob 4 e_impl_Tally r.2))]) := by
  refine Does.goG [0] F_laws_markTallyS rfl e_laws_markTallyS n_laws_markTallyS rfl (rvs := [.tmp 4]) rfl rfl ?_
  intro w0 ok0 lent ρ0
  refine LWP.seq_k fun N1 hN1 => ?_
  refine LWP.region (l := [_]) ?_
  refine LWo.assign (e_int (0 : Int)) rfl (hn := ?_)
  refine LWo.nil (hN1 _ ?_)
  refine LWP.join (α := Int × (List S_impl_Tally)) (fun z : Int × (List S_impl_Tally) => [(1, (e_int z.1))]) (fun z : Int × (List S_impl_Tally) => [(0, (dob 4 e_impl_Tally z.2))]) (fun z : Int × (List S_impl_Tally) => m_laws_markTallyS_j1  z.1 z.2) r (fun _ => by simp [hkeys]) ?_ ?_
  ·rintro ⟨t1, o0⟩ h
   replace h : m_laws_markTallyS_j1  t1 o0 = some _ := h
   refine LWP.seq_k fun N31 hN31 => ?_
   refine LWP.region (l := [_,_]) ?_
   refine LWo.move (e_int t1) rfl (hn := ?_)
   refine LWo.assign (e_int t1) rfl (hn := ?_)
   refine LWo.nil (hN31 _ ?_)
   obtain rfl := Option.some.inj h
   refine LWP.ret (QG.mk (.inr rfl) (.cons (.tmp (x := (e_int t1)) rfl) (.nil)) (RetOK.one1 (.pure rfl) (by decide) rfl rfl rfl rfl rfl) rfl rfl)
  ·intro N2 hN2
   refine LWP.seq_k fun N3 hN3 => ?_
   refine LWP.region (l := [_]) ?_
   refine LWo.assign (e_int (0 : Int)) rfl (hn := ?_)
   refine LWo.nil (hN3 _ ?_)
   refine LWP.block ?_
   refine LWP.loopM (α := Int × Int × (List S_impl_Tally)) (fun z : Int × Int × (List S_impl_Tally) => [(0, (.own 0 0 (z.2.2).length)), (1, (e_int z.1)), (5, (e_int z.2.1))]) (fun z : Int × Int × (List S_impl_Tally) => [(0, (dob 4 e_impl_Tally z.2.2))]) (fun n1 (z : Int × Int × (List S_impl_Tally)) => m_laws_markTallyS_l1  n1 z.1 z.2.1 z.2.2) r _ (a1, (0 : Int), o0) h (fun _ => rfl) (fun _ => by simp [hkeys]) ⟨rfl, rfl, rfl, trivial⟩ ⟨rfl, trivial⟩ ?_
   rintro n1 ⟨t1, t5, o0⟩ h N4 hN4
   replace h : m_laws_markTallyS_l1  (n1 + 1) t1 t5 o0 = some _ := h
   refine LWP.seq_k fun N6 hN6 => ?_
   refine LWP.seq_k fun N7 hN7 => ?_
   refine LWP.region (l := [_,_,_,_]) ?_
   refine LWo.move (e_int t5) rfl (hn := ?_)
   refine LWo.move (.own 0 0 (o0).length) rfl (hn := ?_)
   refine LWo.lenO u_Limpl_Tally rfl (hn := ?_)
   refine LWo.int _ rfl rfl rfl (hn := ?_)
   refine LWo.nil (hN7 _ ?_)
   refine LWP.cond_split rfl (fun h8 => ?_) (fun h8 => ?_)
   ·have h := bT h8 h
    refine LWP.skip (hN6 _ ?_)
    refine LWP.seq_k fun N9 hN9 => ?_
    refine LWP.block ?_
    refine LWP.seq_k fun N10 hN10 => ?_
    refine LWP.region (l := [_,_,_,_,_,_,_,_]) ?_
    refine LWo.move (.own 0 0 (o0).length) rfl (hn := ?_)
    refine LWo.move (e_int t5) rfl (hn := ?_)
    refine bk h fun x11 e11 h => ?_
    refine LWo.indexD e11 rfl u_Limpl_Tally s_impl_Tally rfl rfl rfl (hn := ?_)
    refine LWo.fieldPtr u_impl_Tally rfl s_Limpl_Value rfl rfl (hn := ?_)
    refine bk h fun x12 e12 h => ?_
    refine LWo.takeF (f := e_impl_Tally) (g := e_impl_Value) (ys := x12.Key) 1016 (.agg (setRange (e_impl_Tally x12).cells 0 [.own 1016 0 x12.Key.length])) e12 g_Limpl_Value rfl rfl rfl rfl (fun _ => rfl) rfl rfl (hn := ?_)
    refine LWo.move (e_int t1) rfl (hn := ?_)
    refine bk h fun x13 e13 h => ?_
    refine bk h fun u14 e14 h => ?_
    refine lk h fun y15 e15 h => ?_
    refine LWo.ucallM (e := e_impl_Value) rfl rfl (k_laws_markValueS _ _ _ e13 1016) rfl rfl (some 18) rfl (hn := ?_)
    refine LWo.foldF (o := 0) (k2 := 1016) (f := e_impl_Tally) (g := e_impl_Value) (l := o0) (i := t5) (ys := x13.2) (yo := (.agg (setRange (e_impl_Tally x12).cells 0 [.own 1016 0 x12.Key.length]))) 0 y15 e12 rfl rfl (lenQ_some e14).1.symm rfl (by rw [e15]; rfl) (fun _ => rfl) (fun _ => rfl) rfl ?_
    refine LWo.assign (e_int x13.1) rfl (hn := ?_)
    refine LWo.nil (hN10 _ ?_)
    refine LWP.seq_k fun N16 hN16 => ?_
    refine LWP.region (l := [_,_,_,_,_,_]) ?_
    refine LWo.move (.own 0 0 (o0).length) rfl (hn := ?_)
    refine LWo.move (e_int t5) rfl (hn := ?_)
    refine LWo.move (e_int x13.1) rfl (hn := ?_)
    refine bk h fun x17 e17 h => ?_
    refine LWo.indexD e17 List.length_set.symm u_Limpl_Tally s_impl_Tally rfl rfl rfl (hn := ?_)
    refine LWo.fieldPtr u_impl_Tally rfl s_int rfl rfl (hn := ?_)
    refine bk h fun x18 e18 h => ?_
    refine LWo.storeDM (ks := []) (f := e_impl_Tally) ({ x18 with Rows := x13.1 } : S_impl_Tally) e18 s_int rfl rfl rfl rfl (.cons (.imm _) .nil) (by decide) rfl rfl rfl (hn := ?_)
    refine LWo.nil (hN16 _ ?_)
    refine LWP.seq_k fun N19 hN19 => ?_
    refine LWP.region (l := [_,_,_]) ?_
    refine LWo.move (e_int x13.1) rfl (hn := ?_)
    refine bk h fun x20 e20 h => ?_
    refine LWo.int _ rfl rfl (add_ck e20) (hn := ?_)
    refine LWo.assign (e_int x20) rfl (hn := ?_)
    refine LWo.nil (hN19 _ ?_)
    refine LWP.seq_k fun N21 hN21 => ?_
    refine LWP.region (l := [_,_,_,_,_,_]) ?_
    refine LWo.move (.own 0 0 (o0).length) rfl (hn := ?_)
    refine LWo.move (e_int t5) rfl (hn := ?_)
    refine LWo.move (e_int x20) rfl (hn := ?_)
    refine bk h fun x22 e22 h => ?_
    refine LWo.indexD e22 (List.length_set.symm.trans List.length_set.symm) u_Limpl_Tally s_impl_Tally rfl rfl rfl (hn := ?_)
    refine LWo.fieldPtr u_impl_Tally rfl s_int rfl rfl (hn := ?_)
    refine bk h fun x23 e23 h => ?_
    refine LWo.storeDM (ks := []) (f := e_impl_Tally) ({ x23 with Many := x20 } : S_impl_Tally) e23 s_int rfl rfl rfl rfl (.cons (.imm _) .nil) (by decide) rfl rfl rfl (hn := ?_)
    refine LWo.nil (hN21 _ ?_)
    refine LWP.seq_k fun N24 hN24 => ?_
    refine LWP.region (l := [_,_,_]) ?_
    refine LWo.move (e_int x20) rfl (hn := ?_)
    refine bk h fun x25 e25 h => ?_
    refine LWo.int _ rfl rfl (add_ck e25) (hn := ?_)
    refine LWo.assign (e_int x25) rfl (hn := ?_)
    refine LWo.nil (hN24 _ ?_)
    refine LWP.seq_k fun N26 hN26 => ?_
    refine LWP.region (l := [_,_,_,_,_,_]) ?_
    refine LWo.move (.own 0 0 (o0).length) rfl (hn := ?_)
    refine LWo.move (e_int t5) rfl (hn := ?_)
    refine LWo.move (e_int x25) rfl (hn := ?_)
    refine bk h fun x27 e27 h => ?_
    refine LWo.indexD e27 ((List.length_set.symm.trans List.length_set.symm).trans List.length_set.symm) u_Limpl_Tally s_impl_Tally rfl rfl rfl (hn := ?_)
    refine LWo.fieldPtr u_impl_Tally rfl s_int rfl rfl (hn := ?_)
    refine bk h fun x28 e28 h => ?_
    refine LWo.storeDM (ks := []) (f := e_impl_Tally) ({ x28 with Sum := x25 } : S_impl_Tally) e28 s_int rfl rfl rfl rfl (.cons (.imm _) .nil) (by decide) rfl rfl rfl (hn := ?_)
    refine LWo.nil (hN26 _ ?_)
    refine LWP.region (l := [_,_,_]) ?_
    refine LWo.move (e_int x25) rfl (hn := ?_)
    refine bk h fun x29 e29 h => ?_
    refine LWo.int _ rfl rfl (add_ck e29) (hn := ?_)
    refine LWo.assign (e_int x29) rfl (hn := ?_)
    refine LWo.nil (hN9 _ ?_)
    refine LWP.region (l := [_,_,_]) ?_
    refine LWo.move (e_int t5) rfl (hn := ?_)
    refine bk h fun x30 e30 h => ?_
    refine LWo.int _ rfl rfl (add_ck e30) (hn := ?_)
    refine LWo.assign (e_int x30) rfl (hn := ?_)
    refine LWo.nil (hN4 (x29, x30, ((((o0.set (t5).toNat y15).set (t5).toNat ({ x18 with Rows := x13.1 })).set (t5).toNat ({ x23 with Many := x20 })).set (t5).toNat ({ x28 with Sum := x25 }))) _ ⟨(congrArg (LV.own 0 0) (((List.length_set.symm.trans List.length_set.symm).trans List.length_set.symm).trans List.length_set.symm)), rfl, rfl, trivial⟩ ⟨rfl, trivial⟩ h)
   ·have h := bF h8 h
    refine LWP.exit (hN2 (t1, o0) _ ⟨rfl, trivial⟩ ⟨rfl, trivial⟩ h)
theorem k_laws_markTallyS (o0 : (List S_impl_Tally)) (a1 : Int) (r : (Int × (List S_impl_Tally))) (h : m_laws_markTallyS o0 a1 = some r) (k : Nat) : Does Try.prog f_laws_markTallyS [.own k 0 o0.length, e_int a1] [(k, (dob 4 e_impl_Tally o0))] (fun x hh => x = e_int r.1 ∧ hh = [(k, (dob 4 e_impl_Tally r.2))]) :=
  Does.nameOD (c_laws_markTallyS o0 a1 r h) (fun _ => rfl) k

def m_laws_heldValueS_j1 (t1 : Int) : Option Int :=
  some t1
def m_laws_heldValueS_l1 : Nat → (List S_impl_Value) → Int → Int → Option Int
  | 0, _, _, _ => none
  | n1 + 1, t0, t1, t5 =>
    bif decide (t5 < (t0.length : Int)) then ((at? t0 t5).bind fun x12 =>
    bif (x12.Kind != t1) then (some (-1 : Int))
    else ((ckI (t1 + (1 : Int))).bind fun x16 =>
    (at? t0 t5).bind fun x19 =>
    bif (x19.N != x16) then (some (-1 : Int))
    else ((ckI (x16 + (1 : Int))).bind fun x23 =>
    (at? t0 t5).bind fun x26 =>
    (m_laws_markText x23).bind fun x27 =>
    bif (!(sEq x26.S x27)) then (some (-1 : Int))
    else ((ckI (x23 + (1 : Int))).bind fun x30 =>
    (ckI (t5 + (1 : Int))).bind fun x31 =>
    (m_laws_heldValueS_l1  n1) t0 x30 x31))))
    else (m_laws_heldValueS_j1  t1)
def m_laws_heldValueS (a0 : (List S_impl_Value)) (a1 : Int) : Option Int :=
  m_laws_heldValueS_l1  (((a0.length : Int) - (0 : Int)).toNat + 1) a0 a1 (0 : Int)
theorem c_laws_heldValueS (a0 : (List S_impl_Value)) (a1 : Int) (r : Int) (h : m_laws_heldValueS a0 a1 = some r) : Ret Try.prog f_laws_heldValueS [e_Limpl_Value a0, e_int a1] (e_int r) := by
  refine Does.goG [] F_laws_heldValueS rfl e_laws_heldValueS n_laws_heldValueS rfl (rvs := [.tmp 4]) rfl rfl ?_
  intro w0 ok0 lent ρ0
  refine LWP.seq_k fun N1 hN1 => ?_
  refine LWP.region (l := [_]) ?_
  refine LWo.assign (e_int (0 : Int)) rfl (hn := ?_)
  refine LWo.nil (hN1 _ ?_)
  refine LWP.join (α := Int) (fun z : Int => [(1, (e_int z))]) (fun z : Int => []) (fun z : Int => m_laws_heldValueS_j1  z) r (fun _ => by simp [hkeys]) ?_ ?_
  ·rintro t1 h
   replace h : m_laws_heldValueS_j1  t1 = some _ := h
   refine LWP.seq_k fun N32 hN32 => ?_
   refine LWP.region (l := [_,_]) ?_
   refine LWo.move (e_int t1) rfl (hn := ?_)
   refine LWo.assign (e_int t1) rfl (hn := ?_)
   refine LWo.nil (hN32 _ ?_)
   obtain rfl := Option.some.inj h
   refine LWP.ret (QG.mk (.inr rfl) (.cons (.tmp (x := (e_int t1)) rfl) (.nil)) (RetOK.one0 (.pure rfl) (by decide)) rfl rfl)
  ·intro N2 hN2
   refine LWP.seq_k fun N3 hN3 => ?_
   refine LWP.region (l := [_]) ?_
   refine LWo.assign (e_int (0 : Int)) rfl (hn := ?_)
   refine LWo.nil (hN3 _ ?_)
   refine LWP.block ?_
   refine LWP.loopM (α := (List S_impl_Value) × Int × Int) (fun z : (List S_impl_Value) × Int × Int => [(0, (e_Limpl_Value z.1)), (1, (e_int z.2.1)), (5, (e_int z.2.2))]) (fun z : (List S_impl_Value) × Int × Int => []) (fun n1 (z : (List S_impl_Value) × Int × Int) => m_laws_heldValueS_l1  n1 z.1 z.2.1 z.2.2) r _ (a0, a1, (0 : Int)) h (fun _ => rfl) (fun _ => by simp [hkeys]) ⟨rfl, rfl, rfl, trivial⟩ trivial ?_
   rintro n1 ⟨t0, t1, t5⟩ h N4 hN4
   replace h : m_laws_heldValueS_l1  (n1 + 1) t0 t1 t5 = some _ := h
   refine LWP.seq_k fun N6 hN6 => ?_
   refine LWP.seq_k fun N7 hN7 => ?_
   refine LWP.region (l := [_,_,_,_]) ?_
   refine LWo.move (e_int t5) rfl (hn := ?_)
   refine LWo.move (e_Limpl_Value t0) rfl (hn := ?_)
   refine LWo.lenM (f := e_impl_Value) (l := t0) u_Limpl_Value rfl (hn := ?_)
   refine LWo.int _ rfl rfl rfl (hn := ?_)
   refine LWo.nil (hN7 _ ?_)
   refine LWP.cond_split rfl (fun h8 => ?_) (fun h8 => ?_)
   ·have h := bT h8 h
    refine LWP.skip (hN6 _ ?_)
    refine LWP.seq_k fun N9 hN9 => ?_
    refine LWP.block ?_
    refine LWP.seq_k fun N10 hN10 => ?_
    refine LWP.seq_k fun N11 hN11 => ?_
    refine LWP.region (l := [_,_,_,_,_,_,_]) ?_
    refine LWo.move (e_Limpl_Value t0) rfl (hn := ?_)
    refine LWo.move (e_int t5) rfl (hn := ?_)
    refine bk h fun x12 e12 h => ?_
    refine LWo.indexM (f := e_impl_Value) e12 u_Limpl_Value s_impl_Value rfl rfl (hn := ?_)
    refine LWo.fieldAddr _ u_impl_Value rfl s_int rfl rfl (hn := ?_)
    refine LWo.load1 (c := (e_int x12.Kind)) g_int rfl (hn := ?_)
    refine LWo.move (e_int t1) rfl (hn := ?_)
    refine LWo.int _ rfl rfl rfl (hn := ?_)
    refine LWo.nil (hN11 _ ?_)
    refine LWP.cond_split rfl (fun h13 => ?_) (fun h13 => ?_)
    ·have h := bT h13 h
     refine LWP.seq_k fun N14 hN14 => ?_
     refine LWP.region (l := [_]) ?_
     refine LWo.assign (e_int (-1 : Int)) rfl (hn := ?_)
     refine LWo.nil (hN14 _ ?_)
     obtain rfl := Option.some.inj h
     refine LWP.ret (QG.mk (.inr rfl) (.cons (.tmp (x := (e_int (-1 : Int))) rfl) (.nil)) (RetOK.one0 (.pure rfl) (by decide)) rfl rfl)
    ·have h := bF h13 h
     refine LWP.skip (hN10 _ ?_)
     refine LWP.seq_k fun N15 hN15 => ?_
     refine LWP.region (l := [_,_,_]) ?_
     refine LWo.move (e_int t1) rfl (hn := ?_)
     refine bk h fun x16 e16 h => ?_
     refine LWo.int _ rfl rfl (add_ck e16) (hn := ?_)
     refine LWo.assign (e_int x16) rfl (hn := ?_)
     refine LWo.nil (hN15 _ ?_)
     refine LWP.seq_k fun N17 hN17 => ?_
     refine LWP.seq_k fun N18 hN18 => ?_
     refine LWP.region (l := [_,_,_,_,_,_,_]) ?_
     refine LWo.move (e_Limpl_Value t0) rfl (hn := ?_)
     refine LWo.move (e_int t5) rfl (hn := ?_)
     refine bk h fun x19 e19 h => ?_
     refine LWo.indexM (f := e_impl_Value) e19 u_Limpl_Value s_impl_Value rfl rfl (hn := ?_)
     refine LWo.fieldAddr _ u_impl_Value rfl s_int rfl rfl (hn := ?_)
     refine LWo.load1 (c := (e_int x19.N)) g_int rfl (hn := ?_)
     refine LWo.move (e_int x16) rfl (hn := ?_)
     refine LWo.int _ rfl rfl rfl (hn := ?_)
     refine LWo.nil (hN18 _ ?_)
     refine LWP.cond_split rfl (fun h20 => ?_) (fun h20 => ?_)
     ·have h := bT h20 h
      refine LWP.seq_k fun N21 hN21 => ?_
      refine LWP.region (l := [_]) ?_
      refine LWo.assign (e_int (-1 : Int)) rfl (hn := ?_)
      refine LWo.nil (hN21 _ ?_)
      obtain rfl := Option.some.inj h
      refine LWP.ret (QG.mk (.inr rfl) (.cons (.tmp (x := (e_int (-1 : Int))) rfl) (.nil)) (RetOK.one0 (.pure rfl) (by decide)) rfl rfl)
     ·have h := bF h20 h
      refine LWP.skip (hN17 _ ?_)
      refine LWP.seq_k fun N22 hN22 => ?_
      refine LWP.region (l := [_,_,_]) ?_
      refine LWo.move (e_int x16) rfl (hn := ?_)
      refine bk h fun x23 e23 h => ?_
      refine LWo.int _ rfl rfl (add_ck e23) (hn := ?_)
      refine LWo.assign (e_int x23) rfl (hn := ?_)
      refine LWo.nil (hN22 _ ?_)
      refine LWP.seq_k fun N24 hN24 => ?_
      refine LWP.seq_k fun N25 hN25 => ?_
      refine bk h fun x26 e26 h => ?_
      refine bk h fun x27 e27 h => ?_
      refine LWP.drawF (l := [_,_,_,_,_,_,_,_]) [] [0, 1, 5] [([0], []), ([5], []), ([30, 31], []), ([32], []), ([33], []), ([1], []), ([35], []), ([34, 36], [])] [0, 1, 5, 37] [] mixed (by kernel_rfl) rfl (by decide) ?_
      refine dq 30 rfl (fun _ g u h => LWo.move (e_Limpl_Value t0) u.1 (hn := .nil (zn g))) ?_
      refine dq 31 rfl (fun _ g u h => LWo.move (e_int t5) u.1 (hn := .nil (zn g))) ?_
      refine dq 32 rfl (fun _ g u h => LWo.indexM (f := e_impl_Value) e26 u_Limpl_Value s_impl_Value u.1 u.2.1 (hn := .nil (zn g))) ?_
      refine dq 33 rfl (fun _ g u h => LWo.fieldAddr _ u_impl_Value rfl s_string u.1 rfl (hn := .nil (zn g))) ?_
      refine dq 34 rfl (fun _ g u h => LWo.load1 (c := (e_string x26.S)) g_string u.1 (hn := .nil (zn g))) ?_
      refine dq 35 rfl (fun _ g u h => LWo.move (e_int x23) u.1 (hn := .nil (zn g))) ?_
      refine dq 36 rfl (fun _ g u h => LWo.vcall rfl (av1 u.1) (c_laws_markText _ _ e27) (.same (.nil)) (hn := .nil (zn g))) ?_
      refine dq 37 rfl (fun _ g u h => LWo.str _ u.1 u.2.1 rfl (hn := .nil (zn g))) ?_
      refine ⟨rfl, by kernel_rfl, hN25 _ ?_⟩
      refine LWP.cond_split rfl (fun h28 => ?_) (fun h28 => ?_)
      ·have h := bT h28 h
       refine LWP.seq_k fun N29 hN29 => ?_
       refine LWP.region (l := [_]) ?_
       refine LWo.assign (e_int (-1 : Int)) rfl (hn := ?_)
       refine LWo.nil (hN29 _ ?_)
       obtain rfl := Option.some.inj h
       refine LWP.ret (QG.mk (.inr rfl) (.cons (.tmp (x := (e_int (-1 : Int))) rfl) (.nil)) (RetOK.one0 (.pure rfl) (by decide)) rfl rfl)
      ·have h := bF h28 h
       refine LWP.skip (hN24 _ ?_)
       refine LWP.region (l := [_,_,_]) ?_
       refine LWo.move (e_int x23) rfl (hn := ?_)
       refine bk h fun x30 e30 h => ?_
       refine LWo.int _ rfl rfl (add_ck e30) (hn := ?_)
       refine LWo.assign (e_int x30) rfl (hn := ?_)
       refine LWo.nil (hN9 _ ?_)
       refine LWP.region (l := [_,_,_]) ?_
       refine LWo.move (e_int t5) rfl (hn := ?_)
       refine bk h fun x31 e31 h => ?_
       refine LWo.int _ rfl rfl (add_ck e31) (hn := ?_)
       refine LWo.assign (e_int x31) rfl (hn := ?_)
       refine LWo.nil (hN4 (t0, x30, x31) _ ⟨rfl, rfl, rfl, trivial⟩ trivial h)
   ·have h := bF h8 h
    refine LWP.exit (hN2 t1 _ ⟨rfl, trivial⟩ trivial h)

def m_laws_heldTallyS_j1 (t1 : Int) : Option Int :=
  some t1
def m_laws_heldTallyS_l1 : Nat → (List S_impl_Tally) → Int → Int → Option Int
  | 0, _, _, _ => none
  | n1 + 1, t0, t1, t5 =>
    bif decide (t5 < (t0.length : Int)) then ((at? t0 t5).bind fun x11 =>
    (m_laws_heldValueS x11.Key t1).bind fun x12 =>
    bif decide (x12 < (0 : Int)) then (some (-1 : Int))
    else ((at? t0 t5).bind fun x19 =>
    bif (x19.Rows != x12) then (some (-1 : Int))
    else ((ckI (x12 + (1 : Int))).bind fun x23 =>
    (at? t0 t5).bind fun x26 =>
    bif (x26.Many != x23) then (some (-1 : Int))
    else ((ckI (x23 + (1 : Int))).bind fun x30 =>
    (at? t0 t5).bind fun x33 =>
    bif (x33.Sum != x30) then (some (-1 : Int))
    else ((ckI (x30 + (1 : Int))).bind fun x36 =>
    (ckI (t5 + (1 : Int))).bind fun x37 =>
    (m_laws_heldTallyS_l1  n1) t0 x36 x37)))))
    else (m_laws_heldTallyS_j1  t1)
def m_laws_heldTallyS (a0 : (List S_impl_Tally)) (a1 : Int) : Option Int :=
  m_laws_heldTallyS_l1  (((a0.length : Int) - (0 : Int)).toNat + 1) a0 a1 (0 : Int)
theorem c_laws_heldTallyS (a0 : (List S_impl_Tally)) (a1 : Int) (r : Int) (h : m_laws_heldTallyS a0 a1 = some r) : Ret Try.prog f_laws_heldTallyS [e_Limpl_Tally a0, e_int a1] (e_int r) := by
  refine Does.goG [] F_laws_heldTallyS rfl e_laws_heldTallyS n_laws_heldTallyS rfl (rvs := [.tmp 4]) rfl rfl ?_
  intro w0 ok0 lent ρ0
  refine LWP.seq_k fun N1 hN1 => ?_
  refine LWP.region (l := [_]) ?_
  refine LWo.assign (e_int (0 : Int)) rfl (hn := ?_)
  refine LWo.nil (hN1 _ ?_)
  refine LWP.join (α := Int) (fun z : Int => [(1, (e_int z))]) (fun z : Int => []) (fun z : Int => m_laws_heldTallyS_j1  z) r (fun _ => by simp [hkeys]) ?_ ?_
  ·rintro t1 h
   replace h : m_laws_heldTallyS_j1  t1 = some _ := h
   refine LWP.seq_k fun N38 hN38 => ?_
   refine LWP.region (l := [_,_]) ?_
   refine LWo.move (e_int t1) rfl (hn := ?_)
   refine LWo.assign (e_int t1) rfl (hn := ?_)
   refine LWo.nil (hN38 _ ?_)
   obtain rfl := Option.some.inj h
   refine LWP.ret (QG.mk (.inr rfl) (.cons (.tmp (x := (e_int t1)) rfl) (.nil)) (RetOK.one0 (.pure rfl) (by decide)) rfl rfl)
  ·intro N2 hN2
   refine LWP.seq_k fun N3 hN3 => ?_
   refine LWP.region (l := [_]) ?_
   refine LWo.assign (e_int (0 : Int)) rfl (hn := ?_)
   refine LWo.nil (hN3 _ ?_)
   refine LWP.block ?_
   refine LWP.loopM (α := (List S_impl_Tally) × Int × Int) (fun z : (List S_impl_Tally) × Int × Int => [(0, (e_Limpl_Tally z.1)), (1, (e_int z.2.1)), (5, (e_int z.2.2))]) (fun z : (List S_impl_Tally) × Int × Int => []) (fun n1 (z : (List S_impl_Tally) × Int × Int) => m_laws_heldTallyS_l1  n1 z.1 z.2.1 z.2.2) r _ (a0, a1, (0 : Int)) h (fun _ => rfl) (fun _ => by simp [hkeys]) ⟨rfl, rfl, rfl, trivial⟩ trivial ?_
   rintro n1 ⟨t0, t1, t5⟩ h N4 hN4
   replace h : m_laws_heldTallyS_l1  (n1 + 1) t0 t1 t5 = some _ := h
   refine LWP.seq_k fun N6 hN6 => ?_
   refine LWP.seq_k fun N7 hN7 => ?_
   refine LWP.region (l := [_,_,_,_]) ?_
   refine LWo.move (e_int t5) rfl (hn := ?_)
   refine LWo.move (e_Limpl_Tally t0) rfl (hn := ?_)
   refine LWo.lenM (f := e_impl_Tally) (l := t0) u_Limpl_Tally rfl (hn := ?_)
   refine LWo.int _ rfl rfl rfl (hn := ?_)
   refine LWo.nil (hN7 _ ?_)
   refine LWP.cond_split rfl (fun h8 => ?_) (fun h8 => ?_)
   ·have h := bT h8 h
    refine LWP.skip (hN6 _ ?_)
    refine LWP.seq_k fun N9 hN9 => ?_
    refine LWP.block ?_
    refine LWP.seq_k fun N10 hN10 => ?_
    refine LWP.region (l := [_,_,_,_,_,_,_,_]) ?_
    refine LWo.move (e_Limpl_Tally t0) rfl (hn := ?_)
    refine LWo.move (e_int t5) rfl (hn := ?_)
    refine bk h fun x11 e11 h => ?_
    refine LWo.indexM (f := e_impl_Tally) e11 u_Limpl_Tally s_impl_Tally rfl rfl (hn := ?_)
    refine LWo.fieldAddr _ u_impl_Tally rfl s_Limpl_Value rfl rfl (hn := ?_)
    refine LWo.load1 (c := (e_Limpl_Value x11.Key)) g_Limpl_Value rfl (hn := ?_)
    refine LWo.move (e_int t1) rfl (hn := ?_)
    refine bk h fun x12 e12 h => ?_
    refine LWo.vcall rfl rfl (c_laws_heldValueS _ _ _ e12) (.same (.same (.nil))) (hn := ?_)
    refine LWo.assign (e_int x12) rfl (hn := ?_)
    refine LWo.nil (hN10 _ ?_)
    refine LWP.seq_k fun N13 hN13 => ?_
    refine LWP.seq_k fun N14 hN14 => ?_
    refine LWP.region (l := [_,_]) ?_
    refine LWo.move (e_int x12) rfl (hn := ?_)
    refine LWo.int _ rfl rfl rfl (hn := ?_)
    refine LWo.nil (hN14 _ ?_)
    refine LWP.cond_split rfl (fun h15 => ?_) (fun h15 => ?_)
    ·have h := bT h15 h
     refine LWP.seq_k fun N16 hN16 => ?_
     refine LWP.region (l := [_]) ?_
     refine LWo.assign (e_int (-1 : Int)) rfl (hn := ?_)
     refine LWo.nil (hN16 _ ?_)
     obtain rfl := Option.some.inj h
     refine LWP.ret (QG.mk (.inr rfl) (.cons (.tmp (x := (e_int (-1 : Int))) rfl) (.nil)) (RetOK.one0 (.pure rfl) (by decide)) rfl rfl)
    ·have h := bF h15 h
     refine LWP.skip (hN13 _ ?_)
     refine LWP.seq_k fun N17 hN17 => ?_
     refine LWP.seq_k fun N18 hN18 => ?_
     refine LWP.region (l := [_,_,_,_,_,_,_]) ?_
     refine LWo.move (e_Limpl_Tally t0) rfl (hn := ?_)
     refine LWo.move (e_int t5) rfl (hn := ?_)
     refine bk h fun x19 e19 h => ?_
     refine LWo.indexM (f := e_impl_Tally) e19 u_Limpl_Tally s_impl_Tally rfl rfl (hn := ?_)
     refine LWo.fieldAddr _ u_impl_Tally rfl s_int rfl rfl (hn := ?_)
     refine LWo.load1 (c := (e_int x19.Rows)) g_int rfl (hn := ?_)
     refine LWo.move (e_int x12) rfl (hn := ?_)
     refine LWo.int _ rfl rfl rfl (hn := ?_)
     refine LWo.nil (hN18 _ ?_)
     refine LWP.cond_split rfl (fun h20 => ?_) (fun h20 => ?_)
     ·have h := bT h20 h
      refine LWP.seq_k fun N21 hN21 => ?_
      refine LWP.region (l := [_]) ?_
      refine LWo.assign (e_int (-1 : Int)) rfl (hn := ?_)
      refine LWo.nil (hN21 _ ?_)
      obtain rfl := Option.some.inj h
      refine LWP.ret (QG.mk (.inr rfl) (.cons (.tmp (x := (e_int (-1 : Int))) rfl) (.nil)) (RetOK.one0 (.pure rfl) (by decide)) rfl rfl)
     ·have h := bF h20 h
      refine LWP.skip (hN17 _ ?_)
      refine LWP.seq_k fun N22 hN22 => ?_
      refine LWP.region (l := [_,_,_]) ?_
      refine LWo.move (e_int x12) rfl (hn := ?_)
      refine bk h fun x23 e23 h => ?_
      refine LWo.int _ rfl rfl (add_ck e23) (hn := ?_)
      refine LWo.assign (e_int x23) rfl (hn := ?_)
      refine LWo.nil (hN22 _ ?_)
      refine LWP.seq_k fun N24 hN24 => ?_
      refine LWP.seq_k fun N25 hN25 => ?_
      refine LWP.region (l := [_,_,_,_,_,_,_]) ?_
      refine LWo.move (e_Limpl_Tally t0) rfl (hn := ?_)
      refine LWo.move (e_int t5) rfl (hn := ?_)
      refine bk h fun x26 e26 h => ?_
      refine LWo.indexM (f := e_impl_Tally) e26 u_Limpl_Tally s_impl_Tally rfl rfl (hn := ?_)
      refine LWo.fieldAddr _ u_impl_Tally rfl s_int rfl rfl (hn := ?_)
      refine LWo.load1 (c := (e_int x26.Many)) g_int rfl (hn := ?_)
      refine LWo.move (e_int x23) rfl (hn := ?_)
      refine LWo.int _ rfl rfl rfl (hn := ?_)
      refine LWo.nil (hN25 _ ?_)
      refine LWP.cond_split rfl (fun h27 => ?_) (fun h27 => ?_)
      ·have h := bT h27 h
       refine LWP.seq_k fun N28 hN28 => ?_
       refine LWP.region (l := [_]) ?_
       refine LWo.assign (e_int (-1 : Int)) rfl (hn := ?_)
       refine LWo.nil (hN28 _ ?_)
       obtain rfl := Option.some.inj h
       refine LWP.ret (QG.mk (.inr rfl) (.cons (.tmp (x := (e_int (-1 : Int))) rfl) (.nil)) (RetOK.one0 (.pure rfl) (by decide)) rfl rfl)
      ·have h := bF h27 h
       refine LWP.skip (hN24 _ ?_)
       refine LWP.seq_k fun N29 hN29 => ?_
       refine LWP.region (l := [_,_,_]) ?_
       refine LWo.move (e_int x23) rfl (hn := ?_)
       refine bk h fun x30 e30 h => ?_
       refine LWo.int _ rfl rfl (add_ck e30) (hn := ?_)
       refine LWo.assign (e_int x30) rfl (hn := ?_)
       refine LWo.nil (hN29 _ ?_)
       refine LWP.seq_k fun N31 hN31 => ?_
       refine LWP.seq_k fun N32 hN32 => ?_
       refine LWP.region (l := [_,_,_,_,_,_,_]) ?_
       refine LWo.move (e_Limpl_Tally t0) rfl (hn := ?_)
       refine LWo.move (e_int t5) rfl (hn := ?_)
       refine bk h fun x33 e33 h => ?_
       refine LWo.indexM (f := e_impl_Tally) e33 u_Limpl_Tally s_impl_Tally rfl rfl (hn := ?_)
       refine LWo.fieldAddr _ u_impl_Tally rfl s_int rfl rfl (hn := ?_)
       refine LWo.load1 (c := (e_int x33.Sum)) g_int rfl (hn := ?_)
       refine LWo.move (e_int x30) rfl (hn := ?_)
       refine LWo.int _ rfl rfl rfl (hn := ?_)
       refine LWo.nil (hN32 _ ?_)
       refine LWP.cond_split rfl (fun h34 => ?_) (fun h34 => ?_)
       ·have h := bT h34 h
        refine LWP.seq_k fun N35 hN35 => ?_
        refine LWP.region (l := [_]) ?_
        refine LWo.assign (e_int (-1 : Int)) rfl (hn := ?_)
        refine LWo.nil (hN35 _ ?_)
        obtain rfl := Option.some.inj h
        refine LWP.ret (QG.mk (.inr rfl) (.cons (.tmp (x := (e_int (-1 : Int))) rfl) (.nil)) (RetOK.one0 (.pure rfl) (by decide)) rfl rfl)
       ·have h := bF h34 h
        refine LWP.skip (hN31 _ ?_)
        refine LWP.region (l := [_,_,_]) ?_
        refine LWo.move (e_int x30) rfl (hn := ?_)
        refine bk h fun x36 e36 h => ?_
        refine LWo.int _ rfl rfl (add_ck e36) (hn := ?_)
        refine LWo.assign (e_int x36) rfl (hn := ?_)
        refine LWo.nil (hN9 _ ?_)
        refine LWP.region (l := [_,_,_]) ?_
        refine LWo.move (e_int t5) rfl (hn := ?_)
        refine bk h fun x37 e37 h => ?_
        refine LWo.int _ rfl rfl (add_ck e37) (hn := ?_)
        refine LWo.assign (e_int x37) rfl (hn := ?_)
        refine LWo.nil (hN4 (t0, x36, x37) _ ⟨rfl, rfl, rfl, trivial⟩ trivial h)
   ·have h := bF h8 h
    refine LWP.exit (hN2 t1 _ ⟨rfl, trivial⟩ trivial h)

def m_laws_FnExactTalliesOf_j1 (t0 : (List (List S_laws_Value))) (t4 : (List S_impl_Tally)) (t42 : Bool) (o1022 : (List S_impl_Tally)) : Option Bool :=
  bif t42 then (some false)
  else ((m_laws_markTallyS o1022 (1 : Int)).bind fun x39 =>
  (lenQ x39.2.length o1022.length ()).bind fun u40 =>
  (m_laws_heldTallyS x39.2 (1 : Int)).bind fun x43 =>
  bif decide (x43 < (0 : Int)) then (some false)
  else (bif (x43 != x39.1) then (some false)
  else ((m_laws_toValueSS t0).bind fun x53 =>
  (m_impl_TalliesOf x53).bind fun x54 =>
  (m_laws_eqTallyS x54 t4).bind fun x57 =>
  bif (!x57) then (some false)
  else ((m_laws_heldTallyS x39.2 (1 : Int)).bind fun x62 =>
  bif decide (x62 < (0 : Int)) then (some false)
  else (bif (x62 != x39.1) then (some false)
  else (some true))))))
def m_laws_FnExactTalliesOf (a0 : (List (List S_laws_Value))) : Option Bool :=
  (m_laws_szValueSS a0 (1048576 : Int)).bind fun x4 =>
  bif decide (x4 < (0 : Int)) then (some true)
  else ((m_laws_toValueSS a0).bind fun x10 =>
  (m_spec_TalliesOf x10).bind fun x11 =>
  (m_laws_toValueSS a0).bind fun x13 =>
  (m_impl_TalliesOf x13).bind fun x15 =>
  (m_laws_eqTallyS x15 x11).bind fun x18 =>
  bif (!x18) then (some false)
  else ((m_laws_toValueSS a0).bind fun x23 =>
  (m_laws_eqValueSS x13 x23).bind fun x24 =>
  bif (!x24) then (some false)
  else ((m_laws_markValueSS x13 (1 : Int)).bind fun x29 =>
  (lenQ x29.2.length x13.length ()).bind fun u30 =>
  bif decide (x29.1 < (0 : Int)) then (m_laws_FnExactTalliesOf_j1  a0 x11 true x15)
  else ((m_laws_eqTallyS x15 x11).bind fun x34 =>
    m_laws_FnExactTalliesOf_j1  a0 x11 (!x34) x15))))
theorem c_laws_FnExactTalliesOf (a0 : (List (List S_laws_Value))) (r : Bool) (h : m_laws_FnExactTalliesOf a0 = some r) : Ret Try.prog f_laws_FnExactTalliesOf [e_LLlaws_Value a0] (e_bool r) := by
  refine Does.goG [] F_laws_FnExactTalliesOf rfl e_laws_FnExactTalliesOf n_laws_FnExactTalliesOf rfl (rvs := [.tmp 2]) rfl rfl ?_
  intro w0 ok0 lent ρ0
  refine LWP.seq_k fun N1 hN1 => ?_
  refine LWP.region (l := [_]) ?_
  refine LWo.assign (e_bool false) rfl (hn := ?_)
  refine LWo.nil (hN1 _ ?_)
  refine LWP.seq_k fun N2 hN2 => ?_
  refine LWP.region (l := [_]) ?_
  refine LWo.assign (e_int (1048576 : Int)) rfl (hn := ?_)
  refine LWo.nil (hN2 _ ?_)
  refine LWP.seq_k fun N3 hN3 => ?_
  refine LWP.region (l := [_,_,_,_]) ?_
  refine LWo.move (e_LLlaws_Value a0) rfl (hn := ?_)
  refine LWo.move (e_int (1048576 : Int)) rfl (hn := ?_)
  refine bk h fun x4 e4 h => ?_
  refine LWo.vcall rfl rfl (c_laws_szValueSS _ _ _ e4) (.same (.same (.nil))) (hn := ?_)
  refine LWo.assign (e_int x4) rfl (hn := ?_)
  refine LWo.nil (hN3 _ ?_)
  refine LWP.seq_k fun N5 hN5 => ?_
  refine LWP.seq_k fun N6 hN6 => ?_
  refine LWP.region (l := [_,_]) ?_
  refine LWo.move (e_int x4) rfl (hn := ?_)
  refine LWo.int _ rfl rfl rfl (hn := ?_)
  refine LWo.nil (hN6 _ ?_)
  refine LWP.cond_split rfl (fun h7 => ?_) (fun h7 => ?_)
  ·have h := bT h7 h
   refine LWP.seq_k fun N8 hN8 => ?_
   refine LWP.region (l := [_]) ?_
   refine LWo.assign (e_bool true) rfl (hn := ?_)
   refine LWo.nil (hN8 _ ?_)
   obtain rfl := Option.some.inj h
   refine LWP.ret (QG.mk (.inr rfl) (.cons (.tmp (x := (e_bool true)) rfl) (.nil)) (RetOK.one0 (.pure rfl) (by decide)) rfl rfl)
  ·have h := bF h7 h
   refine LWP.skip (hN5 _ ?_)
   refine LWP.seq_k fun N9 hN9 => ?_
   refine LWP.region (l := [_,_,_,_]) ?_
   refine LWo.move (e_LLlaws_Value a0) rfl (hn := ?_)
   refine bk h fun x10 e10 h => ?_
   refine LWo.vcall rfl rfl (c_laws_toValueSS _ _ e10) (.same (.nil)) (hn := ?_)
   refine bk h fun x11 e11 h => ?_
   refine LWo.vcall rfl rfl (c_spec_TalliesOf _ _ e11) (.same (.nil)) (hn := ?_)
   refine LWo.assign (e_Limpl_Tally x11) rfl (hn := ?_)
   refine LWo.nil (hN9 _ ?_)
   refine LWP.seq_k fun N12 hN12 => ?_
   refine LWP.region (l := [_,_,_]) ?_
   refine LWo.move (e_LLlaws_Value a0) rfl (hn := ?_)
   refine bk h fun x13 e13 h => ?_
   refine LWo.ncallD (e := e_Limpl_Value) 1020 rfl rfl (c_laws_toValueSS _ _ e13) (.same (.nil)) rfl (hn := ?_)
   refine LWo.assign (.own 1020 0 (x13).length) rfl (hn := ?_)
   refine LWo.nil (hN12 _ ?_)
   refine LWP.seq_k fun N14 hN14 => ?_
   refine LWP.region (l := [_,_,_]) ?_
   refine LWo.move (.own 1020 0 (x13).length) rfl (hn := ?_)
   refine bk h fun x15 e15 h => ?_
   refine LWo.ncallD (e := e_impl_Tally) 1022 rfl rfl (c_impl_TalliesOf _ _ e15) (.viewD rfl rfl rfl (.nil)) rfl (hn := ?_)
   refine LWo.assign (.own 1022 0 (x15).length) rfl (hn := ?_)
   refine LWo.nil (hN14 _ ?_)
   refine LWP.seq_k fun N16 hN16 => ?_
   refine LWP.seq_k fun N17 hN17 => ?_
   refine LWP.region (l := [_,_,_,_]) ?_
   refine LWo.move (.own 1022 0 (x15).length) rfl (hn := ?_)
   refine LWo.move (e_Limpl_Tally x11) rfl (hn := ?_)
   refine bk h fun x18 e18 h => ?_
   refine LWo.wcall rfl rfl (c_laws_eqTallyS _ _ _ e18) (.viewD rfl rfl rfl (.same (.nil))) rfl (hn := ?_)
   refine LWo.not rfl (hn := ?_)
   refine LWo.nil (hN17 _ ?_)
   refine LWP.cond_split rfl (fun h19 => ?_) (fun h19 => ?_)
   ·have h := bT h19 h
    refine LWP.seq_k fun N20 hN20 => ?_
    refine LWP.region (l := [_]) ?_
    refine LWo.assign (e_bool false) rfl (hn := ?_)
    refine LWo.nil (hN20 _ ?_)
    obtain rfl := Option.some.inj h
    refine LWP.ret (QG.mk (.inr rfl) (.cons (.tmp (x := (e_bool false)) rfl) (.nil)) (RetOK.one0 (.pure rfl) (by decide)) rfl rfl)
   ·have h := bF h19 h
    refine LWP.skip (hN16 _ ?_)
    refine LWP.seq_k fun N21 hN21 => ?_
    refine LWP.seq_k fun N22 hN22 => ?_
    refine LWP.region (l := [_,_,_,_,_]) ?_
    refine LWo.move (.own 1020 0 (x13).length) rfl (hn := ?_)
    refine LWo.move (e_LLlaws_Value a0) rfl (hn := ?_)
    refine bk h fun x23 e23 h => ?_
    refine LWo.vcall rfl rfl (c_laws_toValueSS _ _ e23) (.same (.nil)) (hn := ?_)
    refine bk h fun x24 e24 h => ?_
    refine LWo.wcall rfl rfl (c_laws_eqValueSS _ _ _ e24) (.viewD rfl rfl rfl (.same (.nil))) rfl (hn := ?_)
    refine LWo.not rfl (hn := ?_)
    refine LWo.nil (hN22 _ ?_)
    refine LWP.cond_split rfl (fun h25 => ?_) (fun h25 => ?_)
    ·have h := bT h25 h
     refine LWP.seq_k fun N26 hN26 => ?_
     refine LWP.region (l := [_]) ?_
     refine LWo.assign (e_bool false) rfl (hn := ?_)
     refine LWo.nil (hN26 _ ?_)
     obtain rfl := Option.some.inj h
     refine LWP.ret (QG.mk (.inr rfl) (.cons (.tmp (x := (e_bool false)) rfl) (.nil)) (RetOK.one0 (.pure rfl) (by decide)) rfl rfl)
    ·have h := bF h25 h
     refine LWP.skip (hN21 _ ?_)
     refine LWP.seq_k fun N27 hN27 => ?_
     refine LWP.region (l := [_]) ?_
     refine LWo.assign (e_int (1 : Int)) rfl (hn := ?_)
     refine LWo.nil (hN27 _ ?_)
     refine LWP.seq_k fun N28 hN28 => ?_
     refine LWP.region (l := [_,_,_,_]) ?_
     refine LWo.move (.own 1020 0 (x13).length) rfl (hn := ?_)
     refine LWo.move (e_int (1 : Int)) rfl (hn := ?_)
     refine bk h fun x29 e29 h => ?_
     refine bk h fun u30 e30 h => ?_
     refine LWo.ucallD (e := e_Limpl_Value) rfl rfl (k_laws_markValueSS _ _ _ e29 1020) rfl rfl (some 34) rfl (hn := ?_)
     refine LWo.assign (e_int x29.1) rfl (hn := ?_)
     refine LWo.nil (hN28 _ ?_)
     refine LWP.seq_k fun N31 hN31 => ?_
     refine LWP.join (α := (List (List S_laws_Value)) × (List S_impl_Tally) × Bool × (List S_impl_Tally)) (fun z : (List (List S_laws_Value)) × (List S_impl_Tally) × Bool × (List S_impl_Tally) => [(0, (e_LLlaws_Value z.1)), (4, (e_Limpl_Tally z.2.1)), (6, (.own 1022 0 (z.2.2.2).length)), (42, (e_bool z.2.2.1))]) (fun z : (List (List S_laws_Value)) × (List S_impl_Tally) × Bool × (List S_impl_Tally) => [(1022, (dob 4 e_impl_Tally z.2.2.2))]) (fun z : (List (List S_laws_Value)) × (List S_impl_Tally) × Bool × (List S_impl_Tally) => m_laws_FnExactTalliesOf_j1  z.1 z.2.1 z.2.2.1 z.2.2.2) r (fun _ => by simp [hkeys]) ?_ ?_
     ·rintro ⟨t0, t4, t42, o1022⟩ h
      replace h : m_laws_FnExactTalliesOf_j1  t0 t4 t42 o1022 = some _ := h
      refine LWP.cond_split rfl (fun h35 => ?_) (fun h35 => ?_)
      ·have h := bT h35 h
       refine LWP.seq_k fun N36 hN36 => ?_
       refine LWP.region (l := [_]) ?_
       refine LWo.assign (e_bool false) rfl (hn := ?_)
       refine LWo.nil (hN36 _ ?_)
       obtain rfl := Option.some.inj h
       refine LWP.ret (QG.mk (.inr rfl) (.cons (.tmp (x := (e_bool false)) rfl) (.nil)) (RetOK.one0 (.pure rfl) (by decide)) rfl rfl)
      ·have h := bF h35 h
       refine LWP.skip (hN31 _ ?_)
       refine LWP.seq_k fun N37 hN37 => ?_
       refine LWP.region (l := [_]) ?_
       refine LWo.assign (e_int (1 : Int)) rfl (hn := ?_)
       refine LWo.nil (hN37 _ ?_)
       refine LWP.seq_k fun N38 hN38 => ?_
       refine LWP.region (l := [_,_,_,_]) ?_
       refine LWo.move (.own 1022 0 (o1022).length) rfl (hn := ?_)
       refine LWo.move (e_int (1 : Int)) rfl (hn := ?_)
       refine bk h fun x39 e39 h => ?_
       refine bk h fun u40 e40 h => ?_
       refine LWo.ucallD (e := e_impl_Tally) rfl rfl (k_laws_markTallyS _ _ _ e39 1022) rfl rfl (some 45) rfl (hn := ?_)
       refine LWo.assign (e_int x39.1) rfl (hn := ?_)
       refine LWo.nil (hN38 _ ?_)
       refine LWP.seq_k fun N41 hN41 => ?_
       refine LWP.region (l := [_]) ?_
       refine LWo.assign (e_int (1 : Int)) rfl (hn := ?_)
       refine LWo.nil (hN41 _ ?_)
       refine LWP.seq_k fun N42 hN42 => ?_
       refine LWP.region (l := [_,_,_,_]) ?_
       refine LWo.move (.own 1022 0 (o1022).length) rfl (hn := ?_)
       refine LWo.move (e_int (1 : Int)) rfl (hn := ?_)
       refine bk h fun x43 e43 h => ?_
       refine LWo.wcall rfl rfl (c_laws_heldTallyS _ _ _ e43) (.viewD rfl ((lenQ_some e40).1.symm) rfl (.same (.nil))) rfl (hn := ?_)
       refine LWo.assign (e_int x43) rfl (hn := ?_)
       refine LWo.nil (hN42 _ ?_)
       refine LWP.seq_k fun N44 hN44 => ?_
       refine LWP.seq_k fun N45 hN45 => ?_
       refine LWP.region (l := [_,_]) ?_
       refine LWo.move (e_int x43) rfl (hn := ?_)
       refine LWo.int _ rfl rfl rfl (hn := ?_)
       refine LWo.nil (hN45 _ ?_)
       refine LWP.cond_split rfl (fun h46 => ?_) (fun h46 => ?_)
       ·have h := bT h46 h
        refine LWP.seq_k fun N47 hN47 => ?_
        refine LWP.region (l := [_]) ?_
        refine LWo.assign (e_bool false) rfl (hn := ?_)
        refine LWo.nil (hN47 _ ?_)
        obtain rfl := Option.some.inj h
        refine LWP.ret (QG.mk (.inr rfl) (.cons (.tmp (x := (e_bool false)) rfl) (.nil)) (RetOK.one0 (.pure rfl) (by decide)) rfl rfl)
       ·have h := bF h46 h
        refine LWP.skip (hN44 _ ?_)
        refine LWP.seq_k fun N48 hN48 => ?_
        refine LWP.seq_k fun N49 hN49 => ?_
        refine LWP.region (l := [_,_,_]) ?_
        refine LWo.move (e_int x43) rfl (hn := ?_)
        refine LWo.move (e_int x39.1) rfl (hn := ?_)
        refine LWo.int _ rfl rfl rfl (hn := ?_)
        refine LWo.nil (hN49 _ ?_)
        refine LWP.cond_split rfl (fun h50 => ?_) (fun h50 => ?_)
        ·have h := bT h50 h
         refine LWP.seq_k fun N51 hN51 => ?_
         refine LWP.region (l := [_]) ?_
         refine LWo.assign (e_bool false) rfl (hn := ?_)
         refine LWo.nil (hN51 _ ?_)
         obtain rfl := Option.some.inj h
         refine LWP.ret (QG.mk (.inr rfl) (.cons (.tmp (x := (e_bool false)) rfl) (.nil)) (RetOK.one0 (.pure rfl) (by decide)) rfl rfl)
        ·have h := bF h50 h
         refine LWP.skip (hN48 _ ?_)
         refine LWP.seq_k fun N52 hN52 => ?_
         refine LWP.region (l := [_,_,_,_]) ?_
         refine LWo.move (e_LLlaws_Value t0) rfl (hn := ?_)
         refine bk h fun x53 e53 h => ?_
         refine LWo.vcall rfl rfl (c_laws_toValueSS _ _ e53) (.same (.nil)) (hn := ?_)
         refine bk h fun x54 e54 h => ?_
         refine LWo.vcall rfl rfl (c_impl_TalliesOf _ _ e54) (.same (.nil)) (hn := ?_)
         refine LWo.assign (e_Limpl_Tally x54) rfl (hn := ?_)
         refine LWo.nil (hN52 _ ?_)
         refine LWP.seq_k fun N55 hN55 => ?_
         refine LWP.seq_k fun N56 hN56 => ?_
         refine LWP.region (l := [_,_,_,_]) ?_
         refine LWo.move (e_Limpl_Tally x54) rfl (hn := ?_)
         refine LWo.move (e_Limpl_Tally t4) rfl (hn := ?_)
         refine bk h fun x57 e57 h => ?_
         refine LWo.vcall rfl rfl (c_laws_eqTallyS _ _ _ e57) (.same (.same (.nil))) (hn := ?_)
         refine LWo.not rfl (hn := ?_)
         refine LWo.nil (hN56 _ ?_)
         refine LWP.cond_split rfl (fun h58 => ?_) (fun h58 => ?_)
         ·have h := bT h58 h
          refine LWP.seq_k fun N59 hN59 => ?_
          refine LWP.region (l := [_]) ?_
          refine LWo.assign (e_bool false) rfl (hn := ?_)
          refine LWo.nil (hN59 _ ?_)
          obtain rfl := Option.some.inj h
          refine LWP.ret (QG.mk (.inr rfl) (.cons (.tmp (x := (e_bool false)) rfl) (.nil)) (RetOK.one0 (.pure rfl) (by decide)) rfl rfl)
         ·have h := bF h58 h
          refine LWP.skip (hN55 _ ?_)
          refine LWP.seq_k fun N60 hN60 => ?_
          refine LWP.region (l := [_]) ?_
          refine LWo.assign (e_int (1 : Int)) rfl (hn := ?_)
          refine LWo.nil (hN60 _ ?_)
          refine LWP.seq_k fun N61 hN61 => ?_
          refine LWP.region (l := [_,_,_,_]) ?_
          refine LWo.move (.own 1022 0 (o1022).length) rfl (hn := ?_)
          refine LWo.move (e_int (1 : Int)) rfl (hn := ?_)
          refine bk h fun x62 e62 h => ?_
          refine LWo.wcall rfl rfl (c_laws_heldTallyS _ _ _ e62) (.viewD rfl ((lenQ_some e40).1.symm) rfl (.same (.nil))) rfl (hn := ?_)
          refine LWo.assign (e_int x62) rfl (hn := ?_)
          refine LWo.nil (hN61 _ ?_)
          refine LWP.seq_k fun N63 hN63 => ?_
          refine LWP.seq_k fun N64 hN64 => ?_
          refine LWP.region (l := [_,_]) ?_
          refine LWo.move (e_int x62) rfl (hn := ?_)
          refine LWo.int _ rfl rfl rfl (hn := ?_)
          refine LWo.nil (hN64 _ ?_)
          refine LWP.cond_split rfl (fun h65 => ?_) (fun h65 => ?_)
          ·have h := bT h65 h
           refine LWP.seq_k fun N66 hN66 => ?_
           refine LWP.region (l := [_]) ?_
           refine LWo.assign (e_bool false) rfl (hn := ?_)
           refine LWo.nil (hN66 _ ?_)
           obtain rfl := Option.some.inj h
           refine LWP.ret (QG.mk (.inr rfl) (.cons (.tmp (x := (e_bool false)) rfl) (.nil)) (RetOK.one0 (.pure rfl) (by decide)) rfl rfl)
          ·have h := bF h65 h
           refine LWP.skip (hN63 _ ?_)
           refine LWP.seq_k fun N67 hN67 => ?_
           refine LWP.seq_k fun N68 hN68 => ?_
           refine LWP.region (l := [_,_,_]) ?_
           refine LWo.move (e_int x62) rfl (hn := ?_)
           refine LWo.move (e_int x39.1) rfl (hn := ?_)
           refine LWo.int _ rfl rfl rfl (hn := ?_)
           refine LWo.nil (hN68 _ ?_)
           refine LWP.cond_split rfl (fun h69 => ?_) (fun h69 => ?_)
           ·have h := bT h69 h
            refine LWP.seq_k fun N70 hN70 => ?_
            refine LWP.region (l := [_]) ?_
            refine LWo.assign (e_bool false) rfl (hn := ?_)
            refine LWo.nil (hN70 _ ?_)
            obtain rfl := Option.some.inj h
            refine LWP.ret (QG.mk (.inr rfl) (.cons (.tmp (x := (e_bool false)) rfl) (.nil)) (RetOK.one0 (.pure rfl) (by decide)) rfl rfl)
           ·have h := bF h69 h
            refine LWP.skip (hN67 _ ?_)
            refine LWP.seq_k fun N71 hN71 => ?_
            refine LWP.region (l := [_]) ?_
            refine LWo.assign (e_bool true) rfl (hn := ?_)
            refine LWo.nil (hN71 _ ?_)
            obtain rfl := Option.some.inj h
            refine LWP.ret (QG.mk (.inr rfl) (.cons (.tmp (x := (e_bool true)) rfl) (.nil)) (RetOK.one0 (.pure rfl) (by decide)) rfl rfl)
     ·intro N32 hN32
      refine LWP.region (l := [_,_,_,_,_,_,_,_]) ?_
      refine LWo.move (e_int x29.1) rfl (hn := ?_)
      refine LWo.int _ rfl rfl rfl (hn := ?_)
      refine LWo.move (e_bool (decide (x29.1 < (0 : Int)))) rfl (hn := ?_)
      refine LWo.byCases (t := 37) _ rfl (fun h33 => ?_) (fun h33 => ?_)
      ·have h := bT h33 h
       refine LWo.guardNU (t := 37) rfl h33 rfl rfl rfl rfl rfl ?_
       refine LWo.guardNU (t := 37) rfl h33 rfl rfl rfl rfl rfl ?_
       refine LWo.guardNU (t := 37) rfl h33 rfl rfl rfl rfl rfl ?_
       refine LWo.guardNU (t := 37) rfl h33 rfl rfl rfl rfl rfl ?_
       refine LWo.pickTM (e_bool true) rfl h33 rfl (hn := ?_)
       refine LWo.nil (hN32 (a0, x11, true, x15) _ ⟨rfl, rfl, rfl, rfl, trivial⟩ ⟨rfl, trivial⟩ h)
      ·have h := bF h33 h
       refine LWo.guardY (t := 37) rfl h33 rfl rfl ?_
       refine LWo.move (.own 1022 0 (x15).length) rfl (hn := ?_)
       refine LWo.guardY (t := 37) rfl h33 rfl rfl ?_
       refine LWo.move (e_Limpl_Tally x11) rfl (hn := ?_)
       refine bk h fun x34 e34 h => ?_
       refine LWo.guardY (t := 37) rfl h33 rfl rfl ?_
       refine LWo.wcall rfl rfl (c_laws_eqTallyS _ _ _ e34) (.viewD rfl rfl rfl (.same (.nil))) rfl (hn := ?_)
       refine LWo.guardY (t := 37) rfl h33 rfl rfl ?_
       refine LWo.not rfl (hn := ?_)
       refine LWo.pickFM (e_bool (!x34)) rfl h33 rfl (hn := ?_)
       refine LWo.nil (hN32 (a0, x11, (!x34), x15) _ ⟨rfl, rfl, rfl, rfl, trivial⟩ ⟨rfl, trivial⟩ h)
end Go.Proofs.Ytkgmomocjkmipaa
