/- Mirrors of functions, and that the functions return what the mirrors say. -/
import Derived.Test.YtogiaehagciojaaXW1
set_option linter.unusedVariables false
set_option linter.unusedSimpArgs false
set_option linter.unnecessarySimpa false
namespace Go.Proofs.Ytogiaehagciojaa
open Go.Proofs Go.Lift Go.RowKit
def m_spec_DeltaRows_j5 (o1012 : (List (List S_impl_Value))) : Option ((List (List S_impl_Value)) × Bool) :=
  (m_spec_RowsSorted o1012).bind fun x64 =>
  some (x64, true)
def m_spec_DeltaRows_j4 (k2 : (List S_impl_Delta) → Int → (List (List S_impl_Value)) → Option ((List (List S_impl_Value)) × Bool)) (t1 : (List S_impl_Delta)) (t8 : Int) (o1012 : (List (List S_impl_Value))) : Option ((List (List S_impl_Value)) × Bool) :=
  (ckI (t8 + (1 : Int))).bind fun x62 =>
  k2 t1 x62 o1012
def m_spec_DeltaRows_l4 (k2 : (List S_impl_Delta) → Int → (List (List S_impl_Value)) → Option ((List (List S_impl_Value)) × Bool)) : Nat → (List S_impl_Delta) → Int → Int → S_impl_Delta → (List (List S_impl_Value)) → Option ((List (List S_impl_Value)) × Bool)
  | 0, _, _, _, _, _ => none
  | n4 + 1, t1, t8, t11, o9, o1012 =>
    bif decide (t11 < (0 : Int)) then ((m_spec_RowsLess o1012 ([o9.Row] : (List (List S_impl_Value)))).bind fun x60 =>
    (ckI (t11 + (1 : Int))).bind fun x61 =>
    (m_spec_DeltaRows_l4  k2 n4) t1 t8 x61 o9 x60)
    else (m_spec_DeltaRows_j4  k2 t1 t8 o1012)
def m_spec_DeltaRows_j3 (k2 : (List S_impl_Delta) → Int → (List (List S_impl_Value)) → Option ((List (List S_impl_Value)) × Bool)) (t1 : (List S_impl_Delta)) (t8 : Int) (o9 : S_impl_Delta) (o1012 : (List (List S_impl_Value))) : Option ((List (List S_impl_Value)) × Bool) :=
  m_spec_DeltaRows_l4  k2 (((0 : Int) - o9.Many).toNat + 1) t1 t8 o9.Many o9 o1012
def m_spec_DeltaRows_l3 (k2 : (List S_impl_Delta) → Int → (List (List S_impl_Value)) → Option ((List (List S_impl_Value)) × Bool)) : Nat → (List S_impl_Delta) → Int → Int → S_impl_Delta → (List (List S_impl_Value)) → Option ((List (List S_impl_Value)) × Bool)
  | 0, _, _, _, _, _ => none
  | n3 + 1, t1, t8, t10, o9, o1012 =>
    bif decide (t10 > (0 : Int)) then ((m_spec_l3Own o9.Row).bind fun x50 =>
    (app? o1012 ([x50] : (List (List S_impl_Value)))).bind fun x51 =>
    (ckI (t10 - (1 : Int))).bind fun x52 =>
    (m_spec_DeltaRows_l3  k2 n3) t1 t8 x52 o9 x51)
    else (m_spec_DeltaRows_j3  k2 t1 t8 o9 o1012)
def m_spec_DeltaRows_j2 (k2 : (List S_impl_Delta) → Int → (List (List S_impl_Value)) → Option ((List (List S_impl_Value)) × Bool)) (t1 : (List S_impl_Delta)) (t8 : Int) (t63 : Bool) (o9 : S_impl_Delta) (o1012 : (List (List S_impl_Value))) : Option ((List (List S_impl_Value)) × Bool) :=
  bif t63 then (some (([] : (List (List S_impl_Value))), false))
  else (m_spec_DeltaRows_l3  k2 ((o9.Many - (0 : Int)).toNat + 1) t1 t8 o9.Many o9 o1012)
def m_spec_DeltaRows_l2 : Nat → (List S_impl_Delta) → Int → (List (List S_impl_Value)) → Option ((List (List S_impl_Value)) × Bool)
  | 0, _, _, _ => none
  | n2 + 1, t1, t8, o1012 =>
    bif decide (t8 < (t1.length : Int)) then ((at? t1 t8).bind fun x30 =>
    lt (x30) fun y31 =>
    (m_spec_RowOk y31.Row).bind fun x34 =>
    bif (!x34) then (m_spec_DeltaRows_j2  (m_spec_DeltaRows_l2  n2) t1 t8 true y31 o1012)
    else ((m_spec_l1In y31.Many (-100 : Int) (100 : Int)).bind fun x36 =>
      bif (!x36) then (m_spec_DeltaRows_j2  (m_spec_DeltaRows_l2  n2) t1 t8 true y31 o1012)
      else ((m_spec_RowMany o1012 y31.Row).bind fun x38 =>
        (ckI (x38 + y31.Many)).bind fun x39 =>
        m_spec_DeltaRows_j2  (m_spec_DeltaRows_l2  n2) t1 t8 (decide (x39 < (0 : Int))) y31 o1012)))
    else (m_spec_DeltaRows_j5  o1012)
def m_spec_DeltaRows_j1 (t1 : (List S_impl_Delta)) (o1012 : (List (List S_impl_Value))) : Option ((List (List S_impl_Value)) × Bool) :=
  m_spec_DeltaRows_l2  (((t1.length : Int) - (0 : Int)).toNat + 1) t1 (0 : Int) o1012
def m_spec_DeltaRows_l1 : Nat → (List (List S_impl_Value)) → (List S_impl_Delta) → Int → (List (List S_impl_Value)) → Option ((List (List S_impl_Value)) × Bool)
  | 0, _, _, _, _ => none
  | n1 + 1, t0, t1, t7, o1012 =>
    bif decide (t7 < (t0.length : Int)) then ((at? t0 t7).bind fun x13 =>
    (m_spec_RowOk x13).bind fun x14 =>
    bif (!x14) then (some (([] : (List (List S_impl_Value))), false))
    else ((at? t0 t7).bind fun x17 =>
    (m_spec_l3Own x17).bind fun x18 =>
    (app? o1012 ([x18] : (List (List S_impl_Value)))).bind fun x19 =>
    (ckI (t7 + (1 : Int))).bind fun x20 =>
    (m_spec_DeltaRows_l1  n1) t0 t1 x20 x19))
    else (m_spec_DeltaRows_j1  t1 o1012)
def m_spec_DeltaRows (a0 : (List (List S_impl_Value))) (a1 : (List S_impl_Delta)) : Option ((List (List S_impl_Value)) × Bool) :=
  m_spec_DeltaRows_l1  (((a0.length : Int) - (0 : Int)).toNat + 1) a0 a1 (0 : Int) ([] : (List (List S_impl_Value)))
theorem c_spec_DeltaRows (a0 : (List (List S_impl_Value))) (a1 : (List S_impl_Delta)) (r : ((List (List S_impl_Value)) × Bool)) (h : m_spec_DeltaRows a0 a1 = some r) : Ret Try.prog f_spec_DeltaRows [e_LLimpl_Value a0, e_Limpl_Delta a1] (.tup [.nw 1 (r.1.map e_Limpl_Value) false, e_bool r.2]) := by
  refine Does.goG [] F_spec_DeltaRows rfl e_spec_DeltaRows n_spec_DeltaRows rfl (rvs := [.tmp 4, .tmp 5]) rfl rfl ?_
  intro w0 ok0 lent ρ0
  refine LWP.seq_k fun N1 hN1 => ?_
  refine LWP.region (l := [_,_]) ?_
  refine LWo.assign _ rfl (hn := ?_)
  refine LWo.ownNil 4 1004 1 rfl rfl rfl ?_
  refine LWo.known 4 (.own 1004 0 ([] : (List (List S_impl_Value))).length) rfl ?_
  refine LWo.assign (e_bool false) rfl (hn := ?_)
  refine LWo.nil (hN1 _ ?_)
  refine LWP.seq_k fun N2 hN2 => ?_
  refine LWP.region (l := [_,_]) ?_
  refine LWo.lit0 1012 u_LLimpl_Value s_Limpl_Value z_Limpl_Value (hn := ?_)
  refine LWo.known 12 (.own 1012 0 ([] : (List (List S_impl_Value))).length) rfl ?_
  refine LWo.assign (.own 1012 0 (([] : (List (List S_impl_Value)))).length) rfl (hn := ?_)
  refine LWo.nil (hN2 _ ?_)
  refine LWP.join (α := (List S_impl_Delta) × (List (List S_impl_Value))) (fun z : (List S_impl_Delta) × (List (List S_impl_Value)) => [(1, (e_Limpl_Delta z.1)), (6, (.own 1012 0 (z.2).length))]) (fun z : (List S_impl_Delta) × (List (List S_impl_Value)) => [(1012, (lob 1 e_Limpl_Value z.2))]) (fun z : (List S_impl_Delta) × (List (List S_impl_Value)) => m_spec_DeltaRows_j1  z.1 z.2) r (fun _ => by simp [hkeys]) ?_ ?_
  ·rintro ⟨t1, o1012⟩ h
   replace h : m_spec_DeltaRows_j1  t1 o1012 = some _ := h
   refine LWP.join (α := (List (List S_impl_Value))) (fun z : (List (List S_impl_Value)) => [(6, (.own 1012 0 (z).length))]) (fun z : (List (List S_impl_Value)) => [(1012, (lob 1 e_Limpl_Value z))]) (fun z : (List (List S_impl_Value)) => m_spec_DeltaRows_j5  z) r (fun _ => by simp [hkeys]) ?_ ?_
   ·rintro o1012 h
    replace h : m_spec_DeltaRows_j5  o1012 = some _ := h
    refine LWP.seq_k fun N63 hN63 => ?_
    refine LWP.region (l := [_,_,_,_]) ?_
    refine LWo.move (.own 1012 0 (o1012).length) rfl (hn := ?_)
    refine bk h fun x64 e64 h => ?_
    refine LWo.frzL (f := e_Limpl_Value) (l := o1012) [6, 88] 1012 rfl rfl ⟨rfl, rfl, trivial⟩ ?_
    refine LWo.ncall (e := e_Limpl_Value) 1089 rfl rfl (c_spec_RowsSorted _ _ e64) (.same (.nil)) rfl (hn := ?_)
    refine LWo.assign (.own 1089 0 (x64).length) rfl (hn := ?_)
    refine LWo.assign (e_bool true) rfl (hn := ?_)
    refine LWo.nil (hN63 _ ?_)
    obtain rfl := Option.some.inj h
    refine LWP.ret (QG.mk (.inr rfl) (.cons (.tmp (x := (.own 1089 0 (x64).length)) rfl) (.cons (.tmp (x := (e_bool true)) rfl) (.nil))) (RetOK.many0 (.cons (.nwM rfl rfl) (.cons (.pure rfl) (.nil))) (by simp) (by decide)) rfl rfl)
   ·intro N21 hN21
    refine LWP.seq_k fun N22 hN22 => ?_
    refine LWP.region (l := [_]) ?_
    refine LWo.assign (e_int (0 : Int)) rfl (hn := ?_)
    refine LWo.nil (hN22 _ ?_)
    refine LWP.block ?_
    refine LWP.loopM (α := (List S_impl_Delta) × Int × (List (List S_impl_Value))) (fun z : (List S_impl_Delta) × Int × (List (List S_impl_Value)) => [(1, (e_Limpl_Delta z.1)), (6, (.own 1012 0 (z.2.2).length)), (8, (e_int z.2.1))]) (fun z : (List S_impl_Delta) × Int × (List (List S_impl_Value)) => [(1012, (lob 1 e_Limpl_Value z.2.2))]) (fun n2 (z : (List S_impl_Delta) × Int × (List (List S_impl_Value))) => m_spec_DeltaRows_l2  n2 z.1 z.2.1 z.2.2) r _ (t1, (0 : Int), o1012) h (fun _ => rfl) (fun _ => by simp [hkeys]) ⟨rfl, rfl, rfl, trivial⟩ ⟨rfl, trivial⟩ ?_
    rintro n2 ⟨t1, t8, o1012⟩ h N23 hN23
    replace h : m_spec_DeltaRows_l2  (n2 + 1) t1 t8 o1012 = some _ := h
    refine LWP.seq_k fun N25 hN25 => ?_
    refine LWP.seq_k fun N26 hN26 => ?_
    refine LWP.region (l := [_,_,_,_]) ?_
    refine LWo.move (e_int t8) rfl (hn := ?_)
    refine LWo.move (e_Limpl_Delta t1) rfl (hn := ?_)
    refine LWo.lenM (f := e_impl_Delta) (l := t1) u_Limpl_Delta rfl (hn := ?_)
    refine LWo.int _ rfl rfl rfl (hn := ?_)
    refine LWo.nil (hN26 _ ?_)
    refine LWP.cond_split rfl (fun h27 => ?_) (fun h27 => ?_)
    ·have h := bT h27 h
     refine LWP.skip (hN25 _ ?_)
     refine LWP.join (α := (List S_impl_Delta) × Int × (List (List S_impl_Value))) (fun z : (List S_impl_Delta) × Int × (List (List S_impl_Value)) => [(1, (e_Limpl_Delta z.1)), (6, (.own 1012 0 (z.2.2).length)), (8, (e_int z.2.1))]) (fun z : (List S_impl_Delta) × Int × (List (List S_impl_Value)) => [(1012, (lob 1 e_Limpl_Value z.2.2))]) (fun z : (List S_impl_Delta) × Int × (List (List S_impl_Value)) => m_spec_DeltaRows_j4  (m_spec_DeltaRows_l2  n2) z.1 z.2.1 z.2.2) r (fun _ => by simp [hkeys]) ?_ ?_
     ·rintro ⟨t1, t8, o1012⟩ h
      replace h : m_spec_DeltaRows_j4  (m_spec_DeltaRows_l2  n2) t1 t8 o1012 = some _ := h
      refine LWP.region (l := [_,_,_]) ?_
      refine LWo.move (e_int t8) rfl (hn := ?_)
      refine bk h fun x62 e62 h => ?_
      refine LWo.int _ rfl rfl (add_ck e62) (hn := ?_)
      refine LWo.assign (e_int x62) rfl (hn := ?_)
      refine LWo.nil (hN23 (t1, x62, o1012) _ ⟨rfl, rfl, rfl, trivial⟩ ⟨rfl, trivial⟩ h)
     ·intro N28 hN28
      refine LWP.block ?_
      refine LWP.seq_k fun N29 hN29 => ?_
      refine LWP.region (l := [_,_,_,_,_,_]) ?_
      refine LWo.move (e_Limpl_Delta t1) rfl (hn := ?_)
      refine LWo.move (e_int t8) rfl (hn := ?_)
      refine bk h fun x30 e30 h => ?_
      refine LWo.indexM (f := e_impl_Delta) e30 u_Limpl_Delta s_impl_Delta rfl rfl (hn := ?_)
      refine LWo.loadN ((e_impl_Delta x30)).cells g_impl_Delta s_impl_Delta rfl (Nat.le_of_ble_eq_true rfl) rfl (hn := ?_)
      refine LWo.alloc_impl_Delta 9 rfl (hn := ?_)
      refine lk h fun y31 e31 h => ?_
      refine LWo.storeW (y := (⟨[], (0 : Int)⟩ : S_impl_Delta)) y31 s_impl_Delta rfl rfl rfl rfl rfl rfl (by rw [e31]; exact .refl) rfl (hn := ?_)
      refine LWo.nil (hN29 _ ?_)
      refine LWP.seq_k fun N32 hN32 => ?_
      refine LWP.join (α := (List S_impl_Delta) × Int × Bool × S_impl_Delta × (List (List S_impl_Value))) (fun z : (List S_impl_Delta) × Int × Bool × S_impl_Delta × (List (List S_impl_Value)) => [(1, (e_Limpl_Delta z.1)), (6, (.own 1012 0 (z.2.2.2.2).length)), (8, (e_int z.2.1)), (9, (.ptr 9 0 0)), (63, (e_bool z.2.2.1))]) (fun z : (List S_impl_Delta) × Int × Bool × S_impl_Delta × (List (List S_impl_Value)) => [(9, (vob 2 e_impl_Delta z.2.2.2.1)), (1012, (lob 1 e_Limpl_Value z.2.2.2.2))]) (fun z : (List S_impl_Delta) × Int × Bool × S_impl_Delta × (List (List S_impl_Value)) => m_spec_DeltaRows_j2  (m_spec_DeltaRows_l2  n2) z.1 z.2.1 z.2.2.1 z.2.2.2.1 z.2.2.2.2) r (fun _ => by simp [hkeys]) ?_ ?_
      ·rintro ⟨t1, t8, t63, o9, o1012⟩ h
       replace h : m_spec_DeltaRows_j2  (m_spec_DeltaRows_l2  n2) t1 t8 t63 o9 o1012 = some _ := h
       refine LWP.cond_split rfl (fun h40 => ?_) (fun h40 => ?_)
       ·have h := bT h40 h
        refine LWP.seq_k fun N41 hN41 => ?_
        refine LWP.region (l := [_,_,_]) ?_
        refine LWo.lit0 1064 u_LLimpl_Value s_Limpl_Value z_Limpl_Value (hn := ?_)
        refine LWo.known 64 (.own 1064 0 ([] : (List (List S_impl_Value))).length) rfl ?_
        refine LWo.assign (.own 1064 0 (([] : (List (List S_impl_Value)))).length) rfl (hn := ?_)
        refine LWo.assign (e_bool false) rfl (hn := ?_)
        refine LWo.nil (hN41 _ ?_)
        obtain rfl := Option.some.inj h
        refine LWP.ret (QG.mk (.inr rfl) (.cons (.tmp (x := (.own 1064 0 (([] : (List (List S_impl_Value)))).length)) rfl) (.cons (.tmp (x := (e_bool false)) rfl) (.nil))) (RetOK.many0 (.cons (.nwM rfl rfl) (.cons (.pure rfl) (.nil))) (by simp) (by decide)) rfl rfl)
       ·have h := bF h40 h
        refine LWP.skip (hN32 _ ?_)
        refine LWP.join (α := (List S_impl_Delta) × Int × S_impl_Delta × (List (List S_impl_Value))) (fun z : (List S_impl_Delta) × Int × S_impl_Delta × (List (List S_impl_Value)) => [(1, (e_Limpl_Delta z.1)), (6, (.own 1012 0 (z.2.2.2).length)), (8, (e_int z.2.1)), (9, (.ptr 9 0 0))]) (fun z : (List S_impl_Delta) × Int × S_impl_Delta × (List (List S_impl_Value)) => [(9, (vob 2 e_impl_Delta z.2.2.1)), (1012, (lob 1 e_Limpl_Value z.2.2.2))]) (fun z : (List S_impl_Delta) × Int × S_impl_Delta × (List (List S_impl_Value)) => m_spec_DeltaRows_j3  (m_spec_DeltaRows_l2  n2) z.1 z.2.1 z.2.2.1 z.2.2.2) r (fun _ => by simp [hkeys]) ?_ ?_
        ·rintro ⟨t1, t8, o9, o1012⟩ h
         replace h : m_spec_DeltaRows_j3  (m_spec_DeltaRows_l2  n2) t1 t8 o9 o1012 = some _ := h
         refine LWP.seq_k fun N53 hN53 => ?_
         refine LWP.region (l := [_,_,_]) ?_
         refine LWo.fieldPtr u_impl_Delta rfl s_int rfl rfl (hn := ?_)
         refine LWo.loadV1 (e_int o9.Many)  g_int rfl rfl rfl (hn := ?_)
         refine LWo.assign (e_int o9.Many) rfl (hn := ?_)
         refine LWo.nil (hN53 _ ?_)
         refine LWP.block ?_
         refine LWP.loopM (α := (List S_impl_Delta) × Int × Int × S_impl_Delta × (List (List S_impl_Value))) (fun z : (List S_impl_Delta) × Int × Int × S_impl_Delta × (List (List S_impl_Value)) => [(1, (e_Limpl_Delta z.1)), (6, (.own 1012 0 (z.2.2.2.2).length)), (8, (e_int z.2.1)), (9, (.ptr 9 0 0)), (11, (e_int z.2.2.1))]) (fun z : (List S_impl_Delta) × Int × Int × S_impl_Delta × (List (List S_impl_Value)) => [(9, (vob 2 e_impl_Delta z.2.2.2.1)), (1012, (lob 1 e_Limpl_Value z.2.2.2.2))]) (fun n4 (z : (List S_impl_Delta) × Int × Int × S_impl_Delta × (List (List S_impl_Value))) => m_spec_DeltaRows_l4  (m_spec_DeltaRows_l2  n2) n4 z.1 z.2.1 z.2.2.1 z.2.2.2.1 z.2.2.2.2) r _ (t1, t8, o9.Many, o9, o1012) h (fun _ => rfl) (fun _ => by simp [hkeys]) ⟨rfl, rfl, rfl, rfl, rfl, trivial⟩ ⟨rfl, rfl, trivial⟩ ?_
         rintro n4 ⟨t1, t8, t11, o9, o1012⟩ h N54 hN54
         replace h : m_spec_DeltaRows_l4  (m_spec_DeltaRows_l2  n2) (n4 + 1) t1 t8 t11 o9 o1012 = some _ := h
         refine LWP.seq_k fun N56 hN56 => ?_
         refine LWP.seq_k fun N57 hN57 => ?_
         refine LWP.region (l := [_,_]) ?_
         refine LWo.move (e_int t11) rfl (hn := ?_)
         refine LWo.int _ rfl rfl rfl (hn := ?_)
         refine LWo.nil (hN57 _ ?_)
         refine LWP.cond_split rfl (fun h58 => ?_) (fun h58 => ?_)
         ·have h := bT h58 h
          refine LWP.skip (hN56 _ ?_)
          refine LWP.seq_k fun N59 hN59 => ?_
          refine LWP.block ?_
          refine LWP.region (l := [_,_,_,_,_,_]) ?_
          refine LWo.move (.own 1012 0 (o1012).length) rfl (hn := ?_)
          refine LWo.fieldPtr u_impl_Delta rfl s_Limpl_Value rfl rfl (hn := ?_)
          refine LWo.loadV1 (e_Limpl_Value o9.Row)  g_Limpl_Value rfl rfl rfl (hn := ?_)
          refine LWo.lit (ops := [_]) [(e_Limpl_Value o9.Row)] u_LLimpl_Value s_Limpl_Value z_Limpl_Value rfl rfl rfl rfl rfl rfl (hn := ?_)
          refine bk h fun x60 e60 h => ?_
          refine LWo.frzL (f := e_Limpl_Value) (l := o1012) [6, 83] 1012 rfl rfl ⟨rfl, rfl, trivial⟩ ?_
          refine LWo.ncall (e := e_Limpl_Value) 1087 rfl rfl (c_spec_RowsLess _ _ _ e60) (.same (.same (.nil))) rfl (hn := ?_)
          refine LWo.assign (.own 1087 0 (x60).length) rfl (hn := ?_)
          refine LWo.nil (hN59 _ ?_)
          refine LWP.region (l := [_,_,_]) ?_
          refine LWo.move (e_int t11) rfl (hn := ?_)
          refine bk h fun x61 e61 h => ?_
          refine LWo.int _ rfl rfl (add_ck e61) (hn := ?_)
          refine LWo.assign (e_int x61) rfl (hn := ?_)
          refine LWo.rekey 6 1087 1012 rfl rfl rfl rfl rfl rfl ?_
          refine LWo.nil (hN54 (t1, t8, x61, o9, x60) _ ⟨rfl, rfl, rfl, rfl, rfl, trivial⟩ ⟨rfl, rfl, trivial⟩ h)
         ·have h := bF h58 h
          refine LWP.exit (hN28 (t1, t8, o1012) _ ⟨rfl, rfl, rfl, trivial⟩ ⟨rfl, trivial⟩ h)
        ·intro N42 hN42
         refine LWP.seq_k fun N43 hN43 => ?_
         refine LWP.region (l := [_,_,_]) ?_
         refine LWo.fieldPtr u_impl_Delta rfl s_int rfl rfl (hn := ?_)
         refine LWo.loadV1 (e_int o9.Many)  g_int rfl rfl rfl (hn := ?_)
         refine LWo.assign (e_int o9.Many) rfl (hn := ?_)
         refine LWo.nil (hN43 _ ?_)
         refine LWP.block ?_
         refine LWP.loopM (α := (List S_impl_Delta) × Int × Int × S_impl_Delta × (List (List S_impl_Value))) (fun z : (List S_impl_Delta) × Int × Int × S_impl_Delta × (List (List S_impl_Value)) => [(1, (e_Limpl_Delta z.1)), (6, (.own 1012 0 (z.2.2.2.2).length)), (8, (e_int z.2.1)), (9, (.ptr 9 0 0)), (10, (e_int z.2.2.1))]) (fun z : (List S_impl_Delta) × Int × Int × S_impl_Delta × (List (List S_impl_Value)) => [(9, (vob 2 e_impl_Delta z.2.2.2.1)), (1012, (lob 1 e_Limpl_Value z.2.2.2.2))]) (fun n3 (z : (List S_impl_Delta) × Int × Int × S_impl_Delta × (List (List S_impl_Value))) => m_spec_DeltaRows_l3  (m_spec_DeltaRows_l2  n2) n3 z.1 z.2.1 z.2.2.1 z.2.2.2.1 z.2.2.2.2) r _ (t1, t8, o9.Many, o9, o1012) h (fun _ => rfl) (fun _ => by simp [hkeys]) ⟨rfl, rfl, rfl, rfl, rfl, trivial⟩ ⟨rfl, rfl, trivial⟩ ?_
         rintro n3 ⟨t1, t8, t10, o9, o1012⟩ h N44 hN44
         replace h : m_spec_DeltaRows_l3  (m_spec_DeltaRows_l2  n2) (n3 + 1) t1 t8 t10 o9 o1012 = some _ := h
         refine LWP.seq_k fun N46 hN46 => ?_
         refine LWP.seq_k fun N47 hN47 => ?_
         refine LWP.region (l := [_,_]) ?_
         refine LWo.move (e_int t10) rfl (hn := ?_)
         refine LWo.int _ rfl rfl rfl (hn := ?_)
         refine LWo.nil (hN47 _ ?_)
         refine LWP.cond_split rfl (fun h48 => ?_) (fun h48 => ?_)
         ·have h := bT h48 h
          refine LWP.skip (hN46 _ ?_)
          refine LWP.seq_k fun N49 hN49 => ?_
          refine LWP.block ?_
          refine LWP.region (l := [_,_,_,_,_,_,_]) ?_
          refine LWo.move (.own 1012 0 (o1012).length) rfl (hn := ?_)
          refine LWo.fieldPtr u_impl_Delta rfl s_Limpl_Value rfl rfl (hn := ?_)
          refine LWo.loadV1 (e_Limpl_Value o9.Row)  g_Limpl_Value rfl rfl rfl (hn := ?_)
          refine bk h fun x50 e50 h => ?_
          refine LWo.vcall rfl rfl (c_spec_l3Own _ _ e50) (.same (.nil)) (hn := ?_)
          refine LWo.lit (ops := [_]) [(e_Limpl_Value x50)] u_LLimpl_Value s_Limpl_Value z_Limpl_Value rfl rfl rfl rfl rfl rfl (hn := ?_)
          refine bk h fun x51 e51 h => ?_
          refine LWo.appendM (f := e_Limpl_Value) e51 rfl u_LLimpl_Value u_LLimpl_Value (fun _ h => by cases h) s_Limpl_Value i_Limpl_Value rfl rfl rfl (.sl rfl) rfl rfl (hn := ?_)
          refine LWo.assign (.own 1012 0 (x51).length) rfl (hn := ?_)
          refine LWo.nil (hN49 _ ?_)
          refine LWP.region (l := [_,_,_]) ?_
          refine LWo.move (e_int t10) rfl (hn := ?_)
          refine bk h fun x52 e52 h => ?_
          refine LWo.int _ rfl rfl (sub_ck e52) (hn := ?_)
          refine LWo.assign (e_int x52) rfl (hn := ?_)
          refine LWo.nil (hN44 (t1, t8, x52, o9, x51) _ ⟨rfl, rfl, rfl, rfl, rfl, trivial⟩ ⟨rfl, rfl, trivial⟩ h)
         ·have h := bF h48 h
          refine LWP.exit (hN42 (t1, t8, o9, o1012) _ ⟨rfl, rfl, rfl, rfl, trivial⟩ ⟨rfl, rfl, trivial⟩ h)
      ·intro N33 hN33
       refine bk h fun x34 e34 h => ?_
       refine bS ((!x34)) (fun h35 => ?_) (fun h35 => ?_)
       ·have h := bT h35 h
        refine LWP.drawF (l := [_,_,_,_,_,_,_,_,_,_,_,_,_,_,_,_,_,_,_,_]) [] [1, 6, 8, 9] [([9], []), ([44], [9]), ([45], []), ([46], []), ([47], []), ([9, 48], []), ([48, 49], []), ([48, 50], []), ([48, 51], []), ([48, 52], []), ([53], []), ([6, 54], []), ([9, 54], []), ([54, 56], []), ([54, 55, 57], []), ([9, 54], []), ([54, 59], []), ([54, 58, 60], []), ([54, 61], []), ([54, 62], [])] [1, 6, 8, 9, 63] [9, 1012] mixed (by kernel_rfl) rfl (by decide) ?_
        refine dq 44 rfl (fun _ g u h => LWo.fieldPtr u_impl_Delta rfl s_Limpl_Value u.1 rfl (hn := .nil (zn g))) ?_
        refine dq 45 rfl (fun _ g u h => LWo.loadV1 (e_Limpl_Value y31.Row)  g_Limpl_Value u.1 h.1 rfl (hn := .nil (zn g))) ?_
        refine dq 46 rfl (fun _ g u h => LWo.vcall rfl (av1 u.1) (c_spec_RowOk _ _ e34) (.same (.nil)) (hn := .nil (zn g))) ?_
        refine dq 47 rfl (fun _ g u h => LWo.not u.1 (hn := .nil (zn g))) ?_
        refine dq 48 rfl (fun _ g u h => LWo.move (e_bool (!x34)) u.1 (hn := .nil (zn g))) ?_
        refine dq 49 rfl (fun _ g u h => LWo.guardNU (t := 48) u.2.1 h35 rfl rfl rfl rfl rfl (.nil (zn g))) ?_
        refine dq 50 rfl (fun _ g u h => LWo.guardNU (t := 48) u.1 h35 rfl rfl rfl rfl rfl (.nil (zn g))) ?_
        refine dq 51 rfl (fun _ g u h => LWo.guardNU (t := 48) u.1 h35 rfl rfl rfl rfl rfl (.nil (zn g))) ?_
        refine dq 52 rfl (fun _ g u h => LWo.guardNU (t := 48) u.1 h35 rfl rfl rfl rfl rfl (.nil (zn g))) ?_
        refine dq 53 rfl (fun _ g u h => LWo.pickTM (e_bool true) u.1 h35 rfl (hn := .nil (zn g))) ?_
        refine dq 54 rfl (fun _ g u h => LWo.move (e_bool true) u.1 (hn := .nil (zn g))) ?_
        refine dq 55 rfl (fun _ g u h => LWo.guardNU (t := 54) u.2.1 rfl rfl rfl rfl rfl rfl (.nil (zn g))) ?_
        refine dq 56 rfl (fun _ g u h => LWo.guardNU (t := 54) u.2.1 rfl rfl rfl rfl rfl rfl (.nil (zn g))) ?_
        refine dq 57 rfl (fun _ g u h => LWo.guardNU (t := 54) u.1 rfl rfl rfl rfl rfl rfl (.nil (zn g))) ?_
        refine dq 58 rfl (fun _ g u h => LWo.guardNU (t := 54) u.1 rfl rfl rfl rfl rfl rfl (.nil (zn g))) ?_
        refine dq 59 rfl (fun _ g u h => LWo.guardNU (t := 54) u.2.1 rfl rfl rfl rfl rfl rfl (.nil (zn g))) ?_
        refine dq 60 rfl (fun _ g u h => LWo.guardNU (t := 54) u.1 rfl rfl rfl rfl rfl rfl (.nil (zn g))) ?_
        refine dq 61 rfl (fun _ g u h => LWo.guardNU (t := 54) u.1 rfl rfl rfl rfl rfl rfl (.nil (zn g))) ?_
        refine dq 62 rfl (fun _ g u h => LWo.guardNU (t := 54) u.1 rfl rfl rfl rfl rfl rfl (.nil (zn g))) ?_
        refine dq 63 rfl (fun _ g u h => LWo.pickTM (e_bool true) u.1 rfl rfl (hn := .nil (zn g))) ?_
        refine ⟨rfl, by kernel_rfl, hN33 (t1, t8, true, y31, o1012) _ ⟨rfl, rfl, rfl, rfl, rfl, trivial⟩ ⟨rfl, rfl, trivial⟩ h⟩
       ·have h := bF h35 h
        refine bk h fun x36 e36 h => ?_
        refine bS ((!x36)) (fun h37 => ?_) (fun h37 => ?_)
        ·have h := bT h37 h
         refine LWP.drawF (l := [_,_,_,_,_,_,_,_,_,_,_,_,_,_,_,_,_,_,_,_]) [] [1, 6, 8, 9] [([9], []), ([44], [9]), ([45], []), ([46], []), ([47], []), ([9, 48], []), ([48, 49], [9]), ([48, 50], []), ([48, 51], []), ([48, 52], []), ([53], []), ([6, 54], []), ([9, 54], []), ([54, 56], []), ([54, 55, 57], []), ([9, 54], []), ([54, 59], []), ([54, 58, 60], []), ([54, 61], []), ([54, 62], [])] [1, 6, 8, 9, 63] [9, 1012] mixed (by kernel_rfl) rfl (by decide) ?_
         refine dq 44 rfl (fun _ g u h => LWo.fieldPtr u_impl_Delta rfl s_Limpl_Value u.1 rfl (hn := .nil (zn g))) ?_
         refine dq 45 rfl (fun _ g u h => LWo.loadV1 (e_Limpl_Value y31.Row)  g_Limpl_Value u.1 h.1 rfl (hn := .nil (zn g))) ?_
         refine dq 46 rfl (fun _ g u h => LWo.vcall rfl (av1 u.1) (c_spec_RowOk _ _ e34) (.same (.nil)) (hn := .nil (zn g))) ?_
         refine dq 47 rfl (fun _ g u h => LWo.not u.1 (hn := .nil (zn g))) ?_
         refine dq 48 rfl (fun _ g u h => LWo.move (e_bool (!x34)) u.1 (hn := .nil (zn g))) ?_
         refine dq 49 rfl (fun _ g u h => LWo.guardY (t := 48) u.2.1 h35 rfl rfl (LWo.fieldPtr u_impl_Delta rfl s_int u.1 rfl (hn := .nil (zn g)))) ?_
         refine dq 50 rfl (fun _ g u h => LWo.guardY (t := 48) u.1 h35 rfl rfl (LWo.loadV1 (e_int y31.Many)  g_int u.2.1 h.1 rfl (hn := .nil (zn g)))) ?_
         refine dq 51 rfl (fun _ g u h => LWo.guardY (t := 48) u.1 h35 rfl rfl (LWo.vcall rfl (av3 u.2.1 rfl rfl) (c_spec_l1In _ _ _ _ e36) (.same (.same (.same (.nil)))) (hn := .nil (zn g)))) ?_
         refine dq 52 rfl (fun _ g u h => LWo.guardY (t := 48) u.1 h35 rfl rfl (LWo.not u.2.1 (hn := .nil (zn g)))) ?_
         refine dq 53 rfl (fun _ g u h => LWo.pickFM (e_bool (!x36)) u.1 h35 u.2.1 (hn := .nil (zn g))) ?_
         refine dq 54 rfl (fun _ g u h => LWo.move (e_bool (!x36)) u.1 (hn := .nil (zn g))) ?_
         refine dq 55 rfl (fun _ g u h => LWo.guardNU (t := 54) u.2.1 h37 rfl rfl rfl rfl rfl (.nil (zn g))) ?_
         refine dq 56 rfl (fun _ g u h => LWo.guardNU (t := 54) u.2.1 h37 rfl rfl rfl rfl rfl (.nil (zn g))) ?_
         refine dq 57 rfl (fun _ g u h => LWo.guardNU (t := 54) u.1 h37 rfl rfl rfl rfl rfl (.nil (zn g))) ?_
         refine dq 58 rfl (fun _ g u h => LWo.guardNU (t := 54) u.1 h37 rfl rfl rfl rfl rfl (.nil (zn g))) ?_
         refine dq 59 rfl (fun _ g u h => LWo.guardNU (t := 54) u.2.1 h37 rfl rfl rfl rfl rfl (.nil (zn g))) ?_
         refine dq 60 rfl (fun _ g u h => LWo.guardNU (t := 54) u.1 h37 rfl rfl rfl rfl rfl (.nil (zn g))) ?_
         refine dq 61 rfl (fun _ g u h => LWo.guardNU (t := 54) u.1 h37 rfl rfl rfl rfl rfl (.nil (zn g))) ?_
         refine dq 62 rfl (fun _ g u h => LWo.guardNU (t := 54) u.1 h37 rfl rfl rfl rfl rfl (.nil (zn g))) ?_
         refine dq 63 rfl (fun _ g u h => LWo.pickTM (e_bool true) u.1 h37 rfl (hn := .nil (zn g))) ?_
         refine ⟨rfl, by kernel_rfl, hN33 (t1, t8, true, y31, o1012) _ ⟨rfl, rfl, rfl, rfl, rfl, trivial⟩ ⟨rfl, rfl, trivial⟩ h⟩
        ·have h := bF h37 h
         refine bk h fun x38 e38 h => ?_
         refine bk h fun x39 e39 h => ?_
         refine LWP.drawF (l := [_,_,_,_,_,_,_,_,_,_,_,_,_,_,_,_,_,_,_,_]) [] [1, 6, 8, 9] [([9], []), ([44], [9]), ([45], []), ([46], []), ([47], []), ([9, 48], []), ([48, 49], [9]), ([48, 50], []), ([48, 51], []), ([48, 52], []), ([53], []), ([6, 54], []), ([9, 54], []), ([54, 56], [9]), ([54, 55, 57], [1012]), ([9, 54], []), ([54, 59], [9]), ([54, 58, 60], []), ([54, 61], []), ([54, 62], [])] [1, 6, 8, 9, 63] [9, 1012] mixed (by kernel_rfl) rfl (by decide) ?_
         refine dq 44 rfl (fun _ g u h => LWo.fieldPtr u_impl_Delta rfl s_Limpl_Value u.1 rfl (hn := .nil (zn g))) ?_
         refine dq 45 rfl (fun _ g u h => LWo.loadV1 (e_Limpl_Value y31.Row)  g_Limpl_Value u.1 h.1 rfl (hn := .nil (zn g))) ?_
         refine dq 46 rfl (fun _ g u h => LWo.vcall rfl (av1 u.1) (c_spec_RowOk _ _ e34) (.same (.nil)) (hn := .nil (zn g))) ?_
         refine dq 47 rfl (fun _ g u h => LWo.not u.1 (hn := .nil (zn g))) ?_
         refine dq 48 rfl (fun _ g u h => LWo.move (e_bool (!x34)) u.1 (hn := .nil (zn g))) ?_
         refine dq 49 rfl (fun _ g u h => LWo.guardY (t := 48) u.2.1 h35 rfl rfl (LWo.fieldPtr u_impl_Delta rfl s_int u.1 rfl (hn := .nil (zn g)))) ?_
         refine dq 50 rfl (fun _ g u h => LWo.guardY (t := 48) u.1 h35 rfl rfl (LWo.loadV1 (e_int y31.Many)  g_int u.2.1 h.1 rfl (hn := .nil (zn g)))) ?_
         refine dq 51 rfl (fun _ g u h => LWo.guardY (t := 48) u.1 h35 rfl rfl (LWo.vcall rfl (av3 u.2.1 rfl rfl) (c_spec_l1In _ _ _ _ e36) (.same (.same (.same (.nil)))) (hn := .nil (zn g)))) ?_
         refine dq 52 rfl (fun _ g u h => LWo.guardY (t := 48) u.1 h35 rfl rfl (LWo.not u.2.1 (hn := .nil (zn g)))) ?_
         refine dq 53 rfl (fun _ g u h => LWo.pickFM (e_bool (!x36)) u.1 h35 u.2.1 (hn := .nil (zn g))) ?_
         refine dq 54 rfl (fun _ g u h => LWo.move (e_bool (!x36)) u.1 (hn := .nil (zn g))) ?_
         refine dq 55 rfl (fun _ g u h => LWo.guardY (t := 54) u.2.1 h37 rfl rfl (LWo.move (.own 1012 0 (o1012).length) u.1 (hn := .nil (zn g)))) ?_
         refine dq 56 rfl (fun _ g u h => LWo.guardY (t := 54) u.2.1 h37 rfl rfl (LWo.fieldPtr u_impl_Delta rfl s_Limpl_Value u.1 rfl (hn := .nil (zn g)))) ?_
         refine dq 57 rfl (fun _ g u h => LWo.guardY (t := 54) u.1 h37 rfl rfl (LWo.loadV1 (e_Limpl_Value y31.Row)  g_Limpl_Value u.2.1 h.1 rfl (hn := .nil (zn g)))) ?_
         refine dq 58 rfl (fun _ g u h => LWo.guardY (t := 54) u.1 h37 rfl rfl (LWo.wcall rfl (av2 u.2.1 u.2.2.1) (c_spec_RowMany _ _ _ e38) (.viewM h.1 rfl rfl (.same (.nil))) rfl (hn := .nil (zn g)))) ?_
         refine dq 59 rfl (fun _ g u h => LWo.guardY (t := 54) u.2.1 h37 rfl rfl (LWo.fieldPtr u_impl_Delta rfl s_int u.1 rfl (hn := .nil (zn g)))) ?_
         refine dq 60 rfl (fun _ g u h => LWo.guardY (t := 54) u.1 h37 rfl rfl (LWo.loadV1 (e_int y31.Many)  g_int u.2.1 h.1 rfl (hn := .nil (zn g)))) ?_
         refine dq 61 rfl (fun _ g u h => LWo.guardY (t := 54) u.1 h37 rfl rfl (LWo.int _ u.2.1 u.2.2.1 (add_ck e39) (hn := .nil (zn g)))) ?_
         refine dq 62 rfl (fun _ g u h => LWo.guardY (t := 54) u.1 h37 rfl rfl (LWo.int _ u.2.1 rfl rfl (hn := .nil (zn g)))) ?_
         refine dq 63 rfl (fun _ g u h => LWo.pickFM (e_bool (decide (x39 < (0 : Int)))) u.1 h37 u.2.1 (hn := .nil (zn g))) ?_
         refine ⟨rfl, by kernel_rfl, hN33 (t1, t8, decide (x39 < (0 : Int)), y31, o1012) _ ⟨rfl, rfl, rfl, rfl, rfl, trivial⟩ ⟨rfl, rfl, trivial⟩ h⟩
    ·have h := bF h27 h
     refine LWP.exit (hN21 o1012 _ ⟨rfl, trivial⟩ ⟨rfl, trivial⟩ h)
  ·intro N3 hN3
   refine LWP.seq_k fun N4 hN4 => ?_
   refine LWP.region (l := [_]) ?_
   refine LWo.assign (e_int (0 : Int)) rfl (hn := ?_)
   refine LWo.nil (hN4 _ ?_)
   refine LWP.block ?_
   refine LWP.loopM (α := (List (List S_impl_Value)) × (List S_impl_Delta) × Int × (List (List S_impl_Value))) (fun z : (List (List S_impl_Value)) × (List S_impl_Delta) × Int × (List (List S_impl_Value)) => [(0, (e_LLimpl_Value z.1)), (1, (e_Limpl_Delta z.2.1)), (6, (.own 1012 0 (z.2.2.2).length)), (7, (e_int z.2.2.1))]) (fun z : (List (List S_impl_Value)) × (List S_impl_Delta) × Int × (List (List S_impl_Value)) => [(1012, (lob 1 e_Limpl_Value z.2.2.2))]) (fun n1 (z : (List (List S_impl_Value)) × (List S_impl_Delta) × Int × (List (List S_impl_Value))) => m_spec_DeltaRows_l1  n1 z.1 z.2.1 z.2.2.1 z.2.2.2) r _ (a0, a1, (0 : Int), ([] : (List (List S_impl_Value)))) h (fun _ => rfl) (fun _ => by simp [hkeys]) ⟨rfl, rfl, rfl, rfl, trivial⟩ ⟨rfl, trivial⟩ ?_
   rintro n1 ⟨t0, t1, t7, o1012⟩ h N5 hN5
   replace h : m_spec_DeltaRows_l1  (n1 + 1) t0 t1 t7 o1012 = some _ := h
   refine LWP.seq_k fun N7 hN7 => ?_
   refine LWP.seq_k fun N8 hN8 => ?_
   refine LWP.region (l := [_,_,_,_]) ?_
   refine LWo.move (e_int t7) rfl (hn := ?_)
   refine LWo.move (e_LLimpl_Value t0) rfl (hn := ?_)
   refine LWo.lenM (f := e_Limpl_Value) (l := t0) u_LLimpl_Value rfl (hn := ?_)
   refine LWo.int _ rfl rfl rfl (hn := ?_)
   refine LWo.nil (hN8 _ ?_)
   refine LWP.cond_split rfl (fun h9 => ?_) (fun h9 => ?_)
   ·have h := bT h9 h
    refine LWP.skip (hN7 _ ?_)
    refine LWP.seq_k fun N10 hN10 => ?_
    refine LWP.block ?_
    refine LWP.seq_k fun N11 hN11 => ?_
    refine LWP.seq_k fun N12 hN12 => ?_
    refine LWP.region (l := [_,_,_,_,_,_]) ?_
    refine LWo.move (e_LLimpl_Value t0) rfl (hn := ?_)
    refine LWo.move (e_int t7) rfl (hn := ?_)
    refine bk h fun x13 e13 h => ?_
    refine LWo.indexM (f := e_Limpl_Value) e13 u_LLimpl_Value s_Limpl_Value rfl rfl (hn := ?_)
    refine LWo.load1 (c := (e_Limpl_Value x13)) g_Limpl_Value rfl (hn := ?_)
    refine bk h fun x14 e14 h => ?_
    refine LWo.vcall rfl rfl (c_spec_RowOk _ _ e14) (.same (.nil)) (hn := ?_)
    refine LWo.not rfl (hn := ?_)
    refine LWo.nil (hN12 _ ?_)
    refine LWP.cond_split rfl (fun h15 => ?_) (fun h15 => ?_)
    ·have h := bT h15 h
     refine LWP.seq_k fun N16 hN16 => ?_
     refine LWP.region (l := [_,_,_]) ?_
     refine LWo.lit0 1025 u_LLimpl_Value s_Limpl_Value z_Limpl_Value (hn := ?_)
     refine LWo.known 25 (.own 1025 0 ([] : (List (List S_impl_Value))).length) rfl ?_
     refine LWo.assign (.own 1025 0 (([] : (List (List S_impl_Value)))).length) rfl (hn := ?_)
     refine LWo.assign (e_bool false) rfl (hn := ?_)
     refine LWo.nil (hN16 _ ?_)
     obtain rfl := Option.some.inj h
     refine LWP.ret (QG.mk (.inr rfl) (.cons (.tmp (x := (.own 1025 0 (([] : (List (List S_impl_Value)))).length)) rfl) (.cons (.tmp (x := (e_bool false)) rfl) (.nil))) (RetOK.many0 (.cons (.nwM rfl rfl) (.cons (.pure rfl) (.nil))) (by simp) (by decide)) rfl rfl)
    ·have h := bF h15 h
     refine LWP.skip (hN11 _ ?_)
     refine LWP.region (l := [_,_,_,_,_,_,_,_,_]) ?_
     refine LWo.move (.own 1012 0 (o1012).length) rfl (hn := ?_)
     refine LWo.move (e_LLimpl_Value t0) rfl (hn := ?_)
     refine LWo.move (e_int t7) rfl (hn := ?_)
     refine bk h fun x17 e17 h => ?_
     refine LWo.indexM (f := e_Limpl_Value) e17 u_LLimpl_Value s_Limpl_Value rfl rfl (hn := ?_)
     refine LWo.load1 (c := (e_Limpl_Value x17)) g_Limpl_Value rfl (hn := ?_)
     refine bk h fun x18 e18 h => ?_
     refine LWo.vcall rfl rfl (c_spec_l3Own _ _ e18) (.same (.nil)) (hn := ?_)
     refine LWo.lit (ops := [_]) [(e_Limpl_Value x18)] u_LLimpl_Value s_Limpl_Value z_Limpl_Value rfl rfl rfl rfl rfl rfl (hn := ?_)
     refine bk h fun x19 e19 h => ?_
     refine LWo.appendM (f := e_Limpl_Value) e19 rfl u_LLimpl_Value u_LLimpl_Value (fun _ h => by cases h) s_Limpl_Value i_Limpl_Value rfl rfl rfl (.sl rfl) rfl rfl (hn := ?_)
     refine LWo.assign (.own 1012 0 (x19).length) rfl (hn := ?_)
     refine LWo.nil (hN10 _ ?_)
     refine LWP.region (l := [_,_,_]) ?_
     refine LWo.move (e_int t7) rfl (hn := ?_)
     refine bk h fun x20 e20 h => ?_
     refine LWo.int _ rfl rfl (add_ck e20) (hn := ?_)
     refine LWo.assign (e_int x20) rfl (hn := ?_)
     refine LWo.nil (hN5 (t0, t1, x20, x19) _ ⟨rfl, rfl, rfl, rfl, trivial⟩ ⟨rfl, trivial⟩ h)
   ·have h := bF h9 h
    refine LWP.exit (hN3 (t1, o1012) _ ⟨rfl, rfl, trivial⟩ ⟨rfl, trivial⟩ h)

def m_slices_IndexFunc_LLimpl_Value_Limpl_Value_j1 (p1 : (List S_impl_Value) → Option Bool)  : Option Int :=
  some (-1 : Int)
def m_slices_IndexFunc_LLimpl_Value_Limpl_Value_l1 (p1 : (List S_impl_Value) → Option Bool) : Nat → (List (List S_impl_Value)) → Int → Int → Option Int
  | 0, _, _, _ => none
  | n1 + 1, t0, t7, t8 =>
    bif decide (t8 < t7) then ((at? t0 t8).bind fun x12 =>
    (p1 x12).bind fun x13 =>
    bif x13 then (some t8)
    else ((ckI (t8 + (1 : Int))).bind fun x16 =>
    (m_slices_IndexFunc_LLimpl_Value_Limpl_Value_l1 p1 n1) t0 t7 x16))
    else (m_slices_IndexFunc_LLimpl_Value_Limpl_Value_j1 p1 )
def m_slices_IndexFunc_LLimpl_Value_Limpl_Value (a0 : (List (List S_impl_Value))) (p1 : (List S_impl_Value) → Option Bool) : Option Int :=
  m_slices_IndexFunc_LLimpl_Value_Limpl_Value_l1 p1 (((a0.length : Int) - (0 : Int)).toNat + 1) a0 (a0.length : Int) (0 : Int)
theorem c_slices_IndexFunc_LLimpl_Value_Limpl_Value (a0 : (List (List S_impl_Value))) (p1 : (List S_impl_Value) → Option Bool) (f1 : FuncId) (q1 : List LV) (hq1 : ∀ k, LV.at?.atL k q1 = false) (hf1 : ∀ a0 v, p1 a0 = some v → Ret Try.prog f1 (e_Limpl_Value a0 :: q1) (e_bool v)) (r : Int) (h : m_slices_IndexFunc_LLimpl_Value_Limpl_Value a0 p1 = some r) : Ret Try.prog f_slices_IndexFunc_LLimpl_Value_Limpl_Value [e_LLimpl_Value a0, .clo f1 q1] (e_int r) := by
  refine Does.goG [] F_slices_IndexFunc_LLimpl_Value_Limpl_Value rfl e_slices_IndexFunc_LLimpl_Value_Limpl_Value n_slices_IndexFunc_LLimpl_Value_Limpl_Value rfl (rvs := [.tmp 4]) rfl rfl ?_
  intro w0 ok0 lent ρ0
  refine LWP.seq_k fun N1 hN1 => ?_
  refine LWP.region (l := [_]) ?_
  refine LWo.assign (e_int (0 : Int)) rfl (hn := ?_)
  refine LWo.nil (hN1 _ ?_)
  refine LWP.join (α := Unit) (fun z : Unit => []) (fun z : Unit => []) (fun z : Unit => m_slices_IndexFunc_LLimpl_Value_Limpl_Value_j1 p1 ) r (fun _ => by simp [hkeys]) ?_ ?_
  ·rintro _ h
   replace h : m_slices_IndexFunc_LLimpl_Value_Limpl_Value_j1 p1  = some _ := h
   refine LWP.seq_k fun N17 hN17 => ?_
   refine LWP.region (l := [_]) ?_
   refine LWo.assign (e_int (-1 : Int)) rfl (hn := ?_)
   refine LWo.nil (hN17 _ ?_)
   obtain rfl := Option.some.inj h
   refine LWP.ret (QG.mk (.inr rfl) (.cons (.tmp (x := (e_int (-1 : Int))) rfl) (.nil)) (RetOK.one0 (.pure rfl) (by decide)) rfl rfl)
  ·intro N2 hN2
   refine LWP.seq_k fun N3 hN3 => ?_
   refine LWP.region (l := [_,_,_]) ?_
   refine LWo.move (e_LLimpl_Value a0) rfl (hn := ?_)
   refine LWo.lenM (f := e_Limpl_Value) (l := a0) u_LLimpl_Value rfl (hn := ?_)
   refine LWo.move (e_int (0 : Int)) rfl (hn := ?_)
   refine LWo.nil (hN3 _ ?_)
   refine LWP.block ?_
   refine LWP.loopM (α := (List (List S_impl_Value)) × Int × Int) (fun z : (List (List S_impl_Value)) × Int × Int => [(0, (e_LLimpl_Value z.1)), (1, (.clo f1 q1)), (7, (e_int z.2.1)), (8, (e_int z.2.2))]) (fun z : (List (List S_impl_Value)) × Int × Int => []) (fun n1 (z : (List (List S_impl_Value)) × Int × Int) => m_slices_IndexFunc_LLimpl_Value_Limpl_Value_l1 p1 n1 z.1 z.2.1 z.2.2) r _ (a0, (a0.length : Int), (0 : Int)) h (fun _ => rfl) (fun _ => by simp [hkeys]) ⟨rfl, rfl, rfl, rfl, trivial⟩ trivial ?_
   rintro n1 ⟨t0, t7, t8⟩ h N4 hN4
   replace h : m_slices_IndexFunc_LLimpl_Value_Limpl_Value_l1 p1 (n1 + 1) t0 t7 t8 = some _ := h
   refine LWP.seq_k fun N6 hN6 => ?_
   refine LWP.region (l := [_]) ?_
   refine LWo.int _ rfl rfl rfl (hn := ?_)
   refine LWo.nil (hN6 _ ?_)
   refine LWP.seq_k fun N7 hN7 => ?_
   refine LWP.cond_split rfl (fun h8 => ?_) (fun h8 => ?_)
   ·have h := bT h8 h
    refine LWP.skip (hN7 _ ?_)
    refine LWP.seq_k fun N9 hN9 => ?_
    refine LWP.block ?_
    refine LWP.seq_k fun N10 hN10 => ?_
    refine LWP.region (l := [_,_]) ?_
    refine LWo.move (e_int t8) rfl (hn := ?_)
    refine LWo.assign (e_int t8) rfl (hn := ?_)
    refine LWo.nil (hN10 _ ?_)
    refine LWP.seq_k fun N11 hN11 => ?_
    refine LWP.region (l := [_,_,_,_,_,_]) ?_
    refine LWo.move (.clo f1 q1) rfl (hn := ?_)
    refine LWo.move (e_LLimpl_Value t0) rfl (hn := ?_)
    refine LWo.move (e_int t8) rfl (hn := ?_)
    refine bk h fun x12 e12 h => ?_
    refine LWo.indexM (f := e_Limpl_Value) e12 u_LLimpl_Value s_Limpl_Value rfl rfl (hn := ?_)
    refine LWo.load1 (c := (e_Limpl_Value x12)) g_Limpl_Value rfl (hn := ?_)
    refine bk h fun x13 e13 h => ?_
    refine LWo.vcall rfl rfl (hf1 _ _ e13) .refl (hn := ?_)
    refine LWo.nil (hN11 _ ?_)
    refine LWP.cond_split rfl (fun h14 => ?_) (fun h14 => ?_)
    ·have h := bT h14 h
     refine LWP.seq_k fun N15 hN15 => ?_
     refine LWP.region (l := [_,_]) ?_
     refine LWo.move (e_int t8) rfl (hn := ?_)
     refine LWo.assign (e_int t8) rfl (hn := ?_)
     refine LWo.nil (hN15 _ ?_)
     obtain rfl := Option.some.inj h
     refine LWP.ret (QG.mk (.inr rfl) (.cons (.tmp (x := (e_int t8)) rfl) (.nil)) (RetOK.one0 (.pure rfl) (by decide)) rfl rfl)
    ·have h := bF h14 h
     refine LWP.skip (hN9 _ ?_)
     refine LWP.region (l := [_,_]) ?_
     refine bk h fun x16 e16 h => ?_
     refine LWo.int _ rfl rfl (add_ck e16) (hn := ?_)
     refine LWo.move (e_int x16) rfl (hn := ?_)
     refine LWo.nil (hN4 (t0, t7, x16) _ ⟨rfl, rfl, rfl, rfl, trivial⟩ trivial h)
   ·have h := bF h8 h
    refine LWP.exit (hN2 () _ trivial trivial h)

def m_slices_ContainsFunc_LLimpl_Value_Limpl_Value (a0 : (List (List S_impl_Value))) (p1 : (List S_impl_Value) → Option Bool) : Option Bool :=
  (m_slices_IndexFunc_LLimpl_Value_Limpl_Value a0 p1).bind fun x3 =>
  some (decide (x3 ≥ (0 : Int)))
theorem c_slices_ContainsFunc_LLimpl_Value_Limpl_Value (a0 : (List (List S_impl_Value))) (p1 : (List S_impl_Value) → Option Bool) (f1 : FuncId) (q1 : List LV) (hq1 : ∀ k, LV.at?.atL k q1 = false) (hf1 : ∀ a0 v, p1 a0 = some v → Ret Try.prog f1 (e_Limpl_Value a0 :: q1) (e_bool v)) (r : Bool) (h : m_slices_ContainsFunc_LLimpl_Value_Limpl_Value a0 p1 = some r) : Ret Try.prog f_slices_ContainsFunc_LLimpl_Value_Limpl_Value [e_LLimpl_Value a0, .clo f1 q1] (e_bool r) := by
  refine Does.goG [] F_slices_ContainsFunc_LLimpl_Value_Limpl_Value rfl e_slices_ContainsFunc_LLimpl_Value_Limpl_Value n_slices_ContainsFunc_LLimpl_Value_Limpl_Value rfl (rvs := [.tmp 4]) rfl rfl ?_
  intro w0 ok0 lent ρ0
  refine LWP.seq_k fun N1 hN1 => ?_
  refine LWP.region (l := [_]) ?_
  refine LWo.assign (e_bool false) rfl (hn := ?_)
  refine LWo.nil (hN1 _ ?_)
  refine LWP.seq_k fun N2 hN2 => ?_
  refine LWP.region (l := [_,_,_,_,_]) ?_
  refine LWo.move (e_LLimpl_Value a0) rfl (hn := ?_)
  refine LWo.move (.clo f1 q1) rfl (hn := ?_)
  refine bk h fun x3 e3 h => ?_
  refine LWo.vcall rfl rfl (c_slices_IndexFunc_LLimpl_Value_Limpl_Value _ _ f1 q1 hq1 hf1 _ e3) (.same (.same (.nil))) (hn := ?_)
  refine LWo.int _ rfl rfl rfl (hn := ?_)
  refine LWo.assign (e_bool (decide (x3 ≥ (0 : Int)))) rfl (hn := ?_)
  refine LWo.nil (hN2 _ ?_)
  obtain rfl := Option.some.inj h
  refine LWP.ret (QG.mk (.inr rfl) (.cons (.tmp (x := (e_bool (decide (x3 ≥ (0 : Int))))) rfl) (.nil)) (RetOK.one0 (.pure rfl) (by decide)) rfl rfl)

def m_slices_IndexFunc_Limpl_Value_impl_Value_j1 (p1 : S_impl_Value → Option Bool)  : Option Int :=
  some (-1 : Int)
def m_slices_IndexFunc_Limpl_Value_impl_Value_l1 (p1 : S_impl_Value → Option Bool) : Nat → (List S_impl_Value) → Int → Int → Option Int
  | 0, _, _, _ => none
  | n1 + 1, t0, t7, t8 =>
    bif decide (t8 < t7) then ((at? t0 t8).bind fun x12 =>
    (p1 x12).bind fun x13 =>
    bif x13 then (some t8)
    else ((ckI (t8 + (1 : Int))).bind fun x16 =>
    (m_slices_IndexFunc_Limpl_Value_impl_Value_l1 p1 n1) t0 t7 x16))
    else (m_slices_IndexFunc_Limpl_Value_impl_Value_j1 p1 )
def m_slices_IndexFunc_Limpl_Value_impl_Value (a0 : (List S_impl_Value)) (p1 : S_impl_Value → Option Bool) : Option Int :=
  m_slices_IndexFunc_Limpl_Value_impl_Value_l1 p1 (((a0.length : Int) - (0 : Int)).toNat + 1) a0 (a0.length : Int) (0 : Int)
theorem c_slices_IndexFunc_Limpl_Value_impl_Value (a0 : (List S_impl_Value)) (p1 : S_impl_Value → Option Bool) (f1 : FuncId) (q1 : List LV) (hq1 : ∀ k, LV.at?.atL k q1 = false) (hf1 : ∀ a0 v, p1 a0 = some v → Ret Try.prog f1 (e_impl_Value a0 :: q1) (e_bool v)) (r : Int) (h : m_slices_IndexFunc_Limpl_Value_impl_Value a0 p1 = some r) : Ret Try.prog f_slices_IndexFunc_Limpl_Value_impl_Value [e_Limpl_Value a0, .clo f1 q1] (e_int r) := by
  refine Does.goG [] F_slices_IndexFunc_Limpl_Value_impl_Value rfl e_slices_IndexFunc_Limpl_Value_impl_Value n_slices_IndexFunc_Limpl_Value_impl_Value rfl (rvs := [.tmp 4]) rfl rfl ?_
  intro w0 ok0 lent ρ0
  refine LWP.seq_k fun N1 hN1 => ?_
  refine LWP.region (l := [_]) ?_
  refine LWo.assign (e_int (0 : Int)) rfl (hn := ?_)
  refine LWo.nil (hN1 _ ?_)
  refine LWP.join (α := Unit) (fun z : Unit => []) (fun z : Unit => []) (fun z : Unit => m_slices_IndexFunc_Limpl_Value_impl_Value_j1 p1 ) r (fun _ => by simp [hkeys]) ?_ ?_
  ·rintro _ h
   replace h : m_slices_IndexFunc_Limpl_Value_impl_Value_j1 p1  = some _ := h
   refine LWP.seq_k fun N17 hN17 => ?_
   refine LWP.region (l := [_]) ?_
   refine LWo.assign (e_int (-1 : Int)) rfl (hn := ?_)
   refine LWo.nil (hN17 _ ?_)
   obtain rfl := Option.some.inj h
   refine LWP.ret (QG.mk (.inr rfl) (.cons (.tmp (x := (e_int (-1 : Int))) rfl) (.nil)) (RetOK.one0 (.pure rfl) (by decide)) rfl rfl)
  ·intro N2 hN2
   refine LWP.seq_k fun N3 hN3 => ?_
   refine LWP.region (l := [_,_,_]) ?_
   refine LWo.move (e_Limpl_Value a0) rfl (hn := ?_)
   refine LWo.lenM (f := e_impl_Value) (l := a0) u_Limpl_Value rfl (hn := ?_)
   refine LWo.move (e_int (0 : Int)) rfl (hn := ?_)
   refine LWo.nil (hN3 _ ?_)
   refine LWP.block ?_
   refine LWP.loopM (α := (List S_impl_Value) × Int × Int) (fun z : (List S_impl_Value) × Int × Int => [(0, (e_Limpl_Value z.1)), (1, (.clo f1 q1)), (7, (e_int z.2.1)), (8, (e_int z.2.2))]) (fun z : (List S_impl_Value) × Int × Int => []) (fun n1 (z : (List S_impl_Value) × Int × Int) => m_slices_IndexFunc_Limpl_Value_impl_Value_l1 p1 n1 z.1 z.2.1 z.2.2) r _ (a0, (a0.length : Int), (0 : Int)) h (fun _ => rfl) (fun _ => by simp [hkeys]) ⟨rfl, rfl, rfl, rfl, trivial⟩ trivial ?_
   rintro n1 ⟨t0, t7, t8⟩ h N4 hN4
   replace h : m_slices_IndexFunc_Limpl_Value_impl_Value_l1 p1 (n1 + 1) t0 t7 t8 = some _ := h
   refine LWP.seq_k fun N6 hN6 => ?_
   refine LWP.region (l := [_]) ?_
   refine LWo.int _ rfl rfl rfl (hn := ?_)
   refine LWo.nil (hN6 _ ?_)
   refine LWP.seq_k fun N7 hN7 => ?_
   refine LWP.cond_split rfl (fun h8 => ?_) (fun h8 => ?_)
   ·have h := bT h8 h
    refine LWP.skip (hN7 _ ?_)
    refine LWP.seq_k fun N9 hN9 => ?_
    refine LWP.block ?_
    refine LWP.seq_k fun N10 hN10 => ?_
    refine LWP.region (l := [_,_]) ?_
    refine LWo.move (e_int t8) rfl (hn := ?_)
    refine LWo.assign (e_int t8) rfl (hn := ?_)
    refine LWo.nil (hN10 _ ?_)
    refine LWP.seq_k fun N11 hN11 => ?_
    refine LWP.region (l := [_,_,_,_,_,_]) ?_
    refine LWo.move (.clo f1 q1) rfl (hn := ?_)
    refine LWo.move (e_Limpl_Value t0) rfl (hn := ?_)
    refine LWo.move (e_int t8) rfl (hn := ?_)
    refine bk h fun x12 e12 h => ?_
    refine LWo.indexM (f := e_impl_Value) e12 u_Limpl_Value s_impl_Value rfl rfl (hn := ?_)
    refine LWo.loadN ((e_impl_Value x12)).cells g_impl_Value s_impl_Value rfl (Nat.le_of_ble_eq_true rfl) rfl (hn := ?_)
    refine bk h fun x13 e13 h => ?_
    refine LWo.vcall rfl rfl (hf1 _ _ e13) .refl (hn := ?_)
    refine LWo.nil (hN11 _ ?_)
    refine LWP.cond_split rfl (fun h14 => ?_) (fun h14 => ?_)
    ·have h := bT h14 h
     refine LWP.seq_k fun N15 hN15 => ?_
     refine LWP.region (l := [_,_]) ?_
     refine LWo.move (e_int t8) rfl (hn := ?_)
     refine LWo.assign (e_int t8) rfl (hn := ?_)
     refine LWo.nil (hN15 _ ?_)
     obtain rfl := Option.some.inj h
     refine LWP.ret (QG.mk (.inr rfl) (.cons (.tmp (x := (e_int t8)) rfl) (.nil)) (RetOK.one0 (.pure rfl) (by decide)) rfl rfl)
    ·have h := bF h14 h
     refine LWP.skip (hN9 _ ?_)
     refine LWP.region (l := [_,_]) ?_
     refine bk h fun x16 e16 h => ?_
     refine LWo.int _ rfl rfl (add_ck e16) (hn := ?_)
     refine LWo.move (e_int x16) rfl (hn := ?_)
     refine LWo.nil (hN4 (t0, t7, x16) _ ⟨rfl, rfl, rfl, rfl, trivial⟩ trivial h)
   ·have h := bF h8 h
    refine LWP.exit (hN2 () _ trivial trivial h)

def m_slices_ContainsFunc_Limpl_Value_impl_Value (a0 : (List S_impl_Value)) (p1 : S_impl_Value → Option Bool) : Option Bool :=
  (m_slices_IndexFunc_Limpl_Value_impl_Value a0 p1).bind fun x3 =>
  some (decide (x3 ≥ (0 : Int)))
theorem c_slices_ContainsFunc_Limpl_Value_impl_Value (a0 : (List S_impl_Value)) (p1 : S_impl_Value → Option Bool) (f1 : FuncId) (q1 : List LV) (hq1 : ∀ k, LV.at?.atL k q1 = false) (hf1 : ∀ a0 v, p1 a0 = some v → Ret Try.prog f1 (e_impl_Value a0 :: q1) (e_bool v)) (r : Bool) (h : m_slices_ContainsFunc_Limpl_Value_impl_Value a0 p1 = some r) : Ret Try.prog f_slices_ContainsFunc_Limpl_Value_impl_Value [e_Limpl_Value a0, .clo f1 q1] (e_bool r) := by
  refine Does.goG [] F_slices_ContainsFunc_Limpl_Value_impl_Value rfl e_slices_ContainsFunc_Limpl_Value_impl_Value n_slices_ContainsFunc_Limpl_Value_impl_Value rfl (rvs := [.tmp 4]) rfl rfl ?_
  intro w0 ok0 lent ρ0
  refine LWP.seq_k fun N1 hN1 => ?_
  refine LWP.region (l := [_]) ?_
  refine LWo.assign (e_bool false) rfl (hn := ?_)
  refine LWo.nil (hN1 _ ?_)
  refine LWP.seq_k fun N2 hN2 => ?_
  refine LWP.region (l := [_,_,_,_,_]) ?_
  refine LWo.move (e_Limpl_Value a0) rfl (hn := ?_)
  refine LWo.move (.clo f1 q1) rfl (hn := ?_)
  refine bk h fun x3 e3 h => ?_
  refine LWo.vcall rfl rfl (c_slices_IndexFunc_Limpl_Value_impl_Value _ _ f1 q1 hq1 hf1 _ e3) (.same (.same (.nil))) (hn := ?_)
  refine LWo.int _ rfl rfl rfl (hn := ?_)
  refine LWo.assign (e_bool (decide (x3 ≥ (0 : Int)))) rfl (hn := ?_)
  refine LWo.nil (hN2 _ ?_)
  obtain rfl := Option.some.inj h
  refine LWP.ret (QG.mk (.inr rfl) (.cons (.tmp (x := (e_bool (decide (x3 ≥ (0 : Int))))) rfl) (.nil)) (RetOK.one0 (.pure rfl) (by decide)) rfl rfl)

def m_impl_between_j1 (t6 : Bool) : Option Bool :=
  some t6
def m_impl_between (a0 : Int) (a1 : Int) (a2 : Int) : Option Bool :=
  bif decide (a0 ≥ a1) then (m_impl_between_j1  (decide (a0 ≤ a2)))
  else (m_impl_between_j1  false)
theorem c_impl_between (a0 : Int) (a1 : Int) (a2 : Int) (r : Bool) (h : m_impl_between a0 a1 a2 = some r) : Ret Try.prog f_impl_between [e_int a0, e_int a1, e_int a2] (e_bool r) := by
  refine Does.goG [] F_impl_between rfl e_impl_between n_impl_between rfl (rvs := [.tmp 6]) rfl rfl ?_
  intro w0 ok0 lent ρ0
  refine LWP.seq_k fun N1 hN1 => ?_
  refine LWP.region (l := [_]) ?_
  refine LWo.assign (e_bool false) rfl (hn := ?_)
  refine LWo.nil (hN1 _ ?_)
  refine LWP.join (α := Bool) (fun z : Bool => [(6, (e_bool z))]) (fun z : Bool => []) (fun z : Bool => m_impl_between_j1  z) r (fun _ => by simp [hkeys]) ?_ ?_
  ·rintro t6 h
   replace h : m_impl_between_j1  t6 = some _ := h
   obtain rfl := Option.some.inj h
   refine LWP.ret (QG.mk (.inr rfl) (.cons (.tmp (x := (e_bool t6)) rfl) (.nil)) (RetOK.one0 (.pure rfl) (by decide)) rfl rfl)
  ·intro N2 hN2
   refine LWP.region (l := [_,_,_,_,_,_,_,_,_]) ?_
   refine LWo.move (e_int a0) rfl (hn := ?_)
   refine LWo.move (e_int a1) rfl (hn := ?_)
   refine LWo.int _ rfl rfl rfl (hn := ?_)
   refine LWo.move (e_bool (decide (a0 ≥ a1))) rfl (hn := ?_)
   refine LWo.byCases (t := 10) _ rfl (fun h3 => ?_) (fun h3 => ?_)
   ·have h := bT h3 h
    refine LWo.guardY (t := 10) rfl h3 rfl rfl ?_
    refine LWo.move (e_int a0) rfl (hn := ?_)
    refine LWo.guardY (t := 10) rfl h3 rfl rfl ?_
    refine LWo.move (e_int a2) rfl (hn := ?_)
    refine LWo.guardY (t := 10) rfl h3 rfl rfl ?_
    refine LWo.int _ rfl rfl rfl (hn := ?_)
    refine LWo.pickTM (e_bool (decide (a0 ≤ a2))) rfl h3 rfl (hn := ?_)
    refine LWo.assign (e_bool (decide (a0 ≤ a2))) rfl (hn := ?_)
    refine LWo.nil (hN2 (decide (a0 ≤ a2)) _ ⟨rfl, trivial⟩ trivial h)
   ·have h := bF h3 h
    refine LWo.guardNU (t := 10) rfl h3 rfl rfl rfl rfl rfl ?_
    refine LWo.guardNU (t := 10) rfl h3 rfl rfl rfl rfl rfl ?_
    refine LWo.guardNU (t := 10) rfl h3 rfl rfl rfl rfl rfl ?_
    refine LWo.pickFM (e_bool false) rfl h3 rfl (hn := ?_)
    refine LWo.assign (e_bool false) rfl (hn := ?_)
    refine LWo.nil (hN2 false _ ⟨rfl, trivial⟩ trivial h)

def m_impl_letters_j1  : Option Bool :=
  some true
def m_impl_letters_l1 : Nat → (List UInt8) → Int → Int → Option Bool
  | 0, _, _, _ => none
  | n1 + 1, t6, t7, t8 =>
    bif decide (t8 < t7) then ((at? t6 t8).bind fun x12 =>
    (m_impl_between (x12.toNat : Int) (97 : Int) (122 : Int)).bind fun x14 =>
    bif (!x14) then (some false)
    else ((ckI (t8 + (1 : Int))).bind fun x17 =>
    (m_impl_letters_l1  n1) t6 t7 x17))
    else (m_impl_letters_j1  )
def m_impl_letters (a0 : ByteArray) : Option Bool :=
  (sBytes? a0).bind fun x4 =>
  m_impl_letters_l1  (((x4.length : Int) - (0 : Int)).toNat + 1) x4 (x4.length : Int) (0 : Int)
theorem c_impl_letters (a0 : ByteArray) (r : Bool) (h : m_impl_letters a0 = some r) : Ret Try.prog f_impl_letters [e_string a0] (e_bool r) := by
  refine Does.goG [] F_impl_letters rfl e_impl_letters n_impl_letters rfl (rvs := [.tmp 2]) rfl rfl ?_
  intro w0 ok0 lent ρ0
  refine LWP.seq_k fun N1 hN1 => ?_
  refine LWP.region (l := [_]) ?_
  refine LWo.assign (e_bool false) rfl (hn := ?_)
  refine LWo.nil (hN1 _ ?_)
  refine LWP.join (α := Unit) (fun z : Unit => []) (fun z : Unit => []) (fun z : Unit => m_impl_letters_j1  ) r (fun _ => by simp [hkeys]) ?_ ?_
  ·rintro _ h
   replace h : m_impl_letters_j1   = some _ := h
   refine LWP.seq_k fun N18 hN18 => ?_
   refine LWP.region (l := [_]) ?_
   refine LWo.assign (e_bool true) rfl (hn := ?_)
   refine LWo.nil (hN18 _ ?_)
   obtain rfl := Option.some.inj h
   refine LWP.ret (QG.mk (.inr rfl) (.cons (.tmp (x := (e_bool true)) rfl) (.nil)) (RetOK.one0 (.pure rfl) (by decide)) rfl rfl)
  ·intro N2 hN2
   refine LWP.seq_k fun N3 hN3 => ?_
   refine LWP.region (l := [_,_,_,_]) ?_
   refine LWo.move (e_string a0) rfl (hn := ?_)
   refine bk h fun x4 e4 h => ?_
   refine LWo.bytesM e4 u_string u_Luint8 u_uint8 rfl (hn := ?_)
   refine LWo.lenM (f := e_uint8) (l := x4) u_Luint8 rfl (hn := ?_)
   refine LWo.move (e_int (0 : Int)) rfl (hn := ?_)
   refine LWo.nil (hN3 _ ?_)
   refine LWP.block ?_
   refine LWP.loopM (α := (List UInt8) × Int × Int) (fun z : (List UInt8) × Int × Int => [(6, (e_Luint8 z.1)), (7, (e_int z.2.1)), (8, (e_int z.2.2))]) (fun z : (List UInt8) × Int × Int => []) (fun n1 (z : (List UInt8) × Int × Int) => m_impl_letters_l1  n1 z.1 z.2.1 z.2.2) r _ (x4, (x4.length : Int), (0 : Int)) h (fun _ => rfl) (fun _ => by simp [hkeys]) ⟨rfl, rfl, rfl, trivial⟩ trivial ?_
   rintro n1 ⟨t6, t7, t8⟩ h N5 hN5
   replace h : m_impl_letters_l1  (n1 + 1) t6 t7 t8 = some _ := h
   refine LWP.seq_k fun N7 hN7 => ?_
   refine LWP.region (l := [_]) ?_
   refine LWo.int _ rfl rfl rfl (hn := ?_)
   refine LWo.nil (hN7 _ ?_)
   refine LWP.seq_k fun N8 hN8 => ?_
   refine LWP.cond_split rfl (fun h9 => ?_) (fun h9 => ?_)
   ·have h := bT h9 h
    refine LWP.skip (hN8 _ ?_)
    refine LWP.seq_k fun N10 hN10 => ?_
    refine LWP.block ?_
    refine LWP.seq_k fun N11 hN11 => ?_
    refine LWP.region (l := [_,_,_]) ?_
    refine bk h fun x12 e12 h => ?_
    refine LWo.indexM (f := e_uint8) e12 u_Luint8 s_uint8 rfl rfl (hn := ?_)
    refine LWo.load1 (c := (e_uint8 x12)) g_uint8 rfl (hn := ?_)
    refine LWo.assign (e_uint8 x12) rfl (hn := ?_)
    refine LWo.nil (hN11 _ ?_)
    refine LWP.seq_k fun N13 hN13 => ?_
    refine LWP.region (l := [_,_,_,_]) ?_
    refine LWo.move (e_uint8 x12) rfl (hn := ?_)
    refine LWo.convByte _ u_uint8 u_int rfl (hn := ?_)
    refine bk h fun x14 e14 h => ?_
    refine LWo.vcall rfl rfl (c_impl_between _ _ _ _ e14) (.same (.same (.same (.nil)))) (hn := ?_)
    refine LWo.not rfl (hn := ?_)
    refine LWo.nil (hN13 _ ?_)
    refine LWP.cond_split rfl (fun h15 => ?_) (fun h15 => ?_)
    ·have h := bT h15 h
     refine LWP.seq_k fun N16 hN16 => ?_
     refine LWP.region (l := [_]) ?_
     refine LWo.assign (e_bool false) rfl (hn := ?_)
     refine LWo.nil (hN16 _ ?_)
     obtain rfl := Option.some.inj h
     refine LWP.ret (QG.mk (.inr rfl) (.cons (.tmp (x := (e_bool false)) rfl) (.nil)) (RetOK.one0 (.pure rfl) (by decide)) rfl rfl)
    ·have h := bF h15 h
     refine LWP.skip (hN10 _ ?_)
     refine LWP.region (l := [_,_]) ?_
     refine bk h fun x17 e17 h => ?_
     refine LWo.int _ rfl rfl (add_ck e17) (hn := ?_)
     refine LWo.move (e_int x17) rfl (hn := ?_)
     refine LWo.nil (hN5 (t6, t7, x17) _ ⟨rfl, rfl, rfl, trivial⟩ trivial h)
   ·have h := bF h9 h
    refine LWP.exit (hN2 () _ trivial trivial h)

def m_impl_Value_ok_j1 (t2 : Bool) : Option Bool :=
  some t2
def m_impl_Value_ok_j2 (t2 : Bool) : Option Bool :=
  some t2
def m_impl_Value_ok_j3 (t2 : Bool) : Option Bool :=
  some t2
def m_impl_Value_ok (a0 : S_impl_Value) : Option Bool :=
  bif (a0.Kind == (0 : Int)) then (some (decide (a0 = (⟨(0 : Int), (0 : Int), (⟨#[]⟩ : ByteArray)⟩ : S_impl_Value))))
  else (bif (a0.Kind == (1 : Int)) then (bif (sEq a0.S (⟨#[]⟩ : ByteArray)) then ((m_impl_between a0.N (-9999 : Int) (9999 : Int)).bind fun x11 =>
        m_impl_Value_ok_j1  x11)
      else (m_impl_Value_ok_j1  false))
    else (bif (a0.Kind == (2 : Int)) then (bif (a0.N == (0 : Int)) then (bif decide ((a0.S.size : Int) ≤ (6 : Int)) then ((m_impl_letters a0.S).bind fun x17 =>
            m_impl_Value_ok_j2  x17)
          else (m_impl_Value_ok_j2  false))
        else (m_impl_Value_ok_j2  false))
      else (bif (a0.Kind == (3 : Int)) then (bif (sEq a0.S (⟨#[]⟩ : ByteArray)) then ((m_impl_between a0.N (0 : Int) (1 : Int)).bind fun x22 =>
            m_impl_Value_ok_j3  x22)
          else (m_impl_Value_ok_j3  false))
        else (some false))))
theorem c_impl_Value_ok (a0 : S_impl_Value) (r : Bool) (h : m_impl_Value_ok a0 = some r) : Ret Try.prog f_impl_Value_ok [e_impl_Value a0] (e_bool r) := by
  refine Does.goG [] F_impl_Value_ok rfl e_impl_Value_ok n_impl_Value_ok rfl (rvs := [.tmp 2]) rfl rfl ?_
  intro w0 ok0 lent ρ0
  refine LWP.seq_k fun N1 hN1 => ?_
  refine LWP.region (l := [_,_]) ?_
  refine LWo.boxF (e_impl_Value a0) rfl rfl rfl (hn := ?_)
  refine LWo.assign (e_bool false) rfl (hn := ?_)
  refine LWo.nil (hN1 _ ?_)
  refine LWP.seq_k fun N2 hN2 => ?_
  refine LWP.seq_k fun N3 hN3 => ?_
  refine LWP.region (l := [_,_]) ?_
  refine LWo.fieldAddr _ u_impl_Value rfl s_int rfl rfl (hn := ?_)
  refine LWo.load1 (c := (e_int a0.Kind)) g_int rfl (hn := ?_)
  refine LWo.nil (hN3 _ ?_)
  refine LWP.block ?_
  refine LWP.seq_k fun N4 hN4 => ?_
  refine LWP.region (l := [_,_]) ?_
  refine LWo.int _ rfl rfl rfl (hn := ?_)
  refine LWo.assign (e_bool (a0.Kind == (0 : Int))) rfl (hn := ?_)
  refine LWo.nil (hN4 _ ?_)
  refine LWP.cond_split rfl (fun h5 => ?_) (fun h5 => ?_)
  ·have h := bT h5 h
   refine LWP.seq_k fun N6 hN6 => ?_
   refine LWP.region (l := [_,_,_,_]) ?_
   refine LWo.loadN ((e_impl_Value a0)).cells g_impl_Value s_impl_Value rfl (Nat.le_of_ble_eq_true rfl) rfl (hn := ?_)
   refine LWo.build_impl_Value (parts := []) (⟨(0 : Int), (0 : Int), (⟨#[]⟩ : ByteArray)⟩ : S_impl_Value) rfl rfl rfl .refl (hn := ?_)
   refine LWo.eq_impl_Value _ _ rfl rfl (hn := ?_)
   refine LWo.assign (e_bool (decide (a0 = (⟨(0 : Int), (0 : Int), (⟨#[]⟩ : ByteArray)⟩ : S_impl_Value)))) rfl (hn := ?_)
   refine LWo.nil (hN6 _ ?_)
   obtain rfl := Option.some.inj h
   refine LWP.ret (QG.mk (.inr rfl) (.cons (.tmp (x := (e_bool (decide (a0 = (⟨(0 : Int), (0 : Int), (⟨#[]⟩ : ByteArray)⟩ : S_impl_Value))))) rfl) (.nil)) (RetOK.one0 (.pure rfl) (by decide)) rfl rfl)
  ·have h := bF h5 h
   refine LWP.seq_k fun N7 hN7 => ?_
   refine LWP.region (l := [_,_]) ?_
   refine LWo.int _ rfl rfl rfl (hn := ?_)
   refine LWo.assign (e_bool (a0.Kind == (1 : Int))) rfl (hn := ?_)
   refine LWo.nil (hN7 _ ?_)
   refine LWP.cond_split rfl (fun h8 => ?_) (fun h8 => ?_)
   ·have h := bT h8 h
    refine LWP.join (α := Bool) (fun z : Bool => [(2, (e_bool z))]) (fun z : Bool => []) (fun z : Bool => m_impl_Value_ok_j1  z) r (fun _ => by simp [hkeys]) ?_ ?_
    ·rintro t2 h
     replace h : m_impl_Value_ok_j1  t2 = some _ := h
     obtain rfl := Option.some.inj h
     refine LWP.ret (QG.mk (.inr rfl) (.cons (.tmp (x := (e_bool t2)) rfl) (.nil)) (RetOK.one0 (.pure rfl) (by decide)) rfl rfl)
    ·intro N9 hN9
     refine LWP.region (l := [_,_,_,_,_,_,_,_,_]) ?_
     refine LWo.fieldAddr _ u_impl_Value rfl s_string rfl rfl (hn := ?_)
     refine LWo.load1 (c := (e_string a0.S)) g_string rfl (hn := ?_)
     refine LWo.str _ rfl rfl rfl (hn := ?_)
     refine LWo.move (e_bool (sEq a0.S (⟨#[]⟩ : ByteArray))) rfl (hn := ?_)
     refine LWo.byCases (t := 15) _ rfl (fun h10 => ?_) (fun h10 => ?_)
     ·have h := bT h10 h
      refine LWo.guardY (t := 15) rfl h10 rfl rfl ?_
      refine LWo.fieldAddr _ u_impl_Value rfl s_int rfl rfl (hn := ?_)
      refine LWo.guardY (t := 15) rfl h10 rfl rfl ?_
      refine LWo.load1 (c := (e_int a0.N)) g_int rfl (hn := ?_)
      refine bk h fun x11 e11 h => ?_
      refine LWo.guardY (t := 15) rfl h10 rfl rfl ?_
      refine LWo.vcall rfl rfl (c_impl_between _ _ _ _ e11) (.same (.same (.same (.nil)))) (hn := ?_)
      refine LWo.pickTM (e_bool x11) rfl h10 rfl (hn := ?_)
      refine LWo.assign (e_bool x11) rfl (hn := ?_)
      refine LWo.nil (hN9 x11 _ ⟨rfl, trivial⟩ trivial h)
     ·have h := bF h10 h
      refine LWo.guardNU (t := 15) rfl h10 rfl rfl rfl rfl rfl ?_
      refine LWo.guardNU (t := 15) rfl h10 rfl rfl rfl rfl rfl ?_
      refine LWo.guardNU (t := 15) rfl h10 rfl rfl rfl rfl rfl ?_
      refine LWo.pickFM (e_bool false) rfl h10 rfl (hn := ?_)
      refine LWo.assign (e_bool false) rfl (hn := ?_)
      refine LWo.nil (hN9 false _ ⟨rfl, trivial⟩ trivial h)
   ·have h := bF h8 h
    refine LWP.seq_k fun N12 hN12 => ?_
    refine LWP.region (l := [_,_]) ?_
    refine LWo.int _ rfl rfl rfl (hn := ?_)
    refine LWo.assign (e_bool (a0.Kind == (2 : Int))) rfl (hn := ?_)
    refine LWo.nil (hN12 _ ?_)
    refine LWP.cond_split rfl (fun h13 => ?_) (fun h13 => ?_)
    ·have h := bT h13 h
     refine LWP.join (α := Bool) (fun z : Bool => [(2, (e_bool z))]) (fun z : Bool => []) (fun z : Bool => m_impl_Value_ok_j2  z) r (fun _ => by simp [hkeys]) ?_ ?_
     ·rintro t2 h
      replace h : m_impl_Value_ok_j2  t2 = some _ := h
      obtain rfl := Option.some.inj h
      refine LWP.ret (QG.mk (.inr rfl) (.cons (.tmp (x := (e_bool t2)) rfl) (.nil)) (RetOK.one0 (.pure rfl) (by decide)) rfl rfl)
     ·intro N14 hN14
      refine LWP.region (l := [_,_,_,_,_,_,_,_,_,_,_,_,_,_,_]) ?_
      refine LWo.fieldAddr _ u_impl_Value rfl s_int rfl rfl (hn := ?_)
      refine LWo.load1 (c := (e_int a0.N)) g_int rfl (hn := ?_)
      refine LWo.int _ rfl rfl rfl (hn := ?_)
      refine LWo.move (e_bool (a0.N == (0 : Int))) rfl (hn := ?_)
      refine LWo.byCases (t := 25) _ rfl (fun h15 => ?_) (fun h15 => ?_)
      ·have h := bT h15 h
       refine LWo.guardY (t := 25) rfl h15 rfl rfl ?_
       refine LWo.fieldAddr _ u_impl_Value rfl s_string rfl rfl (hn := ?_)
       refine LWo.guardY (t := 25) rfl h15 rfl rfl ?_
       refine LWo.load1 (c := (e_string a0.S)) g_string rfl (hn := ?_)
       refine LWo.guardY (t := 25) rfl h15 rfl rfl ?_
       refine LWo.lenS u_string rfl (hn := ?_)
       refine LWo.guardY (t := 25) rfl h15 rfl rfl ?_
       refine LWo.int _ rfl rfl rfl (hn := ?_)
       refine LWo.pickTM (e_bool (decide ((a0.S.size : Int) ≤ (6 : Int)))) rfl h15 rfl (hn := ?_)
       refine LWo.move (e_bool (decide ((a0.S.size : Int) ≤ (6 : Int)))) rfl (hn := ?_)
       refine LWo.byCases (t := 31) _ rfl (fun h16 => ?_) (fun h16 => ?_)
       ·have h := bT h16 h
        refine LWo.guardY (t := 31) rfl h16 rfl rfl ?_
        refine LWo.fieldAddr _ u_impl_Value rfl s_string rfl rfl (hn := ?_)
        refine LWo.guardY (t := 31) rfl h16 rfl rfl ?_
        refine LWo.load1 (c := (e_string a0.S)) g_string rfl (hn := ?_)
        refine bk h fun x17 e17 h => ?_
        refine LWo.guardY (t := 31) rfl h16 rfl rfl ?_
        refine LWo.vcall rfl rfl (c_impl_letters _ _ e17) (.same (.nil)) (hn := ?_)
        refine LWo.pickTM (e_bool x17) rfl h16 rfl (hn := ?_)
        refine LWo.assign (e_bool x17) rfl (hn := ?_)
        refine LWo.nil (hN14 x17 _ ⟨rfl, trivial⟩ trivial h)
       ·have h := bF h16 h
        refine LWo.guardNU (t := 31) rfl h16 rfl rfl rfl rfl rfl ?_
        refine LWo.guardNU (t := 31) rfl h16 rfl rfl rfl rfl rfl ?_
        refine LWo.guardNU (t := 31) rfl h16 rfl rfl rfl rfl rfl ?_
        refine LWo.pickFM (e_bool false) rfl h16 rfl (hn := ?_)
        refine LWo.assign (e_bool false) rfl (hn := ?_)
        refine LWo.nil (hN14 false _ ⟨rfl, trivial⟩ trivial h)
      ·have h := bF h15 h
       refine LWo.guardNU (t := 25) rfl h15 rfl rfl rfl rfl rfl ?_
       refine LWo.guardNU (t := 25) rfl h15 rfl rfl rfl rfl rfl ?_
       refine LWo.guardNU (t := 25) rfl h15 rfl rfl rfl rfl rfl ?_
       refine LWo.guardNU (t := 25) rfl h15 rfl rfl rfl rfl rfl ?_
       refine LWo.pickFM (e_bool false) rfl h15 rfl (hn := ?_)
       refine LWo.move (e_bool false) rfl (hn := ?_)
       refine LWo.guardNU (t := 31) rfl rfl rfl rfl rfl rfl rfl ?_
       refine LWo.guardNU (t := 31) rfl rfl rfl rfl rfl rfl rfl ?_
       refine LWo.guardNU (t := 31) rfl rfl rfl rfl rfl rfl rfl ?_
       refine LWo.pickFM (e_bool false) rfl rfl rfl (hn := ?_)
       refine LWo.assign (e_bool false) rfl (hn := ?_)
       refine LWo.nil (hN14 false _ ⟨rfl, trivial⟩ trivial h)
    ·have h := bF h13 h
     refine LWP.seq_k fun N18 hN18 => ?_
     refine LWP.region (l := [_,_]) ?_
     refine LWo.int _ rfl rfl rfl (hn := ?_)
     refine LWo.assign (e_bool (a0.Kind == (3 : Int))) rfl (hn := ?_)
     refine LWo.nil (hN18 _ ?_)
     refine LWP.cond_split rfl (fun h19 => ?_) (fun h19 => ?_)
     ·have h := bT h19 h
      refine LWP.join (α := Bool) (fun z : Bool => [(2, (e_bool z))]) (fun z : Bool => []) (fun z : Bool => m_impl_Value_ok_j3  z) r (fun _ => by simp [hkeys]) ?_ ?_
      ·rintro t2 h
       replace h : m_impl_Value_ok_j3  t2 = some _ := h
       obtain rfl := Option.some.inj h
       refine LWP.ret (QG.mk (.inr rfl) (.cons (.tmp (x := (e_bool t2)) rfl) (.nil)) (RetOK.one0 (.pure rfl) (by decide)) rfl rfl)
      ·intro N20 hN20
       refine LWP.region (l := [_,_,_,_,_,_,_,_,_]) ?_
       refine LWo.fieldAddr _ u_impl_Value rfl s_string rfl rfl (hn := ?_)
       refine LWo.load1 (c := (e_string a0.S)) g_string rfl (hn := ?_)
       refine LWo.str _ rfl rfl rfl (hn := ?_)
       refine LWo.move (e_bool (sEq a0.S (⟨#[]⟩ : ByteArray))) rfl (hn := ?_)
       refine LWo.byCases (t := 41) _ rfl (fun h21 => ?_) (fun h21 => ?_)
       ·have h := bT h21 h
        refine LWo.guardY (t := 41) rfl h21 rfl rfl ?_
        refine LWo.fieldAddr _ u_impl_Value rfl s_int rfl rfl (hn := ?_)
        refine LWo.guardY (t := 41) rfl h21 rfl rfl ?_
        refine LWo.load1 (c := (e_int a0.N)) g_int rfl (hn := ?_)
        refine bk h fun x22 e22 h => ?_
        refine LWo.guardY (t := 41) rfl h21 rfl rfl ?_
        refine LWo.vcall rfl rfl (c_impl_between _ _ _ _ e22) (.same (.same (.same (.nil)))) (hn := ?_)
        refine LWo.pickTM (e_bool x22) rfl h21 rfl (hn := ?_)
        refine LWo.assign (e_bool x22) rfl (hn := ?_)
        refine LWo.nil (hN20 x22 _ ⟨rfl, trivial⟩ trivial h)
       ·have h := bF h21 h
        refine LWo.guardNU (t := 41) rfl h21 rfl rfl rfl rfl rfl ?_
        refine LWo.guardNU (t := 41) rfl h21 rfl rfl rfl rfl rfl ?_
        refine LWo.guardNU (t := 41) rfl h21 rfl rfl rfl rfl rfl ?_
        refine LWo.pickFM (e_bool false) rfl h21 rfl (hn := ?_)
        refine LWo.assign (e_bool false) rfl (hn := ?_)
        refine LWo.nil (hN20 false _ ⟨rfl, trivial⟩ trivial h)
     ·have h := bF h19 h
      refine LWP.skip (hN2 _ ?_)
      refine LWP.seq_k fun N23 hN23 => ?_
      refine LWP.region (l := [_]) ?_
      refine LWo.assign (e_bool false) rfl (hn := ?_)
      refine LWo.nil (hN23 _ ?_)
      obtain rfl := Option.some.inj h
      refine LWP.ret (QG.mk (.inr rfl) (.cons (.tmp (x := (e_bool false)) rfl) (.nil)) (RetOK.one0 (.pure rfl) (by decide)) rfl rfl)

def m_impl_RowOk_1 (a0 : S_impl_Value) : Option Bool :=
  (m_impl_Value_ok a0).bind fun x3 =>
  some (!x3)
theorem c_impl_RowOk_1 (a0 : S_impl_Value) (r : Bool) (h : m_impl_RowOk_1 a0 = some r) : Ret Try.prog f_impl_RowOk_1 [e_impl_Value a0] (e_bool r) := by
  refine Does.goG [] F_impl_RowOk_1 rfl e_impl_RowOk_1 n_impl_RowOk_1 rfl (rvs := [.tmp 2]) rfl rfl ?_
  intro w0 ok0 lent ρ0
  refine LWP.seq_k fun N1 hN1 => ?_
  refine LWP.region (l := [_,_]) ?_
  refine LWo.boxF (e_impl_Value a0) rfl rfl rfl (hn := ?_)
  refine LWo.assign (e_bool false) rfl (hn := ?_)
  refine LWo.nil (hN1 _ ?_)
  refine LWP.seq_k fun N2 hN2 => ?_
  refine LWP.region (l := [_,_,_,_]) ?_
  refine LWo.loadN ((e_impl_Value a0)).cells g_impl_Value s_impl_Value rfl (Nat.le_of_ble_eq_true rfl) rfl (hn := ?_)
  refine bk h fun x3 e3 h => ?_
  refine LWo.vcall rfl rfl (c_impl_Value_ok _ _ e3) (.same (.nil)) (hn := ?_)
  refine LWo.not rfl (hn := ?_)
  refine LWo.assign (e_bool (!x3)) rfl (hn := ?_)
  refine LWo.nil (hN2 _ ?_)
  obtain rfl := Option.some.inj h
  refine LWP.ret (QG.mk (.inr rfl) (.cons (.tmp (x := (e_bool (!x3))) rfl) (.nil)) (RetOK.one0 (.pure rfl) (by decide)) rfl rfl)

def m_impl_RowOk_j1 (t2 : Bool) : Option Bool :=
  some t2
def m_impl_RowOk (a0 : (List S_impl_Value)) : Option Bool :=
  bif decide ((a0.length : Int) ≤ (4 : Int)) then ((m_slices_ContainsFunc_Limpl_Value_impl_Value a0 (fun b0_ => m_impl_RowOk_1 b0_ )).bind fun x4 =>
    m_impl_RowOk_j1  (!x4))
  else (m_impl_RowOk_j1  false)
theorem c_impl_RowOk (a0 : (List S_impl_Value)) (r : Bool) (h : m_impl_RowOk a0 = some r) : Ret Try.prog f_impl_RowOk [e_Limpl_Value a0] (e_bool r) := by
  refine Does.goG [] F_impl_RowOk rfl e_impl_RowOk n_impl_RowOk rfl (rvs := [.tmp 2]) rfl rfl ?_
  intro w0 ok0 lent ρ0
  refine LWP.seq_k fun N1 hN1 => ?_
  refine LWP.region (l := [_]) ?_
  refine LWo.assign (e_bool false) rfl (hn := ?_)
  refine LWo.nil (hN1 _ ?_)
  refine LWP.join (α := Bool) (fun z : Bool => [(2, (e_bool z))]) (fun z : Bool => []) (fun z : Bool => m_impl_RowOk_j1  z) r (fun _ => by simp [hkeys]) ?_ ?_
  ·rintro t2 h
   replace h : m_impl_RowOk_j1  t2 = some _ := h
   obtain rfl := Option.some.inj h
   refine LWP.ret (QG.mk (.inr rfl) (.cons (.tmp (x := (e_bool t2)) rfl) (.nil)) (RetOK.one0 (.pure rfl) (by decide)) rfl rfl)
  ·intro N2 hN2
   refine LWP.region (l := [_,_,_,_,_,_,_,_,_]) ?_
   refine LWo.move (e_Limpl_Value a0) rfl (hn := ?_)
   refine LWo.lenM (f := e_impl_Value) (l := a0) u_Limpl_Value rfl (hn := ?_)
   refine LWo.int _ rfl rfl rfl (hn := ?_)
   refine LWo.move (e_bool (decide ((a0.length : Int) ≤ (4 : Int)))) rfl (hn := ?_)
   refine LWo.byCases (t := 6) _ rfl (fun h3 => ?_) (fun h3 => ?_)
   ·have h := bT h3 h
    refine LWo.guardY (t := 6) rfl h3 rfl rfl ?_
    refine LWo.move (e_Limpl_Value a0) rfl (hn := ?_)
    refine bk h fun x4 e4 h => ?_
    refine LWo.guardY (t := 6) rfl h3 rfl rfl ?_
    refine LWo.vcall rfl rfl (c_slices_ContainsFunc_Limpl_Value_impl_Value _ _ f_impl_RowOk_1 [] (fun _ => rfl) (fun b0_ v hv => c_impl_RowOk_1 b0_  v hv) _ e4) (.same (.same (.nil))) (hn := ?_)
    refine LWo.guardY (t := 6) rfl h3 rfl rfl ?_
    refine LWo.not rfl (hn := ?_)
    refine LWo.pickTM (e_bool (!x4)) rfl h3 rfl (hn := ?_)
    refine LWo.assign (e_bool (!x4)) rfl (hn := ?_)
    refine LWo.nil (hN2 (!x4) _ ⟨rfl, trivial⟩ trivial h)
   ·have h := bF h3 h
    refine LWo.guardNU (t := 6) rfl h3 rfl rfl rfl rfl rfl ?_
    refine LWo.guardNU (t := 6) rfl h3 rfl rfl rfl rfl rfl ?_
    refine LWo.guardNU (t := 6) rfl h3 rfl rfl rfl rfl rfl ?_
    refine LWo.pickFM (e_bool false) rfl h3 rfl (hn := ?_)
    refine LWo.assign (e_bool false) rfl (hn := ?_)
    refine LWo.nil (hN2 false _ ⟨rfl, trivial⟩ trivial h)

def m_impl_allOk_1 (a0 : (List S_impl_Value)) : Option Bool :=
  (m_impl_RowOk a0).bind fun x3 =>
  some (!x3)
theorem c_impl_allOk_1 (a0 : (List S_impl_Value)) (r : Bool) (h : m_impl_allOk_1 a0 = some r) : Ret Try.prog f_impl_allOk_1 [e_Limpl_Value a0] (e_bool r) := by
  refine Does.goG [] F_impl_allOk_1 rfl e_impl_allOk_1 n_impl_allOk_1 rfl (rvs := [.tmp 2]) rfl rfl ?_
  intro w0 ok0 lent ρ0
  refine LWP.seq_k fun N1 hN1 => ?_
  refine LWP.region (l := [_]) ?_
  refine LWo.assign (e_bool false) rfl (hn := ?_)
  refine LWo.nil (hN1 _ ?_)
  refine LWP.seq_k fun N2 hN2 => ?_
  refine LWP.region (l := [_,_,_,_]) ?_
  refine LWo.move (e_Limpl_Value a0) rfl (hn := ?_)
  refine bk h fun x3 e3 h => ?_
  refine LWo.vcall rfl rfl (c_impl_RowOk _ _ e3) (.same (.nil)) (hn := ?_)
  refine LWo.not rfl (hn := ?_)
  refine LWo.assign (e_bool (!x3)) rfl (hn := ?_)
  refine LWo.nil (hN2 _ ?_)
  obtain rfl := Option.some.inj h
  refine LWP.ret (QG.mk (.inr rfl) (.cons (.tmp (x := (e_bool (!x3))) rfl) (.nil)) (RetOK.one0 (.pure rfl) (by decide)) rfl rfl)

def m_impl_allOk (a0 : (List (List S_impl_Value))) : Option Bool :=
  (m_slices_ContainsFunc_LLimpl_Value_Limpl_Value a0 (fun b0_ => m_impl_allOk_1 b0_ )).bind fun x3 =>
  some (!x3)
theorem c_impl_allOk (a0 : (List (List S_impl_Value))) (r : Bool) (h : m_impl_allOk a0 = some r) : Ret Try.prog f_impl_allOk [e_LLimpl_Value a0] (e_bool r) := by
  refine Does.goG [] F_impl_allOk rfl e_impl_allOk n_impl_allOk rfl (rvs := [.tmp 2]) rfl rfl ?_
  intro w0 ok0 lent ρ0
  refine LWP.seq_k fun N1 hN1 => ?_
  refine LWP.region (l := [_]) ?_
  refine LWo.assign (e_bool false) rfl (hn := ?_)
  refine LWo.nil (hN1 _ ?_)
  refine LWP.seq_k fun N2 hN2 => ?_
  refine LWP.region (l := [_,_,_,_]) ?_
  refine LWo.move (e_LLimpl_Value a0) rfl (hn := ?_)
  refine bk h fun x3 e3 h => ?_
  refine LWo.vcall rfl rfl (c_slices_ContainsFunc_LLimpl_Value_Limpl_Value _ _ f_impl_allOk_1 [] (fun _ => rfl) (fun b0_ v hv => c_impl_allOk_1 b0_  v hv) _ e3) (.same (.same (.nil))) (hn := ?_)
  refine LWo.not rfl (hn := ?_)
  refine LWo.assign (e_bool (!x3)) rfl (hn := ?_)
  refine LWo.nil (hN2 _ ?_)
  obtain rfl := Option.some.inj h
  refine LWP.ret (QG.mk (.inr rfl) (.cons (.tmp (x := (e_bool (!x3))) rfl) (.nil)) (RetOK.one0 (.pure rfl) (by decide)) rfl rfl)

def m_slices_IndexFunc_Limpl_Delta_impl_Delta_j1 (p1 : S_impl_Delta → Option Bool)  : Option Int :=
  some (-1 : Int)
def m_slices_IndexFunc_Limpl_Delta_impl_Delta_l1 (p1 : S_impl_Delta → Option Bool) : Nat → (List S_impl_Delta) → Int → Int → Option Int
  | 0, _, _, _ => none
  | n1 + 1, t0, t7, t8 =>
    bif decide (t8 < t7) then ((at? t0 t8).bind fun x12 =>
    (p1 x12).bind fun x13 =>
    bif x13 then (some t8)
    else ((ckI (t8 + (1 : Int))).bind fun x16 =>
    (m_slices_IndexFunc_Limpl_Delta_impl_Delta_l1 p1 n1) t0 t7 x16))
    else (m_slices_IndexFunc_Limpl_Delta_impl_Delta_j1 p1 )
def m_slices_IndexFunc_Limpl_Delta_impl_Delta (a0 : (List S_impl_Delta)) (p1 : S_impl_Delta → Option Bool) : Option Int :=
  m_slices_IndexFunc_Limpl_Delta_impl_Delta_l1 p1 (((a0.length : Int) - (0 : Int)).toNat + 1) a0 (a0.length : Int) (0 : Int)
theorem c_slices_IndexFunc_Limpl_Delta_impl_Delta (a0 : (List S_impl_Delta)) (p1 : S_impl_Delta → Option Bool) (f1 : FuncId) (q1 : List LV) (hq1 : ∀ k, LV.at?.atL k q1 = false) (hf1 : ∀ a0 v, p1 a0 = some v → Ret Try.prog f1 (e_impl_Delta a0 :: q1) (e_bool v)) (r : Int) (h : m_slices_IndexFunc_Limpl_Delta_impl_Delta a0 p1 = some r) : Ret Try.prog f_slices_IndexFunc_Limpl_Delta_impl_Delta [e_Limpl_Delta a0, .clo f1 q1] (e_int r) := by
  refine Does.goG [] F_slices_IndexFunc_Limpl_Delta_impl_Delta rfl e_slices_IndexFunc_Limpl_Delta_impl_Delta n_slices_IndexFunc_Limpl_Delta_impl_Delta rfl (rvs := [.tmp 4]) rfl rfl ?_
  intro w0 ok0 lent ρ0
  refine LWP.seq_k fun N1 hN1 => ?_
  refine LWP.region (l := [_]) ?_
  refine LWo.assign (e_int (0 : Int)) rfl (hn := ?_)
  refine LWo.nil (hN1 _ ?_)
  refine LWP.join (α := Unit) (fun z : Unit => []) (fun z : Unit => []) (fun z : Unit => m_slices_IndexFunc_Limpl_Delta_impl_Delta_j1 p1 ) r (fun _ => by simp [hkeys]) ?_ ?_
  ·rintro _ h
   replace h : m_slices_IndexFunc_Limpl_Delta_impl_Delta_j1 p1  = some _ := h
   refine LWP.seq_k fun N17 hN17 => ?_
   refine LWP.region (l := [_]) ?_
   refine LWo.assign (e_int (-1 : Int)) rfl (hn := ?_)
   refine LWo.nil (hN17 _ ?_)
   obtain rfl := Option.some.inj h
   refine LWP.ret (QG.mk (.inr rfl) (.cons (.tmp (x := (e_int (-1 : Int))) rfl) (.nil)) (RetOK.one0 (.pure rfl) (by decide)) rfl rfl)
  ·intro N2 hN2
   refine LWP.seq_k fun N3 hN3 => ?_
   refine LWP.region (l := [_,_,_]) ?_
   refine LWo.move (e_Limpl_Delta a0) rfl (hn := ?_)
   refine LWo.lenM (f := e_impl_Delta) (l := a0) u_Limpl_Delta rfl (hn := ?_)
   refine LWo.move (e_int (0 : Int)) rfl (hn := ?_)
   refine LWo.nil (hN3 _ ?_)
   refine LWP.block ?_
   refine LWP.loopM (α := (List S_impl_Delta) × Int × Int) (fun z : (List S_impl_Delta) × Int × Int => [(0, (e_Limpl_Delta z.1)), (1, (.clo f1 q1)), (7, (e_int z.2.1)), (8, (e_int z.2.2))]) (fun z : (List S_impl_Delta) × Int × Int => []) (fun n1 (z : (List S_impl_Delta) × Int × Int) => m_slices_IndexFunc_Limpl_Delta_impl_Delta_l1 p1 n1 z.1 z.2.1 z.2.2) r _ (a0, (a0.length : Int), (0 : Int)) h (fun _ => rfl) (fun _ => by simp [hkeys]) ⟨rfl, rfl, rfl, rfl, trivial⟩ trivial ?_
   rintro n1 ⟨t0, t7, t8⟩ h N4 hN4
   replace h : m_slices_IndexFunc_Limpl_Delta_impl_Delta_l1 p1 (n1 + 1) t0 t7 t8 = some _ := h
   refine LWP.seq_k fun N6 hN6 => ?_
   refine LWP.region (l := [_]) ?_
   refine LWo.int _ rfl rfl rfl (hn := ?_)
   refine LWo.nil (hN6 _ ?_)
   refine LWP.seq_k fun N7 hN7 => ?_
   refine LWP.cond_split rfl (fun h8 => ?_) (fun h8 => ?_)
   ·have h := bT h8 h
    refine LWP.skip (hN7 _ ?_)
    refine LWP.seq_k fun N9 hN9 => ?_
    refine LWP.block ?_
    refine LWP.seq_k fun N10 hN10 => ?_
    refine LWP.region (l := [_,_]) ?_
    refine LWo.move (e_int t8) rfl (hn := ?_)
    refine LWo.assign (e_int t8) rfl (hn := ?_)
    refine LWo.nil (hN10 _ ?_)
    refine LWP.seq_k fun N11 hN11 => ?_
    refine LWP.region (l := [_,_,_,_,_,_]) ?_
    refine LWo.move (.clo f1 q1) rfl (hn := ?_)
    refine LWo.move (e_Limpl_Delta t0) rfl (hn := ?_)
    refine LWo.move (e_int t8) rfl (hn := ?_)
    refine bk h fun x12 e12 h => ?_
    refine LWo.indexM (f := e_impl_Delta) e12 u_Limpl_Delta s_impl_Delta rfl rfl (hn := ?_)
    refine LWo.loadN ((e_impl_Delta x12)).cells g_impl_Delta s_impl_Delta rfl (Nat.le_of_ble_eq_true rfl) rfl (hn := ?_)
    refine bk h fun x13 e13 h => ?_
    refine LWo.vcall rfl rfl (hf1 _ _ e13) .refl (hn := ?_)
    refine LWo.nil (hN11 _ ?_)
    refine LWP.cond_split rfl (fun h14 => ?_) (fun h14 => ?_)
    ·have h := bT h14 h
     refine LWP.seq_k fun N15 hN15 => ?_
     refine LWP.region (l := [_,_]) ?_
     refine LWo.move (e_int t8) rfl (hn := ?_)
     refine LWo.assign (e_int t8) rfl (hn := ?_)
     refine LWo.nil (hN15 _ ?_)
     obtain rfl := Option.some.inj h
     refine LWP.ret (QG.mk (.inr rfl) (.cons (.tmp (x := (e_int t8)) rfl) (.nil)) (RetOK.one0 (.pure rfl) (by decide)) rfl rfl)
    ·have h := bF h14 h
     refine LWP.skip (hN9 _ ?_)
     refine LWP.region (l := [_,_]) ?_
     refine bk h fun x16 e16 h => ?_
     refine LWo.int _ rfl rfl (add_ck e16) (hn := ?_)
     refine LWo.move (e_int x16) rfl (hn := ?_)
     refine LWo.nil (hN4 (t0, t7, x16) _ ⟨rfl, rfl, rfl, rfl, trivial⟩ trivial h)
   ·have h := bF h8 h
    refine LWP.exit (hN2 () _ trivial trivial h)

def m_slices_ContainsFunc_Limpl_Delta_impl_Delta (a0 : (List S_impl_Delta)) (p1 : S_impl_Delta → Option Bool) : Option Bool :=
  (m_slices_IndexFunc_Limpl_Delta_impl_Delta a0 p1).bind fun x3 =>
  some (decide (x3 ≥ (0 : Int)))
theorem c_slices_ContainsFunc_Limpl_Delta_impl_Delta (a0 : (List S_impl_Delta)) (p1 : S_impl_Delta → Option Bool) (f1 : FuncId) (q1 : List LV) (hq1 : ∀ k, LV.at?.atL k q1 = false) (hf1 : ∀ a0 v, p1 a0 = some v → Ret Try.prog f1 (e_impl_Delta a0 :: q1) (e_bool v)) (r : Bool) (h : m_slices_ContainsFunc_Limpl_Delta_impl_Delta a0 p1 = some r) : Ret Try.prog f_slices_ContainsFunc_Limpl_Delta_impl_Delta [e_Limpl_Delta a0, .clo f1 q1] (e_bool r) := by
  refine Does.goG [] F_slices_ContainsFunc_Limpl_Delta_impl_Delta rfl e_slices_ContainsFunc_Limpl_Delta_impl_Delta n_slices_ContainsFunc_Limpl_Delta_impl_Delta rfl (rvs := [.tmp 4]) rfl rfl ?_
  intro w0 ok0 lent ρ0
  refine LWP.seq_k fun N1 hN1 => ?_
  refine LWP.region (l := [_]) ?_
  refine LWo.assign (e_bool false) rfl (hn := ?_)
  refine LWo.nil (hN1 _ ?_)
  refine LWP.seq_k fun N2 hN2 => ?_
  refine LWP.region (l := [_,_,_,_,_]) ?_
  refine LWo.move (e_Limpl_Delta a0) rfl (hn := ?_)
  refine LWo.move (.clo f1 q1) rfl (hn := ?_)
  refine bk h fun x3 e3 h => ?_
  refine LWo.vcall rfl rfl (c_slices_IndexFunc_Limpl_Delta_impl_Delta _ _ f1 q1 hq1 hf1 _ e3) (.same (.same (.nil))) (hn := ?_)
  refine LWo.int _ rfl rfl rfl (hn := ?_)
  refine LWo.assign (e_bool (decide (x3 ≥ (0 : Int)))) rfl (hn := ?_)
  refine LWo.nil (hN2 _ ?_)
  obtain rfl := Option.some.inj h
  refine LWP.ret (QG.mk (.inr rfl) (.cons (.tmp (x := (e_bool (decide (x3 ≥ (0 : Int))))) rfl) (.nil)) (RetOK.one0 (.pure rfl) (by decide)) rfl rfl)

def m_impl_DeltaRows_1_j1 (t2 : Bool) : Option Bool :=
  some t2
def m_impl_DeltaRows_1 (a0 : S_impl_Delta) : Option Bool :=
  (m_impl_RowOk a0.Row).bind fun x3 =>
  bif (!x3) then (m_impl_DeltaRows_1_j1  true)
  else ((m_impl_between a0.Many (-100 : Int) (100 : Int)).bind fun x5 =>
    m_impl_DeltaRows_1_j1  (!x5))
theorem c_impl_DeltaRows_1 (a0 : S_impl_Delta) (r : Bool) (h : m_impl_DeltaRows_1 a0 = some r) : Ret Try.prog f_impl_DeltaRows_1 [e_impl_Delta a0] (e_bool r) := by
  refine Does.goG [] F_impl_DeltaRows_1 rfl e_impl_DeltaRows_1 n_impl_DeltaRows_1 rfl (rvs := [.tmp 2]) rfl rfl ?_
  intro w0 ok0 lent ρ0
  refine LWP.seq_k fun N1 hN1 => ?_
  refine LWP.region (l := [_,_]) ?_
  refine LWo.boxF (e_impl_Delta a0) rfl rfl rfl (hn := ?_)
  refine LWo.assign (e_bool false) rfl (hn := ?_)
  refine LWo.nil (hN1 _ ?_)
  refine LWP.join (α := Bool) (fun z : Bool => [(2, (e_bool z))]) (fun z : Bool => []) (fun z : Bool => m_impl_DeltaRows_1_j1  z) r (fun _ => by simp [hkeys]) ?_ ?_
  ·rintro t2 h
   replace h : m_impl_DeltaRows_1_j1  t2 = some _ := h
   obtain rfl := Option.some.inj h
   refine LWP.ret (QG.mk (.inr rfl) (.cons (.tmp (x := (e_bool t2)) rfl) (.nil)) (RetOK.one0 (.pure rfl) (by decide)) rfl rfl)
  ·intro N2 hN2
   refine LWP.region (l := [_,_,_,_,_,_,_,_,_,_,_]) ?_
   refine LWo.fieldAddr _ u_impl_Delta rfl s_Limpl_Value rfl rfl (hn := ?_)
   refine LWo.load1 (c := (e_Limpl_Value a0.Row)) g_Limpl_Value rfl (hn := ?_)
   refine bk h fun x3 e3 h => ?_
   refine LWo.vcall rfl rfl (c_impl_RowOk _ _ e3) (.same (.nil)) (hn := ?_)
   refine LWo.not rfl (hn := ?_)
   refine LWo.move (e_bool (!x3)) rfl (hn := ?_)
   refine LWo.byCases (t := 7) _ rfl (fun h4 => ?_) (fun h4 => ?_)
   ·have h := bT h4 h
    refine LWo.guardNU (t := 7) rfl h4 rfl rfl rfl rfl rfl ?_
    refine LWo.guardNU (t := 7) rfl h4 rfl rfl rfl rfl rfl ?_
    refine LWo.guardNU (t := 7) rfl h4 rfl rfl rfl rfl rfl ?_
    refine LWo.guardNU (t := 7) rfl h4 rfl rfl rfl rfl rfl ?_
    refine LWo.pickTM (e_bool true) rfl h4 rfl (hn := ?_)
    refine LWo.assign (e_bool true) rfl (hn := ?_)
    refine LWo.nil (hN2 true _ ⟨rfl, trivial⟩ trivial h)
   ·have h := bF h4 h
    refine LWo.guardY (t := 7) rfl h4 rfl rfl ?_
    refine LWo.fieldAddr _ u_impl_Delta rfl s_int rfl rfl (hn := ?_)
    refine LWo.guardY (t := 7) rfl h4 rfl rfl ?_
    refine LWo.load1 (c := (e_int a0.Many)) g_int rfl (hn := ?_)
    refine bk h fun x5 e5 h => ?_
    refine LWo.guardY (t := 7) rfl h4 rfl rfl ?_
    refine LWo.vcall rfl rfl (c_impl_between _ _ _ _ e5) (.same (.same (.same (.nil)))) (hn := ?_)
    refine LWo.guardY (t := 7) rfl h4 rfl rfl ?_
    refine LWo.not rfl (hn := ?_)
    refine LWo.pickFM (e_bool (!x5)) rfl h4 rfl (hn := ?_)
    refine LWo.assign (e_bool (!x5)) rfl (hn := ?_)
    refine LWo.nil (hN2 (!x5) _ ⟨rfl, trivial⟩ trivial h)

def m_slices_Clone_LLimpl_Value_Limpl_Value (a0 : (List (List S_impl_Value))) : Option (List (List S_impl_Value)) :=
  nilM a0 fun b4 =>
  bif b4 then (some ([] : (List (List S_impl_Value))))
  else ((app? ([] : (List (List S_impl_Value))) a0).bind fun x8 =>
  some x8)
theorem c_slices_Clone_LLimpl_Value_Limpl_Value (a0 : (List (List S_impl_Value))) (r : (List (List S_impl_Value))) (h : m_slices_Clone_LLimpl_Value_Limpl_Value a0 = some r) : Ret Try.prog f_slices_Clone_LLimpl_Value_Limpl_Value [e_LLimpl_Value a0] (.nw 1 (r.map e_Limpl_Value) false) := by
  refine Does.goG [] F_slices_Clone_LLimpl_Value_Limpl_Value rfl e_slices_Clone_LLimpl_Value_Limpl_Value n_slices_Clone_LLimpl_Value_Limpl_Value rfl (rvs := [.tmp 2]) rfl rfl ?_
  intro w0 ok0 lent ρ0
  refine LWP.seq_k fun N1 hN1 => ?_
  refine LWP.region (l := [_]) ?_
  refine LWo.assign _ rfl (hn := ?_)
  refine LWo.ownNil 2 1002 1 rfl rfl rfl ?_
  refine LWo.known 2 (.own 1002 0 ([] : (List (List S_impl_Value))).length) rfl ?_
  refine LWo.nil (hN1 _ ?_)
  refine LWP.seq_k fun N2 hN2 => ?_
  refine LWP.seq_k fun N3 hN3 => ?_
  refine LWP.region (l := [_,_]) ?_
  refine LWo.move (e_LLimpl_Value a0) rfl (hn := ?_)
  refine LWo.nilEq (f := e_Limpl_Value) u_LLimpl_Value rfl rfl (hn := fun b4 e4 => nkb h b4 e4 fun h => ?_)
  refine LWo.nil (hN3 _ ?_)
  refine LWP.cond_split rfl (fun h5 => ?_) (fun h5 => ?_)
  ·have h := bT h5 h
   refine LWP.seq_k fun N6 hN6 => ?_
   refine LWP.region (l := [_]) ?_
   refine LWo.assign _ rfl (hn := ?_)
   refine LWo.ownNil 2 1002 1 rfl rfl rfl ?_
   refine LWo.known 2 (.own 1002 0 ([] : (List (List S_impl_Value))).length) rfl ?_
   refine LWo.nil (hN6 _ ?_)
   obtain rfl := Option.some.inj h
   refine LWP.ret (QG.mk (.inr rfl) (.cons (.tmp (x := (.own 1002 0 (([] : (List (List S_impl_Value)))).length)) rfl) (.nil)) (RetOK.one0 (.nwM rfl rfl) (by decide)) rfl rfl)
  ·have h := bF h5 h
   refine LWP.skip (hN2 _ ?_)
   refine LWP.seq_k fun N7 hN7 => ?_
   refine LWP.region (l := [_,_,_,_]) ?_
   refine LWo.lit0 1005 u_LLimpl_Value s_Limpl_Value z_Limpl_Value (hn := ?_)
   refine LWo.known 5 (.own 1005 0 ([] : (List (List S_impl_Value))).length) rfl ?_
   refine LWo.move (e_LLimpl_Value a0) rfl (hn := ?_)
   refine bk h fun x8 e8 h => ?_
   refine LWo.appendM (f := e_Limpl_Value) e8 rfl u_LLimpl_Value u_LLimpl_Value (fun _ h => by cases h) s_Limpl_Value i_Limpl_Value rfl rfl rfl (.sl rfl) rfl rfl (hn := ?_)
   refine LWo.assign (.own 1005 0 (x8).length) rfl (hn := ?_)
   refine LWo.nil (hN7 _ ?_)
   obtain rfl := Option.some.inj h
   refine LWP.ret (QG.mk (.inr rfl) (.cons (.tmp (x := (.own 1005 0 (x8).length)) rfl) (.nil)) (RetOK.one0 (.nwM rfl rfl) (by decide)) rfl rfl)

def m_slices_Equal_Limpl_Value_impl_Value_j1  : Option Bool :=
  some true
def m_slices_Equal_Limpl_Value_impl_Value_l1 : Nat → (List S_impl_Value) → (List S_impl_Value) → Int → Int → Option Bool
  | 0, _, _, _, _ => none
  | n1 + 1, t0, t1, t12, t13 =>
    bif decide (t13 < t12) then ((at? t0 t13).bind fun x16 =>
    (at? t1 t13).bind fun x17 =>
    bif (!(decide (x16 = x17))) then (some false)
    else ((ckI (t13 + (1 : Int))).bind fun x20 =>
    (m_slices_Equal_Limpl_Value_impl_Value_l1  n1) t0 t1 t12 x20))
    else (m_slices_Equal_Limpl_Value_impl_Value_j1  )
def m_slices_Equal_Limpl_Value_impl_Value (a0 : (List S_impl_Value)) (a1 : (List S_impl_Value)) : Option Bool :=
  bif ((a0.length : Int) != (a1.length : Int)) then (some false)
  else (m_slices_Equal_Limpl_Value_impl_Value_l1  (((a0.length : Int) - (0 : Int)).toNat + 1) a0 a1 (a0.length : Int) (0 : Int))
theorem c_slices_Equal_Limpl_Value_impl_Value (a0 : (List S_impl_Value)) (a1 : (List S_impl_Value)) (r : Bool) (h : m_slices_Equal_Limpl_Value_impl_Value a0 a1 = some r) : Ret Try.prog f_slices_Equal_Limpl_Value_impl_Value [e_Limpl_Value a0, e_Limpl_Value a1] (e_bool r) := by
  refine Does.goG [] F_slices_Equal_Limpl_Value_impl_Value rfl e_slices_Equal_Limpl_Value_impl_Value n_slices_Equal_Limpl_Value_impl_Value rfl (rvs := [.tmp 4]) rfl rfl ?_
  intro w0 ok0 lent ρ0
  refine LWP.seq_k fun N1 hN1 => ?_
  refine LWP.region (l := [_]) ?_
  refine LWo.assign (e_bool false) rfl (hn := ?_)
  refine LWo.nil (hN1 _ ?_)
  refine LWP.seq_k fun N2 hN2 => ?_
  refine LWP.seq_k fun N3 hN3 => ?_
  refine LWP.region (l := [_,_,_,_,_]) ?_
  refine LWo.move (e_Limpl_Value a0) rfl (hn := ?_)
  refine LWo.lenM (f := e_impl_Value) (l := a0) u_Limpl_Value rfl (hn := ?_)
  refine LWo.move (e_Limpl_Value a1) rfl (hn := ?_)
  refine LWo.lenM (f := e_impl_Value) (l := a1) u_Limpl_Value rfl (hn := ?_)
  refine LWo.int _ rfl rfl rfl (hn := ?_)
  refine LWo.nil (hN3 _ ?_)
  refine LWP.cond_split rfl (fun h4 => ?_) (fun h4 => ?_)
  ·have h := bT h4 h
   refine LWP.seq_k fun N5 hN5 => ?_
   refine LWP.region (l := [_]) ?_
   refine LWo.assign (e_bool false) rfl (hn := ?_)
   refine LWo.nil (hN5 _ ?_)
   obtain rfl := Option.some.inj h
   refine LWP.ret (QG.mk (.inr rfl) (.cons (.tmp (x := (e_bool false)) rfl) (.nil)) (RetOK.one0 (.pure rfl) (by decide)) rfl rfl)
  ·have h := bF h4 h
   refine LWP.skip (hN2 _ ?_)
   refine LWP.join (α := Unit) (fun z : Unit => []) (fun z : Unit => []) (fun z : Unit => m_slices_Equal_Limpl_Value_impl_Value_j1  ) r (fun _ => by simp [hkeys]) ?_ ?_
   ·rintro _ h
    replace h : m_slices_Equal_Limpl_Value_impl_Value_j1   = some _ := h
    refine LWP.seq_k fun N21 hN21 => ?_
    refine LWP.region (l := [_]) ?_
    refine LWo.assign (e_bool true) rfl (hn := ?_)
    refine LWo.nil (hN21 _ ?_)
    obtain rfl := Option.some.inj h
    refine LWP.ret (QG.mk (.inr rfl) (.cons (.tmp (x := (e_bool true)) rfl) (.nil)) (RetOK.one0 (.pure rfl) (by decide)) rfl rfl)
   ·intro N6 hN6
    refine LWP.seq_k fun N7 hN7 => ?_
    refine LWP.region (l := [_,_,_]) ?_
    refine LWo.move (e_Limpl_Value a0) rfl (hn := ?_)
    refine LWo.lenM (f := e_impl_Value) (l := a0) u_Limpl_Value rfl (hn := ?_)
    refine LWo.move (e_int (0 : Int)) rfl (hn := ?_)
    refine LWo.nil (hN7 _ ?_)
    refine LWP.block ?_
    refine LWP.loopM (α := (List S_impl_Value) × (List S_impl_Value) × Int × Int) (fun z : (List S_impl_Value) × (List S_impl_Value) × Int × Int => [(0, (e_Limpl_Value z.1)), (1, (e_Limpl_Value z.2.1)), (12, (e_int z.2.2.1)), (13, (e_int z.2.2.2))]) (fun z : (List S_impl_Value) × (List S_impl_Value) × Int × Int => []) (fun n1 (z : (List S_impl_Value) × (List S_impl_Value) × Int × Int) => m_slices_Equal_Limpl_Value_impl_Value_l1  n1 z.1 z.2.1 z.2.2.1 z.2.2.2) r _ (a0, a1, (a0.length : Int), (0 : Int)) h (fun _ => rfl) (fun _ => by simp [hkeys]) ⟨rfl, rfl, rfl, rfl, trivial⟩ trivial ?_
    rintro n1 ⟨t0, t1, t12, t13⟩ h N8 hN8
    replace h : m_slices_Equal_Limpl_Value_impl_Value_l1  (n1 + 1) t0 t1 t12 t13 = some _ := h
    refine LWP.seq_k fun N10 hN10 => ?_
    refine LWP.region (l := [_]) ?_
    refine LWo.int _ rfl rfl rfl (hn := ?_)
    refine LWo.nil (hN10 _ ?_)
    refine LWP.seq_k fun N11 hN11 => ?_
    refine LWP.cond_split rfl (fun h12 => ?_) (fun h12 => ?_)
    ·have h := bT h12 h
     refine LWP.skip (hN11 _ ?_)
     refine LWP.seq_k fun N13 hN13 => ?_
     refine LWP.block ?_
     refine LWP.seq_k fun N14 hN14 => ?_
     refine LWP.region (l := [_,_]) ?_
     refine LWo.move (e_int t13) rfl (hn := ?_)
     refine LWo.assign (e_int t13) rfl (hn := ?_)
     refine LWo.nil (hN14 _ ?_)
     refine LWP.seq_k fun N15 hN15 => ?_
     refine bk h fun x16 e16 h => ?_
     refine bk h fun x17 e17 h => ?_
     refine LWP.drawF (l := [_,_,_,_,_,_,_,_,_]) [] [0, 1, 5, 12, 13] [([0], []), ([5], []), ([16, 17], []), ([18], []), ([1], []), ([5], []), ([20, 21], []), ([22], []), ([19, 23], [])] [0, 1, 12, 13, 24] [] mixed (by kernel_rfl) rfl (by decide) ?_
     refine dq 16 rfl (fun _ g u h => LWo.move (e_Limpl_Value t0) u.1 (hn := .nil (zn g))) ?_
     refine dq 17 rfl (fun _ g u h => LWo.move (e_int t13) u.1 (hn := .nil (zn g))) ?_
     refine dq 18 rfl (fun _ g u h => LWo.indexM (f := e_impl_Value) e16 u_Limpl_Value s_impl_Value u.1 u.2.1 (hn := .nil (zn g))) ?_
     refine dq 19 rfl (fun _ g u h => LWo.loadN ((e_impl_Value x16)).cells g_impl_Value s_impl_Value u.1 (Nat.le_of_ble_eq_true rfl) rfl (hn := .nil (zn g))) ?_
     refine dq 20 rfl (fun _ g u h => LWo.move (e_Limpl_Value t1) u.1 (hn := .nil (zn g))) ?_
     refine dq 21 rfl (fun _ g u h => LWo.move (e_int t13) u.1 (hn := .nil (zn g))) ?_
     refine dq 22 rfl (fun _ g u h => LWo.indexM (f := e_impl_Value) e17 u_Limpl_Value s_impl_Value u.1 u.2.1 (hn := .nil (zn g))) ?_
     refine dq 23 rfl (fun _ g u h => LWo.loadN ((e_impl_Value x17)).cells g_impl_Value s_impl_Value u.1 (Nat.le_of_ble_eq_true rfl) rfl (hn := .nil (zn g))) ?_
     refine dq 24 rfl (fun _ g u h => LWo.ne_impl_Value _ _ u.1 u.2.1 (hn := .nil (zn g))) ?_
     refine ⟨rfl, by kernel_rfl, hN15 _ ?_⟩
     refine LWP.cond_split rfl (fun h18 => ?_) (fun h18 => ?_)
     ·have h := bT h18 h
      refine LWP.seq_k fun N19 hN19 => ?_
      refine LWP.region (l := [_]) ?_
      refine LWo.assign (e_bool false) rfl (hn := ?_)
      refine LWo.nil (hN19 _ ?_)
      obtain rfl := Option.some.inj h
      refine LWP.ret (QG.mk (.inr rfl) (.cons (.tmp (x := (e_bool false)) rfl) (.nil)) (RetOK.one0 (.pure rfl) (by decide)) rfl rfl)
     ·have h := bF h18 h
      refine LWP.skip (hN13 _ ?_)
      refine LWP.region (l := [_,_]) ?_
      refine bk h fun x20 e20 h => ?_
      refine LWo.int _ rfl rfl (add_ck e20) (hn := ?_)
      refine LWo.move (e_int x20) rfl (hn := ?_)
      refine LWo.nil (hN8 (t0, t1, t12, x20) _ ⟨rfl, rfl, rfl, rfl, trivial⟩ trivial h)
    ·have h := bF h12 h
     refine LWP.exit (hN6 () _ trivial trivial h)

def m_impl_afterDeltas_1 (a0 : (List S_impl_Value)) (a1 : S_impl_Delta) : Option Bool :=
  (m_slices_Equal_Limpl_Value_impl_Value a0 a1.Row).bind fun x3 =>
  some x3
theorem c_impl_afterDeltas_1 (a0 : (List S_impl_Value)) (a1 : S_impl_Delta) (r : Bool) (h : m_impl_afterDeltas_1 a0 a1 = some r) : Ret Try.prog f_impl_afterDeltas_1 [e_Limpl_Value a0, .fp (e_impl_Delta a1).cells] (e_bool r) := by
  refine Does.goG [] F_impl_afterDeltas_1 rfl e_impl_afterDeltas_1 n_impl_afterDeltas_1 rfl (rvs := [.tmp 3]) rfl rfl ?_
  intro w0 ok0 lent ρ0
  refine LWP.seq_k fun N1 hN1 => ?_
  refine LWP.region (l := [_]) ?_
  refine LWo.assign (e_bool false) rfl (hn := ?_)
  refine LWo.nil (hN1 _ ?_)
  refine LWP.seq_k fun N2 hN2 => ?_
  refine LWP.region (l := [_,_,_,_,_]) ?_
  refine LWo.move (e_Limpl_Value a0) rfl (hn := ?_)
  refine LWo.fieldAddr _ u_impl_Delta rfl s_Limpl_Value rfl rfl (hn := ?_)
  refine LWo.load1 (c := (e_Limpl_Value a1.Row)) g_Limpl_Value rfl (hn := ?_)
  refine bk h fun x3 e3 h => ?_
  refine LWo.vcall rfl rfl (c_slices_Equal_Limpl_Value_impl_Value _ _ _ e3) (.same (.same (.nil))) (hn := ?_)
  refine LWo.assign (e_bool x3) rfl (hn := ?_)
  refine LWo.nil (hN2 _ ?_)
  obtain rfl := Option.some.inj h
  refine LWP.ret (QG.mk (.inr rfl) (.cons (.tmp (x := (e_bool x3)) rfl) (.nil)) (RetOK.one0 (.pure rfl) (by decide)) rfl rfl)

def m_slices_Delete_LLimpl_Value_Limpl_Value (o0 : List (List S_impl_Value)) (a1 a2 : Int) : Option (List (List S_impl_Value)) := if 0 ≤ a1 ∧ a1 ≤ a2 ∧ a2 ≤ o0.length ∧ o0.length ≤ 1000000000 then some (o0.take a1.toNat ++ o0.drop a2.toNat) else none
theorem c_slices_Delete_LLimpl_Value_Limpl_Value (o0 : List (List S_impl_Value)) (a1 a2 : Int) (r : List (List S_impl_Value)) (h : m_slices_Delete_LLimpl_Value_Limpl_Value o0 a1 a2 = some r) : Does Try.prog f_slices_Delete_LLimpl_Value_Limpl_Value [.own 0 0 o0.length, e_int a1, e_int a2] [(0, lob 1 e_Limpl_Value o0)] (fun x hh => x = .nw 1 (r.map e_Limpl_Value) false ∧ hh = []) := by
  unfold m_slices_Delete_LLimpl_Value_Limpl_Value at h
  split at h
  · rename_i h1
    cases h
    obtain ⟨i, rfl⟩ : ∃ i : Nat, a1 = i := ⟨a1.toNat, by omega⟩
    obtain ⟨j, rfl⟩ : ∃ j : Nat, a2 = j := ⟨a2.toNat, by omega⟩
    simp only [Int.toNat_natCast]
    refine Does.goG [0] F_slices_Delete_LLimpl_Value_Limpl_Value rfl e_slices_Delete_LLimpl_Value_Limpl_Value n_slices_Delete_LLimpl_Value_Limpl_Value rfl (rvs := [.tmp 6]) rfl rfl ?_
    intro w0 ok0 lent ρ0
    refine LWP.rekey 0 0 1000 rfl rfl rfl rfl rfl rfl ?_
    refine LWP.tell [(0, .own 1000 0 o0.length), (1, e_int i), (2, e_int j)] [(1000, lob 1 e_Limpl_Value o0)] ⟨rfl, rfl, rfl, trivial⟩ ⟨rfl, trivial⟩ (by simp [hkeys]) ?_
    refine LWP.seq_k fun N1 hN1 => ?_
    refine LWP.region (l := [_]) ?_
    refine LWo.assign _ rfl (hn := ?_)
    refine LWo.nil (hN1 _ ?_)
    refine LWP.seq_k fun N2 hN2 => ?_
    refine LWP.region (l := [_,_,_,_,_,_]) ?_
    refine LWo.move (.own 1000 0 o0.length) rfl (hn := ?_)
    refine LWo.move (e_int i) rfl (hn := ?_)
    refine LWo.move (e_int j) rfl (hn := ?_)
    refine LWo.move (.own 1000 0 o0.length) rfl (hn := ?_)
    refine LWo.lenO u_LLimpl_Value rfl (hn := ?_)
    refine LWo.cutOM3 (f := e_Limpl_Value) (l := o0) (lo := (i : Int)) (hi := (j : Int)) (rng_of (by omega)) u_LLimpl_Value s_Limpl_Value rfl rfl ⟨_, rfl⟩ rfl rfl (hn := ?_)
    refine LWo.nil (hN2 _ ?_)
    refine LWP.seq_k fun N4 hN4 => ?_
    refine LWP.seq_k fun N5 hN5 => ?_
    refine LWP.region (l := [_,_,_]) ?_
    refine LWo.move (e_int i) rfl (hn := ?_)
    refine LWo.move (e_int j) rfl (hn := ?_)
    refine LWo.int (.bool ((i : Int) == (j : Int))) rfl rfl rfl (hn := ?_)
    refine LWo.nil (hN5 _ ?_)
    refine LWP.cond_split rfl (fun h6 => ?_) (fun h6 => ?_)
    · refine LWP.seq_k fun N7 hN7 => ?_
      refine LWP.region (l := [_,_]) ?_
      refine LWo.move (.own 1000 0 o0.length) rfl (hn := ?_)
      refine LWo.assign (.own 1000 0 o0.length) rfl (hn := ?_)
      refine LWo.nil (hN7 _ ?_)
      have hij : i = j := by simp at h6; omega
      subst hij
      refine LWP.ret (QG.mk (.inr rfl) (.cons (.tmp (x := .own 1000 0 o0.length) rfl) .nil) (RetOK.one0 (.nwM rfl rfl) (by decide)) (congrArg (fun l => LV.nw 1 (List.map e_Limpl_Value l) false) (by simp)) rfl)
    · refine LWP.skip (hN4 _ ?_)
      have hij : i < j := by
        have : ¬ i = j := by simp at h6; omega
        omega
      refine LWP.seq_k fun N8 hN8 => ?_
      refine LWP.region (l := [_,_,_]) ?_
      refine LWo.move (.own 1000 0 o0.length) rfl (hn := ?_)
      refine LWo.lenO u_LLimpl_Value rfl (hn := ?_)
      refine LWo.assign (e_int (o0.length : Int)) rfl (hn := ?_)
      refine LWo.ownCap 0 rfl (by omega) (ho := rfl) (fun c hc1 hc2 => ?_)
      refine LWo.nil (hN8 _ ?_)
      refine LWP.seq_k fun N9 hN9 => ?_
      refine LWP.drawE (l := [_,_,_,_,_,_,_,_]) [] [0, 1, 2, 7] [([0], []), ([1], []), ([20, 21], [1000]), ([0], []), ([2], []), ([23, 24], [1000]), ([22, 25], [1000]), ([26], [])] [0, 7] [1000] mixed (by kernel_rfl) rfl (by decide) ?_
      refine ⟨rfl, .put 20 _, trivial, fun u hg hu hh => LWo.move (.ownc 1000 0 o0.length c) hu.1 (hn := LWo.nil ⟨rfl, .inl rfl, hg⟩), ?_⟩
      refine ⟨rfl, .put 21 _, trivial, fun u hg hu hh => LWo.move (e_int i) hu.1 (hn := LWo.nil ⟨rfl, .inl rfl, hg⟩), ?_⟩
      refine ⟨rfl, .put 22 _, trivial, fun u hg hu hh => LWo.cutCC (h := i) u_LLimpl_Value s_Limpl_Value hu.1 hh.1 rfl ⟨_, hu.2.1⟩ (by omega) (by omega) (hn := LWo.nil ⟨rfl, .inl rfl, hg⟩), ?_⟩
      refine ⟨rfl, .put 23 _, trivial, fun u hg hu hh => LWo.move (.ownc 1000 0 o0.length c) hu.1 (hn := LWo.nil ⟨rfl, .inl rfl, hg⟩), ?_⟩
      refine ⟨rfl, .put 24 _, trivial, fun u hg hu hh => LWo.move (e_int j) hu.1 (hn := LWo.nil ⟨rfl, .inl rfl, hg⟩), ?_⟩
      refine ⟨rfl, .put 25 _, trivial, fun u hg hu hh => LWo.cutC (l := j) (h := o0.length) u_LLimpl_Value s_Limpl_Value hu.1 hh.1 rfl ⟨_, hu.2.1⟩ rfl (by omega) (by omega) rfl rfl (hn := LWo.nil ⟨rfl, .inl rfl, hg⟩), ?_⟩
      refine ⟨rfl, .upd (some 26) _ 1000 _, (fun _ h => by cases h), fun u hg hu hh => LWo.appendIn (f := e_Limpl_Value) (l := o0) (m := (o0.drop (0 + j)).take (o0.length - j)) (by simp; omega) (by omega) u_LLimpl_Value u_LLimpl_Value (fun _ h => by cases h) s_Limpl_Value hu.1 hh.1 (.cut hu.2.1 (by omega) hh.1 rfl) (hn := LWo.nil ⟨rfl, .inl rfl, Ef.good_ok (e := .upd (some 26) _ 1000 _) (fun _ h => by cases h) hg⟩), ?_⟩
      refine ⟨rfl, .put 0 _, trivial, fun u hg hu hh => LWo.assign _ hu.1 (hn := LWo.nil ⟨rfl, .inl rfl, hg⟩), ?_⟩
      refine ⟨rfl, by kernel_rfl, hN9 _ ?_⟩
      have hml : ((o0.drop (0 + j)).take (o0.length - j)).length = o0.length - j := by simp
      refine LWP.seq_k fun N10 hN10 => ?_
      refine LWP.region (l := [_,_,_,_,_,_]) ?_
      refine LWo.move (.ownc 1000 0 (i + ((o0.drop (0 + j)).take (o0.length - j)).length) c) rfl (hn := ?_)
      refine LWo.move (.ownc 1000 0 (i + ((o0.drop (0 + j)).take (o0.length - j)).length) c) rfl (hn := ?_)
      refine LWo.forgetC 28 rfl ?_
      refine LWo.lenO u_LLimpl_Value rfl (hn := ?_)
      refine LWo.move (e_int (o0.length : Int)) rfl (hn := ?_)
      refine LWo.cutC (l := i + ((o0.drop (0 + j)).take (o0.length - j)).length) (h := o0.length) u_LLimpl_Value s_Limpl_Value rfl rfl rfl ⟨_, rfl⟩ ⟨_, rfl⟩ (by omega) (by omega) rfl rfl (hn := ?_)
      refine LWo.clearO (f := e_Limpl_Value) (l := o0.take i ++ (o0.drop (0 + j)).take (o0.length - j)) none u_LLimpl_Value z_Limpl_Value rfl rfl rfl rfl rfl (hn := ?_)
      refine LWo.nil (hN10 _ ?_)
      refine LWP.seq_k fun N11 hN11 => ?_
      refine LWP.region (l := [_,_]) ?_
      refine LWo.move (.ownc 1000 0 (i + ((o0.drop (0 + j)).take (o0.length - j)).length) c) rfl (hn := ?_)
      refine LWo.assign (.ownc 1000 0 (i + ((o0.drop (0 + j)).take (o0.length - j)).length) c) rfl (hn := ?_)
      refine LWo.forgetC 6 rfl ?_
      refine LWo.nil (hN11 _ ?_)
      refine LWP.ret (QG.mk (.inr rfl) (.cons (.tmp (x := .own 1000 0 (i + ((o0.drop (0 + j)).take (o0.length - j)).length)) rfl) .nil) (RetOK.one0 (.nwT (by simp; omega) rfl) (by decide)) (congrArg (fun l => LV.nw 1 (List.map e_Limpl_Value l) false) ?_) rfl)
      have e1 : (o0.drop (0 + j)).take (o0.length - j) = o0.drop j := by
        rw [Nat.zero_add]; exact List.take_of_length_le (by simp)
      rw [e1, Nat.zero_add, List.take_take, Nat.min_self]
      exact List.take_of_length_le (by simp; omega)
  · cases h



def m_slices_CompareFunc_Limpl_Value_Limpl_Value_impl_Value_impl_Value_j1 (p2 : S_impl_Value → S_impl_Value → Option Int) (t0 : (List S_impl_Value)) (t1 : (List S_impl_Value)) : Option Int :=
  bif decide ((t0.length : Int) < (t1.length : Int)) then (some (-1 : Int))
  else (some (0 : Int))
def m_slices_CompareFunc_Limpl_Value_Limpl_Value_impl_Value_impl_Value_l1 (p2 : S_impl_Value → S_impl_Value → Option Int) : Nat → (List S_impl_Value) → (List S_impl_Value) → (List S_impl_Value) → Int → Int → Option Int
  | 0, _, _, _, _, _ => none
  | n1 + 1, t0, t1, t11, t12, t13 =>
    bif decide (t13 < t12) then ((at? t11 t13).bind fun x11 =>
    lt (x11) fun y12 =>
    bif decide (t13 ≥ (t1.length : Int)) then (some (1 : Int))
    else ((at? t1 t13).bind fun x18 =>
    lt (x18) fun y19 =>
    (p2 y12 y19).bind fun x21 =>
    bif (x21 != (0 : Int)) then (some x21)
    else ((ckI (t13 + (1 : Int))).bind fun x25 =>
    (m_slices_CompareFunc_Limpl_Value_Limpl_Value_impl_Value_impl_Value_l1 p2 n1) t0 t1 t11 t12 x25)))
    else (m_slices_CompareFunc_Limpl_Value_Limpl_Value_impl_Value_impl_Value_j1 p2 t0 t1)
def m_slices_CompareFunc_Limpl_Value_Limpl_Value_impl_Value_impl_Value (a0 : (List S_impl_Value)) (a1 : (List S_impl_Value)) (p2 : S_impl_Value → S_impl_Value → Option Int) : Option Int :=
  m_slices_CompareFunc_Limpl_Value_Limpl_Value_impl_Value_impl_Value_l1 p2 (((a0.length : Int) - (0 : Int)).toNat + 1) a0 a1 a0 (a0.length : Int) (0 : Int)
theorem c_slices_CompareFunc_Limpl_Value_Limpl_Value_impl_Value_impl_Value (a0 : (List S_impl_Value)) (a1 : (List S_impl_Value)) (p2 : S_impl_Value → S_impl_Value → Option Int) (f2 : FuncId) (q2 : List LV) (hq2 : ∀ k, LV.at?.atL k q2 = false) (hf2 : ∀ a0 a1 v, p2 a0 a1 = some v → Ret Try.prog f2 (e_impl_Value a0 :: e_impl_Value a1 :: q2) (e_int v)) (r : Int) (h : m_slices_CompareFunc_Limpl_Value_Limpl_Value_impl_Value_impl_Value a0 a1 p2 = some r) : Ret Try.prog f_slices_CompareFunc_Limpl_Value_Limpl_Value_impl_Value_impl_Value [e_Limpl_Value a0, e_Limpl_Value a1, .clo f2 q2] (e_int r) := by
  refine Does.goG [] F_slices_CompareFunc_Limpl_Value_Limpl_Value_impl_Value_impl_Value rfl e_slices_CompareFunc_Limpl_Value_Limpl_Value_impl_Value_impl_Value n_slices_CompareFunc_Limpl_Value_Limpl_Value_impl_Value_impl_Value rfl (rvs := [.tmp 6]) rfl rfl ?_
  intro w0 ok0 lent ρ0
  refine LWP.seq_k fun N1 hN1 => ?_
  refine LWP.region (l := [_]) ?_
  refine LWo.assign (e_int (0 : Int)) rfl (hn := ?_)
  refine LWo.nil (hN1 _ ?_)
  refine LWP.join (α := (List S_impl_Value) × (List S_impl_Value)) (fun z : (List S_impl_Value) × (List S_impl_Value) => [(0, (e_Limpl_Value z.1)), (1, (e_Limpl_Value z.2))]) (fun z : (List S_impl_Value) × (List S_impl_Value) => []) (fun z : (List S_impl_Value) × (List S_impl_Value) => m_slices_CompareFunc_Limpl_Value_Limpl_Value_impl_Value_impl_Value_j1 p2 z.1 z.2) r (fun _ => by simp [hkeys]) ?_ ?_
  ·rintro ⟨t0, t1⟩ h
   replace h : m_slices_CompareFunc_Limpl_Value_Limpl_Value_impl_Value_impl_Value_j1 p2 t0 t1 = some _ := h
   refine LWP.seq_k fun N26 hN26 => ?_
   refine LWP.seq_k fun N27 hN27 => ?_
   refine LWP.region (l := [_,_,_,_,_]) ?_
   refine LWo.move (e_Limpl_Value t0) rfl (hn := ?_)
   refine LWo.lenM (f := e_impl_Value) (l := t0) u_Limpl_Value rfl (hn := ?_)
   refine LWo.move (e_Limpl_Value t1) rfl (hn := ?_)
   refine LWo.lenM (f := e_impl_Value) (l := t1) u_Limpl_Value rfl (hn := ?_)
   refine LWo.int _ rfl rfl rfl (hn := ?_)
   refine LWo.nil (hN27 _ ?_)
   refine LWP.cond_split rfl (fun h28 => ?_) (fun h28 => ?_)
   ·have h := bT h28 h
    refine LWP.seq_k fun N29 hN29 => ?_
    refine LWP.region (l := [_]) ?_
    refine LWo.assign (e_int (-1 : Int)) rfl (hn := ?_)
    refine LWo.nil (hN29 _ ?_)
    obtain rfl := Option.some.inj h
    refine LWP.ret (QG.mk (.inr rfl) (.cons (.tmp (x := (e_int (-1 : Int))) rfl) (.nil)) (RetOK.one0 (.pure rfl) (by decide)) rfl rfl)
   ·have h := bF h28 h
    refine LWP.skip (hN26 _ ?_)
    refine LWP.seq_k fun N30 hN30 => ?_
    refine LWP.region (l := [_]) ?_
    refine LWo.assign (e_int (0 : Int)) rfl (hn := ?_)
    refine LWo.nil (hN30 _ ?_)
    obtain rfl := Option.some.inj h
    refine LWP.ret (QG.mk (.inr rfl) (.cons (.tmp (x := (e_int (0 : Int))) rfl) (.nil)) (RetOK.one0 (.pure rfl) (by decide)) rfl rfl)
  ·intro N2 hN2
   refine LWP.seq_k fun N3 hN3 => ?_
   refine LWP.region (l := [_,_,_]) ?_
   refine LWo.move (e_Limpl_Value a0) rfl (hn := ?_)
   refine LWo.lenM (f := e_impl_Value) (l := a0) u_Limpl_Value rfl (hn := ?_)
   refine LWo.move (e_int (0 : Int)) rfl (hn := ?_)
   refine LWo.nil (hN3 _ ?_)
   refine LWP.block ?_
   refine LWP.loopM (α := (List S_impl_Value) × (List S_impl_Value) × (List S_impl_Value) × Int × Int) (fun z : (List S_impl_Value) × (List S_impl_Value) × (List S_impl_Value) × Int × Int => [(0, (e_Limpl_Value z.1)), (1, (e_Limpl_Value z.2.1)), (2, (.clo f2 q2)), (11, (e_Limpl_Value z.2.2.1)), (12, (e_int z.2.2.2.1)), (13, (e_int z.2.2.2.2))]) (fun z : (List S_impl_Value) × (List S_impl_Value) × (List S_impl_Value) × Int × Int => []) (fun n1 (z : (List S_impl_Value) × (List S_impl_Value) × (List S_impl_Value) × Int × Int) => m_slices_CompareFunc_Limpl_Value_Limpl_Value_impl_Value_impl_Value_l1 p2 n1 z.1 z.2.1 z.2.2.1 z.2.2.2.1 z.2.2.2.2) r _ (a0, a1, a0, (a0.length : Int), (0 : Int)) h (fun _ => rfl) (fun _ => by simp [hkeys]) ⟨rfl, rfl, rfl, rfl, rfl, rfl, trivial⟩ trivial ?_
   rintro n1 ⟨t0, t1, t11, t12, t13⟩ h N4 hN4
   replace h : m_slices_CompareFunc_Limpl_Value_Limpl_Value_impl_Value_impl_Value_l1 p2 (n1 + 1) t0 t1 t11 t12 t13 = some _ := h
   refine LWP.seq_k fun N6 hN6 => ?_
   refine LWP.region (l := [_]) ?_
   refine LWo.int _ rfl rfl rfl (hn := ?_)
   refine LWo.nil (hN6 _ ?_)
   refine LWP.seq_k fun N7 hN7 => ?_
   refine LWP.cond_split rfl (fun h8 => ?_) (fun h8 => ?_)
   ·have h := bT h8 h
    refine LWP.skip (hN7 _ ?_)
    refine LWP.seq_k fun N9 hN9 => ?_
    refine LWP.block ?_
    refine LWP.seq_k fun N10 hN10 => ?_
    refine LWP.region (l := [_,_,_,_,_,_]) ?_
    refine LWo.move (e_int t13) rfl (hn := ?_)
    refine bk h fun x11 e11 h => ?_
    refine LWo.indexM (f := e_impl_Value) e11 u_Limpl_Value s_impl_Value rfl rfl (hn := ?_)
    refine LWo.loadN ((e_impl_Value x11)).cells g_impl_Value s_impl_Value rfl (Nat.le_of_ble_eq_true rfl) rfl (hn := ?_)
    refine LWo.alloc_impl_Value 8 rfl (hn := ?_)
    refine LWo.known 2 (.clo f2 q2) (get_kill_of rfl (hq2 8)) ?_
    refine LWo.assign (e_int t13) rfl (hn := ?_)
    refine lk h fun y12 e12 h => ?_
    refine LWo.storeW (y := (⟨(0 : Int), (0 : Int), (⟨#[]⟩ : ByteArray)⟩ : S_impl_Value)) y12 s_impl_Value rfl rfl rfl rfl rfl rfl (by rw [e12]; exact .refl) rfl (hn := ?_)
    refine LWo.nil (hN10 _ ?_)
    refine LWP.seq_k fun N13 hN13 => ?_
    refine LWP.seq_k fun N14 hN14 => ?_
    refine LWP.region (l := [_,_,_,_]) ?_
    refine LWo.move (e_int t13) rfl (hn := ?_)
    refine LWo.move (e_Limpl_Value t1) rfl (hn := ?_)
    refine LWo.lenM (f := e_impl_Value) (l := t1) u_Limpl_Value rfl (hn := ?_)
    refine LWo.int _ rfl rfl rfl (hn := ?_)
    refine LWo.nil (hN14 _ ?_)
    refine LWP.cond_split rfl (fun h15 => ?_) (fun h15 => ?_)
    ·have h := bT h15 h
     refine LWP.seq_k fun N16 hN16 => ?_
     refine LWP.region (l := [_]) ?_
     refine LWo.assign (e_int (1 : Int)) rfl (hn := ?_)
     refine LWo.nil (hN16 _ ?_)
     obtain rfl := Option.some.inj h
     refine LWP.ret (QG.mk (.inr rfl) (.cons (.tmp (x := (e_int (1 : Int))) rfl) (.nil)) (RetOK.one0 (.pure rfl) (by decide)) rfl rfl)
    ·have h := bF h15 h
     refine LWP.skip (hN13 _ ?_)
     refine LWP.seq_k fun N17 hN17 => ?_
     refine LWP.region (l := [_,_,_,_,_,_]) ?_
     refine LWo.move (e_Limpl_Value t1) rfl (hn := ?_)
     refine LWo.move (e_int t13) rfl (hn := ?_)
     refine bk h fun x18 e18 h => ?_
     refine LWo.indexM (f := e_impl_Value) e18 u_Limpl_Value s_impl_Value rfl rfl (hn := ?_)
     refine LWo.loadN ((e_impl_Value x18)).cells g_impl_Value s_impl_Value rfl (Nat.le_of_ble_eq_true rfl) rfl (hn := ?_)
     refine LWo.alloc_impl_Value 9 rfl (hn := ?_)
     refine LWo.known 2 (.clo f2 q2) (get_kill_of rfl (hq2 9)) ?_
     refine lk h fun y19 e19 h => ?_
     refine LWo.storeW (y := (⟨(0 : Int), (0 : Int), (⟨#[]⟩ : ByteArray)⟩ : S_impl_Value)) y19 s_impl_Value rfl rfl rfl rfl rfl rfl (by rw [e19]; exact .refl) rfl (hn := ?_)
     refine LWo.nil (hN17 _ ?_)
     refine LWP.seq_k fun N20 hN20 => ?_
     refine LWP.region (l := [_,_,_,_,_]) ?_
     refine LWo.move (.clo f2 q2) rfl (hn := ?_)
     refine LWo.loadVN ((e_impl_Value y12)).cells  g_impl_Value s_impl_Value rfl rfl rfl rfl (hn := ?_)
     refine LWo.loadVN ((e_impl_Value y19)).cells  g_impl_Value s_impl_Value rfl rfl rfl rfl (hn := ?_)
     refine bk h fun x21 e21 h => ?_
     refine LWo.vcall rfl rfl (hf2 _ _ _ e21) .refl (hn := ?_)
     refine LWo.assign (e_int x21) rfl (hn := ?_)
     refine LWo.nil (hN20 _ ?_)
     refine LWP.seq_k fun N22 hN22 => ?_
     refine LWP.region (l := [_,_]) ?_
     refine LWo.move (e_int x21) rfl (hn := ?_)
     refine LWo.int _ rfl rfl rfl (hn := ?_)
     refine LWo.nil (hN22 _ ?_)
     refine LWP.cond_split rfl (fun h23 => ?_) (fun h23 => ?_)
     ·have h := bT h23 h
      refine LWP.seq_k fun N24 hN24 => ?_
      refine LWP.region (l := [_,_]) ?_
      refine LWo.move (e_int x21) rfl (hn := ?_)
      refine LWo.assign (e_int x21) rfl (hn := ?_)
      refine LWo.nil (hN24 _ ?_)
      obtain rfl := Option.some.inj h
      refine LWP.ret (QG.mk (.inr rfl) (.cons (.tmp (x := (e_int x21)) rfl) (.nil)) (RetOK.one0 (.pure rfl) (by decide)) rfl rfl)
     ·have h := bF h23 h
      refine LWP.skip (hN9 _ ?_)
      refine LWP.region (l := [_,_]) ?_
      refine bk h fun x25 e25 h => ?_
      refine LWo.int _ rfl rfl (add_ck e25) (hn := ?_)
      refine LWo.move (e_int x25) rfl (hn := ?_)
      refine LWo.nil (hN4 (t0, t1, t11, t12, x25) _ ⟨rfl, rfl, rfl, rfl, rfl, rfl, trivial⟩ trivial h)
   ·have h := bF h8 h
    refine LWP.exit (hN2 (t0, t1) _ ⟨rfl, rfl, trivial⟩ trivial h)

def m_cmp_isNaN_int (a0 : Int) : Option Bool :=
  some (a0 != a0)
theorem c_cmp_isNaN_int (a0 : Int) (r : Bool) (h : m_cmp_isNaN_int a0 = some r) : Ret Try.prog f_cmp_isNaN_int [e_int a0] (e_bool r) := by
  refine Does.goG [] F_cmp_isNaN_int rfl e_cmp_isNaN_int n_cmp_isNaN_int rfl (rvs := [.tmp 2]) rfl rfl ?_
  intro w0 ok0 lent ρ0
  refine LWP.seq_k fun N1 hN1 => ?_
  refine LWP.region (l := [_]) ?_
  refine LWo.assign (e_bool false) rfl (hn := ?_)
  refine LWo.nil (hN1 _ ?_)
  refine LWP.seq_k fun N2 hN2 => ?_
  refine LWP.region (l := [_,_,_,_]) ?_
  refine LWo.move (e_int a0) rfl (hn := ?_)
  refine LWo.move (e_int a0) rfl (hn := ?_)
  refine LWo.int _ rfl rfl rfl (hn := ?_)
  refine LWo.assign (e_bool (a0 != a0)) rfl (hn := ?_)
  refine LWo.nil (hN2 _ ?_)
  obtain rfl := Option.some.inj h
  refine LWP.ret (QG.mk (.inr rfl) (.cons (.tmp (x := (e_bool (a0 != a0))) rfl) (.nil)) (RetOK.one0 (.pure rfl) (by decide)) rfl rfl)

def m_cmp_Compare_int (a0 : Int) (a1 : Int) : Option Int :=
  (m_cmp_isNaN_int a0).bind fun x3 =>
  (m_cmp_isNaN_int a1).bind fun x5 =>
  bif x3 then (bif x5 then (some (0 : Int))
    else (some (-1 : Int)))
  else (bif x5 then (some (1 : Int))
  else (bif decide (a0 < a1) then (some (-1 : Int))
  else (bif decide (a0 > a1) then (some (1 : Int))
  else (some (0 : Int)))))
theorem c_cmp_Compare_int (a0 : Int) (a1 : Int) (r : Int) (h : m_cmp_Compare_int a0 a1 = some r) : Ret Try.prog f_cmp_Compare_int [e_int a0, e_int a1] (e_int r) := by
  refine Does.goG [] F_cmp_Compare_int rfl e_cmp_Compare_int n_cmp_Compare_int rfl (rvs := [.tmp 4]) rfl rfl ?_
  intro w0 ok0 lent ρ0
  refine LWP.seq_k fun N1 hN1 => ?_
  refine LWP.region (l := [_]) ?_
  refine LWo.assign (e_int (0 : Int)) rfl (hn := ?_)
  refine LWo.nil (hN1 _ ?_)
  refine LWP.seq_k fun N2 hN2 => ?_
  refine LWP.region (l := [_,_,_]) ?_
  refine LWo.move (e_int a0) rfl (hn := ?_)
  refine bk h fun x3 e3 h => ?_
  refine LWo.vcall rfl rfl (c_cmp_isNaN_int _ _ e3) (.same (.nil)) (hn := ?_)
  refine LWo.assign (e_bool x3) rfl (hn := ?_)
  refine LWo.nil (hN2 _ ?_)
  refine LWP.seq_k fun N4 hN4 => ?_
  refine LWP.region (l := [_,_,_]) ?_
  refine LWo.move (e_int a1) rfl (hn := ?_)
  refine bk h fun x5 e5 h => ?_
  refine LWo.vcall rfl rfl (c_cmp_isNaN_int _ _ e5) (.same (.nil)) (hn := ?_)
  refine LWo.assign (e_bool x5) rfl (hn := ?_)
  refine LWo.nil (hN4 _ ?_)
  refine LWP.seq_k fun N6 hN6 => ?_
  refine LWP.seq_k fun N7 hN7 => ?_
  refine LWP.region (l := [_]) ?_
  refine LWo.move (e_bool x3) rfl (hn := ?_)
  refine LWo.nil (hN7 _ ?_)
  refine LWP.cond_split rfl (fun h8 => ?_) (fun h8 => ?_)
  ·have h := bT h8 h
   refine LWP.seq_k fun N9 hN9 => ?_
   refine LWP.seq_k fun N10 hN10 => ?_
   refine LWP.region (l := [_]) ?_
   refine LWo.move (e_bool x5) rfl (hn := ?_)
   refine LWo.nil (hN10 _ ?_)
   refine LWP.cond_split rfl (fun h11 => ?_) (fun h11 => ?_)
   ·have h := bT h11 h
    refine LWP.seq_k fun N12 hN12 => ?_
    refine LWP.region (l := [_]) ?_
    refine LWo.assign (e_int (0 : Int)) rfl (hn := ?_)
    refine LWo.nil (hN12 _ ?_)
    obtain rfl := Option.some.inj h
    refine LWP.ret (QG.mk (.inr rfl) (.cons (.tmp (x := (e_int (0 : Int))) rfl) (.nil)) (RetOK.one0 (.pure rfl) (by decide)) rfl rfl)
   ·have h := bF h11 h
    refine LWP.skip (hN9 _ ?_)
    refine LWP.seq_k fun N13 hN13 => ?_
    refine LWP.region (l := [_]) ?_
    refine LWo.assign (e_int (-1 : Int)) rfl (hn := ?_)
    refine LWo.nil (hN13 _ ?_)
    obtain rfl := Option.some.inj h
    refine LWP.ret (QG.mk (.inr rfl) (.cons (.tmp (x := (e_int (-1 : Int))) rfl) (.nil)) (RetOK.one0 (.pure rfl) (by decide)) rfl rfl)
  ·have h := bF h8 h
   refine LWP.skip (hN6 _ ?_)
   refine LWP.seq_k fun N14 hN14 => ?_
   refine LWP.seq_k fun N15 hN15 => ?_
   refine LWP.region (l := [_]) ?_
   refine LWo.move (e_bool x5) rfl (hn := ?_)
   refine LWo.nil (hN15 _ ?_)
   refine LWP.cond_split rfl (fun h16 => ?_) (fun h16 => ?_)
   ·have h := bT h16 h
    refine LWP.seq_k fun N17 hN17 => ?_
    refine LWP.region (l := [_]) ?_
    refine LWo.assign (e_int (1 : Int)) rfl (hn := ?_)
    refine LWo.nil (hN17 _ ?_)
    obtain rfl := Option.some.inj h
    refine LWP.ret (QG.mk (.inr rfl) (.cons (.tmp (x := (e_int (1 : Int))) rfl) (.nil)) (RetOK.one0 (.pure rfl) (by decide)) rfl rfl)
   ·have h := bF h16 h
    refine LWP.skip (hN14 _ ?_)
    refine LWP.seq_k fun N18 hN18 => ?_
    refine LWP.seq_k fun N19 hN19 => ?_
    refine LWP.region (l := [_,_,_]) ?_
    refine LWo.move (e_int a0) rfl (hn := ?_)
    refine LWo.move (e_int a1) rfl (hn := ?_)
    refine LWo.int _ rfl rfl rfl (hn := ?_)
    refine LWo.nil (hN19 _ ?_)
    refine LWP.cond_split rfl (fun h20 => ?_) (fun h20 => ?_)
    ·have h := bT h20 h
     refine LWP.seq_k fun N21 hN21 => ?_
     refine LWP.region (l := [_]) ?_
     refine LWo.assign (e_int (-1 : Int)) rfl (hn := ?_)
     refine LWo.nil (hN21 _ ?_)
     obtain rfl := Option.some.inj h
     refine LWP.ret (QG.mk (.inr rfl) (.cons (.tmp (x := (e_int (-1 : Int))) rfl) (.nil)) (RetOK.one0 (.pure rfl) (by decide)) rfl rfl)
    ·have h := bF h20 h
     refine LWP.skip (hN18 _ ?_)
     refine LWP.seq_k fun N22 hN22 => ?_
     refine LWP.seq_k fun N23 hN23 => ?_
     refine LWP.region (l := [_,_,_]) ?_
     refine LWo.move (e_int a0) rfl (hn := ?_)
     refine LWo.move (e_int a1) rfl (hn := ?_)
     refine LWo.int _ rfl rfl rfl (hn := ?_)
     refine LWo.nil (hN23 _ ?_)
     refine LWP.cond_split rfl (fun h24 => ?_) (fun h24 => ?_)
     ·have h := bT h24 h
      refine LWP.seq_k fun N25 hN25 => ?_
      refine LWP.region (l := [_]) ?_
      refine LWo.assign (e_int (1 : Int)) rfl (hn := ?_)
      refine LWo.nil (hN25 _ ?_)
      obtain rfl := Option.some.inj h
      refine LWP.ret (QG.mk (.inr rfl) (.cons (.tmp (x := (e_int (1 : Int))) rfl) (.nil)) (RetOK.one0 (.pure rfl) (by decide)) rfl rfl)
     ·have h := bF h24 h
      refine LWP.skip (hN22 _ ?_)
      refine LWP.seq_k fun N26 hN26 => ?_
      refine LWP.region (l := [_]) ?_
      refine LWo.assign (e_int (0 : Int)) rfl (hn := ?_)
      refine LWo.nil (hN26 _ ?_)
      obtain rfl := Option.some.inj h
      refine LWP.ret (QG.mk (.inr rfl) (.cons (.tmp (x := (e_int (0 : Int))) rfl) (.nil)) (RetOK.one0 (.pure rfl) (by decide)) rfl rfl)

def m_cmp_isNaN_string (a0 : ByteArray) : Option Bool :=
  some (!(sEq a0 a0))
theorem c_cmp_isNaN_string (a0 : ByteArray) (r : Bool) (h : m_cmp_isNaN_string a0 = some r) : Ret Try.prog f_cmp_isNaN_string [e_string a0] (e_bool r) := by
  refine Does.goG [] F_cmp_isNaN_string rfl e_cmp_isNaN_string n_cmp_isNaN_string rfl (rvs := [.tmp 2]) rfl rfl ?_
  intro w0 ok0 lent ρ0
  refine LWP.seq_k fun N1 hN1 => ?_
  refine LWP.region (l := [_]) ?_
  refine LWo.assign (e_bool false) rfl (hn := ?_)
  refine LWo.nil (hN1 _ ?_)
  refine LWP.seq_k fun N2 hN2 => ?_
  refine LWP.region (l := [_,_,_,_]) ?_
  refine LWo.move (e_string a0) rfl (hn := ?_)
  refine LWo.move (e_string a0) rfl (hn := ?_)
  refine LWo.str _ rfl rfl rfl (hn := ?_)
  refine LWo.assign (e_bool (!(sEq a0 a0))) rfl (hn := ?_)
  refine LWo.nil (hN2 _ ?_)
  obtain rfl := Option.some.inj h
  refine LWP.ret (QG.mk (.inr rfl) (.cons (.tmp (x := (e_bool (!(sEq a0 a0)))) rfl) (.nil)) (RetOK.one0 (.pure rfl) (by decide)) rfl rfl)

def m_cmp_Compare_string (a0 : ByteArray) (a1 : ByteArray) : Option Int :=
  (m_cmp_isNaN_string a0).bind fun x3 =>
  (m_cmp_isNaN_string a1).bind fun x5 =>
  bif x3 then (bif x5 then (some (0 : Int))
    else (some (-1 : Int)))
  else (bif x5 then (some (1 : Int))
  else (bif (sLt a0 a1) then (some (-1 : Int))
  else (bif (!(sLt a0 a1 || sEq a0 a1)) then (some (1 : Int))
  else (some (0 : Int)))))
theorem c_cmp_Compare_string (a0 : ByteArray) (a1 : ByteArray) (r : Int) (h : m_cmp_Compare_string a0 a1 = some r) : Ret Try.prog f_cmp_Compare_string [e_string a0, e_string a1] (e_int r) := by
  refine Does.goG [] F_cmp_Compare_string rfl e_cmp_Compare_string n_cmp_Compare_string rfl (rvs := [.tmp 4]) rfl rfl ?_
  intro w0 ok0 lent ρ0
  refine LWP.seq_k fun N1 hN1 => ?_
  refine LWP.region (l := [_]) ?_
  refine LWo.assign (e_int (0 : Int)) rfl (hn := ?_)
  refine LWo.nil (hN1 _ ?_)
  refine LWP.seq_k fun N2 hN2 => ?_
  refine LWP.region (l := [_,_,_]) ?_
  refine LWo.move (e_string a0) rfl (hn := ?_)
  refine bk h fun x3 e3 h => ?_
  refine LWo.vcall rfl rfl (c_cmp_isNaN_string _ _ e3) (.same (.nil)) (hn := ?_)
  refine LWo.assign (e_bool x3) rfl (hn := ?_)
  refine LWo.nil (hN2 _ ?_)
  refine LWP.seq_k fun N4 hN4 => ?_
  refine LWP.region (l := [_,_,_]) ?_
  refine LWo.move (e_string a1) rfl (hn := ?_)
  refine bk h fun x5 e5 h => ?_
  refine LWo.vcall rfl rfl (c_cmp_isNaN_string _ _ e5) (.same (.nil)) (hn := ?_)
  refine LWo.assign (e_bool x5) rfl (hn := ?_)
  refine LWo.nil (hN4 _ ?_)
  refine LWP.seq_k fun N6 hN6 => ?_
  refine LWP.seq_k fun N7 hN7 => ?_
  refine LWP.region (l := [_]) ?_
  refine LWo.move (e_bool x3) rfl (hn := ?_)
  refine LWo.nil (hN7 _ ?_)
  refine LWP.cond_split rfl (fun h8 => ?_) (fun h8 => ?_)
  ·have h := bT h8 h
   refine LWP.seq_k fun N9 hN9 => ?_
   refine LWP.seq_k fun N10 hN10 => ?_
   refine LWP.region (l := [_]) ?_
   refine LWo.move (e_bool x5) rfl (hn := ?_)
   refine LWo.nil (hN10 _ ?_)
   refine LWP.cond_split rfl (fun h11 => ?_) (fun h11 => ?_)
   ·have h := bT h11 h
    refine LWP.seq_k fun N12 hN12 => ?_
    refine LWP.region (l := [_]) ?_
    refine LWo.assign (e_int (0 : Int)) rfl (hn := ?_)
    refine LWo.nil (hN12 _ ?_)
    obtain rfl := Option.some.inj h
    refine LWP.ret (QG.mk (.inr rfl) (.cons (.tmp (x := (e_int (0 : Int))) rfl) (.nil)) (RetOK.one0 (.pure rfl) (by decide)) rfl rfl)
   ·have h := bF h11 h
    refine LWP.skip (hN9 _ ?_)
    refine LWP.seq_k fun N13 hN13 => ?_
    refine LWP.region (l := [_]) ?_
    refine LWo.assign (e_int (-1 : Int)) rfl (hn := ?_)
    refine LWo.nil (hN13 _ ?_)
    obtain rfl := Option.some.inj h
    refine LWP.ret (QG.mk (.inr rfl) (.cons (.tmp (x := (e_int (-1 : Int))) rfl) (.nil)) (RetOK.one0 (.pure rfl) (by decide)) rfl rfl)
  ·have h := bF h8 h
   refine LWP.skip (hN6 _ ?_)
   refine LWP.seq_k fun N14 hN14 => ?_
   refine LWP.seq_k fun N15 hN15 => ?_
   refine LWP.region (l := [_]) ?_
   refine LWo.move (e_bool x5) rfl (hn := ?_)
   refine LWo.nil (hN15 _ ?_)
   refine LWP.cond_split rfl (fun h16 => ?_) (fun h16 => ?_)
   ·have h := bT h16 h
    refine LWP.seq_k fun N17 hN17 => ?_
    refine LWP.region (l := [_]) ?_
    refine LWo.assign (e_int (1 : Int)) rfl (hn := ?_)
    refine LWo.nil (hN17 _ ?_)
    obtain rfl := Option.some.inj h
    refine LWP.ret (QG.mk (.inr rfl) (.cons (.tmp (x := (e_int (1 : Int))) rfl) (.nil)) (RetOK.one0 (.pure rfl) (by decide)) rfl rfl)
   ·have h := bF h16 h
    refine LWP.skip (hN14 _ ?_)
    refine LWP.seq_k fun N18 hN18 => ?_
    refine LWP.seq_k fun N19 hN19 => ?_
    refine LWP.region (l := [_,_,_]) ?_
    refine LWo.move (e_string a0) rfl (hn := ?_)
    refine LWo.move (e_string a1) rfl (hn := ?_)
    refine LWo.str _ rfl rfl rfl (hn := ?_)
    refine LWo.nil (hN19 _ ?_)
    refine LWP.cond_split rfl (fun h20 => ?_) (fun h20 => ?_)
    ·have h := bT h20 h
     refine LWP.seq_k fun N21 hN21 => ?_
     refine LWP.region (l := [_]) ?_
     refine LWo.assign (e_int (-1 : Int)) rfl (hn := ?_)
     refine LWo.nil (hN21 _ ?_)
     obtain rfl := Option.some.inj h
     refine LWP.ret (QG.mk (.inr rfl) (.cons (.tmp (x := (e_int (-1 : Int))) rfl) (.nil)) (RetOK.one0 (.pure rfl) (by decide)) rfl rfl)
    ·have h := bF h20 h
     refine LWP.skip (hN18 _ ?_)
     refine LWP.seq_k fun N22 hN22 => ?_
     refine LWP.seq_k fun N23 hN23 => ?_
     refine LWP.region (l := [_,_,_]) ?_
     refine LWo.move (e_string a0) rfl (hn := ?_)
     refine LWo.move (e_string a1) rfl (hn := ?_)
     refine LWo.str _ rfl rfl rfl (hn := ?_)
     refine LWo.nil (hN23 _ ?_)
     refine LWP.cond_split rfl (fun h24 => ?_) (fun h24 => ?_)
     ·have h := bT h24 h
      refine LWP.seq_k fun N25 hN25 => ?_
      refine LWP.region (l := [_]) ?_
      refine LWo.assign (e_int (1 : Int)) rfl (hn := ?_)
      refine LWo.nil (hN25 _ ?_)
      obtain rfl := Option.some.inj h
      refine LWP.ret (QG.mk (.inr rfl) (.cons (.tmp (x := (e_int (1 : Int))) rfl) (.nil)) (RetOK.one0 (.pure rfl) (by decide)) rfl rfl)
     ·have h := bF h24 h
      refine LWP.skip (hN22 _ ?_)
      refine LWP.seq_k fun N26 hN26 => ?_
      refine LWP.region (l := [_]) ?_
      refine LWo.assign (e_int (0 : Int)) rfl (hn := ?_)
      refine LWo.nil (hN26 _ ?_)
      obtain rfl := Option.some.inj h
      refine LWP.ret (QG.mk (.inr rfl) (.cons (.tmp (x := (e_int (0 : Int))) rfl) (.nil)) (RetOK.one0 (.pure rfl) (by decide)) rfl rfl)
end Go.Proofs.Ytogiaehagciojaa
