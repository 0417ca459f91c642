/- Mirrors of functions, and that the functions return what the mirrors say. -/
import Derived.Test.YtijihchddhikhaaXW4
set_option linter.unusedVariables false
set_option linter.unusedSimpArgs false
set_option linter.unnecessarySimpa false
namespace Go.Proofs.Ytijihchddhikhaa
open Go.Proofs Go.Lift Go.RowKit
def m_spec_RowFrom_j2 (t5 : Int) (o1020 : (List S_impl_Value)) : Option ((List S_impl_Value) × Int) :=
  some (o1020, t5)
def m_spec_RowFrom_l1 : Nat → (List UInt8) → Int → Int → (List S_impl_Value) → Option ((List S_impl_Value) × Int)
  | 0, _, _, _, _ => none
  | n1 + 1, t0, t5, t6, o1020 =>
    (at? t0 (0 : Int)).bind fun x16 =>
    bif decide (t6 < (x16.toNat : Int)) then ((cut? t0 t5 (t0.length : Int)).bind fun x20 =>
    (m_spec_ValueFrom x20).bind fun x21 =>
    lt (x21.1) fun y22 =>
    bif (x21.2 == (0 : Int)) then (some (([] : (List S_impl_Value)), (0 : Int)))
    else ((app? o1020 ([y22] : (List S_impl_Value))).bind fun x28 =>
    (ckI (t5 + x21.2)).bind fun x29 =>
    (ckI (t6 + (1 : Int))).bind fun x30 =>
    (m_spec_RowFrom_l1  n1) t0 x29 x30 x28))
    else (m_spec_RowFrom_j2  t5 o1020)
def m_spec_RowFrom_j1 (t0 : (List UInt8)) (t18 : Bool) : Option ((List S_impl_Value) × Int) :=
  bif t18 then (some (([] : (List S_impl_Value)), (0 : Int)))
  else (m_spec_RowFrom_l1  (1000000000) t0 (1 : Int) (0 : Int) ([] : (List S_impl_Value)))
def m_spec_RowFrom (a0 : (List UInt8)) : Option ((List S_impl_Value) × Int) :=
  bif ((a0.length : Int) == (0 : Int)) then (m_spec_RowFrom_j1  a0 true)
  else ((at? a0 (0 : Int)).bind fun x5 =>
    m_spec_RowFrom_j1  a0 (decide ((x5.toNat : Int) > (4 : Int))))
theorem c_spec_RowFrom (a0 : (List UInt8)) (r : ((List S_impl_Value) × Int)) (h : m_spec_RowFrom a0 = some r) : Ret Try.prog f_spec_RowFrom [e_Luint8 a0] (.tup [.nw 3 (r.1.map e_impl_Value) false, e_int r.2]) := by
  refine Does.goG [] F_spec_RowFrom rfl e_spec_RowFrom n_spec_RowFrom rfl (rvs := [.tmp 2, .tmp 3]) rfl rfl ?_
  intro w0 ok0 lent ρ0
  refine LWP.seq_k fun N1 hN1 => ?_
  refine LWP.region (l := [_,_]) ?_
  refine LWo.assign _ rfl (hn := ?_)
  refine LWo.ownNil 2 1002 3 rfl rfl rfl ?_
  refine LWo.known 2 (.own 1002 0 ([] : (List S_impl_Value)).length) rfl ?_
  refine LWo.assign (e_int (0 : Int)) rfl (hn := ?_)
  refine LWo.nil (hN1 _ ?_)
  refine LWP.seq_k fun N2 hN2 => ?_
  refine LWP.join (α := (List UInt8) × Bool) (fun z : (List UInt8) × Bool => [(0, (e_Luint8 z.1)), (18, (e_bool z.2))]) (fun z : (List UInt8) × Bool => []) (fun z : (List UInt8) × Bool => m_spec_RowFrom_j1  z.1 z.2) r (fun _ => by simp [hkeys]) ?_ ?_
  ·rintro ⟨t0, t18⟩ h
   replace h : m_spec_RowFrom_j1  t0 t18 = some _ := h
   refine LWP.cond_split rfl (fun h6 => ?_) (fun h6 => ?_)
   ·have h := bT h6 h
    refine LWP.seq_k fun N7 hN7 => ?_
    refine LWP.region (l := [_,_,_]) ?_
    refine LWo.lit0 1019 u_Limpl_Value s_impl_Value z_impl_Value (hn := ?_)
    refine LWo.known 19 (.own 1019 0 ([] : (List S_impl_Value)).length) rfl ?_
    refine LWo.assign (.own 1019 0 (([] : (List S_impl_Value))).length) rfl (hn := ?_)
    refine LWo.assign (e_int (0 : Int)) rfl (hn := ?_)
    refine LWo.nil (hN7 _ ?_)
    obtain rfl := Option.some.inj h
    refine LWP.ret (QG.mk (.inr rfl) (.cons (.tmp (x := (.own 1019 0 (([] : (List S_impl_Value))).length)) rfl) (.cons (.tmp (x := (e_int (0 : Int))) rfl) (.nil))) (RetOK.many0 (.cons (.nwM rfl rfl) (.cons (.pure rfl) (.nil))) (by simp) (by decide)) rfl rfl)
   ·have h := bF h6 h
    refine LWP.skip (hN2 _ ?_)
    refine LWP.seq_k fun N8 hN8 => ?_
    refine LWP.region (l := [_,_]) ?_
    refine LWo.lit0 1020 u_Limpl_Value s_impl_Value z_impl_Value (hn := ?_)
    refine LWo.known 20 (.own 1020 0 ([] : (List S_impl_Value)).length) rfl ?_
    refine LWo.assign (.own 1020 0 (([] : (List S_impl_Value))).length) rfl (hn := ?_)
    refine LWo.nil (hN8 _ ?_)
    refine LWP.seq_k fun N9 hN9 => ?_
    refine LWP.region (l := [_]) ?_
    refine LWo.assign (e_int (1 : Int)) rfl (hn := ?_)
    refine LWo.nil (hN9 _ ?_)
    refine LWP.join (α := Int × (List S_impl_Value)) (fun z : Int × (List S_impl_Value) => [(4, (.own 1020 0 (z.2).length)), (5, (e_int z.1))]) (fun z : Int × (List S_impl_Value) => [(1020, (lob 3 e_impl_Value z.2))]) (fun z : Int × (List S_impl_Value) => m_spec_RowFrom_j2  z.1 z.2) r (fun _ => by simp [hkeys]) ?_ ?_
    ·rintro ⟨t5, o1020⟩ h
     replace h : m_spec_RowFrom_j2  t5 o1020 = some _ := h
     refine LWP.seq_k fun N31 hN31 => ?_
     refine LWP.region (l := [_,_,_,_]) ?_
     refine LWo.move (.own 1020 0 (o1020).length) rfl (hn := ?_)
     refine LWo.move (e_int t5) rfl (hn := ?_)
     refine LWo.assign (.own 1020 0 (o1020).length) rfl (hn := ?_)
     refine LWo.assign (e_int t5) rfl (hn := ?_)
     refine LWo.nil (hN31 _ ?_)
     obtain rfl := Option.some.inj h
     refine LWP.ret (QG.mk (.inr rfl) (.cons (.tmp (x := (.own 1020 0 (o1020).length)) rfl) (.cons (.tmp (x := (e_int t5)) rfl) (.nil))) (RetOK.many0 (.cons (.nwM rfl rfl) (.cons (.pure rfl) (.nil))) (by simp) (by decide)) rfl rfl)
    ·intro N10 hN10
     refine LWP.seq_k fun N11 hN11 => ?_
     refine LWP.region (l := [_]) ?_
     refine LWo.assign (e_int (0 : Int)) rfl (hn := ?_)
     refine LWo.nil (hN11 _ ?_)
     refine LWP.block ?_
     refine LWP.loopM (α := (List UInt8) × Int × Int × (List S_impl_Value)) (fun z : (List UInt8) × Int × Int × (List S_impl_Value) => [(0, (e_Luint8 z.1)), (4, (.own 1020 0 (z.2.2.2).length)), (5, (e_int z.2.1)), (6, (e_int z.2.2.1))]) (fun z : (List UInt8) × Int × Int × (List S_impl_Value) => [(1020, (lob 3 e_impl_Value z.2.2.2))]) (fun n1 (z : (List UInt8) × Int × Int × (List S_impl_Value)) => m_spec_RowFrom_l1  n1 z.1 z.2.1 z.2.2.1 z.2.2.2) r _ (t0, (1 : Int), (0 : Int), ([] : (List S_impl_Value))) h (fun _ => rfl) (fun _ => by simp [hkeys]) ⟨rfl, rfl, rfl, rfl, trivial⟩ ⟨rfl, trivial⟩ ?_
     rintro n1 ⟨t0, t5, t6, o1020⟩ h N12 hN12
     replace h : m_spec_RowFrom_l1  (n1 + 1) t0 t5 t6 o1020 = some _ := h
     refine LWP.seq_k fun N14 hN14 => ?_
     refine LWP.seq_k fun N15 hN15 => ?_
     refine LWP.region (l := [_,_,_,_,_,_]) ?_
     refine LWo.move (e_int t6) rfl (hn := ?_)
     refine LWo.move (e_Luint8 t0) rfl (hn := ?_)
     refine bk h fun x16 e16 h => ?_
     refine LWo.indexM (f := e_uint8) e16 u_Luint8 s_uint8 rfl rfl (hn := ?_)
     refine LWo.load1 (c := (e_uint8 x16)) g_uint8 rfl (hn := ?_)
     refine LWo.convByte _ u_uint8 u_int rfl (hn := ?_)
     refine LWo.int _ rfl rfl rfl (hn := ?_)
     refine LWo.nil (hN15 _ ?_)
     refine LWP.cond_split rfl (fun h17 => ?_) (fun h17 => ?_)
     ·have h := bT h17 h
      refine LWP.skip (hN14 _ ?_)
      refine LWP.seq_k fun N18 hN18 => ?_
      refine LWP.block ?_
      refine LWP.seq_k fun N19 hN19 => ?_
      refine LWP.region (l := [_,_,_,_,_,_,_,_,_,_]) ?_
      refine LWo.move (e_Luint8 t0) rfl (hn := ?_)
      refine LWo.move (e_int t5) rfl (hn := ?_)
      refine bk h fun x20 e20 h => ?_
      refine LWo.cutM (f := e_uint8) e20 u_Luint8 s_uint8 rfl ⟨_, rfl⟩ rfl (hn := ?_)
      refine bk h fun x21 e21 h => ?_
      refine LWo.vcall rfl rfl (c_spec_ValueFrom _ _ e21) (.same (.nil)) (hn := ?_)
      refine LWo.move (.tup [(e_impl_Value x21.1), (e_int x21.2)]) rfl (hn := ?_)
      refine LWo.extract (e_impl_Value x21.1) rfl rfl (hn := ?_)
      refine LWo.extract (e_int x21.2) rfl rfl (hn := ?_)
      refine LWo.alloc_impl_Value 7 rfl (hn := ?_)
      refine lk h fun y22 e22 h => ?_
      refine LWo.storeW (y := (⟨(0 : Int), (0 : Int), (⟨#[]⟩ : ByteArray)⟩ : S_impl_Value)) y22 s_impl_Value rfl rfl rfl rfl rfl rfl (by rw [e22]; exact .refl) rfl (hn := ?_)
      refine LWo.assign (e_int x21.2) rfl (hn := ?_)
      refine LWo.nil (hN19 _ ?_)
      refine LWP.seq_k fun N23 hN23 => ?_
      refine LWP.seq_k fun N24 hN24 => ?_
      refine LWP.region (l := [_,_]) ?_
      refine LWo.move (e_int x21.2) rfl (hn := ?_)
      refine LWo.int _ rfl rfl rfl (hn := ?_)
      refine LWo.nil (hN24 _ ?_)
      refine LWP.cond_split rfl (fun h25 => ?_) (fun h25 => ?_)
      ·have h := bT h25 h
       refine LWP.seq_k fun N26 hN26 => ?_
       refine LWP.region (l := [_,_,_]) ?_
       refine LWo.lit0 1038 u_Limpl_Value s_impl_Value z_impl_Value (hn := ?_)
       refine LWo.known 38 (.own 1038 0 ([] : (List S_impl_Value)).length) rfl ?_
       refine LWo.assign (.own 1038 0 (([] : (List S_impl_Value))).length) rfl (hn := ?_)
       refine LWo.assign (e_int (0 : Int)) rfl (hn := ?_)
       refine LWo.nil (hN26 _ ?_)
       obtain rfl := Option.some.inj h
       refine LWP.ret (QG.mk (.inr rfl) (.cons (.tmp (x := (.own 1038 0 (([] : (List S_impl_Value))).length)) rfl) (.cons (.tmp (x := (e_int (0 : Int))) rfl) (.nil))) (RetOK.many0 (.cons (.nwM rfl rfl) (.cons (.pure rfl) (.nil))) (by simp) (by decide)) rfl rfl)
      ·have h := bF h25 h
       refine LWP.skip (hN23 _ ?_)
       refine LWP.seq_k fun N27 hN27 => ?_
       refine LWP.region (l := [_,_,_,_,_]) ?_
       refine LWo.move (.own 1020 0 (o1020).length) rfl (hn := ?_)
       refine LWo.loadVN ((e_impl_Value y22)).cells  g_impl_Value s_impl_Value rfl rfl rfl rfl (hn := ?_)
       refine LWo.lit (ops := [_]) [(e_impl_Value y22)] u_Limpl_Value s_impl_Value z_impl_Value rfl rfl rfl rfl rfl rfl (hn := ?_)
       refine bk h fun x28 e28 h => ?_
       refine LWo.appendM (f := e_impl_Value) e28 rfl u_Limpl_Value u_Limpl_Value (fun _ h => by cases h) s_impl_Value i_impl_Value rfl rfl rfl (.sl rfl) rfl rfl (hn := ?_)
       refine LWo.assign (.own 1020 0 (x28).length) rfl (hn := ?_)
       refine LWo.nil (hN27 _ ?_)
       refine LWP.region (l := [_,_,_,_]) ?_
       refine LWo.move (e_int t5) rfl (hn := ?_)
       refine LWo.move (e_int x21.2) rfl (hn := ?_)
       refine bk h fun x29 e29 h => ?_
       refine LWo.int _ rfl rfl (add_ck e29) (hn := ?_)
       refine LWo.assign (e_int x29) rfl (hn := ?_)
       refine LWo.nil (hN18 _ ?_)
       refine LWP.region (l := [_,_,_]) ?_
       refine LWo.move (e_int t6) rfl (hn := ?_)
       refine bk h fun x30 e30 h => ?_
       refine LWo.int _ rfl rfl (add_ck e30) (hn := ?_)
       refine LWo.assign (e_int x30) rfl (hn := ?_)
       refine LWo.nil (hN12 (t0, x29, x30, x28) _ ⟨rfl, rfl, rfl, rfl, trivial⟩ ⟨rfl, trivial⟩ h)
     ·have h := bF h17 h
      refine LWP.exit (hN10 (t5, o1020) _ ⟨rfl, rfl, trivial⟩ ⟨rfl, trivial⟩ h)
  ·intro N3 hN3
   refine LWP.region (l := [_,_,_,_,_,_,_,_,_,_]) ?_
   refine LWo.move (e_Luint8 a0) rfl (hn := ?_)
   refine LWo.lenM (f := e_uint8) (l := a0) u_Luint8 rfl (hn := ?_)
   refine LWo.int _ rfl rfl rfl (hn := ?_)
   refine LWo.move (e_bool ((a0.length : Int) == (0 : Int))) rfl (hn := ?_)
   refine LWo.byCases (t := 12) _ rfl (fun h4 => ?_) (fun h4 => ?_)
   ·have h := bT h4 h
    refine LWo.guardNU (t := 12) rfl h4 rfl rfl rfl rfl rfl ?_
    refine LWo.guardNU (t := 12) rfl h4 rfl rfl rfl rfl rfl ?_
    refine LWo.guardNU (t := 12) rfl h4 rfl rfl rfl rfl rfl ?_
    refine LWo.guardNU (t := 12) rfl h4 rfl rfl rfl rfl rfl ?_
    refine LWo.guardNU (t := 12) rfl h4 rfl rfl rfl rfl rfl ?_
    refine LWo.pickTM (e_bool true) rfl h4 rfl (hn := ?_)
    refine LWo.nil (hN3 (a0, true) _ ⟨rfl, rfl, trivial⟩ trivial h)
   ·have h := bF h4 h
    refine LWo.guardY (t := 12) rfl h4 rfl rfl ?_
    refine LWo.move (e_Luint8 a0) rfl (hn := ?_)
    refine bk h fun x5 e5 h => ?_
    refine LWo.guardY (t := 12) rfl h4 rfl rfl ?_
    refine LWo.indexM (f := e_uint8) e5 u_Luint8 s_uint8 rfl rfl (hn := ?_)
    refine LWo.guardY (t := 12) rfl h4 rfl rfl ?_
    refine LWo.load1 (c := (e_uint8 x5)) g_uint8 rfl (hn := ?_)
    refine LWo.guardY (t := 12) rfl h4 rfl rfl ?_
    refine LWo.convByte _ u_uint8 u_int rfl (hn := ?_)
    refine LWo.guardY (t := 12) rfl h4 rfl rfl ?_
    refine LWo.int _ rfl rfl rfl (hn := ?_)
    refine LWo.pickFM (e_bool (decide ((x5.toNat : Int) > (4 : Int)))) rfl h4 rfl (hn := ?_)
    refine LWo.nil (hN3 (a0, decide ((x5.toNat : Int) > (4 : Int))) _ ⟨rfl, rfl, trivial⟩ trivial h)

def m_spec_l18Read_j3 (t3 : Bool) (o2 : S_impl_Entry) : Option (S_impl_Entry × Bool) :=
  some (o2, t3)
def m_spec_l18Read_j2 (t0 : (List UInt8)) (t5 : Int) (o2 : S_impl_Entry) (o100201 : (List S_impl_Write)) (o4 : S_impl_Entry) : Option (S_impl_Entry × Bool) :=
  bif (t5 == (t0.length : Int)) then ((m_spec_LogOk ([{ o4 with Writes := o100201 }] : (List S_impl_Entry))).bind fun x48 =>
    lt ({ o4 with Writes := o100201 }) fun y49 =>
    m_spec_l18Read_j3  x48 y49)
  else (lt ({ o4 with Writes := o100201 }) fun y50 =>
    m_spec_l18Read_j3  false y50)
def m_spec_l18Read_j1 (k1 : (List UInt8) → Int → Int → S_impl_Entry → (List S_impl_Write) → S_impl_Entry → Option (S_impl_Entry × Bool)) (t0 : (List UInt8)) (t5 : Int) (t6 : Int) (t38 : Bool) (o2 : S_impl_Entry) (o100201 : (List S_impl_Write)) (o4 : S_impl_Entry) : Option (S_impl_Entry × Bool) :=
  bif t38 then (lt ((⟨(0 : Int), []⟩ : S_impl_Entry)) fun y28 =>
    some (y28, false))
  else ((ckI (t5 + (2 : Int))).bind fun x30 =>
  (cut? t0 x30 (t0.length : Int)).bind fun x31 =>
  (m_spec_RowFrom x31).bind fun x32 =>
  bif (x32.2 == (0 : Int)) then (lt ((⟨(0 : Int), []⟩ : S_impl_Entry)) fun y37 =>
  some (y37, false))
  else ((at? t0 t5).bind fun x39 =>
  (ckI (t5 + (1 : Int))).bind fun x40 =>
  (at? t0 x40).bind fun x41 =>
  (app? o100201 ([(⟨(x39.toNat : Int), x32.1, ((x41.toNat : Int) == ((1 : UInt8).toNat : Int))⟩ : S_impl_Write)] : (List S_impl_Write))).bind fun x42 =>
  (ckI (t5 + (2 : Int))).bind fun x43 =>
  (ckI (x43 + x32.2)).bind fun x44 =>
  (ckI (t6 + (1 : Int))).bind fun x45 =>
  k1 t0 x44 x45 o2 x42 o4))
def m_spec_l18Read_l1 : Nat → (List UInt8) → Int → Int → S_impl_Entry → (List S_impl_Write) → S_impl_Entry → Option (S_impl_Entry × Bool)
  | 0, _, _, _, _, _, _ => none
  | n1 + 1, t0, t5, t6, o2, o100201, o4 =>
    (at? t0 (1 : Int)).bind fun x17 =>
    bif decide (t6 < (x17.toNat : Int)) then ((ckI (t5 + (2 : Int))).bind fun x22 =>
    bif decide (x22 > (t0.length : Int)) then (m_spec_l18Read_j1  (m_spec_l18Read_l1  n1) t0 t5 t6 true o2 o100201 o4)
    else ((ckI (t5 + (1 : Int))).bind fun x24 =>
      (at? t0 x24).bind fun x25 =>
      m_spec_l18Read_j1  (m_spec_l18Read_l1  n1) t0 t5 t6 (decide ((x25.toNat : Int) > ((1 : UInt8).toNat : Int))) o2 o100201 o4))
    else (m_spec_l18Read_j2  t0 t5 o2 o100201 o4)
def m_spec_l18Read (a0 : (List UInt8)) : Option (S_impl_Entry × Bool) :=
  bif decide ((a0.length : Int) < (2 : Int)) then (lt ((⟨(0 : Int), []⟩ : S_impl_Entry)) fun y6 =>
    some (y6, false))
  else ((at? a0 (0 : Int)).bind fun x8 =>
  lt ((⟨(x8.toNat : Int), []⟩ : S_impl_Entry)) fun y9 =>
  m_spec_l18Read_l1  (1000000000) a0 (2 : Int) (0 : Int) (⟨(0 : Int), []⟩ : S_impl_Entry) ([] : (List S_impl_Write)) y9)
theorem c_spec_l18Read (a0 : (List UInt8)) (r : (S_impl_Entry × Bool)) (h : m_spec_l18Read a0 = some r) : Ret Try.prog f_spec_l18Read [e_Luint8 a0] (.tup [e_impl_Entry r.1, e_bool r.2]) := by
  refine Does.goG [] F_spec_l18Read rfl e_spec_l18Read n_spec_l18Read rfl (rvs := [.cell 2 t_impl_Entry, .tmp 3]) rfl rfl ?_
  intro w0 ok0 lent ρ0
  refine LWP.seq_k fun N1 hN1 => ?_
  refine LWP.region (l := [_,_]) ?_
  refine LWo.alloc_impl_Entry 2 rfl (hn := ?_)
  refine LWo.assign (e_bool false) rfl (hn := ?_)
  refine LWo.nil (hN1 _ ?_)
  refine LWP.seq_k fun N2 hN2 => ?_
  refine LWP.seq_k fun N3 hN3 => ?_
  refine LWP.region (l := [_,_,_]) ?_
  refine LWo.move (e_Luint8 a0) rfl (hn := ?_)
  refine LWo.lenM (f := e_uint8) (l := a0) u_Luint8 rfl (hn := ?_)
  refine LWo.int _ rfl rfl rfl (hn := ?_)
  refine LWo.nil (hN3 _ ?_)
  refine LWP.cond_split rfl (fun h4 => ?_) (fun h4 => ?_)
  ·have h := bT h4 h
   refine LWP.seq_k fun N5 hN5 => ?_
   refine LWP.region (l := [_,_,_]) ?_
   refine LWo.build_impl_Entry (parts := []) (⟨(0 : Int), []⟩ : S_impl_Entry) rfl rfl rfl (.agg (.cons .refl (.cons .nil .nil))) (hn := ?_)
   refine lk h fun y6 e6 h => ?_
   refine LWo.storeW (y := (⟨(0 : Int), []⟩ : S_impl_Entry)) y6 s_impl_Entry rfl rfl rfl rfl rfl rfl (by rw [e6]; exact .refl) rfl (hn := ?_)
   refine LWo.assign (e_bool false) rfl (hn := ?_)
   refine LWo.nil (hN5 _ ?_)
   obtain rfl := Option.some.inj h
   refine LWP.ret (QG.mk (.inr rfl) (.cons (.cellN (ys := (e_impl_Entry y6).cells) g_impl_Entry s_impl_Entry rfl rfl rfl rfl rfl (fun _ _ => rfl)) (.cons (.tmp (x := (e_bool false)) rfl) (.nil))) (RetOK.many0 (.cons (.pure rfl) (.cons (.pure rfl) (.nil))) (by simp) (by decide)) rfl rfl)
  ·have h := bF h4 h
   refine LWP.skip (hN2 _ ?_)
   refine LWP.seq_k fun N7 hN7 => ?_
   refine LWP.region (l := [_,_,_,_,_,_,_]) ?_
   refine LWo.move (e_Luint8 a0) rfl (hn := ?_)
   refine bk h fun x8 e8 h => ?_
   refine LWo.indexM (f := e_uint8) e8 u_Luint8 s_uint8 rfl rfl (hn := ?_)
   refine LWo.load1 (c := (e_uint8 x8)) g_uint8 rfl (hn := ?_)
   refine LWo.convByte _ u_uint8 u_int rfl (hn := ?_)
   refine LWo.buildR_impl_Entry (parts := [_]) (ovr (e_impl_Entry (⟨(x8.toNat : Int), []⟩ : S_impl_Entry)).cells [(1, .imm (.slice none 0 0))]) rfl rfl rfl (hn := ?_)
   refine LWo.allocX_impl_Entry [(1, .imm (.slice none 0 0))] 4 rfl rfl (hn := ?_)
   refine LWo.nilX 4 100201 1 3 [(1, .own 100201 0 (([] : (List S_impl_Write))).length)] rfl rfl rfl rfl rfl rfl ?_
   refine lk h fun y9 e9 h => ?_
   refine LWo.storeX (f := e_impl_Entry) (y := (⟨(0 : Int), []⟩ : S_impl_Entry)) y9 [(1, .imm (.slice none 0 0))] s_impl_Entry rfl rfl rfl rfl rfl rfl (by rw [e9]; rfl) (hn := ?_)
   refine LWo.nilX 4 100201 1 3 [(1, .own 100201 0 (([] : (List S_impl_Write))).length)] rfl rfl rfl rfl rfl rfl ?_
   refine LWo.nil (hN7 _ ?_)
   refine LWP.seq_k fun N10 hN10 => ?_
   refine LWP.region (l := [_]) ?_
   refine LWo.assign (e_int (2 : Int)) rfl (hn := ?_)
   refine LWo.nil (hN10 _ ?_)
   refine LWP.join (α := (List UInt8) × Int × S_impl_Entry × (List S_impl_Write) × S_impl_Entry) (fun z : (List UInt8) × Int × S_impl_Entry × (List S_impl_Write) × S_impl_Entry => [(0, (e_Luint8 z.1)), (2, (.ptr 2 0 0)), (4, (.ptr 4 0 0)), (5, (e_int z.2.1))]) (fun z : (List UInt8) × Int × S_impl_Entry × (List S_impl_Write) × S_impl_Entry => [(2, (vob 2 e_impl_Entry z.2.2.1)), (100201, (lob 3 e_impl_Write z.2.2.2.1)), (4, (xob 2 e_impl_Entry z.2.2.2.2 [(1, .own 100201 0 (z.2.2.2.1).length)]))]) (fun z : (List UInt8) × Int × S_impl_Entry × (List S_impl_Write) × S_impl_Entry => m_spec_l18Read_j2  z.1 z.2.1 z.2.2.1 z.2.2.2.1 z.2.2.2.2) r (fun _ => by simp [hkeys]) ?_ ?_
   ·rintro ⟨t0, t5, o2, o100201, o4⟩ h
    replace h : m_spec_l18Read_j2  t0 t5 o2 o100201 o4 = some _ := h
    refine LWP.join (α := Bool × S_impl_Entry) (fun z : Bool × S_impl_Entry => [(2, (.ptr 2 0 0)), (3, (e_bool z.1))]) (fun z : Bool × S_impl_Entry => [(2, (vob 2 e_impl_Entry z.2))]) (fun z : Bool × S_impl_Entry => m_spec_l18Read_j3  z.1 z.2) r (fun _ => by simp [hkeys]) ?_ ?_
    ·rintro ⟨t3, o2⟩ h
     replace h : m_spec_l18Read_j3  t3 o2 = some _ := h
     obtain rfl := Option.some.inj h
     refine LWP.ret (QG.mk (.inr rfl) (.cons (.cellN (ys := (e_impl_Entry o2).cells) g_impl_Entry s_impl_Entry rfl rfl rfl rfl rfl (fun _ _ => rfl)) (.cons (.tmp (x := (e_bool t3)) rfl) (.nil))) (RetOK.many0 (.cons (.pure rfl) (.cons (.pure rfl) (.nil))) (by simp) (by decide)) rfl rfl)
    ·intro N46 hN46
     refine LWP.frzX (f := e_impl_Entry) (g := e_impl_Write) (l := o100201) [] 4 100201 1 ({ o4 with Writes := o100201 }) [] rfl rfl rfl rfl rfl trivial rfl ?_
     refine bS ((t5 == (t0.length : Int))) (fun h47 => ?_) (fun h47 => ?_)
     ·have h := bT h47 h
      refine bk h fun x48 e48 h => ?_
      refine lk h fun y49 e49 h => ?_
      refine LWP.drawF (l := [_,_,_,_,_,_,_,_,_,_,_,_]) [] [0, 2, 4, 5] [([4], [4]), ([5], []), ([0], []), ([75], []), ([74, 76], []), ([77], []), ([4, 78], [4]), ([78, 79], []), ([78, 80], []), ([78, 81], []), ([2, 73], [2]), ([82], [])] [2, 3] [2] mixed (by kernel_rfl) rfl (by decide) ?_
      refine dq 73 rfl (fun _ g u h => LWo.loadPtrN ((e_impl_Entry ({ o4 with Writes := o100201 }))).cells g_impl_Entry s_impl_Entry u.1 h.1 rfl rfl rfl (fun _ _ => rfl) (hn := .nil (zn g))) ?_
      refine dq 74 rfl (fun _ g u h => LWo.move (e_int t5) u.1 (hn := .nil (zn g))) ?_
      refine dq 75 rfl (fun _ g u h => LWo.move (e_Luint8 t0) u.1 (hn := .nil (zn g))) ?_
      refine dq 76 rfl (fun _ g u h => LWo.lenM (f := e_uint8) (l := t0) u_Luint8 u.1 (hn := .nil (zn g))) ?_
      refine dq 77 rfl (fun _ g u h => LWo.int _ u.1 u.2.1 rfl (hn := .nil (zn g))) ?_
      refine dq 78 rfl (fun _ g u h => LWo.move (e_bool (t5 == (t0.length : Int))) u.1 (hn := .nil (zn g))) ?_
      refine dq 79 rfl (fun _ g u h => LWo.guardY (t := 78) u.2.1 h47 rfl rfl (LWo.loadPtrN ((e_impl_Entry ({ o4 with Writes := o100201 }))).cells g_impl_Entry s_impl_Entry u.1 h.1 rfl rfl rfl (fun _ _ => rfl) (hn := .nil (zn g)))) ?_
      refine dq 80 rfl (fun _ g u h => LWo.guardY (t := 78) u.1 h47 rfl rfl (LWo.lit (ops := [_]) [(e_impl_Entry ({ o4 with Writes := o100201 }))] u_Limpl_Entry s_impl_Entry z_impl_Entry (lv1 u.2.1) rfl rfl rfl rfl rfl (hn := .nil (zn g)))) ?_
      refine dq 81 rfl (fun _ g u h => LWo.guardY (t := 78) u.1 h47 rfl rfl (LWo.vcall rfl (av1 u.2.1) (c_spec_LogOk _ _ e48) (.same (.nil)) (hn := .nil (zn g)))) ?_
      refine dq 82 rfl (fun _ g u h => LWo.pickTM (e_bool x48) u.1 h47 u.2.1 (hn := .nil (zn g))) ?_
      refine ⟨rfl, .upd none .junk 2 _, (fun _ h => by cases h), fun _ g u h => LWo.storeW (y := o2) y49 s_impl_Entry u.1 u.2.1 rfl rfl h.1 rfl (by rw [e49]; exact .refl) rfl (hn := LWo.nil ⟨rfl, .inl rfl, Ef.good_ok (e := .upd none .junk 2 _) (fun _ h => by cases h) g⟩), ?_⟩
      refine dq 3 rfl (fun _ g u h => LWo.assign (e_bool x48) u.1 (hn := .nil (zn g))) ?_
      refine ⟨rfl, by kernel_rfl, hN46 (x48, y49) _ ⟨rfl, rfl, trivial⟩ ⟨rfl, trivial⟩ h⟩
     ·have h := bF h47 h
      refine lk h fun y50 e50 h => ?_
      refine LWP.drawF (l := [_,_,_,_,_,_,_,_,_,_,_,_]) [] [0, 2, 4, 5] [([4], [4]), ([5], []), ([0], []), ([75], []), ([74, 76], []), ([77], []), ([4, 78], []), ([78, 79], []), ([78, 80], []), ([78, 81], []), ([2, 73], [2]), ([82], [])] [2, 3] [2] mixed (by kernel_rfl) rfl (by decide) ?_
      refine dq 73 rfl (fun _ g u h => LWo.loadPtrN ((e_impl_Entry ({ o4 with Writes := o100201 }))).cells g_impl_Entry s_impl_Entry u.1 h.1 rfl rfl rfl (fun _ _ => rfl) (hn := .nil (zn g))) ?_
      refine dq 74 rfl (fun _ g u h => LWo.move (e_int t5) u.1 (hn := .nil (zn g))) ?_
      refine dq 75 rfl (fun _ g u h => LWo.move (e_Luint8 t0) u.1 (hn := .nil (zn g))) ?_
      refine dq 76 rfl (fun _ g u h => LWo.lenM (f := e_uint8) (l := t0) u_Luint8 u.1 (hn := .nil (zn g))) ?_
      refine dq 77 rfl (fun _ g u h => LWo.int _ u.1 u.2.1 rfl (hn := .nil (zn g))) ?_
      refine dq 78 rfl (fun _ g u h => LWo.move (e_bool (t5 == (t0.length : Int))) u.1 (hn := .nil (zn g))) ?_
      refine dq 79 rfl (fun _ g u h => LWo.guardNU (t := 78) u.2.1 h47 rfl rfl rfl rfl rfl (.nil (zn g))) ?_
      refine dq 80 rfl (fun _ g u h => LWo.guardNU (t := 78) u.1 h47 rfl rfl rfl rfl rfl (.nil (zn g))) ?_
      refine dq 81 rfl (fun _ g u h => LWo.guardNU (t := 78) u.1 h47 rfl rfl rfl rfl rfl (.nil (zn g))) ?_
      refine dq 82 rfl (fun _ g u h => LWo.pickFM (e_bool false) u.1 h47 rfl (hn := .nil (zn g))) ?_
      refine ⟨rfl, .upd none .junk 2 _, (fun _ h => by cases h), fun _ g u h => LWo.storeW (y := o2) y50 s_impl_Entry u.1 u.2.1 rfl rfl h.1 rfl (by rw [e50]; exact .refl) rfl (hn := LWo.nil ⟨rfl, .inl rfl, Ef.good_ok (e := .upd none .junk 2 _) (fun _ h => by cases h) g⟩), ?_⟩
      refine dq 3 rfl (fun _ g u h => LWo.assign (e_bool false) u.1 (hn := .nil (zn g))) ?_
      refine ⟨rfl, by kernel_rfl, hN46 (false, y50) _ ⟨rfl, rfl, trivial⟩ ⟨rfl, trivial⟩ h⟩
   ·intro N11 hN11
    refine LWP.seq_k fun N12 hN12 => ?_
    refine LWP.region (l := [_]) ?_
    refine LWo.assign (e_int (0 : Int)) rfl (hn := ?_)
    refine LWo.nil (hN12 _ ?_)
    refine LWP.block ?_
    refine LWP.loopM (α := (List UInt8) × Int × Int × S_impl_Entry × (List S_impl_Write) × S_impl_Entry) (fun z : (List UInt8) × Int × Int × S_impl_Entry × (List S_impl_Write) × S_impl_Entry => [(0, (e_Luint8 z.1)), (2, (.ptr 2 0 0)), (4, (.ptr 4 0 0)), (5, (e_int z.2.1)), (6, (e_int z.2.2.1))]) (fun z : (List UInt8) × Int × Int × S_impl_Entry × (List S_impl_Write) × S_impl_Entry => [(2, (vob 2 e_impl_Entry z.2.2.2.1)), (100201, (lob 3 e_impl_Write z.2.2.2.2.1)), (4, (xob 2 e_impl_Entry z.2.2.2.2.2 [(1, .own 100201 0 (z.2.2.2.2.1).length)]))]) (fun n1 (z : (List UInt8) × Int × Int × S_impl_Entry × (List S_impl_Write) × S_impl_Entry) => m_spec_l18Read_l1  n1 z.1 z.2.1 z.2.2.1 z.2.2.2.1 z.2.2.2.2.1 z.2.2.2.2.2) r _ (a0, (2 : Int), (0 : Int), (⟨(0 : Int), []⟩ : S_impl_Entry), ([] : (List S_impl_Write)), y9) h (fun _ => rfl) (fun _ => by simp [hkeys]) ⟨rfl, rfl, rfl, rfl, rfl, trivial⟩ ⟨rfl, rfl, rfl, trivial⟩ ?_
    rintro n1 ⟨t0, t5, t6, o2, o100201, o4⟩ h N13 hN13
    replace h : m_spec_l18Read_l1  (n1 + 1) t0 t5 t6 o2 o100201 o4 = some _ := h
    refine LWP.seq_k fun N15 hN15 => ?_
    refine LWP.seq_k fun N16 hN16 => ?_
    refine LWP.region (l := [_,_,_,_,_,_]) ?_
    refine LWo.move (e_int t6) rfl (hn := ?_)
    refine LWo.move (e_Luint8 t0) rfl (hn := ?_)
    refine bk h fun x17 e17 h => ?_
    refine LWo.indexM (f := e_uint8) e17 u_Luint8 s_uint8 rfl rfl (hn := ?_)
    refine LWo.load1 (c := (e_uint8 x17)) g_uint8 rfl (hn := ?_)
    refine LWo.convByte _ u_uint8 u_int rfl (hn := ?_)
    refine LWo.int _ rfl rfl rfl (hn := ?_)
    refine LWo.nil (hN16 _ ?_)
    refine LWP.cond_split rfl (fun h18 => ?_) (fun h18 => ?_)
    ·have h := bT h18 h
     refine LWP.skip (hN15 _ ?_)
     refine LWP.seq_k fun N19 hN19 => ?_
     refine LWP.block ?_
     refine LWP.seq_k fun N20 hN20 => ?_
     refine LWP.join (α := (List UInt8) × Int × Int × Bool × S_impl_Entry × (List S_impl_Write) × S_impl_Entry) (fun z : (List UInt8) × Int × Int × Bool × S_impl_Entry × (List S_impl_Write) × S_impl_Entry => [(0, (e_Luint8 z.1)), (2, (.ptr 2 0 0)), (4, (.ptr 4 0 0)), (5, (e_int z.2.1)), (6, (e_int z.2.2.1)), (38, (e_bool z.2.2.2.1))]) (fun z : (List UInt8) × Int × Int × Bool × S_impl_Entry × (List S_impl_Write) × S_impl_Entry => [(2, (vob 2 e_impl_Entry z.2.2.2.2.1)), (100201, (lob 3 e_impl_Write z.2.2.2.2.2.1)), (4, (xob 2 e_impl_Entry z.2.2.2.2.2.2 [(1, .own 100201 0 (z.2.2.2.2.2.1).length)]))]) (fun z : (List UInt8) × Int × Int × Bool × S_impl_Entry × (List S_impl_Write) × S_impl_Entry => m_spec_l18Read_j1  (m_spec_l18Read_l1  n1) z.1 z.2.1 z.2.2.1 z.2.2.2.1 z.2.2.2.2.1 z.2.2.2.2.2.1 z.2.2.2.2.2.2) r (fun _ => by simp [hkeys]) ?_ ?_
     ·rintro ⟨t0, t5, t6, t38, o2, o100201, o4⟩ h
      replace h : m_spec_l18Read_j1  (m_spec_l18Read_l1  n1) t0 t5 t6 t38 o2 o100201 o4 = some _ := h
      refine LWP.cond_split rfl (fun h26 => ?_) (fun h26 => ?_)
      ·have h := bT h26 h
       refine LWP.seq_k fun N27 hN27 => ?_
       refine LWP.region (l := [_,_,_]) ?_
       refine LWo.build_impl_Entry (parts := []) (⟨(0 : Int), []⟩ : S_impl_Entry) rfl rfl rfl (.agg (.cons .refl (.cons .nil .nil))) (hn := ?_)
       refine lk h fun y28 e28 h => ?_
       refine LWo.storeW (y := o2) y28 s_impl_Entry rfl rfl rfl rfl rfl rfl (by rw [e28]; exact .refl) rfl (hn := ?_)
       refine LWo.assign (e_bool false) rfl (hn := ?_)
       refine LWo.nil (hN27 _ ?_)
       obtain rfl := Option.some.inj h
       refine LWP.ret (QG.mk (.inr rfl) (.cons (.cellN (ys := (e_impl_Entry y28).cells) g_impl_Entry s_impl_Entry rfl rfl rfl rfl rfl (fun _ _ => rfl)) (.cons (.tmp (x := (e_bool false)) rfl) (.nil))) (RetOK.many0 (.cons (.pure rfl) (.cons (.pure rfl) (.nil))) (by simp) (by decide)) rfl rfl)
      ·have h := bF h26 h
       refine LWP.skip (hN20 _ ?_)
       refine LWP.seq_k fun N29 hN29 => ?_
       refine LWP.region (l := [_,_,_,_,_,_,_,_,_,_]) ?_
       refine LWo.move (e_Luint8 t0) rfl (hn := ?_)
       refine LWo.move (e_int t5) rfl (hn := ?_)
       refine bk h fun x30 e30 h => ?_
       refine LWo.int _ rfl rfl (add_ck e30) (hn := ?_)
       refine bk h fun x31 e31 h => ?_
       refine LWo.cutM (f := e_uint8) e31 u_Luint8 s_uint8 rfl ⟨_, rfl⟩ rfl (hn := ?_)
       refine bk h fun x32 e32 h => ?_
       refine LWo.vcall rfl rfl (c_spec_RowFrom _ _ e32) (.same (.nil)) (hn := ?_)
       refine LWo.move (.tup [(e_Limpl_Value x32.1), (e_int x32.2)]) rfl (hn := ?_)
       refine LWo.extract (e_Limpl_Value x32.1) rfl rfl (hn := ?_)
       refine LWo.extract (e_int x32.2) rfl rfl (hn := ?_)
       refine LWo.assign (e_Limpl_Value x32.1) rfl (hn := ?_)
       refine LWo.assign (e_int x32.2) rfl (hn := ?_)
       refine LWo.nil (hN29 _ ?_)
       refine LWP.seq_k fun N33 hN33 => ?_
       refine LWP.seq_k fun N34 hN34 => ?_
       refine LWP.region (l := [_,_]) ?_
       refine LWo.move (e_int x32.2) rfl (hn := ?_)
       refine LWo.int _ rfl rfl rfl (hn := ?_)
       refine LWo.nil (hN34 _ ?_)
       refine LWP.cond_split rfl (fun h35 => ?_) (fun h35 => ?_)
       ·have h := bT h35 h
        refine LWP.seq_k fun N36 hN36 => ?_
        refine LWP.region (l := [_,_,_]) ?_
        refine LWo.build_impl_Entry (parts := []) (⟨(0 : Int), []⟩ : S_impl_Entry) rfl rfl rfl (.agg (.cons .refl (.cons .nil .nil))) (hn := ?_)
        refine lk h fun y37 e37 h => ?_
        refine LWo.storeW (y := o2) y37 s_impl_Entry rfl rfl rfl rfl rfl rfl (by rw [e37]; exact .refl) rfl (hn := ?_)
        refine LWo.assign (e_bool false) rfl (hn := ?_)
        refine LWo.nil (hN36 _ ?_)
        obtain rfl := Option.some.inj h
        refine LWP.ret (QG.mk (.inr rfl) (.cons (.cellN (ys := (e_impl_Entry y37).cells) g_impl_Entry s_impl_Entry rfl rfl rfl rfl rfl (fun _ _ => rfl)) (.cons (.tmp (x := (e_bool false)) rfl) (.nil))) (RetOK.many0 (.cons (.pure rfl) (.cons (.pure rfl) (.nil))) (by simp) (by decide)) rfl rfl)
       ·have h := bF h35 h
        refine LWP.skip (hN33 _ ?_)
        refine LWP.seq_k fun N38 hN38 => ?_
        refine bk h fun x39 e39 h => ?_
        refine bk h fun x40 e40 h => ?_
        refine bk h fun x41 e41 h => ?_
        refine bk h fun x42 e42 h => ?_
        refine LWP.drawF (l := [_,_,_,_,_,_,_,_,_,_,_,_,_,_,_,_,_,_,_]) [(100201, 4)] [0, 2, 4, 5, 6, 7, 8] [([4], []), ([51], [4]), ([0], []), ([5], []), ([53, 54], []), ([55], []), ([56], []), ([7], []), ([0], []), ([5], []), ([60], []), ([59, 61], []), ([62], []), ([63], []), ([57, 58, 64], []), ([65], []), ([52, 66], [100201, 4]), ([4], []), ([67, 68], [4])] [0, 2, 4, 5, 6, 8] [2, 4, 100201] mixed (by kernel_rfl) rfl (by decide) ?_
        refine dq 51 rfl (fun _ g u h => LWo.fieldPtr u_impl_Entry rfl s_Limpl_Write u.1 rfl (hn := .nil (zn g))) ?_
        refine ⟨rfl, .upd (some 52) _ 4 _, (by exact (goodC rfl goodN)), fun _ g u h => LWo.takeX (f := e_impl_Entry) (y := o4) (.own 100201 0 (o100201).length) [(1, .junk)] g_Limpl_Write u.1 h.1 rfl rfl (hn := LWo.nil ⟨rfl, .inl rfl, Ef.good_ok (e := .upd (some 52) _ 4 _) (by exact (goodC rfl goodN)) g⟩), ?_⟩
        refine dq 53 rfl (fun _ g u h => LWo.move (e_Luint8 t0) u.1 (hn := .nil (zn g))) ?_
        refine dq 54 rfl (fun _ g u h => LWo.move (e_int t5) u.1 (hn := .nil (zn g))) ?_
        refine dq 55 rfl (fun _ g u h => LWo.indexM (f := e_uint8) e39 u_Luint8 s_uint8 u.1 u.2.1 (hn := .nil (zn g))) ?_
        refine dq 56 rfl (fun _ g u h => LWo.load1 (c := (e_uint8 x39)) g_uint8 u.1 (hn := .nil (zn g))) ?_
        refine dq 57 rfl (fun _ g u h => LWo.convByte _ u_uint8 u_int u.1 (hn := .nil (zn g))) ?_
        refine dq 58 rfl (fun _ g u h => LWo.move (e_Limpl_Value x32.1) u.1 (hn := .nil (zn g))) ?_
        refine dq 59 rfl (fun _ g u h => LWo.move (e_Luint8 t0) u.1 (hn := .nil (zn g))) ?_
        refine dq 60 rfl (fun _ g u h => LWo.move (e_int t5) u.1 (hn := .nil (zn g))) ?_
        refine dq 61 rfl (fun _ g u h => LWo.int _ u.1 rfl (add_ck e40) (hn := .nil (zn g))) ?_
        refine dq 62 rfl (fun _ g u h => LWo.indexM (f := e_uint8) e41 u_Luint8 s_uint8 u.1 u.2.1 (hn := .nil (zn g))) ?_
        refine dq 63 rfl (fun _ g u h => LWo.load1 (c := (e_uint8 x41)) g_uint8 u.1 (hn := .nil (zn g))) ?_
        refine dq 64 rfl (fun _ g u h => LWo.int _ u.1 rfl rfl (hn := .nil (zn g))) ?_
        refine dq 65 rfl (fun _ g u h => LWo.build_impl_Write (parts := [_, _, _]) (⟨(x39.toNat : Int), x32.1, ((x41.toNat : Int) == ((1 : UInt8).toNat : Int))⟩ : S_impl_Write) (pv3 u.1 u.2.1 u.2.2.1) rfl rfl .refl (hn := .nil (zn g))) ?_
        refine dq 66 rfl (fun _ g u h => LWo.lit (ops := [_]) [(e_impl_Write (⟨(x39.toNat : Int), x32.1, ((x41.toNat : Int) == ((1 : UInt8).toNat : Int))⟩ : S_impl_Write))] u_Limpl_Write s_impl_Write z_impl_Write (lv1 u.1) rfl rfl rfl rfl rfl (hn := .nil (zn g))) ?_
        refine ⟨rfl, .make 67 _ 100201 _, (by exact (goodC rfl goodN)), fun _ g u h => LWo.nd fun hnd => LWo.appendM (f := e_impl_Write) e42 rfl u_Limpl_Write u_Limpl_Write (fun _ h => by cases h) s_impl_Write i_impl_Write rfl u.1 h.1 (.sl u.2.1) (lone_x g rfl hnd h.2.1 rfl) rfl (hn := LWo.nil ⟨rfl, .inl rfl, Ef.good_ok (e := .make 67 _ 100201 _) (by exact (goodC rfl goodN)) g⟩), ?_⟩
        refine dq 68 rfl (fun _ g u h => LWo.fieldPtr u_impl_Entry rfl s_Limpl_Write u.1 rfl (hn := .nil (zn g))) ?_
        refine ⟨rfl, .upd none .junk 4 _, (by exact (goodC rfl goodN)), fun _ g u h => LWo.storeX (f := e_impl_Entry) (y := o4) o4 [(1, .own 100201 0 (x42).length)] s_Limpl_Write u.2.1 u.1 rfl rfl h.1 rfl rfl (hn := LWo.nil ⟨rfl, .inl rfl, Ef.good_ok (e := .upd none .junk 4 _) (by exact (goodC rfl goodN)) g⟩), ?_⟩
        refine ⟨rfl, by kernel_rfl, hN38 _ ?_⟩
        refine LWP.region (l := [_,_,_,_,_]) ?_
        refine LWo.move (e_int t5) rfl (hn := ?_)
        refine bk h fun x43 e43 h => ?_
        refine LWo.int _ rfl rfl (add_ck e43) (hn := ?_)
        refine LWo.move (e_int x32.2) rfl (hn := ?_)
        refine bk h fun x44 e44 h => ?_
        refine LWo.int _ rfl rfl (add_ck e44) (hn := ?_)
        refine LWo.assign (e_int x44) rfl (hn := ?_)
        refine LWo.nil (hN19 _ ?_)
        refine LWP.region (l := [_,_,_]) ?_
        refine LWo.move (e_int t6) rfl (hn := ?_)
        refine bk h fun x45 e45 h => ?_
        refine LWo.int _ rfl rfl (add_ck e45) (hn := ?_)
        refine LWo.assign (e_int x45) rfl (hn := ?_)
        refine LWo.nil (hN13 (t0, x44, x45, o2, x42, o4) _ ⟨rfl, rfl, rfl, rfl, rfl, trivial⟩ ⟨rfl, rfl, rfl, trivial⟩ h)
     ·intro N21 hN21
      refine LWP.region (l := [_,_,_,_,_,_,_,_,_,_,_,_,_]) ?_
      refine LWo.move (e_int t5) rfl (hn := ?_)
      refine bk h fun x22 e22 h => ?_
      refine LWo.int _ rfl rfl (add_ck e22) (hn := ?_)
      refine LWo.move (e_Luint8 t0) rfl (hn := ?_)
      refine LWo.lenM (f := e_uint8) (l := t0) u_Luint8 rfl (hn := ?_)
      refine LWo.int _ rfl rfl rfl (hn := ?_)
      refine LWo.move (e_bool (decide (x22 > (t0.length : Int)))) rfl (hn := ?_)
      refine LWo.byCases (t := 31) _ rfl (fun h23 => ?_) (fun h23 => ?_)
      ·have h := bT h23 h
       refine LWo.guardNU (t := 31) rfl h23 rfl rfl rfl rfl rfl ?_
       refine LWo.guardNU (t := 31) rfl h23 rfl rfl rfl rfl rfl ?_
       refine LWo.guardNU (t := 31) rfl h23 rfl rfl rfl rfl rfl ?_
       refine LWo.guardNU (t := 31) rfl h23 rfl rfl rfl rfl rfl ?_
       refine LWo.guardNU (t := 31) rfl h23 rfl rfl rfl rfl rfl ?_
       refine LWo.guardNU (t := 31) rfl h23 rfl rfl rfl rfl rfl ?_
       refine LWo.pickTM (e_bool true) rfl h23 rfl (hn := ?_)
       refine LWo.nil (hN21 (t0, t5, t6, true, o2, o100201, o4) _ ⟨rfl, rfl, rfl, rfl, rfl, rfl, trivial⟩ ⟨rfl, rfl, rfl, trivial⟩ h)
      ·have h := bF h23 h
       refine LWo.guardY (t := 31) rfl h23 rfl rfl ?_
       refine LWo.move (e_Luint8 t0) rfl (hn := ?_)
       refine LWo.guardY (t := 31) rfl h23 rfl rfl ?_
       refine LWo.move (e_int t5) rfl (hn := ?_)
       refine bk h fun x24 e24 h => ?_
       refine LWo.guardY (t := 31) rfl h23 rfl rfl ?_
       refine LWo.int _ rfl rfl (add_ck e24) (hn := ?_)
       refine bk h fun x25 e25 h => ?_
       refine LWo.guardY (t := 31) rfl h23 rfl rfl ?_
       refine LWo.indexM (f := e_uint8) e25 u_Luint8 s_uint8 rfl rfl (hn := ?_)
       refine LWo.guardY (t := 31) rfl h23 rfl rfl ?_
       refine LWo.load1 (c := (e_uint8 x25)) g_uint8 rfl (hn := ?_)
       refine LWo.guardY (t := 31) rfl h23 rfl rfl ?_
       refine LWo.int _ rfl rfl rfl (hn := ?_)
       refine LWo.pickFM (e_bool (decide ((x25.toNat : Int) > ((1 : UInt8).toNat : Int)))) rfl h23 rfl (hn := ?_)
       refine LWo.nil (hN21 (t0, t5, t6, decide ((x25.toNat : Int) > ((1 : UInt8).toNat : Int)), o2, o100201, o4) _ ⟨rfl, rfl, rfl, rfl, rfl, rfl, trivial⟩ ⟨rfl, rfl, rfl, trivial⟩ h)
    ·have h := bF h18 h
     refine LWP.exit (hN11 (t0, t5, o2, o100201, o4) _ ⟨rfl, rfl, rfl, rfl, trivial⟩ ⟨rfl, rfl, rfl, trivial⟩ h)

def m_spec_EntryFrom_j1 (t0 : (List UInt8)) (t4 : Int) (t38 : Bool) (o2 : S_impl_Entry) : Option (S_impl_Entry × Int) :=
  bif t38 then (lt ((⟨(0 : Int), []⟩ : S_impl_Entry)) fun y23 =>
    some (y23, (0 : Int)))
  else ((ckI (t4 + (2 : Int))).bind fun x25 =>
  (cut? t0 (2 : Int) x25).bind fun x26 =>
  (m_spec_l18Read x26).bind fun x27 =>
  lt (x27.1) fun y28 =>
  bif (!x27.2) then (lt ((⟨(0 : Int), []⟩ : S_impl_Entry)) fun y33 =>
  some (y33, (0 : Int)))
  else ((ckI (t4 + (3 : Int))).bind fun x35 =>
  lt (y28) fun y36 =>
  some (y36, x35)))
def m_spec_EntryFrom (a0 : (List UInt8)) : Option (S_impl_Entry × Int) :=
  bif decide ((a0.length : Int) < (3 : Int)) then (lt ((⟨(0 : Int), []⟩ : S_impl_Entry)) fun y6 =>
    some (y6, (0 : Int)))
  else ((at? a0 (0 : Int)).bind fun x8 =>
  (ckI ((x8.toNat : Int) * (256 : Int))).bind fun x9 =>
  (at? a0 (1 : Int)).bind fun x10 =>
  (ckI (x9 + (x10.toNat : Int))).bind fun x11 =>
  (ckI (x11 + (3 : Int))).bind fun x14 =>
  bif decide ((a0.length : Int) < x14) then (m_spec_EntryFrom_j1  a0 x11 true (⟨(0 : Int), []⟩ : S_impl_Entry))
  else ((ckI (x11 + (2 : Int))).bind fun x16 =>
    (at? a0 x16).bind fun x17 =>
    (ckI (x11 + (2 : Int))).bind fun x18 =>
    (cut? a0 (2 : Int) x18).bind fun x19 =>
    (m_spec_l18Sum x19).bind fun x20 =>
    m_spec_EntryFrom_j1  a0 x11 ((x17.toNat : Int) != (x20.toNat : Int)) (⟨(0 : Int), []⟩ : S_impl_Entry)))
theorem c_spec_EntryFrom (a0 : (List UInt8)) (r : (S_impl_Entry × Int)) (h : m_spec_EntryFrom a0 = some r) : Ret Try.prog f_spec_EntryFrom [e_Luint8 a0] (.tup [e_impl_Entry r.1, e_int r.2]) := by
  refine Does.goG [] F_spec_EntryFrom rfl e_spec_EntryFrom n_spec_EntryFrom rfl (rvs := [.cell 2 t_impl_Entry, .tmp 3]) rfl rfl ?_
  intro w0 ok0 lent ρ0
  refine LWP.seq_k fun N1 hN1 => ?_
  refine LWP.region (l := [_,_]) ?_
  refine LWo.alloc_impl_Entry 2 rfl (hn := ?_)
  refine LWo.assign (e_int (0 : Int)) rfl (hn := ?_)
  refine LWo.nil (hN1 _ ?_)
  refine LWP.seq_k fun N2 hN2 => ?_
  refine LWP.seq_k fun N3 hN3 => ?_
  refine LWP.region (l := [_,_,_]) ?_
  refine LWo.move (e_Luint8 a0) rfl (hn := ?_)
  refine LWo.lenM (f := e_uint8) (l := a0) u_Luint8 rfl (hn := ?_)
  refine LWo.int _ rfl rfl rfl (hn := ?_)
  refine LWo.nil (hN3 _ ?_)
  refine LWP.cond_split rfl (fun h4 => ?_) (fun h4 => ?_)
  ·have h := bT h4 h
   refine LWP.seq_k fun N5 hN5 => ?_
   refine LWP.region (l := [_,_,_]) ?_
   refine LWo.build_impl_Entry (parts := []) (⟨(0 : Int), []⟩ : S_impl_Entry) rfl rfl rfl (.agg (.cons .refl (.cons .nil .nil))) (hn := ?_)
   refine lk h fun y6 e6 h => ?_
   refine LWo.storeW (y := (⟨(0 : Int), []⟩ : S_impl_Entry)) y6 s_impl_Entry rfl rfl rfl rfl rfl rfl (by rw [e6]; exact .refl) rfl (hn := ?_)
   refine LWo.assign (e_int (0 : Int)) rfl (hn := ?_)
   refine LWo.nil (hN5 _ ?_)
   obtain rfl := Option.some.inj h
   refine LWP.ret (QG.mk (.inr rfl) (.cons (.cellN (ys := (e_impl_Entry y6).cells) g_impl_Entry s_impl_Entry rfl rfl rfl rfl rfl (fun _ _ => rfl)) (.cons (.tmp (x := (e_int (0 : Int))) rfl) (.nil))) (RetOK.many0 (.cons (.pure rfl) (.cons (.pure rfl) (.nil))) (by simp) (by decide)) rfl rfl)
  ·have h := bF h4 h
   refine LWP.skip (hN2 _ ?_)
   refine LWP.seq_k fun N7 hN7 => ?_
   refine bk h fun x8 e8 h => ?_
   refine bk h fun x9 e9 h => ?_
   refine bk h fun x10 e10 h => ?_
   refine bk h fun x11 e11 h => ?_
   refine LWP.drawF (l := [_,_,_,_,_,_,_,_,_,_,_]) [] [0, 2] [([0], []), ([11], []), ([12], []), ([13], []), ([14], []), ([0], []), ([16], []), ([17], []), ([18], []), ([15, 19], []), ([20], [])] [0, 2, 4] [2] mixed (by kernel_rfl) rfl (by decide) ?_
   refine dq 11 rfl (fun _ g u h => LWo.move (e_Luint8 a0) u.1 (hn := .nil (zn g))) ?_
   refine dq 12 rfl (fun _ g u h => LWo.indexM (f := e_uint8) e8 u_Luint8 s_uint8 u.1 rfl (hn := .nil (zn g))) ?_
   refine dq 13 rfl (fun _ g u h => LWo.load1 (c := (e_uint8 x8)) g_uint8 u.1 (hn := .nil (zn g))) ?_
   refine dq 14 rfl (fun _ g u h => LWo.convByte _ u_uint8 u_int u.1 (hn := .nil (zn g))) ?_
   refine dq 15 rfl (fun _ g u h => LWo.int _ u.1 rfl (mul_ck e9) (hn := .nil (zn g))) ?_
   refine dq 16 rfl (fun _ g u h => LWo.move (e_Luint8 a0) u.1 (hn := .nil (zn g))) ?_
   refine dq 17 rfl (fun _ g u h => LWo.indexM (f := e_uint8) e10 u_Luint8 s_uint8 u.1 rfl (hn := .nil (zn g))) ?_
   refine dq 18 rfl (fun _ g u h => LWo.load1 (c := (e_uint8 x10)) g_uint8 u.1 (hn := .nil (zn g))) ?_
   refine dq 19 rfl (fun _ g u h => LWo.convByte _ u_uint8 u_int u.1 (hn := .nil (zn g))) ?_
   refine dq 20 rfl (fun _ g u h => LWo.int _ u.1 u.2.1 (add_ck e11) (hn := .nil (zn g))) ?_
   refine dq 4 rfl (fun _ g u h => LWo.assign (e_int x11) u.1 (hn := .nil (zn g))) ?_
   refine ⟨rfl, by kernel_rfl, hN7 _ ?_⟩
   refine LWP.seq_k fun N12 hN12 => ?_
   refine LWP.join (α := (List UInt8) × Int × Bool × S_impl_Entry) (fun z : (List UInt8) × Int × Bool × S_impl_Entry => [(0, (e_Luint8 z.1)), (2, (.ptr 2 0 0)), (4, (e_int z.2.1)), (38, (e_bool z.2.2.1))]) (fun z : (List UInt8) × Int × Bool × S_impl_Entry => [(2, (vob 2 e_impl_Entry z.2.2.2))]) (fun z : (List UInt8) × Int × Bool × S_impl_Entry => m_spec_EntryFrom_j1  z.1 z.2.1 z.2.2.1 z.2.2.2) r (fun _ => by simp [hkeys]) ?_ ?_
   ·rintro ⟨t0, t4, t38, o2⟩ h
    replace h : m_spec_EntryFrom_j1  t0 t4 t38 o2 = some _ := h
    refine LWP.cond_split rfl (fun h21 => ?_) (fun h21 => ?_)
    ·have h := bT h21 h
     refine LWP.seq_k fun N22 hN22 => ?_
     refine LWP.region (l := [_,_,_]) ?_
     refine LWo.build_impl_Entry (parts := []) (⟨(0 : Int), []⟩ : S_impl_Entry) rfl rfl rfl (.agg (.cons .refl (.cons .nil .nil))) (hn := ?_)
     refine lk h fun y23 e23 h => ?_
     refine LWo.storeW (y := o2) y23 s_impl_Entry rfl rfl rfl rfl rfl rfl (by rw [e23]; exact .refl) rfl (hn := ?_)
     refine LWo.assign (e_int (0 : Int)) rfl (hn := ?_)
     refine LWo.nil (hN22 _ ?_)
     obtain rfl := Option.some.inj h
     refine LWP.ret (QG.mk (.inr rfl) (.cons (.cellN (ys := (e_impl_Entry y23).cells) g_impl_Entry s_impl_Entry rfl rfl rfl rfl rfl (fun _ _ => rfl)) (.cons (.tmp (x := (e_int (0 : Int))) rfl) (.nil))) (RetOK.many0 (.cons (.pure rfl) (.cons (.pure rfl) (.nil))) (by simp) (by decide)) rfl rfl)
    ·have h := bF h21 h
     refine LWP.skip (hN12 _ ?_)
     refine LWP.seq_k fun N24 hN24 => ?_
     refine LWP.region (l := [_,_,_,_,_,_,_,_,_,_,_]) ?_
     refine LWo.move (e_Luint8 t0) rfl (hn := ?_)
     refine LWo.move (e_int t4) rfl (hn := ?_)
     refine bk h fun x25 e25 h => ?_
     refine LWo.int _ rfl rfl (add_ck e25) (hn := ?_)
     refine bk h fun x26 e26 h => ?_
     refine LWo.cutM (f := e_uint8) e26 u_Luint8 s_uint8 rfl ⟨_, rfl⟩ ⟨_, rfl⟩ (hn := ?_)
     refine bk h fun x27 e27 h => ?_
     refine LWo.vcall rfl rfl (c_spec_l18Read _ _ e27) (.same (.nil)) (hn := ?_)
     refine LWo.move (.tup [(e_impl_Entry x27.1), (e_bool x27.2)]) rfl (hn := ?_)
     refine LWo.extract (e_impl_Entry x27.1) rfl rfl (hn := ?_)
     refine LWo.extract (e_bool x27.2) rfl rfl (hn := ?_)
     refine LWo.alloc_impl_Entry 5 rfl (hn := ?_)
     refine lk h fun y28 e28 h => ?_
     refine LWo.storeW (y := (⟨(0 : Int), []⟩ : S_impl_Entry)) y28 s_impl_Entry rfl rfl rfl rfl rfl rfl (by rw [e28]; exact .refl) rfl (hn := ?_)
     refine LWo.assign (e_bool x27.2) rfl (hn := ?_)
     refine LWo.nil (hN24 _ ?_)
     refine LWP.seq_k fun N29 hN29 => ?_
     refine LWP.seq_k fun N30 hN30 => ?_
     refine LWP.region (l := [_,_]) ?_
     refine LWo.move (e_bool x27.2) rfl (hn := ?_)
     refine LWo.not rfl (hn := ?_)
     refine LWo.nil (hN30 _ ?_)
     refine LWP.cond_split rfl (fun h31 => ?_) (fun h31 => ?_)
     ·have h := bT h31 h
      refine LWP.seq_k fun N32 hN32 => ?_
      refine LWP.region (l := [_,_,_]) ?_
      refine LWo.build_impl_Entry (parts := []) (⟨(0 : Int), []⟩ : S_impl_Entry) rfl rfl rfl (.agg (.cons .refl (.cons .nil .nil))) (hn := ?_)
      refine lk h fun y33 e33 h => ?_
      refine LWo.storeW (y := o2) y33 s_impl_Entry rfl rfl rfl rfl rfl rfl (by rw [e33]; exact .refl) rfl (hn := ?_)
      refine LWo.assign (e_int (0 : Int)) rfl (hn := ?_)
      refine LWo.nil (hN32 _ ?_)
      obtain rfl := Option.some.inj h
      refine LWP.ret (QG.mk (.inr rfl) (.cons (.cellN (ys := (e_impl_Entry y33).cells) g_impl_Entry s_impl_Entry rfl rfl rfl rfl rfl (fun _ _ => rfl)) (.cons (.tmp (x := (e_int (0 : Int))) rfl) (.nil))) (RetOK.many0 (.cons (.pure rfl) (.cons (.pure rfl) (.nil))) (by simp) (by decide)) rfl rfl)
     ·have h := bF h31 h
      refine LWP.skip (hN29 _ ?_)
      refine LWP.seq_k fun N34 hN34 => ?_
      refine LWP.region (l := [_,_,_,_,_]) ?_
      refine LWo.loadVN ((e_impl_Entry y28)).cells  g_impl_Entry s_impl_Entry rfl rfl rfl rfl (hn := ?_)
      refine LWo.move (e_int t4) rfl (hn := ?_)
      refine bk h fun x35 e35 h => ?_
      refine LWo.int _ rfl rfl (add_ck e35) (hn := ?_)
      refine lk h fun y36 e36 h => ?_
      refine LWo.storeW (y := o2) y36 s_impl_Entry rfl rfl rfl rfl rfl rfl (by rw [e36]; exact .refl) rfl (hn := ?_)
      refine LWo.assign (e_int x35) rfl (hn := ?_)
      refine LWo.nil (hN34 _ ?_)
      obtain rfl := Option.some.inj h
      refine LWP.ret (QG.mk (.inr rfl) (.cons (.cellN (ys := (e_impl_Entry y36).cells) g_impl_Entry s_impl_Entry rfl rfl rfl rfl rfl (fun _ _ => rfl)) (.cons (.tmp (x := (e_int x35)) rfl) (.nil))) (RetOK.many0 (.cons (.pure rfl) (.cons (.pure rfl) (.nil))) (by simp) (by decide)) rfl rfl)
   ·intro N13 hN13
    refine bk h fun x14 e14 h => ?_
    refine bS (decide ((a0.length : Int) < x14)) (fun h15 => ?_) (fun h15 => ?_)
    ·have h := bT h15 h
     refine LWP.drawF (l := [_,_,_,_,_,_,_,_,_,_,_,_,_,_,_,_,_,_]) [] [0, 2, 4] [([0], []), ([21], []), ([4], []), ([23], []), ([22, 24], []), ([25], []), ([0, 26], []), ([4, 26], []), ([26, 28], []), ([26, 27, 29], []), ([26, 30], []), ([0, 26], []), ([4, 26], []), ([26, 33], []), ([26, 32, 34], []), ([26, 35], []), ([26, 31, 36], []), ([26, 37], [])] [0, 2, 4, 38] [2] mixed (by kernel_rfl) rfl (by decide) ?_
     refine dq 21 rfl (fun _ g u h => LWo.move (e_Luint8 a0) u.1 (hn := .nil (zn g))) ?_
     refine dq 22 rfl (fun _ g u h => LWo.lenM (f := e_uint8) (l := a0) u_Luint8 u.1 (hn := .nil (zn g))) ?_
     refine dq 23 rfl (fun _ g u h => LWo.move (e_int x11) u.1 (hn := .nil (zn g))) ?_
     refine dq 24 rfl (fun _ g u h => LWo.int _ u.1 rfl (add_ck e14) (hn := .nil (zn g))) ?_
     refine dq 25 rfl (fun _ g u h => LWo.int _ u.1 u.2.1 rfl (hn := .nil (zn g))) ?_
     refine dq 26 rfl (fun _ g u h => LWo.move (e_bool (decide ((a0.length : Int) < x14))) u.1 (hn := .nil (zn g))) ?_
     refine dq 27 rfl (fun _ g u h => LWo.guardNU (t := 26) u.2.1 h15 rfl rfl rfl rfl rfl (.nil (zn g))) ?_
     refine dq 28 rfl (fun _ g u h => LWo.guardNU (t := 26) u.2.1 h15 rfl rfl rfl rfl rfl (.nil (zn g))) ?_
     refine dq 29 rfl (fun _ g u h => LWo.guardNU (t := 26) u.1 h15 rfl rfl rfl rfl rfl (.nil (zn g))) ?_
     refine dq 30 rfl (fun _ g u h => LWo.guardNU (t := 26) u.1 h15 rfl rfl rfl rfl rfl (.nil (zn g))) ?_
     refine dq 31 rfl (fun _ g u h => LWo.guardNU (t := 26) u.1 h15 rfl rfl rfl rfl rfl (.nil (zn g))) ?_
     refine dq 32 rfl (fun _ g u h => LWo.guardNU (t := 26) u.2.1 h15 rfl rfl rfl rfl rfl (.nil (zn g))) ?_
     refine dq 33 rfl (fun _ g u h => LWo.guardNU (t := 26) u.2.1 h15 rfl rfl rfl rfl rfl (.nil (zn g))) ?_
     refine dq 34 rfl (fun _ g u h => LWo.guardNU (t := 26) u.1 h15 rfl rfl rfl rfl rfl (.nil (zn g))) ?_
     refine dq 35 rfl (fun _ g u h => LWo.guardNU (t := 26) u.1 h15 rfl rfl rfl rfl rfl (.nil (zn g))) ?_
     refine dq 36 rfl (fun _ g u h => LWo.guardNU (t := 26) u.1 h15 rfl rfl rfl rfl rfl (.nil (zn g))) ?_
     refine dq 37 rfl (fun _ g u h => LWo.guardNU (t := 26) u.1 h15 rfl rfl rfl rfl rfl (.nil (zn g))) ?_
     refine dq 38 rfl (fun _ g u h => LWo.pickTM (e_bool true) u.1 h15 rfl (hn := .nil (zn g))) ?_
     refine ⟨rfl, by kernel_rfl, hN13 (a0, x11, true, (⟨(0 : Int), []⟩ : S_impl_Entry)) _ ⟨rfl, rfl, rfl, rfl, trivial⟩ ⟨rfl, trivial⟩ h⟩
    ·have h := bF h15 h
     refine bk h fun x16 e16 h => ?_
     refine bk h fun x17 e17 h => ?_
     refine bk h fun x18 e18 h => ?_
     refine bk h fun x19 e19 h => ?_
     refine bk h fun x20 e20 h => ?_
     refine LWP.drawF (l := [_,_,_,_,_,_,_,_,_,_,_,_,_,_,_,_,_,_]) [] [0, 2, 4] [([0], []), ([21], []), ([4], []), ([23], []), ([22, 24], []), ([25], []), ([0, 26], []), ([4, 26], []), ([26, 28], []), ([26, 27, 29], []), ([26, 30], []), ([0, 26], []), ([4, 26], []), ([26, 33], []), ([26, 32, 34], []), ([26, 35], []), ([26, 31, 36], []), ([26, 37], [])] [0, 2, 4, 38] [2] mixed (by kernel_rfl) rfl (by decide) ?_
     refine dq 21 rfl (fun _ g u h => LWo.move (e_Luint8 a0) u.1 (hn := .nil (zn g))) ?_
     refine dq 22 rfl (fun _ g u h => LWo.lenM (f := e_uint8) (l := a0) u_Luint8 u.1 (hn := .nil (zn g))) ?_
     refine dq 23 rfl (fun _ g u h => LWo.move (e_int x11) u.1 (hn := .nil (zn g))) ?_
     refine dq 24 rfl (fun _ g u h => LWo.int _ u.1 rfl (add_ck e14) (hn := .nil (zn g))) ?_
     refine dq 25 rfl (fun _ g u h => LWo.int _ u.1 u.2.1 rfl (hn := .nil (zn g))) ?_
     refine dq 26 rfl (fun _ g u h => LWo.move (e_bool (decide ((a0.length : Int) < x14))) u.1 (hn := .nil (zn g))) ?_
     refine dq 27 rfl (fun _ g u h => LWo.guardY (t := 26) u.2.1 h15 rfl rfl (LWo.move (e_Luint8 a0) u.1 (hn := .nil (zn g)))) ?_
     refine dq 28 rfl (fun _ g u h => LWo.guardY (t := 26) u.2.1 h15 rfl rfl (LWo.move (e_int x11) u.1 (hn := .nil (zn g)))) ?_
     refine dq 29 rfl (fun _ g u h => LWo.guardY (t := 26) u.1 h15 rfl rfl (LWo.int _ u.2.1 rfl (add_ck e16) (hn := .nil (zn g)))) ?_
     refine dq 30 rfl (fun _ g u h => LWo.guardY (t := 26) u.1 h15 rfl rfl (LWo.indexM (f := e_uint8) e17 u_Luint8 s_uint8 u.2.1 u.2.2.1 (hn := .nil (zn g)))) ?_
     refine dq 31 rfl (fun _ g u h => LWo.guardY (t := 26) u.1 h15 rfl rfl (LWo.load1 (c := (e_uint8 x17)) g_uint8 u.2.1 (hn := .nil (zn g)))) ?_
     refine dq 32 rfl (fun _ g u h => LWo.guardY (t := 26) u.2.1 h15 rfl rfl (LWo.move (e_Luint8 a0) u.1 (hn := .nil (zn g)))) ?_
     refine dq 33 rfl (fun _ g u h => LWo.guardY (t := 26) u.2.1 h15 rfl rfl (LWo.move (e_int x11) u.1 (hn := .nil (zn g)))) ?_
     refine dq 34 rfl (fun _ g u h => LWo.guardY (t := 26) u.1 h15 rfl rfl (LWo.int _ u.2.1 rfl (add_ck e18) (hn := .nil (zn g)))) ?_
     refine dq 35 rfl (fun _ g u h => LWo.guardY (t := 26) u.1 h15 rfl rfl (LWo.cutM (f := e_uint8) e19 u_Luint8 s_uint8 u.2.1 ⟨_, rfl⟩ ⟨_, u.2.2.1⟩ (hn := .nil (zn g)))) ?_
     refine dq 36 rfl (fun _ g u h => LWo.guardY (t := 26) u.1 h15 rfl rfl (LWo.vcall rfl (av1 u.2.1) (c_spec_l18Sum _ _ e20) (.same (.nil)) (hn := .nil (zn g)))) ?_
     refine dq 37 rfl (fun _ g u h => LWo.guardY (t := 26) u.1 h15 rfl rfl (LWo.int _ u.2.1 u.2.2.1 rfl (hn := .nil (zn g)))) ?_
     refine dq 38 rfl (fun _ g u h => LWo.pickFM (e_bool ((x17.toNat : Int) != (x20.toNat : Int))) u.1 h15 u.2.1 (hn := .nil (zn g))) ?_
     refine ⟨rfl, by kernel_rfl, hN13 (a0, x11, ((x17.toNat : Int) != (x20.toNat : Int)), (⟨(0 : Int), []⟩ : S_impl_Entry)) _ ⟨rfl, rfl, rfl, rfl, trivial⟩ ⟨rfl, trivial⟩ h⟩

def m_laws_sameRow_j1  : Option Bool :=
  some true
def m_laws_sameRow_l1 : Nat → (List S_impl_Value) → (List S_impl_Value) → Int → Option Bool
  | 0, _, _, _ => none
  | n1 + 1, t0, t1, t5 =>
    bif decide (t5 < (t0.length : Int)) then ((at? t0 t5).bind fun x15 =>
    (at? t1 t5).bind fun x16 =>
    bif (!(decide (x15 = x16))) then (some false)
    else ((ckI (t5 + (1 : Int))).bind fun x19 =>
    (m_laws_sameRow_l1  n1) t0 t1 x19))
    else (m_laws_sameRow_j1  )
def m_laws_sameRow (a0 : (List S_impl_Value)) (a1 : (List S_impl_Value)) : Option Bool :=
  bif ((a0.length : Int) != (a1.length : Int)) then (some false)
  else (m_laws_sameRow_l1  (((a0.length : Int) - (0 : Int)).toNat + 1) a0 a1 (0 : Int))
theorem c_laws_sameRow (a0 : (List S_impl_Value)) (a1 : (List S_impl_Value)) (r : Bool) (h : m_laws_sameRow a0 a1 = some r) : Ret Try.prog f_laws_sameRow [e_Limpl_Value a0, e_Limpl_Value a1] (e_bool r) := by
  refine Does.goG [] F_laws_sameRow rfl e_laws_sameRow n_laws_sameRow rfl (rvs := [.tmp 4]) rfl rfl ?_
  intro w0 ok0 lent ρ0
  refine LWP.seq_k fun N1 hN1 => ?_
  refine LWP.region (l := [_]) ?_
  refine LWo.assign (e_bool false) rfl (hn := ?_)
  refine LWo.nil (hN1 _ ?_)
  refine LWP.seq_k fun N2 hN2 => ?_
  refine LWP.seq_k fun N3 hN3 => ?_
  refine LWP.region (l := [_,_,_,_,_]) ?_
  refine LWo.move (e_Limpl_Value a0) rfl (hn := ?_)
  refine LWo.lenM (f := e_impl_Value) (l := a0) u_Limpl_Value rfl (hn := ?_)
  refine LWo.move (e_Limpl_Value a1) rfl (hn := ?_)
  refine LWo.lenM (f := e_impl_Value) (l := a1) u_Limpl_Value rfl (hn := ?_)
  refine LWo.int _ rfl rfl rfl (hn := ?_)
  refine LWo.nil (hN3 _ ?_)
  refine LWP.cond_split rfl (fun h4 => ?_) (fun h4 => ?_)
  ·have h := bT h4 h
   refine LWP.seq_k fun N5 hN5 => ?_
   refine LWP.region (l := [_]) ?_
   refine LWo.assign (e_bool false) rfl (hn := ?_)
   refine LWo.nil (hN5 _ ?_)
   obtain rfl := Option.some.inj h
   refine LWP.ret (QG.mk (.inr rfl) (.cons (.tmp (x := (e_bool false)) rfl) (.nil)) (RetOK.one0 (.pure rfl) (by decide)) rfl rfl)
  ·have h := bF h4 h
   refine LWP.skip (hN2 _ ?_)
   refine LWP.join (α := Unit) (fun z : Unit => []) (fun z : Unit => []) (fun z : Unit => m_laws_sameRow_j1  ) r (fun _ => by simp [hkeys]) ?_ ?_
   ·rintro _ h
    replace h : m_laws_sameRow_j1   = some _ := h
    refine LWP.seq_k fun N20 hN20 => ?_
    refine LWP.region (l := [_]) ?_
    refine LWo.assign (e_bool true) rfl (hn := ?_)
    refine LWo.nil (hN20 _ ?_)
    obtain rfl := Option.some.inj h
    refine LWP.ret (QG.mk (.inr rfl) (.cons (.tmp (x := (e_bool true)) rfl) (.nil)) (RetOK.one0 (.pure rfl) (by decide)) rfl rfl)
   ·intro N6 hN6
    refine LWP.seq_k fun N7 hN7 => ?_
    refine LWP.region (l := [_]) ?_
    refine LWo.assign (e_int (0 : Int)) rfl (hn := ?_)
    refine LWo.nil (hN7 _ ?_)
    refine LWP.block ?_
    refine LWP.loopM (α := (List S_impl_Value) × (List S_impl_Value) × Int) (fun z : (List S_impl_Value) × (List S_impl_Value) × Int => [(0, (e_Limpl_Value z.1)), (1, (e_Limpl_Value z.2.1)), (5, (e_int z.2.2))]) (fun z : (List S_impl_Value) × (List S_impl_Value) × Int => []) (fun n1 (z : (List S_impl_Value) × (List S_impl_Value) × Int) => m_laws_sameRow_l1  n1 z.1 z.2.1 z.2.2) r _ (a0, a1, (0 : Int)) h (fun _ => rfl) (fun _ => by simp [hkeys]) ⟨rfl, rfl, rfl, trivial⟩ trivial ?_
    rintro n1 ⟨t0, t1, t5⟩ h N8 hN8
    replace h : m_laws_sameRow_l1  (n1 + 1) t0 t1 t5 = some _ := h
    refine LWP.seq_k fun N10 hN10 => ?_
    refine LWP.seq_k fun N11 hN11 => ?_
    refine LWP.region (l := [_,_,_,_]) ?_
    refine LWo.move (e_int t5) rfl (hn := ?_)
    refine LWo.move (e_Limpl_Value t0) rfl (hn := ?_)
    refine LWo.lenM (f := e_impl_Value) (l := t0) u_Limpl_Value rfl (hn := ?_)
    refine LWo.int _ rfl rfl rfl (hn := ?_)
    refine LWo.nil (hN11 _ ?_)
    refine LWP.cond_split rfl (fun h12 => ?_) (fun h12 => ?_)
    ·have h := bT h12 h
     refine LWP.skip (hN10 _ ?_)
     refine LWP.seq_k fun N13 hN13 => ?_
     refine LWP.block ?_
     refine LWP.seq_k fun N14 hN14 => ?_
     refine bk h fun x15 e15 h => ?_
     refine bk h fun x16 e16 h => ?_
     refine LWP.drawF (l := [_,_,_,_,_,_,_,_,_]) [] [0, 1, 5] [([0], []), ([5], []), ([17, 18], []), ([19], []), ([1], []), ([5], []), ([21, 22], []), ([23], []), ([20, 24], [])] [0, 1, 5, 25] [] mixed (by kernel_rfl) rfl (by decide) ?_
     refine dq 17 rfl (fun _ g u h => LWo.move (e_Limpl_Value t0) u.1 (hn := .nil (zn g))) ?_
     refine dq 18 rfl (fun _ g u h => LWo.move (e_int t5) u.1 (hn := .nil (zn g))) ?_
     refine dq 19 rfl (fun _ g u h => LWo.indexM (f := e_impl_Value) e15 u_Limpl_Value s_impl_Value u.1 u.2.1 (hn := .nil (zn g))) ?_
     refine dq 20 rfl (fun _ g u h => LWo.loadN ((e_impl_Value x15)).cells g_impl_Value s_impl_Value u.1 (Nat.le_of_ble_eq_true rfl) rfl (hn := .nil (zn g))) ?_
     refine dq 21 rfl (fun _ g u h => LWo.move (e_Limpl_Value t1) u.1 (hn := .nil (zn g))) ?_
     refine dq 22 rfl (fun _ g u h => LWo.move (e_int t5) u.1 (hn := .nil (zn g))) ?_
     refine dq 23 rfl (fun _ g u h => LWo.indexM (f := e_impl_Value) e16 u_Limpl_Value s_impl_Value u.1 u.2.1 (hn := .nil (zn g))) ?_
     refine dq 24 rfl (fun _ g u h => LWo.loadN ((e_impl_Value x16)).cells g_impl_Value s_impl_Value u.1 (Nat.le_of_ble_eq_true rfl) rfl (hn := .nil (zn g))) ?_
     refine dq 25 rfl (fun _ g u h => LWo.ne_impl_Value _ _ u.1 u.2.1 (hn := .nil (zn g))) ?_
     refine ⟨rfl, by kernel_rfl, hN14 _ ?_⟩
     refine LWP.cond_split rfl (fun h17 => ?_) (fun h17 => ?_)
     ·have h := bT h17 h
      refine LWP.seq_k fun N18 hN18 => ?_
      refine LWP.region (l := [_]) ?_
      refine LWo.assign (e_bool false) rfl (hn := ?_)
      refine LWo.nil (hN18 _ ?_)
      obtain rfl := Option.some.inj h
      refine LWP.ret (QG.mk (.inr rfl) (.cons (.tmp (x := (e_bool false)) rfl) (.nil)) (RetOK.one0 (.pure rfl) (by decide)) rfl rfl)
     ·have h := bF h17 h
      refine LWP.skip (hN13 _ ?_)
      refine LWP.region (l := [_,_,_]) ?_
      refine LWo.move (e_int t5) rfl (hn := ?_)
      refine bk h fun x19 e19 h => ?_
      refine LWo.int _ rfl rfl (add_ck e19) (hn := ?_)
      refine LWo.assign (e_int x19) rfl (hn := ?_)
      refine LWo.nil (hN8 (t0, t1, x19) _ ⟨rfl, rfl, rfl, trivial⟩ trivial h)
    ·have h := bF h12 h
     refine LWP.exit (hN6 () _ trivial trivial h)

def m_laws_sameWrites_j2  : Option Bool :=
  some true
def m_laws_sameWrites_j1 (k1 : (List S_impl_Write) → (List S_impl_Write) → Int → Option Bool) (t0 : (List S_impl_Write)) (t1 : (List S_impl_Write)) (t5 : Int) (t54 : Bool) : Option Bool :=
  bif t54 then (some false)
  else ((ckI (t5 + (1 : Int))).bind fun x26 =>
  k1 t0 t1 x26)
def m_laws_sameWrites_l1 : Nat → (List S_impl_Write) → (List S_impl_Write) → Int → Option Bool
  | 0, _, _, _ => none
  | n1 + 1, t0, t1, t5 =>
    bif decide (t5 < (t0.length : Int)) then ((at? t0 t5).bind fun x15 =>
    (at? t1 t5).bind fun x16 =>
    bif (x15.Key != x16.Key) then (m_laws_sameWrites_j1  (m_laws_sameWrites_l1  n1) t0 t1 t5 true)
    else ((at? t0 t5).bind fun x18 =>
      (at? t1 t5).bind fun x19 =>
      bif (x18.Gone != x19.Gone) then (m_laws_sameWrites_j1  (m_laws_sameWrites_l1  n1) t0 t1 t5 true)
      else ((at? t0 t5).bind fun x21 =>
        (at? t1 t5).bind fun x22 =>
        (m_laws_sameRow x21.Row x22.Row).bind fun x23 =>
        m_laws_sameWrites_j1  (m_laws_sameWrites_l1  n1) t0 t1 t5 (!x23))))
    else (m_laws_sameWrites_j2  )
def m_laws_sameWrites (a0 : (List S_impl_Write)) (a1 : (List S_impl_Write)) : Option Bool :=
  bif ((a0.length : Int) != (a1.length : Int)) then (some false)
  else (m_laws_sameWrites_l1  (((a0.length : Int) - (0 : Int)).toNat + 1) a0 a1 (0 : Int))
theorem c_laws_sameWrites (a0 : (List S_impl_Write)) (a1 : (List S_impl_Write)) (r : Bool) (h : m_laws_sameWrites a0 a1 = some r) : Ret Try.prog f_laws_sameWrites [e_Limpl_Write a0, e_Limpl_Write a1] (e_bool r) := by
  refine Does.goG [] F_laws_sameWrites rfl e_laws_sameWrites n_laws_sameWrites rfl (rvs := [.tmp 4]) rfl rfl ?_
  intro w0 ok0 lent ρ0
  refine LWP.seq_k fun N1 hN1 => ?_
  refine LWP.region (l := [_]) ?_
  refine LWo.assign (e_bool false) rfl (hn := ?_)
  refine LWo.nil (hN1 _ ?_)
  refine LWP.seq_k fun N2 hN2 => ?_
  refine LWP.seq_k fun N3 hN3 => ?_
  refine LWP.region (l := [_,_,_,_,_]) ?_
  refine LWo.move (e_Limpl_Write a0) rfl (hn := ?_)
  refine LWo.lenM (f := e_impl_Write) (l := a0) u_Limpl_Write rfl (hn := ?_)
  refine LWo.move (e_Limpl_Write a1) rfl (hn := ?_)
  refine LWo.lenM (f := e_impl_Write) (l := a1) u_Limpl_Write rfl (hn := ?_)
  refine LWo.int _ rfl rfl rfl (hn := ?_)
  refine LWo.nil (hN3 _ ?_)
  refine LWP.cond_split rfl (fun h4 => ?_) (fun h4 => ?_)
  ·have h := bT h4 h
   refine LWP.seq_k fun N5 hN5 => ?_
   refine LWP.region (l := [_]) ?_
   refine LWo.assign (e_bool false) rfl (hn := ?_)
   refine LWo.nil (hN5 _ ?_)
   obtain rfl := Option.some.inj h
   refine LWP.ret (QG.mk (.inr rfl) (.cons (.tmp (x := (e_bool false)) rfl) (.nil)) (RetOK.one0 (.pure rfl) (by decide)) rfl rfl)
  ·have h := bF h4 h
   refine LWP.skip (hN2 _ ?_)
   refine LWP.join (α := Unit) (fun z : Unit => []) (fun z : Unit => []) (fun z : Unit => m_laws_sameWrites_j2  ) r (fun _ => by simp [hkeys]) ?_ ?_
   ·rintro _ h
    replace h : m_laws_sameWrites_j2   = some _ := h
    refine LWP.seq_k fun N27 hN27 => ?_
    refine LWP.region (l := [_]) ?_
    refine LWo.assign (e_bool true) rfl (hn := ?_)
    refine LWo.nil (hN27 _ ?_)
    obtain rfl := Option.some.inj h
    refine LWP.ret (QG.mk (.inr rfl) (.cons (.tmp (x := (e_bool true)) rfl) (.nil)) (RetOK.one0 (.pure rfl) (by decide)) rfl rfl)
   ·intro N6 hN6
    refine LWP.seq_k fun N7 hN7 => ?_
    refine LWP.region (l := [_]) ?_
    refine LWo.assign (e_int (0 : Int)) rfl (hn := ?_)
    refine LWo.nil (hN7 _ ?_)
    refine LWP.block ?_
    refine LWP.loopM (α := (List S_impl_Write) × (List S_impl_Write) × Int) (fun z : (List S_impl_Write) × (List S_impl_Write) × Int => [(0, (e_Limpl_Write z.1)), (1, (e_Limpl_Write z.2.1)), (5, (e_int z.2.2))]) (fun z : (List S_impl_Write) × (List S_impl_Write) × Int => []) (fun n1 (z : (List S_impl_Write) × (List S_impl_Write) × Int) => m_laws_sameWrites_l1  n1 z.1 z.2.1 z.2.2) r _ (a0, a1, (0 : Int)) h (fun _ => rfl) (fun _ => by simp [hkeys]) ⟨rfl, rfl, rfl, trivial⟩ trivial ?_
    rintro n1 ⟨t0, t1, t5⟩ h N8 hN8
    replace h : m_laws_sameWrites_l1  (n1 + 1) t0 t1 t5 = some _ := h
    refine LWP.seq_k fun N10 hN10 => ?_
    refine LWP.seq_k fun N11 hN11 => ?_
    refine LWP.region (l := [_,_,_,_]) ?_
    refine LWo.move (e_int t5) rfl (hn := ?_)
    refine LWo.move (e_Limpl_Write t0) rfl (hn := ?_)
    refine LWo.lenM (f := e_impl_Write) (l := t0) u_Limpl_Write rfl (hn := ?_)
    refine LWo.int _ rfl rfl rfl (hn := ?_)
    refine LWo.nil (hN11 _ ?_)
    refine LWP.cond_split rfl (fun h12 => ?_) (fun h12 => ?_)
    ·have h := bT h12 h
     refine LWP.skip (hN10 _ ?_)
     refine LWP.seq_k fun N13 hN13 => ?_
     refine LWP.block ?_
     refine LWP.join (α := (List S_impl_Write) × (List S_impl_Write) × Int × Bool) (fun z : (List S_impl_Write) × (List S_impl_Write) × Int × Bool => [(0, (e_Limpl_Write z.1)), (1, (e_Limpl_Write z.2.1)), (5, (e_int z.2.2.1)), (54, (e_bool z.2.2.2))]) (fun z : (List S_impl_Write) × (List S_impl_Write) × Int × Bool => []) (fun z : (List S_impl_Write) × (List S_impl_Write) × Int × Bool => m_laws_sameWrites_j1  (m_laws_sameWrites_l1  n1) z.1 z.2.1 z.2.2.1 z.2.2.2) r (fun _ => by simp [hkeys]) ?_ ?_
     ·rintro ⟨t0, t1, t5, t54⟩ h
      replace h : m_laws_sameWrites_j1  (m_laws_sameWrites_l1  n1) t0 t1 t5 t54 = some _ := h
      refine LWP.cond_split rfl (fun h24 => ?_) (fun h24 => ?_)
      ·have h := bT h24 h
       refine LWP.seq_k fun N25 hN25 => ?_
       refine LWP.region (l := [_]) ?_
       refine LWo.assign (e_bool false) rfl (hn := ?_)
       refine LWo.nil (hN25 _ ?_)
       obtain rfl := Option.some.inj h
       refine LWP.ret (QG.mk (.inr rfl) (.cons (.tmp (x := (e_bool false)) rfl) (.nil)) (RetOK.one0 (.pure rfl) (by decide)) rfl rfl)
      ·have h := bF h24 h
       refine LWP.skip (hN13 _ ?_)
       refine LWP.region (l := [_,_,_]) ?_
       refine LWo.move (e_int t5) rfl (hn := ?_)
       refine bk h fun x26 e26 h => ?_
       refine LWo.int _ rfl rfl (add_ck e26) (hn := ?_)
       refine LWo.assign (e_int x26) rfl (hn := ?_)
       refine LWo.nil (hN8 (t0, t1, x26) _ ⟨rfl, rfl, rfl, trivial⟩ trivial h)
     ·intro N14 hN14
      refine bk h fun x15 e15 h => ?_
      refine bk h fun x16 e16 h => ?_
      refine bS ((x15.Key != x16.Key)) (fun h17 => ?_) (fun h17 => ?_)
      ·have h := bT h17 h
       refine LWP.drawF (l := [_,_,_,_,_,_,_,_,_,_,_,_,_,_,_,_,_,_,_,_,_,_,_,_,_,_,_,_,_,_,_,_,_,_,_,_,_,_]) [] [0, 1, 5] [([0], []), ([5], []), ([17, 18], []), ([19], []), ([20], []), ([1], []), ([5], []), ([22, 23], []), ([24], []), ([25], []), ([21, 26], []), ([27], []), ([0, 28], []), ([5, 28], []), ([28, 29, 30], []), ([28, 31], []), ([28, 32], []), ([1, 28], []), ([5, 28], []), ([28, 34, 35], []), ([28, 36], []), ([28, 37], []), ([28, 33, 38], []), ([28, 39], []), ([40], []), ([0, 41], []), ([5, 41], []), ([41, 42, 43], []), ([41, 44], []), ([41, 45], []), ([1, 41], []), ([5, 41], []), ([41, 47, 48], []), ([41, 49], []), ([41, 50], []), ([41, 46, 51], []), ([41, 52], []), ([41, 53], [])] [0, 1, 5, 54] [] mixed (by kernel_rfl) rfl (by decide) ?_
       refine dq 17 rfl (fun _ g u h => LWo.move (e_Limpl_Write t0) u.1 (hn := .nil (zn g))) ?_
       refine dq 18 rfl (fun _ g u h => LWo.move (e_int t5) u.1 (hn := .nil (zn g))) ?_
       refine dq 19 rfl (fun _ g u h => LWo.indexM (f := e_impl_Write) e15 u_Limpl_Write s_impl_Write u.1 u.2.1 (hn := .nil (zn g))) ?_
       refine dq 20 rfl (fun _ g u h => LWo.fieldAddr _ u_impl_Write rfl s_int u.1 rfl (hn := .nil (zn g))) ?_
       refine dq 21 rfl (fun _ g u h => LWo.load1 (c := (e_int x15.Key)) g_int u.1 (hn := .nil (zn g))) ?_
       refine dq 22 rfl (fun _ g u h => LWo.move (e_Limpl_Write t1) u.1 (hn := .nil (zn g))) ?_
       refine dq 23 rfl (fun _ g u h => LWo.move (e_int t5) u.1 (hn := .nil (zn g))) ?_
       refine dq 24 rfl (fun _ g u h => LWo.indexM (f := e_impl_Write) e16 u_Limpl_Write s_impl_Write u.1 u.2.1 (hn := .nil (zn g))) ?_
       refine dq 25 rfl (fun _ g u h => LWo.fieldAddr _ u_impl_Write rfl s_int u.1 rfl (hn := .nil (zn g))) ?_
       refine dq 26 rfl (fun _ g u h => LWo.load1 (c := (e_int x16.Key)) g_int u.1 (hn := .nil (zn g))) ?_
       refine dq 27 rfl (fun _ g u h => LWo.int _ u.1 u.2.1 rfl (hn := .nil (zn g))) ?_
       refine dq 28 rfl (fun _ g u h => LWo.move (e_bool (x15.Key != x16.Key)) u.1 (hn := .nil (zn g))) ?_
       refine dq 29 rfl (fun _ g u h => LWo.guardNU (t := 28) u.2.1 h17 rfl rfl rfl rfl rfl (.nil (zn g))) ?_
       refine dq 30 rfl (fun _ g u h => LWo.guardNU (t := 28) u.2.1 h17 rfl rfl rfl rfl rfl (.nil (zn g))) ?_
       refine dq 31 rfl (fun _ g u h => LWo.guardNU (t := 28) u.1 h17 rfl rfl rfl rfl rfl (.nil (zn g))) ?_
       refine dq 32 rfl (fun _ g u h => LWo.guardNU (t := 28) u.1 h17 rfl rfl rfl rfl rfl (.nil (zn g))) ?_
       refine dq 33 rfl (fun _ g u h => LWo.guardNU (t := 28) u.1 h17 rfl rfl rfl rfl rfl (.nil (zn g))) ?_
       refine dq 34 rfl (fun _ g u h => LWo.guardNU (t := 28) u.2.1 h17 rfl rfl rfl rfl rfl (.nil (zn g))) ?_
       refine dq 35 rfl (fun _ g u h => LWo.guardNU (t := 28) u.2.1 h17 rfl rfl rfl rfl rfl (.nil (zn g))) ?_
       refine dq 36 rfl (fun _ g u h => LWo.guardNU (t := 28) u.1 h17 rfl rfl rfl rfl rfl (.nil (zn g))) ?_
       refine dq 37 rfl (fun _ g u h => LWo.guardNU (t := 28) u.1 h17 rfl rfl rfl rfl rfl (.nil (zn g))) ?_
       refine dq 38 rfl (fun _ g u h => LWo.guardNU (t := 28) u.1 h17 rfl rfl rfl rfl rfl (.nil (zn g))) ?_
       refine dq 39 rfl (fun _ g u h => LWo.guardNU (t := 28) u.1 h17 rfl rfl rfl rfl rfl (.nil (zn g))) ?_
       refine dq 40 rfl (fun _ g u h => LWo.pickTM (e_bool true) u.1 h17 rfl (hn := .nil (zn g))) ?_
       refine dq 41 rfl (fun _ g u h => LWo.move (e_bool true) u.1 (hn := .nil (zn g))) ?_
       refine dq 42 rfl (fun _ g u h => LWo.guardNU (t := 41) u.2.1 rfl rfl rfl rfl rfl rfl (.nil (zn g))) ?_
       refine dq 43 rfl (fun _ g u h => LWo.guardNU (t := 41) u.2.1 rfl rfl rfl rfl rfl rfl (.nil (zn g))) ?_
       refine dq 44 rfl (fun _ g u h => LWo.guardNU (t := 41) u.1 rfl rfl rfl rfl rfl rfl (.nil (zn g))) ?_
       refine dq 45 rfl (fun _ g u h => LWo.guardNU (t := 41) u.1 rfl rfl rfl rfl rfl rfl (.nil (zn g))) ?_
       refine dq 46 rfl (fun _ g u h => LWo.guardNU (t := 41) u.1 rfl rfl rfl rfl rfl rfl (.nil (zn g))) ?_
       refine dq 47 rfl (fun _ g u h => LWo.guardNU (t := 41) u.2.1 rfl rfl rfl rfl rfl rfl (.nil (zn g))) ?_
       refine dq 48 rfl (fun _ g u h => LWo.guardNU (t := 41) u.2.1 rfl rfl rfl rfl rfl rfl (.nil (zn g))) ?_
       refine dq 49 rfl (fun _ g u h => LWo.guardNU (t := 41) u.1 rfl rfl rfl rfl rfl rfl (.nil (zn g))) ?_
       refine dq 50 rfl (fun _ g u h => LWo.guardNU (t := 41) u.1 rfl rfl rfl rfl rfl rfl (.nil (zn g))) ?_
       refine dq 51 rfl (fun _ g u h => LWo.guardNU (t := 41) u.1 rfl rfl rfl rfl rfl rfl (.nil (zn g))) ?_
       refine dq 52 rfl (fun _ g u h => LWo.guardNU (t := 41) u.1 rfl rfl rfl rfl rfl rfl (.nil (zn g))) ?_
       refine dq 53 rfl (fun _ g u h => LWo.guardNU (t := 41) u.1 rfl rfl rfl rfl rfl rfl (.nil (zn g))) ?_
       refine dq 54 rfl (fun _ g u h => LWo.pickTM (e_bool true) u.1 rfl rfl (hn := .nil (zn g))) ?_
       refine ⟨rfl, by kernel_rfl, hN14 (t0, t1, t5, true) _ ⟨rfl, rfl, rfl, rfl, trivial⟩ trivial h⟩
      ·have h := bF h17 h
       refine bk h fun x18 e18 h => ?_
       refine bk h fun x19 e19 h => ?_
       refine bS ((x18.Gone != x19.Gone)) (fun h20 => ?_) (fun h20 => ?_)
       ·have h := bT h20 h
        refine LWP.drawF (l := [_,_,_,_,_,_,_,_,_,_,_,_,_,_,_,_,_,_,_,_,_,_,_,_,_,_,_,_,_,_,_,_,_,_,_,_,_,_]) [] [0, 1, 5] [([0], []), ([5], []), ([17, 18], []), ([19], []), ([20], []), ([1], []), ([5], []), ([22, 23], []), ([24], []), ([25], []), ([21, 26], []), ([27], []), ([0, 28], []), ([5, 28], []), ([28, 29, 30], []), ([28, 31], []), ([28, 32], []), ([1, 28], []), ([5, 28], []), ([28, 34, 35], []), ([28, 36], []), ([28, 37], []), ([28, 33, 38], []), ([28, 39], []), ([40], []), ([0, 41], []), ([5, 41], []), ([41, 42, 43], []), ([41, 44], []), ([41, 45], []), ([1, 41], []), ([5, 41], []), ([41, 47, 48], []), ([41, 49], []), ([41, 50], []), ([41, 46, 51], []), ([41, 52], []), ([41, 53], [])] [0, 1, 5, 54] [] mixed (by kernel_rfl) rfl (by decide) ?_
        refine dq 17 rfl (fun _ g u h => LWo.move (e_Limpl_Write t0) u.1 (hn := .nil (zn g))) ?_
        refine dq 18 rfl (fun _ g u h => LWo.move (e_int t5) u.1 (hn := .nil (zn g))) ?_
        refine dq 19 rfl (fun _ g u h => LWo.indexM (f := e_impl_Write) e15 u_Limpl_Write s_impl_Write u.1 u.2.1 (hn := .nil (zn g))) ?_
        refine dq 20 rfl (fun _ g u h => LWo.fieldAddr _ u_impl_Write rfl s_int u.1 rfl (hn := .nil (zn g))) ?_
        refine dq 21 rfl (fun _ g u h => LWo.load1 (c := (e_int x15.Key)) g_int u.1 (hn := .nil (zn g))) ?_
        refine dq 22 rfl (fun _ g u h => LWo.move (e_Limpl_Write t1) u.1 (hn := .nil (zn g))) ?_
        refine dq 23 rfl (fun _ g u h => LWo.move (e_int t5) u.1 (hn := .nil (zn g))) ?_
        refine dq 24 rfl (fun _ g u h => LWo.indexM (f := e_impl_Write) e16 u_Limpl_Write s_impl_Write u.1 u.2.1 (hn := .nil (zn g))) ?_
        refine dq 25 rfl (fun _ g u h => LWo.fieldAddr _ u_impl_Write rfl s_int u.1 rfl (hn := .nil (zn g))) ?_
        refine dq 26 rfl (fun _ g u h => LWo.load1 (c := (e_int x16.Key)) g_int u.1 (hn := .nil (zn g))) ?_
        refine dq 27 rfl (fun _ g u h => LWo.int _ u.1 u.2.1 rfl (hn := .nil (zn g))) ?_
        refine dq 28 rfl (fun _ g u h => LWo.move (e_bool (x15.Key != x16.Key)) u.1 (hn := .nil (zn g))) ?_
        refine dq 29 rfl (fun _ g u h => LWo.guardY (t := 28) u.2.1 h17 rfl rfl (LWo.move (e_Limpl_Write t0) u.1 (hn := .nil (zn g)))) ?_
        refine dq 30 rfl (fun _ g u h => LWo.guardY (t := 28) u.2.1 h17 rfl rfl (LWo.move (e_int t5) u.1 (hn := .nil (zn g)))) ?_
        refine dq 31 rfl (fun _ g u h => LWo.guardY (t := 28) u.1 h17 rfl rfl (LWo.indexM (f := e_impl_Write) e18 u_Limpl_Write s_impl_Write u.2.1 u.2.2.1 (hn := .nil (zn g)))) ?_
        refine dq 32 rfl (fun _ g u h => LWo.guardY (t := 28) u.1 h17 rfl rfl (LWo.fieldAddr _ u_impl_Write rfl s_bool u.2.1 rfl (hn := .nil (zn g)))) ?_
        refine dq 33 rfl (fun _ g u h => LWo.guardY (t := 28) u.1 h17 rfl rfl (LWo.load1 (c := (e_bool x18.Gone)) g_bool u.2.1 (hn := .nil (zn g)))) ?_
        refine dq 34 rfl (fun _ g u h => LWo.guardY (t := 28) u.2.1 h17 rfl rfl (LWo.move (e_Limpl_Write t1) u.1 (hn := .nil (zn g)))) ?_
        refine dq 35 rfl (fun _ g u h => LWo.guardY (t := 28) u.2.1 h17 rfl rfl (LWo.move (e_int t5) u.1 (hn := .nil (zn g)))) ?_
        refine dq 36 rfl (fun _ g u h => LWo.guardY (t := 28) u.1 h17 rfl rfl (LWo.indexM (f := e_impl_Write) e19 u_Limpl_Write s_impl_Write u.2.1 u.2.2.1 (hn := .nil (zn g)))) ?_
        refine dq 37 rfl (fun _ g u h => LWo.guardY (t := 28) u.1 h17 rfl rfl (LWo.fieldAddr _ u_impl_Write rfl s_bool u.2.1 rfl (hn := .nil (zn g)))) ?_
        refine dq 38 rfl (fun _ g u h => LWo.guardY (t := 28) u.1 h17 rfl rfl (LWo.load1 (c := (e_bool x19.Gone)) g_bool u.2.1 (hn := .nil (zn g)))) ?_
        refine dq 39 rfl (fun _ g u h => LWo.guardY (t := 28) u.1 h17 rfl rfl (LWo.boolNe u_bool u.2.1 u.2.2.1 (hn := .nil (zn g)))) ?_
        refine dq 40 rfl (fun _ g u h => LWo.pickFM (e_bool (x18.Gone != x19.Gone)) u.1 h17 u.2.1 (hn := .nil (zn g))) ?_
        refine dq 41 rfl (fun _ g u h => LWo.move (e_bool (x18.Gone != x19.Gone)) u.1 (hn := .nil (zn g))) ?_
        refine dq 42 rfl (fun _ g u h => LWo.guardNU (t := 41) u.2.1 h20 rfl rfl rfl rfl rfl (.nil (zn g))) ?_
        refine dq 43 rfl (fun _ g u h => LWo.guardNU (t := 41) u.2.1 h20 rfl rfl rfl rfl rfl (.nil (zn g))) ?_
        refine dq 44 rfl (fun _ g u h => LWo.guardNU (t := 41) u.1 h20 rfl rfl rfl rfl rfl (.nil (zn g))) ?_
        refine dq 45 rfl (fun _ g u h => LWo.guardNU (t := 41) u.1 h20 rfl rfl rfl rfl rfl (.nil (zn g))) ?_
        refine dq 46 rfl (fun _ g u h => LWo.guardNU (t := 41) u.1 h20 rfl rfl rfl rfl rfl (.nil (zn g))) ?_
        refine dq 47 rfl (fun _ g u h => LWo.guardNU (t := 41) u.2.1 h20 rfl rfl rfl rfl rfl (.nil (zn g))) ?_
        refine dq 48 rfl (fun _ g u h => LWo.guardNU (t := 41) u.2.1 h20 rfl rfl rfl rfl rfl (.nil (zn g))) ?_
        refine dq 49 rfl (fun _ g u h => LWo.guardNU (t := 41) u.1 h20 rfl rfl rfl rfl rfl (.nil (zn g))) ?_
        refine dq 50 rfl (fun _ g u h => LWo.guardNU (t := 41) u.1 h20 rfl rfl rfl rfl rfl (.nil (zn g))) ?_
        refine dq 51 rfl (fun _ g u h => LWo.guardNU (t := 41) u.1 h20 rfl rfl rfl rfl rfl (.nil (zn g))) ?_
        refine dq 52 rfl (fun _ g u h => LWo.guardNU (t := 41) u.1 h20 rfl rfl rfl rfl rfl (.nil (zn g))) ?_
        refine dq 53 rfl (fun _ g u h => LWo.guardNU (t := 41) u.1 h20 rfl rfl rfl rfl rfl (.nil (zn g))) ?_
        refine dq 54 rfl (fun _ g u h => LWo.pickTM (e_bool true) u.1 h20 rfl (hn := .nil (zn g))) ?_
        refine ⟨rfl, by kernel_rfl, hN14 (t0, t1, t5, true) _ ⟨rfl, rfl, rfl, rfl, trivial⟩ trivial h⟩
       ·have h := bF h20 h
        refine bk h fun x21 e21 h => ?_
        refine bk h fun x22 e22 h => ?_
        refine bk h fun x23 e23 h => ?_
        refine LWP.drawF (l := [_,_,_,_,_,_,_,_,_,_,_,_,_,_,_,_,_,_,_,_,_,_,_,_,_,_,_,_,_,_,_,_,_,_,_,_,_,_]) [] [0, 1, 5] [([0], []), ([5], []), ([17, 18], []), ([19], []), ([20], []), ([1], []), ([5], []), ([22, 23], []), ([24], []), ([25], []), ([21, 26], []), ([27], []), ([0, 28], []), ([5, 28], []), ([28, 29, 30], []), ([28, 31], []), ([28, 32], []), ([1, 28], []), ([5, 28], []), ([28, 34, 35], []), ([28, 36], []), ([28, 37], []), ([28, 33, 38], []), ([28, 39], []), ([40], []), ([0, 41], []), ([5, 41], []), ([41, 42, 43], []), ([41, 44], []), ([41, 45], []), ([1, 41], []), ([5, 41], []), ([41, 47, 48], []), ([41, 49], []), ([41, 50], []), ([41, 46, 51], []), ([41, 52], []), ([41, 53], [])] [0, 1, 5, 54] [] mixed (by kernel_rfl) rfl (by decide) ?_
        refine dq 17 rfl (fun _ g u h => LWo.move (e_Limpl_Write t0) u.1 (hn := .nil (zn g))) ?_
        refine dq 18 rfl (fun _ g u h => LWo.move (e_int t5) u.1 (hn := .nil (zn g))) ?_
        refine dq 19 rfl (fun _ g u h => LWo.indexM (f := e_impl_Write) e15 u_Limpl_Write s_impl_Write u.1 u.2.1 (hn := .nil (zn g))) ?_
        refine dq 20 rfl (fun _ g u h => LWo.fieldAddr _ u_impl_Write rfl s_int u.1 rfl (hn := .nil (zn g))) ?_
        refine dq 21 rfl (fun _ g u h => LWo.load1 (c := (e_int x15.Key)) g_int u.1 (hn := .nil (zn g))) ?_
        refine dq 22 rfl (fun _ g u h => LWo.move (e_Limpl_Write t1) u.1 (hn := .nil (zn g))) ?_
        refine dq 23 rfl (fun _ g u h => LWo.move (e_int t5) u.1 (hn := .nil (zn g))) ?_
        refine dq 24 rfl (fun _ g u h => LWo.indexM (f := e_impl_Write) e16 u_Limpl_Write s_impl_Write u.1 u.2.1 (hn := .nil (zn g))) ?_
        refine dq 25 rfl (fun _ g u h => LWo.fieldAddr _ u_impl_Write rfl s_int u.1 rfl (hn := .nil (zn g))) ?_
        refine dq 26 rfl (fun _ g u h => LWo.load1 (c := (e_int x16.Key)) g_int u.1 (hn := .nil (zn g))) ?_
        refine dq 27 rfl (fun _ g u h => LWo.int _ u.1 u.2.1 rfl (hn := .nil (zn g))) ?_
        refine dq 28 rfl (fun _ g u h => LWo.move (e_bool (x15.Key != x16.Key)) u.1 (hn := .nil (zn g))) ?_
        refine dq 29 rfl (fun _ g u h => LWo.guardY (t := 28) u.2.1 h17 rfl rfl (LWo.move (e_Limpl_Write t0) u.1 (hn := .nil (zn g)))) ?_
        refine dq 30 rfl (fun _ g u h => LWo.guardY (t := 28) u.2.1 h17 rfl rfl (LWo.move (e_int t5) u.1 (hn := .nil (zn g)))) ?_
        refine dq 31 rfl (fun _ g u h => LWo.guardY (t := 28) u.1 h17 rfl rfl (LWo.indexM (f := e_impl_Write) e18 u_Limpl_Write s_impl_Write u.2.1 u.2.2.1 (hn := .nil (zn g)))) ?_
        refine dq 32 rfl (fun _ g u h => LWo.guardY (t := 28) u.1 h17 rfl rfl (LWo.fieldAddr _ u_impl_Write rfl s_bool u.2.1 rfl (hn := .nil (zn g)))) ?_
        refine dq 33 rfl (fun _ g u h => LWo.guardY (t := 28) u.1 h17 rfl rfl (LWo.load1 (c := (e_bool x18.Gone)) g_bool u.2.1 (hn := .nil (zn g)))) ?_
        refine dq 34 rfl (fun _ g u h => LWo.guardY (t := 28) u.2.1 h17 rfl rfl (LWo.move (e_Limpl_Write t1) u.1 (hn := .nil (zn g)))) ?_
        refine dq 35 rfl (fun _ g u h => LWo.guardY (t := 28) u.2.1 h17 rfl rfl (LWo.move (e_int t5) u.1 (hn := .nil (zn g)))) ?_
        refine dq 36 rfl (fun _ g u h => LWo.guardY (t := 28) u.1 h17 rfl rfl (LWo.indexM (f := e_impl_Write) e19 u_Limpl_Write s_impl_Write u.2.1 u.2.2.1 (hn := .nil (zn g)))) ?_
        refine dq 37 rfl (fun _ g u h => LWo.guardY (t := 28) u.1 h17 rfl rfl (LWo.fieldAddr _ u_impl_Write rfl s_bool u.2.1 rfl (hn := .nil (zn g)))) ?_
        refine dq 38 rfl (fun _ g u h => LWo.guardY (t := 28) u.1 h17 rfl rfl (LWo.load1 (c := (e_bool x19.Gone)) g_bool u.2.1 (hn := .nil (zn g)))) ?_
        refine dq 39 rfl (fun _ g u h => LWo.guardY (t := 28) u.1 h17 rfl rfl (LWo.boolNe u_bool u.2.1 u.2.2.1 (hn := .nil (zn g)))) ?_
        refine dq 40 rfl (fun _ g u h => LWo.pickFM (e_bool (x18.Gone != x19.Gone)) u.1 h17 u.2.1 (hn := .nil (zn g))) ?_
        refine dq 41 rfl (fun _ g u h => LWo.move (e_bool (x18.Gone != x19.Gone)) u.1 (hn := .nil (zn g))) ?_
        refine dq 42 rfl (fun _ g u h => LWo.guardY (t := 41) u.2.1 h20 rfl rfl (LWo.move (e_Limpl_Write t0) u.1 (hn := .nil (zn g)))) ?_
        refine dq 43 rfl (fun _ g u h => LWo.guardY (t := 41) u.2.1 h20 rfl rfl (LWo.move (e_int t5) u.1 (hn := .nil (zn g)))) ?_
        refine dq 44 rfl (fun _ g u h => LWo.guardY (t := 41) u.1 h20 rfl rfl (LWo.indexM (f := e_impl_Write) e21 u_Limpl_Write s_impl_Write u.2.1 u.2.2.1 (hn := .nil (zn g)))) ?_
        refine dq 45 rfl (fun _ g u h => LWo.guardY (t := 41) u.1 h20 rfl rfl (LWo.fieldAddr _ u_impl_Write rfl s_Limpl_Value u.2.1 rfl (hn := .nil (zn g)))) ?_
        refine dq 46 rfl (fun _ g u h => LWo.guardY (t := 41) u.1 h20 rfl rfl (LWo.load1 (c := (e_Limpl_Value x21.Row)) g_Limpl_Value u.2.1 (hn := .nil (zn g)))) ?_
        refine dq 47 rfl (fun _ g u h => LWo.guardY (t := 41) u.2.1 h20 rfl rfl (LWo.move (e_Limpl_Write t1) u.1 (hn := .nil (zn g)))) ?_
        refine dq 48 rfl (fun _ g u h => LWo.guardY (t := 41) u.2.1 h20 rfl rfl (LWo.move (e_int t5) u.1 (hn := .nil (zn g)))) ?_
        refine dq 49 rfl (fun _ g u h => LWo.guardY (t := 41) u.1 h20 rfl rfl (LWo.indexM (f := e_impl_Write) e22 u_Limpl_Write s_impl_Write u.2.1 u.2.2.1 (hn := .nil (zn g)))) ?_
        refine dq 50 rfl (fun _ g u h => LWo.guardY (t := 41) u.1 h20 rfl rfl (LWo.fieldAddr _ u_impl_Write rfl s_Limpl_Value u.2.1 rfl (hn := .nil (zn g)))) ?_
        refine dq 51 rfl (fun _ g u h => LWo.guardY (t := 41) u.1 h20 rfl rfl (LWo.load1 (c := (e_Limpl_Value x22.Row)) g_Limpl_Value u.2.1 (hn := .nil (zn g)))) ?_
        refine dq 52 rfl (fun _ g u h => LWo.guardY (t := 41) u.1 h20 rfl rfl (LWo.vcall rfl (av2 u.2.1 u.2.2.1) (c_laws_sameRow _ _ _ e23) (.same (.same (.nil))) (hn := .nil (zn g)))) ?_
        refine dq 53 rfl (fun _ g u h => LWo.guardY (t := 41) u.1 h20 rfl rfl (LWo.not u.2.1 (hn := .nil (zn g)))) ?_
        refine dq 54 rfl (fun _ g u h => LWo.pickFM (e_bool (!x23)) u.1 h20 u.2.1 (hn := .nil (zn g))) ?_
        refine ⟨rfl, by kernel_rfl, hN14 (t0, t1, t5, (!x23)) _ ⟨rfl, rfl, rfl, rfl, trivial⟩ trivial h⟩
    ·have h := bF h12 h
     refine LWP.exit (hN6 () _ trivial trivial h)

def m_laws_sameLog_j2  : Option Bool :=
  some true
def m_laws_sameLog_j1 (k1 : (List S_impl_Entry) → (List S_impl_Entry) → Int → Option Bool) (t0 : (List S_impl_Entry)) (t1 : (List S_impl_Entry)) (t5 : Int) (t41 : Bool) : Option Bool :=
  bif t41 then (some false)
  else ((ckI (t5 + (1 : Int))).bind fun x23 =>
  k1 t0 t1 x23)
def m_laws_sameLog_l1 : Nat → (List S_impl_Entry) → (List S_impl_Entry) → Int → Option Bool
  | 0, _, _, _ => none
  | n1 + 1, t0, t1, t5 =>
    bif decide (t5 < (t0.length : Int)) then ((at? t0 t5).bind fun x15 =>
    (at? t1 t5).bind fun x16 =>
    bif (x15.Time != x16.Time) then (m_laws_sameLog_j1  (m_laws_sameLog_l1  n1) t0 t1 t5 true)
    else ((at? t0 t5).bind fun x18 =>
      (at? t1 t5).bind fun x19 =>
      (m_laws_sameWrites x18.Writes x19.Writes).bind fun x20 =>
      m_laws_sameLog_j1  (m_laws_sameLog_l1  n1) t0 t1 t5 (!x20)))
    else (m_laws_sameLog_j2  )
def m_laws_sameLog (a0 : (List S_impl_Entry)) (a1 : (List S_impl_Entry)) : Option Bool :=
  bif ((a0.length : Int) != (a1.length : Int)) then (some false)
  else (m_laws_sameLog_l1  (((a0.length : Int) - (0 : Int)).toNat + 1) a0 a1 (0 : Int))
theorem c_laws_sameLog (a0 : (List S_impl_Entry)) (a1 : (List S_impl_Entry)) (r : Bool) (h : m_laws_sameLog a0 a1 = some r) : Ret Try.prog f_laws_sameLog [e_Limpl_Entry a0, e_Limpl_Entry a1] (e_bool r) := by
  refine Does.goG [] F_laws_sameLog rfl e_laws_sameLog n_laws_sameLog rfl (rvs := [.tmp 4]) rfl rfl ?_
  intro w0 ok0 lent ρ0
  refine LWP.seq_k fun N1 hN1 => ?_
  refine LWP.region (l := [_]) ?_
  refine LWo.assign (e_bool false) rfl (hn := ?_)
  refine LWo.nil (hN1 _ ?_)
  refine LWP.seq_k fun N2 hN2 => ?_
  refine LWP.seq_k fun N3 hN3 => ?_
  refine LWP.region (l := [_,_,_,_,_]) ?_
  refine LWo.move (e_Limpl_Entry a0) rfl (hn := ?_)
  refine LWo.lenM (f := e_impl_Entry) (l := a0) u_Limpl_Entry rfl (hn := ?_)
  refine LWo.move (e_Limpl_Entry a1) rfl (hn := ?_)
  refine LWo.lenM (f := e_impl_Entry) (l := a1) u_Limpl_Entry rfl (hn := ?_)
  refine LWo.int _ rfl rfl rfl (hn := ?_)
  refine LWo.nil (hN3 _ ?_)
  refine LWP.cond_split rfl (fun h4 => ?_) (fun h4 => ?_)
  ·have h := bT h4 h
   refine LWP.seq_k fun N5 hN5 => ?_
   refine LWP.region (l := [_]) ?_
   refine LWo.assign (e_bool false) rfl (hn := ?_)
   refine LWo.nil (hN5 _ ?_)
   obtain rfl := Option.some.inj h
   refine LWP.ret (QG.mk (.inr rfl) (.cons (.tmp (x := (e_bool false)) rfl) (.nil)) (RetOK.one0 (.pure rfl) (by decide)) rfl rfl)
  ·have h := bF h4 h
   refine LWP.skip (hN2 _ ?_)
   refine LWP.join (α := Unit) (fun z : Unit => []) (fun z : Unit => []) (fun z : Unit => m_laws_sameLog_j2  ) r (fun _ => by simp [hkeys]) ?_ ?_
   ·rintro _ h
    replace h : m_laws_sameLog_j2   = some _ := h
    refine LWP.seq_k fun N24 hN24 => ?_
    refine LWP.region (l := [_]) ?_
    refine LWo.assign (e_bool true) rfl (hn := ?_)
    refine LWo.nil (hN24 _ ?_)
    obtain rfl := Option.some.inj h
    refine LWP.ret (QG.mk (.inr rfl) (.cons (.tmp (x := (e_bool true)) rfl) (.nil)) (RetOK.one0 (.pure rfl) (by decide)) rfl rfl)
   ·intro N6 hN6
    refine LWP.seq_k fun N7 hN7 => ?_
    refine LWP.region (l := [_]) ?_
    refine LWo.assign (e_int (0 : Int)) rfl (hn := ?_)
    refine LWo.nil (hN7 _ ?_)
    refine LWP.block ?_
    refine LWP.loopM (α := (List S_impl_Entry) × (List S_impl_Entry) × Int) (fun z : (List S_impl_Entry) × (List S_impl_Entry) × Int => [(0, (e_Limpl_Entry z.1)), (1, (e_Limpl_Entry z.2.1)), (5, (e_int z.2.2))]) (fun z : (List S_impl_Entry) × (List S_impl_Entry) × Int => []) (fun n1 (z : (List S_impl_Entry) × (List S_impl_Entry) × Int) => m_laws_sameLog_l1  n1 z.1 z.2.1 z.2.2) r _ (a0, a1, (0 : Int)) h (fun _ => rfl) (fun _ => by simp [hkeys]) ⟨rfl, rfl, rfl, trivial⟩ trivial ?_
    rintro n1 ⟨t0, t1, t5⟩ h N8 hN8
    replace h : m_laws_sameLog_l1  (n1 + 1) t0 t1 t5 = some _ := h
    refine LWP.seq_k fun N10 hN10 => ?_
    refine LWP.seq_k fun N11 hN11 => ?_
    refine LWP.region (l := [_,_,_,_]) ?_
    refine LWo.move (e_int t5) rfl (hn := ?_)
    refine LWo.move (e_Limpl_Entry t0) rfl (hn := ?_)
    refine LWo.lenM (f := e_impl_Entry) (l := t0) u_Limpl_Entry rfl (hn := ?_)
    refine LWo.int _ rfl rfl rfl (hn := ?_)
    refine LWo.nil (hN11 _ ?_)
    refine LWP.cond_split rfl (fun h12 => ?_) (fun h12 => ?_)
    ·have h := bT h12 h
     refine LWP.skip (hN10 _ ?_)
     refine LWP.seq_k fun N13 hN13 => ?_
     refine LWP.block ?_
     refine LWP.join (α := (List S_impl_Entry) × (List S_impl_Entry) × Int × Bool) (fun z : (List S_impl_Entry) × (List S_impl_Entry) × Int × Bool => [(0, (e_Limpl_Entry z.1)), (1, (e_Limpl_Entry z.2.1)), (5, (e_int z.2.2.1)), (41, (e_bool z.2.2.2))]) (fun z : (List S_impl_Entry) × (List S_impl_Entry) × Int × Bool => []) (fun z : (List S_impl_Entry) × (List S_impl_Entry) × Int × Bool => m_laws_sameLog_j1  (m_laws_sameLog_l1  n1) z.1 z.2.1 z.2.2.1 z.2.2.2) r (fun _ => by simp [hkeys]) ?_ ?_
     ·rintro ⟨t0, t1, t5, t41⟩ h
      replace h : m_laws_sameLog_j1  (m_laws_sameLog_l1  n1) t0 t1 t5 t41 = some _ := h
      refine LWP.cond_split rfl (fun h21 => ?_) (fun h21 => ?_)
      ·have h := bT h21 h
       refine LWP.seq_k fun N22 hN22 => ?_
       refine LWP.region (l := [_]) ?_
       refine LWo.assign (e_bool false) rfl (hn := ?_)
       refine LWo.nil (hN22 _ ?_)
       obtain rfl := Option.some.inj h
       refine LWP.ret (QG.mk (.inr rfl) (.cons (.tmp (x := (e_bool false)) rfl) (.nil)) (RetOK.one0 (.pure rfl) (by decide)) rfl rfl)
      ·have h := bF h21 h
       refine LWP.skip (hN13 _ ?_)
       refine LWP.region (l := [_,_,_]) ?_
       refine LWo.move (e_int t5) rfl (hn := ?_)
       refine bk h fun x23 e23 h => ?_
       refine LWo.int _ rfl rfl (add_ck e23) (hn := ?_)
       refine LWo.assign (e_int x23) rfl (hn := ?_)
       refine LWo.nil (hN8 (t0, t1, x23) _ ⟨rfl, rfl, rfl, trivial⟩ trivial h)
     ·intro N14 hN14
      refine bk h fun x15 e15 h => ?_
      refine bk h fun x16 e16 h => ?_
      refine bS ((x15.Time != x16.Time)) (fun h17 => ?_) (fun h17 => ?_)
      ·have h := bT h17 h
       refine LWP.drawF (l := [_,_,_,_,_,_,_,_,_,_,_,_,_,_,_,_,_,_,_,_,_,_,_,_,_]) [] [0, 1, 5] [([0], []), ([5], []), ([17, 18], []), ([19], []), ([20], []), ([1], []), ([5], []), ([22, 23], []), ([24], []), ([25], []), ([21, 26], []), ([27], []), ([0, 28], []), ([5, 28], []), ([28, 29, 30], []), ([28, 31], []), ([28, 32], []), ([1, 28], []), ([5, 28], []), ([28, 34, 35], []), ([28, 36], []), ([28, 37], []), ([28, 33, 38], []), ([28, 39], []), ([28, 40], [])] [0, 1, 5, 41] [] mixed (by kernel_rfl) rfl (by decide) ?_
       refine dq 17 rfl (fun _ g u h => LWo.move (e_Limpl_Entry t0) u.1 (hn := .nil (zn g))) ?_
       refine dq 18 rfl (fun _ g u h => LWo.move (e_int t5) u.1 (hn := .nil (zn g))) ?_
       refine dq 19 rfl (fun _ g u h => LWo.indexM (f := e_impl_Entry) e15 u_Limpl_Entry s_impl_Entry u.1 u.2.1 (hn := .nil (zn g))) ?_
       refine dq 20 rfl (fun _ g u h => LWo.fieldAddr _ u_impl_Entry rfl s_int u.1 rfl (hn := .nil (zn g))) ?_
       refine dq 21 rfl (fun _ g u h => LWo.load1 (c := (e_int x15.Time)) g_int u.1 (hn := .nil (zn g))) ?_
       refine dq 22 rfl (fun _ g u h => LWo.move (e_Limpl_Entry t1) u.1 (hn := .nil (zn g))) ?_
       refine dq 23 rfl (fun _ g u h => LWo.move (e_int t5) u.1 (hn := .nil (zn g))) ?_
       refine dq 24 rfl (fun _ g u h => LWo.indexM (f := e_impl_Entry) e16 u_Limpl_Entry s_impl_Entry u.1 u.2.1 (hn := .nil (zn g))) ?_
       refine dq 25 rfl (fun _ g u h => LWo.fieldAddr _ u_impl_Entry rfl s_int u.1 rfl (hn := .nil (zn g))) ?_
       refine dq 26 rfl (fun _ g u h => LWo.load1 (c := (e_int x16.Time)) g_int u.1 (hn := .nil (zn g))) ?_
       refine dq 27 rfl (fun _ g u h => LWo.int _ u.1 u.2.1 rfl (hn := .nil (zn g))) ?_
       refine dq 28 rfl (fun _ g u h => LWo.move (e_bool (x15.Time != x16.Time)) u.1 (hn := .nil (zn g))) ?_
       refine dq 29 rfl (fun _ g u h => LWo.guardNU (t := 28) u.2.1 h17 rfl rfl rfl rfl rfl (.nil (zn g))) ?_
       refine dq 30 rfl (fun _ g u h => LWo.guardNU (t := 28) u.2.1 h17 rfl rfl rfl rfl rfl (.nil (zn g))) ?_
       refine dq 31 rfl (fun _ g u h => LWo.guardNU (t := 28) u.1 h17 rfl rfl rfl rfl rfl (.nil (zn g))) ?_
       refine dq 32 rfl (fun _ g u h => LWo.guardNU (t := 28) u.1 h17 rfl rfl rfl rfl rfl (.nil (zn g))) ?_
       refine dq 33 rfl (fun _ g u h => LWo.guardNU (t := 28) u.1 h17 rfl rfl rfl rfl rfl (.nil (zn g))) ?_
       refine dq 34 rfl (fun _ g u h => LWo.guardNU (t := 28) u.2.1 h17 rfl rfl rfl rfl rfl (.nil (zn g))) ?_
       refine dq 35 rfl (fun _ g u h => LWo.guardNU (t := 28) u.2.1 h17 rfl rfl rfl rfl rfl (.nil (zn g))) ?_
       refine dq 36 rfl (fun _ g u h => LWo.guardNU (t := 28) u.1 h17 rfl rfl rfl rfl rfl (.nil (zn g))) ?_
       refine dq 37 rfl (fun _ g u h => LWo.guardNU (t := 28) u.1 h17 rfl rfl rfl rfl rfl (.nil (zn g))) ?_
       refine dq 38 rfl (fun _ g u h => LWo.guardNU (t := 28) u.1 h17 rfl rfl rfl rfl rfl (.nil (zn g))) ?_
       refine dq 39 rfl (fun _ g u h => LWo.guardNU (t := 28) u.1 h17 rfl rfl rfl rfl rfl (.nil (zn g))) ?_
       refine dq 40 rfl (fun _ g u h => LWo.guardNU (t := 28) u.1 h17 rfl rfl rfl rfl rfl (.nil (zn g))) ?_
       refine dq 41 rfl (fun _ g u h => LWo.pickTM (e_bool true) u.1 h17 rfl (hn := .nil (zn g))) ?_
       refine ⟨rfl, by kernel_rfl, hN14 (t0, t1, t5, true) _ ⟨rfl, rfl, rfl, rfl, trivial⟩ trivial h⟩
      ·have h := bF h17 h
       refine bk h fun x18 e18 h => ?_
       refine bk h fun x19 e19 h => ?_
       refine bk h fun x20 e20 h => ?_
       refine LWP.drawF (l := [_,_,_,_,_,_,_,_,_,_,_,_,_,_,_,_,_,_,_,_,_,_,_,_,_]) [] [0, 1, 5] [([0], []), ([5], []), ([17, 18], []), ([19], []), ([20], []), ([1], []), ([5], []), ([22, 23], []), ([24], []), ([25], []), ([21, 26], []), ([27], []), ([0, 28], []), ([5, 28], []), ([28, 29, 30], []), ([28, 31], []), ([28, 32], []), ([1, 28], []), ([5, 28], []), ([28, 34, 35], []), ([28, 36], []), ([28, 37], []), ([28, 33, 38], []), ([28, 39], []), ([28, 40], [])] [0, 1, 5, 41] [] mixed (by kernel_rfl) rfl (by decide) ?_
       refine dq 17 rfl (fun _ g u h => LWo.move (e_Limpl_Entry t0) u.1 (hn := .nil (zn g))) ?_
       refine dq 18 rfl (fun _ g u h => LWo.move (e_int t5) u.1 (hn := .nil (zn g))) ?_
       refine dq 19 rfl (fun _ g u h => LWo.indexM (f := e_impl_Entry) e15 u_Limpl_Entry s_impl_Entry u.1 u.2.1 (hn := .nil (zn g))) ?_
       refine dq 20 rfl (fun _ g u h => LWo.fieldAddr _ u_impl_Entry rfl s_int u.1 rfl (hn := .nil (zn g))) ?_
       refine dq 21 rfl (fun _ g u h => LWo.load1 (c := (e_int x15.Time)) g_int u.1 (hn := .nil (zn g))) ?_
       refine dq 22 rfl (fun _ g u h => LWo.move (e_Limpl_Entry t1) u.1 (hn := .nil (zn g))) ?_
       refine dq 23 rfl (fun _ g u h => LWo.move (e_int t5) u.1 (hn := .nil (zn g))) ?_
       refine dq 24 rfl (fun _ g u h => LWo.indexM (f := e_impl_Entry) e16 u_Limpl_Entry s_impl_Entry u.1 u.2.1 (hn := .nil (zn g))) ?_
       refine dq 25 rfl (fun _ g u h => LWo.fieldAddr _ u_impl_Entry rfl s_int u.1 rfl (hn := .nil (zn g))) ?_
       refine dq 26 rfl (fun _ g u h => LWo.load1 (c := (e_int x16.Time)) g_int u.1 (hn := .nil (zn g))) ?_
       refine dq 27 rfl (fun _ g u h => LWo.int _ u.1 u.2.1 rfl (hn := .nil (zn g))) ?_
       refine dq 28 rfl (fun _ g u h => LWo.move (e_bool (x15.Time != x16.Time)) u.1 (hn := .nil (zn g))) ?_
       refine dq 29 rfl (fun _ g u h => LWo.guardY (t := 28) u.2.1 h17 rfl rfl (LWo.move (e_Limpl_Entry t0) u.1 (hn := .nil (zn g)))) ?_
       refine dq 30 rfl (fun _ g u h => LWo.guardY (t := 28) u.2.1 h17 rfl rfl (LWo.move (e_int t5) u.1 (hn := .nil (zn g)))) ?_
       refine dq 31 rfl (fun _ g u h => LWo.guardY (t := 28) u.1 h17 rfl rfl (LWo.indexM (f := e_impl_Entry) e18 u_Limpl_Entry s_impl_Entry u.2.1 u.2.2.1 (hn := .nil (zn g)))) ?_
       refine dq 32 rfl (fun _ g u h => LWo.guardY (t := 28) u.1 h17 rfl rfl (LWo.fieldAddr _ u_impl_Entry rfl s_Limpl_Write u.2.1 rfl (hn := .nil (zn g)))) ?_
       refine dq 33 rfl (fun _ g u h => LWo.guardY (t := 28) u.1 h17 rfl rfl (LWo.load1 (c := (e_Limpl_Write x18.Writes)) g_Limpl_Write u.2.1 (hn := .nil (zn g)))) ?_
       refine dq 34 rfl (fun _ g u h => LWo.guardY (t := 28) u.2.1 h17 rfl rfl (LWo.move (e_Limpl_Entry t1) u.1 (hn := .nil (zn g)))) ?_
       refine dq 35 rfl (fun _ g u h => LWo.guardY (t := 28) u.2.1 h17 rfl rfl (LWo.move (e_int t5) u.1 (hn := .nil (zn g)))) ?_
       refine dq 36 rfl (fun _ g u h => LWo.guardY (t := 28) u.1 h17 rfl rfl (LWo.indexM (f := e_impl_Entry) e19 u_Limpl_Entry s_impl_Entry u.2.1 u.2.2.1 (hn := .nil (zn g)))) ?_
       refine dq 37 rfl (fun _ g u h => LWo.guardY (t := 28) u.1 h17 rfl rfl (LWo.fieldAddr _ u_impl_Entry rfl s_Limpl_Write u.2.1 rfl (hn := .nil (zn g)))) ?_
       refine dq 38 rfl (fun _ g u h => LWo.guardY (t := 28) u.1 h17 rfl rfl (LWo.load1 (c := (e_Limpl_Write x19.Writes)) g_Limpl_Write u.2.1 (hn := .nil (zn g)))) ?_
       refine dq 39 rfl (fun _ g u h => LWo.guardY (t := 28) u.1 h17 rfl rfl (LWo.vcall rfl (av2 u.2.1 u.2.2.1) (c_laws_sameWrites _ _ _ e20) (.same (.same (.nil))) (hn := .nil (zn g)))) ?_
       refine dq 40 rfl (fun _ g u h => LWo.guardY (t := 28) u.1 h17 rfl rfl (LWo.not u.2.1 (hn := .nil (zn g)))) ?_
       refine dq 41 rfl (fun _ g u h => LWo.pickFM (e_bool (!x20)) u.1 h17 u.2.1 (hn := .nil (zn g))) ?_
       refine ⟨rfl, by kernel_rfl, hN14 (t0, t1, t5, (!x20)) _ ⟨rfl, rfl, rfl, rfl, trivial⟩ trivial h⟩
    ·have h := bF h12 h
     refine LWP.exit (hN6 () _ trivial trivial h)

def m_impl_ValueOk (a0 : S_impl_Value) : Option Bool :=
  (m_impl_Value_ok a0).bind fun x3 =>
  some x3
theorem c_impl_ValueOk (a0 : S_impl_Value) (r : Bool) (h : m_impl_ValueOk a0 = some r) : Ret Try.prog f_impl_ValueOk [e_impl_Value a0] (e_bool r) := by
  refine Does.goG [] F_impl_ValueOk rfl e_impl_ValueOk n_impl_ValueOk rfl (rvs := [.tmp 2]) rfl rfl ?_
  intro w0 ok0 lent ρ0
  refine LWP.seq_k fun N1 hN1 => ?_
  refine LWP.region (l := [_,_]) ?_
  refine LWo.boxF (e_impl_Value a0) rfl rfl rfl (hn := ?_)
  refine LWo.assign (e_bool false) rfl (hn := ?_)
  refine LWo.nil (hN1 _ ?_)
  refine LWP.seq_k fun N2 hN2 => ?_
  refine LWP.region (l := [_,_,_]) ?_
  refine LWo.loadN ((e_impl_Value a0)).cells g_impl_Value s_impl_Value rfl (Nat.le_of_ble_eq_true rfl) rfl (hn := ?_)
  refine bk h fun x3 e3 h => ?_
  refine LWo.vcall rfl rfl (c_impl_Value_ok _ _ e3) (.same (.nil)) (hn := ?_)
  refine LWo.assign (e_bool x3) rfl (hn := ?_)
  refine LWo.nil (hN2 _ ?_)
  obtain rfl := Option.some.inj h
  refine LWP.ret (QG.mk (.inr rfl) (.cons (.tmp (x := (e_bool x3)) rfl) (.nil)) (RetOK.one0 (.pure rfl) (by decide)) rfl rfl)

def m_laws_alive_j1 (t0 : Bool) : Option Bool :=
  some t0
def m_laws_alive  : Option Bool :=
  (m_impl_ValueOk (⟨(1 : Int), (3 : Int), (⟨#[]⟩ : ByteArray)⟩ : S_impl_Value)).bind fun x3 =>
  bif x3 then ((m_impl_ValueOk (⟨(9 : Int), (0 : Int), (⟨#[]⟩ : ByteArray)⟩ : S_impl_Value)).bind fun x5 =>
    m_laws_alive_j1  (!x5))
  else (m_laws_alive_j1  false)
theorem c_laws_alive  (r : Bool) (h : m_laws_alive  = some r) : Ret Try.prog f_laws_alive [] (e_bool r) := by
  refine Does.goG [] F_laws_alive rfl e_laws_alive n_laws_alive rfl (rvs := [.tmp 0]) rfl rfl ?_
  intro w0 ok0 lent ρ0
  refine LWP.seq_k fun N1 hN1 => ?_
  refine LWP.region (l := [_]) ?_
  refine LWo.assign (e_bool false) rfl (hn := ?_)
  refine LWo.nil (hN1 _ ?_)
  refine LWP.join (α := Bool) (fun z : Bool => [(0, (e_bool z))]) (fun z : Bool => []) (fun z : Bool => m_laws_alive_j1  z) r (fun _ => by simp [hkeys]) ?_ ?_
  ·rintro t0 h
   replace h : m_laws_alive_j1  t0 = some _ := h
   obtain rfl := Option.some.inj h
   refine LWP.ret (QG.mk (.inr rfl) (.cons (.tmp (x := (e_bool t0)) rfl) (.nil)) (RetOK.one0 (.pure rfl) (by decide)) rfl rfl)
  ·intro N2 hN2
   refine LWP.region (l := [_,_,_,_,_,_,_,_]) ?_
   refine LWo.build_impl_Value (parts := [_, _]) (⟨(1 : Int), (3 : Int), (⟨#[]⟩ : ByteArray)⟩ : S_impl_Value) rfl rfl rfl .refl (hn := ?_)
   refine bk h fun x3 e3 h => ?_
   refine LWo.vcall rfl rfl (c_impl_ValueOk _ _ e3) (.same (.nil)) (hn := ?_)
   refine LWo.move (e_bool x3) rfl (hn := ?_)
   refine LWo.byCases (t := 3) _ rfl (fun h4 => ?_) (fun h4 => ?_)
   ·have h := bT h4 h
    refine LWo.guardY (t := 3) rfl h4 rfl rfl ?_
    refine LWo.build_impl_Value (parts := [_]) (⟨(9 : Int), (0 : Int), (⟨#[]⟩ : ByteArray)⟩ : S_impl_Value) rfl rfl rfl .refl (hn := ?_)
    refine bk h fun x5 e5 h => ?_
    refine LWo.guardY (t := 3) rfl h4 rfl rfl ?_
    refine LWo.vcall rfl rfl (c_impl_ValueOk _ _ e5) (.same (.nil)) (hn := ?_)
    refine LWo.guardY (t := 3) rfl h4 rfl rfl ?_
    refine LWo.not rfl (hn := ?_)
    refine LWo.pickTM (e_bool (!x5)) rfl h4 rfl (hn := ?_)
    refine LWo.assign (e_bool (!x5)) rfl (hn := ?_)
    refine LWo.nil (hN2 (!x5) _ ⟨rfl, trivial⟩ trivial h)
   ·have h := bF h4 h
    refine LWo.guardNU (t := 3) rfl h4 rfl rfl rfl rfl rfl ?_
    refine LWo.guardNU (t := 3) rfl h4 rfl rfl rfl rfl rfl ?_
    refine LWo.guardNU (t := 3) rfl h4 rfl rfl rfl rfl rfl ?_
    refine LWo.pickFM (e_bool false) rfl h4 rfl (hn := ?_)
    refine LWo.assign (e_bool false) rfl (hn := ?_)
    refine LWo.nil (hN2 false _ ⟨rfl, trivial⟩ trivial h)

def m_laws_FnEntryFrom_j2 (t2 : Bool) : Option Bool :=
  some t2
def m_laws_FnEntryFrom_j1 (t3 : (List UInt8)) (t5 : Int) (t37 : Bool) (o4 : S_impl_Entry) : Option Bool :=
  bif t37 then (some false)
  else (bif (t5 == (0 : Int)) then ((m_laws_alive ).bind fun x24 =>
  some x24)
  else ((ckI (t5 - (1 : Int))).bind fun x26 =>
  (cut? t3 (0 : Int) x26).bind fun x27 =>
  (app? ([] : (List UInt8)) x27).bind fun x28 =>
  (m_impl_EntryFrom x28).bind fun x29 =>
  lt (x29.1) fun y30 =>
  (ckI (t5 - (1 : Int))).bind fun x32 =>
  (cut? t3 (0 : Int) x32).bind fun x33 =>
  (app? ([] : (List UInt8)) x33).bind fun x34 =>
  (ckI (t5 - (1 : Int))).bind fun x35 =>
  (at? t3 x35).bind fun x36 =>
  (app? x34 ([(x36 ^^^ (1 : UInt8))] : (List UInt8))).bind fun x37 =>
  (m_impl_EntryFrom x37).bind fun x38 =>
  lt (x38.1) fun y39 =>
  (m_impl_EntryBytes o4).bind fun x41 =>
  (cut? t3 (0 : Int) t5).bind fun x42 =>
  bif (sEq (bStr x41) (bStr x42)) then (bif (x29.2 == (0 : Int)) then (m_laws_FnEntryFrom_j2  (x38.2 == (0 : Int)))
  else (m_laws_FnEntryFrom_j2  false))
  else (m_laws_FnEntryFrom_j2  false)))
def m_laws_FnEntryFrom (a0 : (List UInt8)) : Option Bool :=
  bif decide ((a0.length : Int) > (1048576 : Int)) then (some true)
  else ((m_spec_DrawEntryFrom a0).bind fun x7 =>
  (m_impl_EntryFrom x7).bind fun x9 =>
  lt (x9.1) fun y10 =>
  (m_spec_EntryFrom x7).bind fun x12 =>
  lt (x12.1) fun y13 =>
  bif (x9.2 != x12.2) then (m_laws_FnEntryFrom_j1  x7 x9.2 true y10)
  else ((m_laws_sameLog ([y10] : (List S_impl_Entry)) ([y13] : (List S_impl_Entry))).bind fun x17 =>
    m_laws_FnEntryFrom_j1  x7 x9.2 (!x17) y10))
theorem c_laws_FnEntryFrom (a0 : (List UInt8)) (r : Bool) (h : m_laws_FnEntryFrom a0 = some r) : Ret Try.prog f_laws_FnEntryFrom [e_Luint8 a0] (e_bool r) := by
  refine Does.goG [] F_laws_FnEntryFrom rfl e_laws_FnEntryFrom n_laws_FnEntryFrom rfl (rvs := [.tmp 2]) rfl rfl ?_
  intro w0 ok0 lent ρ0
  refine LWP.seq_k fun N1 hN1 => ?_
  refine LWP.region (l := [_]) ?_
  refine LWo.assign (e_bool false) rfl (hn := ?_)
  refine LWo.nil (hN1 _ ?_)
  refine LWP.seq_k fun N2 hN2 => ?_
  refine LWP.seq_k fun N3 hN3 => ?_
  refine LWP.region (l := [_,_,_]) ?_
  refine LWo.move (e_Luint8 a0) rfl (hn := ?_)
  refine LWo.lenM (f := e_uint8) (l := a0) u_Luint8 rfl (hn := ?_)
  refine LWo.int _ rfl rfl rfl (hn := ?_)
  refine LWo.nil (hN3 _ ?_)
  refine LWP.cond_split rfl (fun h4 => ?_) (fun h4 => ?_)
  ·have h := bT h4 h
   refine LWP.seq_k fun N5 hN5 => ?_
   refine LWP.region (l := [_]) ?_
   refine LWo.assign (e_bool true) rfl (hn := ?_)
   refine LWo.nil (hN5 _ ?_)
   obtain rfl := Option.some.inj h
   refine LWP.ret (QG.mk (.inr rfl) (.cons (.tmp (x := (e_bool true)) rfl) (.nil)) (RetOK.one0 (.pure rfl) (by decide)) rfl rfl)
  ·have h := bF h4 h
   refine LWP.skip (hN2 _ ?_)
   refine LWP.seq_k fun N6 hN6 => ?_
   refine LWP.region (l := [_,_,_]) ?_
   refine LWo.move (e_Luint8 a0) rfl (hn := ?_)
   refine bk h fun x7 e7 h => ?_
   refine LWo.vcall rfl rfl (c_spec_DrawEntryFrom _ _ e7) (.same (.nil)) (hn := ?_)
   refine LWo.assign (e_Luint8 x7) rfl (hn := ?_)
   refine LWo.nil (hN6 _ ?_)
   refine LWP.seq_k fun N8 hN8 => ?_
   refine LWP.region (l := [_,_,_,_,_,_,_,_]) ?_
   refine LWo.move (e_Luint8 x7) rfl (hn := ?_)
   refine bk h fun x9 e9 h => ?_
   refine LWo.vcall rfl rfl (c_impl_EntryFrom _ _ e9) (.same (.nil)) (hn := ?_)
   refine LWo.move (.tup [(e_impl_Entry x9.1), (e_int x9.2)]) rfl (hn := ?_)
   refine LWo.extract (e_impl_Entry x9.1) rfl rfl (hn := ?_)
   refine LWo.extract (e_int x9.2) rfl rfl (hn := ?_)
   refine LWo.alloc_impl_Entry 4 rfl (hn := ?_)
   refine lk h fun y10 e10 h => ?_
   refine LWo.storeW (y := (⟨(0 : Int), []⟩ : S_impl_Entry)) y10 s_impl_Entry rfl rfl rfl rfl rfl rfl (by rw [e10]; exact .refl) rfl (hn := ?_)
   refine LWo.assign (e_int x9.2) rfl (hn := ?_)
   refine LWo.nil (hN8 _ ?_)
   refine LWP.seq_k fun N11 hN11 => ?_
   refine LWP.region (l := [_,_,_,_,_,_,_,_]) ?_
   refine LWo.move (e_Luint8 x7) rfl (hn := ?_)
   refine bk h fun x12 e12 h => ?_
   refine LWo.vcall rfl rfl (c_spec_EntryFrom _ _ e12) (.same (.nil)) (hn := ?_)
   refine LWo.move (.tup [(e_impl_Entry x12.1), (e_int x12.2)]) rfl (hn := ?_)
   refine LWo.extract (e_impl_Entry x12.1) rfl rfl (hn := ?_)
   refine LWo.extract (e_int x12.2) rfl rfl (hn := ?_)
   refine LWo.alloc_impl_Entry 6 rfl (hn := ?_)
   refine lk h fun y13 e13 h => ?_
   refine LWo.storeW (y := (⟨(0 : Int), []⟩ : S_impl_Entry)) y13 s_impl_Entry rfl rfl rfl rfl rfl rfl (by rw [e13]; exact .refl) rfl (hn := ?_)
   refine LWo.assign (e_int x12.2) rfl (hn := ?_)
   refine LWo.nil (hN11 _ ?_)
   refine LWP.seq_k fun N14 hN14 => ?_
   refine LWP.join (α := (List UInt8) × Int × Bool × S_impl_Entry) (fun z : (List UInt8) × Int × Bool × S_impl_Entry => [(3, (e_Luint8 z.1)), (4, (.ptr 4 0 0)), (5, (e_int z.2.1)), (37, (e_bool z.2.2.1))]) (fun z : (List UInt8) × Int × Bool × S_impl_Entry => [(4, (vob 2 e_impl_Entry z.2.2.2))]) (fun z : (List UInt8) × Int × Bool × S_impl_Entry => m_laws_FnEntryFrom_j1  z.1 z.2.1 z.2.2.1 z.2.2.2) r (fun _ => by simp [hkeys]) ?_ ?_
   ·rintro ⟨t3, t5, t37, o4⟩ h
    replace h : m_laws_FnEntryFrom_j1  t3 t5 t37 o4 = some _ := h
    refine LWP.cond_split rfl (fun h18 => ?_) (fun h18 => ?_)
    ·have h := bT h18 h
     refine LWP.seq_k fun N19 hN19 => ?_
     refine LWP.region (l := [_]) ?_
     refine LWo.assign (e_bool false) rfl (hn := ?_)
     refine LWo.nil (hN19 _ ?_)
     obtain rfl := Option.some.inj h
     refine LWP.ret (QG.mk (.inr rfl) (.cons (.tmp (x := (e_bool false)) rfl) (.nil)) (RetOK.one0 (.pure rfl) (by decide)) rfl rfl)
    ·have h := bF h18 h
     refine LWP.skip (hN14 _ ?_)
     refine LWP.seq_k fun N20 hN20 => ?_
     refine LWP.seq_k fun N21 hN21 => ?_
     refine LWP.region (l := [_,_]) ?_
     refine LWo.move (e_int t5) rfl (hn := ?_)
     refine LWo.int _ rfl rfl rfl (hn := ?_)
     refine LWo.nil (hN21 _ ?_)
     refine LWP.cond_split rfl (fun h22 => ?_) (fun h22 => ?_)
     ·have h := bT h22 h
      refine LWP.seq_k fun N23 hN23 => ?_
      refine LWP.region (l := [_,_]) ?_
      refine bk h fun x24 e24 h => ?_
      refine LWo.vcall rfl rfl (c_laws_alive  _ e24) (.nil) (hn := ?_)
      refine LWo.assign (e_bool x24) rfl (hn := ?_)
      refine LWo.nil (hN23 _ ?_)
      obtain rfl := Option.some.inj h
      refine LWP.ret (QG.mk (.inr rfl) (.cons (.tmp (x := (e_bool x24)) rfl) (.nil)) (RetOK.one0 (.pure rfl) (by decide)) rfl rfl)
     ·have h := bF h22 h
      refine LWP.skip (hN20 _ ?_)
      refine LWP.seq_k fun N25 hN25 => ?_
      refine LWP.region (l := [_,_,_,_,_,_,_,_,_,_,_,_,_]) ?_
      refine LWo.lit0 1042 u_Luint8 s_uint8 z_uint8 (hn := ?_)
      refine LWo.known 42 (.own 1042 0 ([] : (List UInt8)).length) rfl ?_
      refine LWo.move (e_Luint8 t3) rfl (hn := ?_)
      refine LWo.move (e_int t5) rfl (hn := ?_)
      refine bk h fun x26 e26 h => ?_
      refine LWo.int _ rfl rfl (sub_ck e26) (hn := ?_)
      refine bk h fun x27 e27 h => ?_
      refine LWo.cutM (f := e_uint8) e27 u_Luint8 s_uint8 rfl rfl ⟨_, rfl⟩ (hn := ?_)
      refine bk h fun x28 e28 h => ?_
      refine LWo.appendM (f := e_uint8) e28 rfl u_Luint8 u_Luint8 (fun _ h => by cases h) s_uint8 i_uint8 rfl rfl rfl (.sl rfl) rfl rfl (hn := ?_)
      refine bk h fun x29 e29 h => ?_
      refine LWo.frzL (f := e_uint8) (l := x28) [47] 1042 rfl rfl ⟨rfl, trivial⟩ ?_
      refine LWo.vcall rfl rfl (c_impl_EntryFrom _ _ e29) (.same (.nil)) (hn := ?_)
      refine LWo.move (.tup [(e_impl_Entry x29.1), (e_int x29.2)]) rfl (hn := ?_)
      refine LWo.extract (e_impl_Entry x29.1) rfl rfl (hn := ?_)
      refine LWo.extract (e_int x29.2) rfl rfl (hn := ?_)
      refine LWo.alloc_impl_Entry 8 rfl (hn := ?_)
      refine lk h fun y30 e30 h => ?_
      refine LWo.storeW (y := (⟨(0 : Int), []⟩ : S_impl_Entry)) y30 s_impl_Entry rfl rfl rfl rfl rfl rfl (by rw [e30]; exact .refl) rfl (hn := ?_)
      refine LWo.assign (e_int x29.2) rfl (hn := ?_)
      refine LWo.nil (hN25 _ ?_)
      refine LWP.seq_k fun N31 hN31 => ?_
      refine bk h fun x32 e32 h => ?_
      refine bk h fun x33 e33 h => ?_
      refine bk h fun x34 e34 h => ?_
      refine bk h fun x35 e35 h => ?_
      refine bk h fun x36 e36 h => ?_
      refine bk h fun x37 e37 h => ?_
      refine bk h fun x38 e38 h => ?_
      refine lk h fun y39 e39 h => ?_
      refine LWP.drawF (l := [_,_,_,_,_,_,_,_,_,_,_,_,_,_,_,_,_,_,_,_,_]) [(10, 10), (1052, 1052)] [3, 4, 5, 9] [([], []), ([3], []), ([5], []), ([54], []), ([53, 55], []), ([52, 56], [1052]), ([3], []), ([5], []), ([59], []), ([58, 60], []), ([61], []), ([62], []), ([63], []), ([57, 64], [1052]), ([65], []), ([66], []), ([51], []), ([51], []), ([], []), ([10, 67], [10]), ([68], [])] [3, 4, 5, 9, 11] [4] mixed (by kernel_rfl) rfl (by decide) ?_
      refine ⟨rfl, .make 52 _ 1052 _, (by exact (goodC rfl (goodC rfl goodN))), fun _ g u h => LWo.lit0 1052 u_Luint8 s_uint8 z_uint8 rfl (lone_of g rfl) (hn := LWo.nil ⟨rfl, .inl rfl, Ef.good_ok (e := .make 52 _ 1052 _) (by exact (goodC rfl (goodC rfl goodN))) g⟩), ?_⟩
      refine dq 53 rfl (fun _ g u h => LWo.move (e_Luint8 t3) u.1 (hn := .nil (zn g))) ?_
      refine dq 54 rfl (fun _ g u h => LWo.move (e_int t5) u.1 (hn := .nil (zn g))) ?_
      refine dq 55 rfl (fun _ g u h => LWo.int _ u.1 rfl (sub_ck e32) (hn := .nil (zn g))) ?_
      refine dq 56 rfl (fun _ g u h => LWo.cutM (f := e_uint8) e33 u_Luint8 s_uint8 u.1 rfl ⟨_, u.2.1⟩ (hn := .nil (zn g))) ?_
      refine ⟨rfl, .make 57 _ 1052 _, (by exact (goodC rfl (goodC rfl goodN))), fun _ g u h => LWo.appendM (f := e_uint8) e34 rfl u_Luint8 u_Luint8 (fun _ h => by cases h) s_uint8 i_uint8 rfl u.1 h.1 (.sl u.2.1) (lone_of g rfl) rfl (hn := LWo.nil ⟨rfl, .inl rfl, Ef.good_ok (e := .make 57 _ 1052 _) (by exact (goodC rfl (goodC rfl goodN))) g⟩), ?_⟩
      refine dq 58 rfl (fun _ g u h => LWo.move (e_Luint8 t3) u.1 (hn := .nil (zn g))) ?_
      refine dq 59 rfl (fun _ g u h => LWo.move (e_int t5) u.1 (hn := .nil (zn g))) ?_
      refine dq 60 rfl (fun _ g u h => LWo.int _ u.1 rfl (sub_ck e35) (hn := .nil (zn g))) ?_
      refine dq 61 rfl (fun _ g u h => LWo.indexM (f := e_uint8) e36 u_Luint8 s_uint8 u.1 u.2.1 (hn := .nil (zn g))) ?_
      refine dq 62 rfl (fun _ g u h => LWo.load1 (c := (e_uint8 x36)) g_uint8 u.1 (hn := .nil (zn g))) ?_
      refine dq 63 rfl (fun _ g u h => LWo.xorB x36 (1 : UInt8) u.1 rfl (hn := .nil (zn g))) ?_
      refine dq 64 rfl (fun _ g u h => LWo.lit (ops := [_]) [(e_uint8 (x36 ^^^ (1 : UInt8)))] u_Luint8 s_uint8 z_uint8 (lv1 u.1) rfl rfl rfl rfl rfl (hn := .nil (zn g))) ?_
      refine ⟨rfl, .make 65 _ 1052 _, (by exact (goodC rfl (goodC rfl goodN))), fun _ g u h => LWo.andFz (f := e_uint8) (r := x37) 1052 65 g (lone_of g rfl) rfl rfl (by exact (goodC rfl (goodC rfl goodN))) (LWo.appendM (f := e_uint8) e37 rfl u_Luint8 u_Luint8 (fun _ h => by cases h) s_uint8 i_uint8 rfl u.1 h.1 (.sl u.2.1) (lone_of g rfl) rfl (hn := LWo.nil ⟨rfl, rfl⟩)), ?_⟩
      refine dq 66 rfl (fun _ g u h => LWo.vcall rfl (av1 u.1) (c_impl_EntryFrom _ _ e38) (.same (.nil)) (hn := .nil (zn g))) ?_
      refine dq 51 rfl (fun _ g u h => LWo.move (.tup [(e_impl_Entry x38.1), (e_int x38.2)]) u.1 (hn := .nil (zn g))) ?_
      refine dq 67 rfl (fun _ g u h => LWo.extract (e_impl_Entry x38.1) u.1 rfl (hn := .nil (zn g))) ?_
      refine dq 68 rfl (fun _ g u h => LWo.extract (e_int x38.2) u.1 rfl (hn := .nil (zn g))) ?_
      refine ⟨rfl, .make 10 _ 10 _, (by exact (goodC rfl (goodC rfl goodN))), fun _ g u h => LWo.alloc_impl_Entry 10 (lone_of g rfl) (hn := LWo.nil ⟨rfl, .inl rfl, Ef.good_ok (e := .make 10 _ 10 _) (by exact (goodC rfl (goodC rfl goodN))) g⟩), ?_⟩
      refine ⟨rfl, .upd none .junk 10 _, (by exact (goodC rfl (goodC rfl goodN))), fun _ g u h => LWo.storeW (y := (⟨(0 : Int), []⟩ : S_impl_Entry)) y39 s_impl_Entry u.1 u.2.1 rfl rfl h.1 rfl (by rw [e39]; exact .refl) rfl (hn := LWo.nil ⟨rfl, .inl rfl, Ef.good_ok (e := .upd none .junk 10 _) (by exact (goodC rfl (goodC rfl goodN))) g⟩), ?_⟩
      refine dq 11 rfl (fun _ g u h => LWo.assign (e_int x38.2) u.1 (hn := .nil (zn g))) ?_
      refine ⟨rfl, by kernel_rfl, hN31 _ ?_⟩
      refine LWP.join (α := Bool) (fun z : Bool => [(2, (e_bool z))]) (fun z : Bool => []) (fun z : Bool => m_laws_FnEntryFrom_j2  z) r (fun _ => by simp [hkeys]) ?_ ?_
      ·rintro t2 h
       replace h : m_laws_FnEntryFrom_j2  t2 = some _ := h
       obtain rfl := Option.some.inj h
       refine LWP.ret (QG.mk (.inr rfl) (.cons (.tmp (x := (e_bool t2)) rfl) (.nil)) (RetOK.one0 (.pure rfl) (by decide)) rfl rfl)
      ·intro N40 hN40
       refine bk h fun x41 e41 h => ?_
       refine bk h fun x42 e42 h => ?_
       refine bS ((sEq (bStr x41) (bStr x42))) (fun h43 => ?_) (fun h43 => ?_)
       ·have h := bT h43 h
        refine bS ((x29.2 == (0 : Int))) (fun h44 => ?_) (fun h44 => ?_)
        ·have h := bT h44 h
         refine LWP.drawF (l := [_,_,_,_,_,_,_,_,_,_,_,_,_,_,_,_,_]) [] [3, 4, 5, 9, 11] [([4], [4]), ([69], []), ([70], []), ([3], []), ([5], []), ([72, 73], []), ([74], []), ([71, 75], []), ([76], []), ([9, 77], []), ([77, 78], []), ([77, 79], []), ([80], []), ([11, 81], []), ([81, 82], []), ([81, 83], []), ([84], [])] [2] [] mixed (by kernel_rfl) rfl (by decide) ?_
         refine dq 69 rfl (fun _ g u h => LWo.loadVN ((e_impl_Entry o4)).cells  g_impl_Entry s_impl_Entry u.1 h.1 rfl rfl (hn := .nil (zn g))) ?_
         refine dq 70 rfl (fun _ g u h => LWo.vcall rfl (av1 u.1) (c_impl_EntryBytes _ _ e41) (.same (.nil)) (hn := .nil (zn g))) ?_
         refine dq 71 rfl (fun _ g u h => LWo.strM (l := x41) u_Luint8 u_string u_uint8 u.1 (hn := .nil (zn g))) ?_
         refine dq 72 rfl (fun _ g u h => LWo.move (e_Luint8 t3) u.1 (hn := .nil (zn g))) ?_
         refine dq 73 rfl (fun _ g u h => LWo.move (e_int t5) u.1 (hn := .nil (zn g))) ?_
         refine dq 74 rfl (fun _ g u h => LWo.cutM (f := e_uint8) e42 u_Luint8 s_uint8 u.1 rfl ⟨_, u.2.1⟩ (hn := .nil (zn g))) ?_
         refine dq 75 rfl (fun _ g u h => LWo.strM (l := x42) u_Luint8 u_string u_uint8 u.1 (hn := .nil (zn g))) ?_
         refine dq 76 rfl (fun _ g u h => LWo.str _ u.1 u.2.1 rfl (hn := .nil (zn g))) ?_
         refine dq 77 rfl (fun _ g u h => LWo.move (e_bool (sEq (bStr x41) (bStr x42))) u.1 (hn := .nil (zn g))) ?_
         refine dq 78 rfl (fun _ g u h => LWo.guardY (t := 77) u.2.1 h43 rfl rfl (LWo.move (e_int x29.2) u.1 (hn := .nil (zn g)))) ?_
         refine dq 79 rfl (fun _ g u h => LWo.guardY (t := 77) u.1 h43 rfl rfl (LWo.int _ u.2.1 rfl rfl (hn := .nil (zn g)))) ?_
         refine dq 80 rfl (fun _ g u h => LWo.pickTM (e_bool (x29.2 == (0 : Int))) u.1 h43 u.2.1 (hn := .nil (zn g))) ?_
         refine dq 81 rfl (fun _ g u h => LWo.move (e_bool (x29.2 == (0 : Int))) u.1 (hn := .nil (zn g))) ?_
         refine dq 82 rfl (fun _ g u h => LWo.guardY (t := 81) u.2.1 h44 rfl rfl (LWo.move (e_int x38.2) u.1 (hn := .nil (zn g)))) ?_
         refine dq 83 rfl (fun _ g u h => LWo.guardY (t := 81) u.1 h44 rfl rfl (LWo.int _ u.2.1 rfl rfl (hn := .nil (zn g)))) ?_
         refine dq 84 rfl (fun _ g u h => LWo.pickTM (e_bool (x38.2 == (0 : Int))) u.1 h44 u.2.1 (hn := .nil (zn g))) ?_
         refine dq 2 rfl (fun _ g u h => LWo.assign (e_bool (x38.2 == (0 : Int))) u.1 (hn := .nil (zn g))) ?_
         refine ⟨rfl, by kernel_rfl, hN40 (x38.2 == (0 : Int)) _ ⟨rfl, trivial⟩ trivial h⟩
        ·have h := bF h44 h
         refine LWP.drawF (l := [_,_,_,_,_,_,_,_,_,_,_,_,_,_,_,_,_]) [] [3, 4, 5, 9, 11] [([4], [4]), ([69], []), ([70], []), ([3], []), ([5], []), ([72, 73], []), ([74], []), ([71, 75], []), ([76], []), ([9, 77], []), ([77, 78], []), ([77, 79], []), ([80], []), ([11, 81], []), ([81, 82], []), ([81, 83], []), ([84], [])] [2] [] mixed (by kernel_rfl) rfl (by decide) ?_
         refine dq 69 rfl (fun _ g u h => LWo.loadVN ((e_impl_Entry o4)).cells  g_impl_Entry s_impl_Entry u.1 h.1 rfl rfl (hn := .nil (zn g))) ?_
         refine dq 70 rfl (fun _ g u h => LWo.vcall rfl (av1 u.1) (c_impl_EntryBytes _ _ e41) (.same (.nil)) (hn := .nil (zn g))) ?_
         refine dq 71 rfl (fun _ g u h => LWo.strM (l := x41) u_Luint8 u_string u_uint8 u.1 (hn := .nil (zn g))) ?_
         refine dq 72 rfl (fun _ g u h => LWo.move (e_Luint8 t3) u.1 (hn := .nil (zn g))) ?_
         refine dq 73 rfl (fun _ g u h => LWo.move (e_int t5) u.1 (hn := .nil (zn g))) ?_
         refine dq 74 rfl (fun _ g u h => LWo.cutM (f := e_uint8) e42 u_Luint8 s_uint8 u.1 rfl ⟨_, u.2.1⟩ (hn := .nil (zn g))) ?_
         refine dq 75 rfl (fun _ g u h => LWo.strM (l := x42) u_Luint8 u_string u_uint8 u.1 (hn := .nil (zn g))) ?_
         refine dq 76 rfl (fun _ g u h => LWo.str _ u.1 u.2.1 rfl (hn := .nil (zn g))) ?_
         refine dq 77 rfl (fun _ g u h => LWo.move (e_bool (sEq (bStr x41) (bStr x42))) u.1 (hn := .nil (zn g))) ?_
         refine dq 78 rfl (fun _ g u h => LWo.guardY (t := 77) u.2.1 h43 rfl rfl (LWo.move (e_int x29.2) u.1 (hn := .nil (zn g)))) ?_
         refine dq 79 rfl (fun _ g u h => LWo.guardY (t := 77) u.1 h43 rfl rfl (LWo.int _ u.2.1 rfl rfl (hn := .nil (zn g)))) ?_
         refine dq 80 rfl (fun _ g u h => LWo.pickTM (e_bool (x29.2 == (0 : Int))) u.1 h43 u.2.1 (hn := .nil (zn g))) ?_
         refine dq 81 rfl (fun _ g u h => LWo.move (e_bool (x29.2 == (0 : Int))) u.1 (hn := .nil (zn g))) ?_
         refine dq 82 rfl (fun _ g u h => LWo.guardNU (t := 81) u.2.1 h44 rfl rfl rfl rfl rfl (.nil (zn g))) ?_
         refine dq 83 rfl (fun _ g u h => LWo.guardNU (t := 81) u.1 h44 rfl rfl rfl rfl rfl (.nil (zn g))) ?_
         refine dq 84 rfl (fun _ g u h => LWo.pickFM (e_bool false) u.1 h44 rfl (hn := .nil (zn g))) ?_
         refine dq 2 rfl (fun _ g u h => LWo.assign (e_bool false) u.1 (hn := .nil (zn g))) ?_
         refine ⟨rfl, by kernel_rfl, hN40 false _ ⟨rfl, trivial⟩ trivial h⟩
       ·have h := bF h43 h
        refine LWP.drawF (l := [_,_,_,_,_,_,_,_,_,_,_,_,_,_,_,_,_]) [] [3, 4, 5, 9, 11] [([4], [4]), ([69], []), ([70], []), ([3], []), ([5], []), ([72, 73], []), ([74], []), ([71, 75], []), ([76], []), ([9, 77], []), ([77, 78], []), ([77, 79], []), ([80], []), ([11, 81], []), ([81, 82], []), ([81, 83], []), ([84], [])] [2] [] mixed (by kernel_rfl) rfl (by decide) ?_
        refine dq 69 rfl (fun _ g u h => LWo.loadVN ((e_impl_Entry o4)).cells  g_impl_Entry s_impl_Entry u.1 h.1 rfl rfl (hn := .nil (zn g))) ?_
        refine dq 70 rfl (fun _ g u h => LWo.vcall rfl (av1 u.1) (c_impl_EntryBytes _ _ e41) (.same (.nil)) (hn := .nil (zn g))) ?_
        refine dq 71 rfl (fun _ g u h => LWo.strM (l := x41) u_Luint8 u_string u_uint8 u.1 (hn := .nil (zn g))) ?_
        refine dq 72 rfl (fun _ g u h => LWo.move (e_Luint8 t3) u.1 (hn := .nil (zn g))) ?_
        refine dq 73 rfl (fun _ g u h => LWo.move (e_int t5) u.1 (hn := .nil (zn g))) ?_
        refine dq 74 rfl (fun _ g u h => LWo.cutM (f := e_uint8) e42 u_Luint8 s_uint8 u.1 rfl ⟨_, u.2.1⟩ (hn := .nil (zn g))) ?_
        refine dq 75 rfl (fun _ g u h => LWo.strM (l := x42) u_Luint8 u_string u_uint8 u.1 (hn := .nil (zn g))) ?_
        refine dq 76 rfl (fun _ g u h => LWo.str _ u.1 u.2.1 rfl (hn := .nil (zn g))) ?_
        refine dq 77 rfl (fun _ g u h => LWo.move (e_bool (sEq (bStr x41) (bStr x42))) u.1 (hn := .nil (zn g))) ?_
        refine dq 78 rfl (fun _ g u h => LWo.guardNU (t := 77) u.2.1 h43 rfl rfl rfl rfl rfl (.nil (zn g))) ?_
        refine dq 79 rfl (fun _ g u h => LWo.guardNU (t := 77) u.1 h43 rfl rfl rfl rfl rfl (.nil (zn g))) ?_
        refine dq 80 rfl (fun _ g u h => LWo.pickFM (e_bool false) u.1 h43 rfl (hn := .nil (zn g))) ?_
        refine dq 81 rfl (fun _ g u h => LWo.move (e_bool false) u.1 (hn := .nil (zn g))) ?_
        refine dq 82 rfl (fun _ g u h => LWo.guardNU (t := 81) u.2.1 rfl rfl rfl rfl rfl rfl (.nil (zn g))) ?_
        refine dq 83 rfl (fun _ g u h => LWo.guardNU (t := 81) u.1 rfl rfl rfl rfl rfl rfl (.nil (zn g))) ?_
        refine dq 84 rfl (fun _ g u h => LWo.pickFM (e_bool false) u.1 rfl rfl (hn := .nil (zn g))) ?_
        refine dq 2 rfl (fun _ g u h => LWo.assign (e_bool false) u.1 (hn := .nil (zn g))) ?_
        refine ⟨rfl, by kernel_rfl, hN40 false _ ⟨rfl, trivial⟩ trivial h⟩
   ·intro N15 hN15
    refine LWP.region (l := [_,_,_,_,_,_,_,_,_,_,_]) ?_
    refine LWo.move (e_int x9.2) rfl (hn := ?_)
    refine LWo.move (e_int x12.2) rfl (hn := ?_)
    refine LWo.int _ rfl rfl rfl (hn := ?_)
    refine LWo.move (e_bool (x9.2 != x12.2)) rfl (hn := ?_)
    refine LWo.byCases (t := 30) _ rfl (fun h16 => ?_) (fun h16 => ?_)
    ·have h := bT h16 h
     refine LWo.guardNU (t := 30) rfl h16 rfl rfl rfl rfl rfl ?_
     refine LWo.guardNU (t := 30) rfl h16 rfl rfl rfl rfl rfl ?_
     refine LWo.guardNU (t := 30) rfl h16 rfl rfl rfl rfl rfl ?_
     refine LWo.guardNU (t := 30) rfl h16 rfl rfl rfl rfl rfl ?_
     refine LWo.guardNU (t := 30) rfl h16 rfl rfl rfl rfl rfl ?_
     refine LWo.guardNU (t := 30) rfl h16 rfl rfl rfl rfl rfl ?_
     refine LWo.pickTM (e_bool true) rfl h16 rfl (hn := ?_)
     refine LWo.nil (hN15 (x7, x9.2, true, y10) _ ⟨rfl, rfl, rfl, rfl, trivial⟩ ⟨rfl, trivial⟩ h)
    ·have h := bF h16 h
     refine LWo.guardY (t := 30) rfl h16 rfl rfl ?_
     refine LWo.loadVN ((e_impl_Entry y10)).cells  g_impl_Entry s_impl_Entry rfl rfl rfl rfl (hn := ?_)
     refine LWo.guardY (t := 30) rfl h16 rfl rfl ?_
     refine LWo.lit (ops := [_]) [(e_impl_Entry y10)] u_Limpl_Entry s_impl_Entry z_impl_Entry rfl rfl rfl rfl rfl rfl (hn := ?_)
     refine LWo.guardY (t := 30) rfl h16 rfl rfl ?_
     refine LWo.loadVN ((e_impl_Entry y13)).cells  g_impl_Entry s_impl_Entry rfl rfl rfl rfl (hn := ?_)
     refine LWo.guardY (t := 30) rfl h16 rfl rfl ?_
     refine LWo.lit (ops := [_]) [(e_impl_Entry y13)] u_Limpl_Entry s_impl_Entry z_impl_Entry rfl rfl rfl rfl rfl rfl (hn := ?_)
     refine bk h fun x17 e17 h => ?_
     refine LWo.guardY (t := 30) rfl h16 rfl rfl ?_
     refine LWo.vcall rfl rfl (c_laws_sameLog _ _ _ e17) (.same (.same (.nil))) (hn := ?_)
     refine LWo.guardY (t := 30) rfl h16 rfl rfl ?_
     refine LWo.not rfl (hn := ?_)
     refine LWo.pickFM (e_bool (!x17)) rfl h16 rfl (hn := ?_)
     refine LWo.nil (hN15 (x7, x9.2, (!x17), y10) _ ⟨rfl, rfl, rfl, rfl, trivial⟩ ⟨rfl, trivial⟩ h)
end Go.Proofs.Ytijihchddhikhaa
