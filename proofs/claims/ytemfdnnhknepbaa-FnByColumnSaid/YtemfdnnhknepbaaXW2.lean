/- Mirrors of functions, and that the functions return what the mirrors say. -/
import Derived.Test.YtemfdnnhknepbaaXW1
set_option linter.unusedVariables false
set_option linter.unusedSimpArgs false
namespace Go.Proofs.Ytemfdnnhknepbaa
open Go.Proofs Go.Lift Go.RowKit
def m_impl_letters_j1  : Option Bool :=
  some true
def m_impl_letters_l1 : Nat → (List UInt8) → Int → Int → Option Bool
  | 0, _, _, _ => none
  | n1 + 1, t6, t7, t8 =>
    bif decide (t8 < t7) then ((at? t6 t8).bind fun x12 =>
    (m_impl_between (x12.toNat : Int) (97 : Int) (122 : Int)).bind fun x14 =>
    bif (!x14) then (some false)
    else ((ckI (t8 + (1 : Int))).bind fun x17 =>
    (m_impl_letters_l1  n1) t6 t7 x17))
    else (m_impl_letters_j1  )
def m_impl_letters (a0 : ByteArray) : Option Bool :=
  (sBytes? a0).bind fun x4 =>
  m_impl_letters_l1  (((x4.length : Int) - (0 : Int)).toNat + 1) x4 (x4.length : Int) (0 : Int)
theorem c_impl_letters (a0 : ByteArray) (r : Bool) (h : m_impl_letters a0 = some r) : Ret Try.prog f_impl_letters [e_string a0] (e_bool r) := by
  refine Does.goG [] F_impl_letters rfl e_impl_letters n_impl_letters rfl (rvs := [.tmp 2]) rfl rfl ?_
  intro w0 ok0 lent ρ0
  refine LWP.seq_k fun N1 hN1 => ?_
  refine LWP.region (l := [_]) ?_
  refine LWo.assign (e_bool false) rfl (hn := ?_)
  refine LWo.nil (hN1 _ ?_)
  refine LWP.join (α := Unit) (fun z : Unit => []) (fun z : Unit => []) (fun z : Unit => m_impl_letters_j1  ) r (fun _ => by simp [hkeys]) ?_ ?_
  · rintro _ h
    replace h : m_impl_letters_j1   = some _ := h
    refine LWP.seq_k fun N18 hN18 => ?_
    refine LWP.region (l := [_]) ?_
    refine LWo.assign (e_bool true) rfl (hn := ?_)
    refine LWo.nil (hN18 _ ?_)
    obtain rfl := Option.some.inj h
    refine LWP.ret (QG.mk (.inr rfl) (.cons (.tmp (x := (e_bool true)) rfl) (.nil)) (RetOK.one0 (.pure rfl) (by decide)) rfl rfl)
  · intro N2 hN2
    refine LWP.seq_k fun N3 hN3 => ?_
    refine LWP.region (l := [_,_,_,_]) ?_
    refine LWo.move (e_string a0) rfl (hn := ?_)
    refine bk h fun x4 e4 h => ?_
    refine LWo.bytesM e4 u_string u_Luint8 u_uint8 rfl (hn := ?_)
    refine LWo.lenM (f := e_uint8) (l := x4) u_Luint8 rfl (hn := ?_)
    refine LWo.move (e_int (0 : Int)) rfl (hn := ?_)
    refine LWo.nil (hN3 _ ?_)
    refine LWP.block ?_
    refine LWP.loopM (α := (List UInt8) × Int × Int) (fun z : (List UInt8) × Int × Int => [(6, (e_Luint8 z.1)), (7, (e_int z.2.1)), (8, (e_int z.2.2))]) (fun z : (List UInt8) × Int × Int => []) (fun n1 (z : (List UInt8) × Int × Int) => m_impl_letters_l1  n1 z.1 z.2.1 z.2.2) r _ (x4, (x4.length : Int), (0 : Int)) h (fun _ => rfl) (fun _ => by simp [hkeys]) ⟨rfl, rfl, rfl, trivial⟩ trivial ?_
    rintro n1 ⟨t6, t7, t8⟩ h N5 hN5
    replace h : m_impl_letters_l1  (n1 + 1) t6 t7 t8 = some _ := h
    refine LWP.seq_k fun N7 hN7 => ?_
    refine LWP.region (l := [_]) ?_
    refine LWo.int _ rfl rfl rfl (hn := ?_)
    refine LWo.nil (hN7 _ ?_)
    refine LWP.seq_k fun N8 hN8 => ?_
    refine LWP.cond_split rfl (fun h9 => ?_) (fun h9 => ?_)
    · have h := bT h9 h
      refine LWP.skip (hN8 _ ?_)
      refine LWP.seq_k fun N10 hN10 => ?_
      refine LWP.block ?_
      refine LWP.seq_k fun N11 hN11 => ?_
      refine LWP.region (l := [_,_,_]) ?_
      refine bk h fun x12 e12 h => ?_
      refine LWo.indexM (f := e_uint8) e12 u_Luint8 s_uint8 rfl rfl (hn := ?_)
      refine LWo.load1 (c := (e_uint8 x12)) g_uint8 rfl (hn := ?_)
      refine LWo.assign (e_uint8 x12) rfl (hn := ?_)
      refine LWo.nil (hN11 _ ?_)
      refine LWP.seq_k fun N13 hN13 => ?_
      refine LWP.region (l := [_,_,_,_]) ?_
      refine LWo.move (e_uint8 x12) rfl (hn := ?_)
      refine LWo.convByte _ u_uint8 u_int rfl (hn := ?_)
      refine bk h fun x14 e14 h => ?_
      refine LWo.vcall rfl rfl (c_impl_between _ _ _ _ e14) (.same (.same (.same (.nil)))) (hn := ?_)
      refine LWo.not rfl (hn := ?_)
      refine LWo.nil (hN13 _ ?_)
      refine LWP.cond_split rfl (fun h15 => ?_) (fun h15 => ?_)
      · have h := bT h15 h
        refine LWP.seq_k fun N16 hN16 => ?_
        refine LWP.region (l := [_]) ?_
        refine LWo.assign (e_bool false) rfl (hn := ?_)
        refine LWo.nil (hN16 _ ?_)
        obtain rfl := Option.some.inj h
        refine LWP.ret (QG.mk (.inr rfl) (.cons (.tmp (x := (e_bool false)) rfl) (.nil)) (RetOK.one0 (.pure rfl) (by decide)) rfl rfl)
      · have h := bF h15 h
        refine LWP.skip (hN10 _ ?_)
        refine LWP.region (l := [_,_]) ?_
        refine bk h fun x17 e17 h => ?_
        refine LWo.int _ rfl rfl (add_ck e17) (hn := ?_)
        refine LWo.move (e_int x17) rfl (hn := ?_)
        refine LWo.nil (hN5 (t6, t7, x17) _ ⟨rfl, rfl, rfl, trivial⟩ trivial h)
    · have h := bF h9 h
      refine LWP.exit (hN2 () _ trivial trivial h)

def m_impl_Value_ok_j1 (t2 : Bool) : Option Bool :=
  some t2
def m_impl_Value_ok_j2 (t2 : Bool) : Option Bool :=
  some t2
def m_impl_Value_ok_j3 (t2 : Bool) : Option Bool :=
  some t2
def m_impl_Value_ok (a0 : S_impl_Value) : Option Bool :=
  bif (a0.Kind == (0 : Int)) then (some (decide (a0 = (⟨(0 : Int), (0 : Int), (⟨#[]⟩ : ByteArray)⟩ : S_impl_Value))))
  else (bif (a0.Kind == (1 : Int)) then (bif (sEq a0.S (⟨#[]⟩ : ByteArray)) then ((m_impl_between a0.N (-9999 : Int) (9999 : Int)).bind fun x11 =>
        m_impl_Value_ok_j1  x11)
      else (m_impl_Value_ok_j1  false))
    else (bif (a0.Kind == (2 : Int)) then (bif (a0.N == (0 : Int)) then (bif decide ((a0.S.size : Int) ≤ (6 : Int)) then ((m_impl_letters a0.S).bind fun x17 =>
            m_impl_Value_ok_j2  x17)
          else (m_impl_Value_ok_j2  false))
        else (m_impl_Value_ok_j2  false))
      else (bif (a0.Kind == (3 : Int)) then (bif (sEq a0.S (⟨#[]⟩ : ByteArray)) then ((m_impl_between a0.N (0 : Int) (1 : Int)).bind fun x22 =>
            m_impl_Value_ok_j3  x22)
          else (m_impl_Value_ok_j3  false))
        else (some false))))
theorem c_impl_Value_ok (a0 : S_impl_Value) (r : Bool) (h : m_impl_Value_ok a0 = some r) : Ret Try.prog f_impl_Value_ok [e_impl_Value a0] (e_bool r) := by
  refine Does.goG [] F_impl_Value_ok rfl e_impl_Value_ok n_impl_Value_ok rfl (rvs := [.tmp 2]) rfl rfl ?_
  intro w0 ok0 lent ρ0
  refine LWP.seq_k fun N1 hN1 => ?_
  refine LWP.region (l := [_,_]) ?_
  refine LWo.boxF (e_impl_Value a0) rfl rfl rfl (hn := ?_)
  refine LWo.assign (e_bool false) rfl (hn := ?_)
  refine LWo.nil (hN1 _ ?_)
  refine LWP.seq_k fun N2 hN2 => ?_
  refine LWP.seq_k fun N3 hN3 => ?_
  refine LWP.region (l := [_,_]) ?_
  refine LWo.fieldAddr _ u_impl_Value rfl s_int rfl rfl (hn := ?_)
  refine LWo.load1 (c := (e_int a0.Kind)) g_int rfl (hn := ?_)
  refine LWo.nil (hN3 _ ?_)
  refine LWP.block ?_
  refine LWP.seq_k fun N4 hN4 => ?_
  refine LWP.region (l := [_,_]) ?_
  refine LWo.int _ rfl rfl rfl (hn := ?_)
  refine LWo.assign (e_bool (a0.Kind == (0 : Int))) rfl (hn := ?_)
  refine LWo.nil (hN4 _ ?_)
  refine LWP.cond_split rfl (fun h5 => ?_) (fun h5 => ?_)
  · have h := bT h5 h
    refine LWP.seq_k fun N6 hN6 => ?_
    refine LWP.region (l := [_,_,_,_]) ?_
    refine LWo.loadN ((e_impl_Value a0)).cells g_impl_Value s_impl_Value rfl (Nat.le_of_ble_eq_true rfl) rfl (hn := ?_)
    refine LWo.build_impl_Value (parts := []) (⟨(0 : Int), (0 : Int), (⟨#[]⟩ : ByteArray)⟩ : S_impl_Value) rfl rfl rfl .refl (hn := ?_)
    refine LWo.eq_impl_Value _ _ rfl rfl (hn := ?_)
    refine LWo.assign (e_bool (decide (a0 = (⟨(0 : Int), (0 : Int), (⟨#[]⟩ : ByteArray)⟩ : S_impl_Value)))) rfl (hn := ?_)
    refine LWo.nil (hN6 _ ?_)
    obtain rfl := Option.some.inj h
    refine LWP.ret (QG.mk (.inr rfl) (.cons (.tmp (x := (e_bool (decide (a0 = (⟨(0 : Int), (0 : Int), (⟨#[]⟩ : ByteArray)⟩ : S_impl_Value))))) rfl) (.nil)) (RetOK.one0 (.pure rfl) (by decide)) rfl rfl)
  · have h := bF h5 h
    refine LWP.seq_k fun N7 hN7 => ?_
    refine LWP.region (l := [_,_]) ?_
    refine LWo.int _ rfl rfl rfl (hn := ?_)
    refine LWo.assign (e_bool (a0.Kind == (1 : Int))) rfl (hn := ?_)
    refine LWo.nil (hN7 _ ?_)
    refine LWP.cond_split rfl (fun h8 => ?_) (fun h8 => ?_)
    · have h := bT h8 h
      refine LWP.join (α := Bool) (fun z : Bool => [(2, (e_bool z))]) (fun z : Bool => []) (fun z : Bool => m_impl_Value_ok_j1  z) r (fun _ => by simp [hkeys]) ?_ ?_
      · rintro t2 h
        replace h : m_impl_Value_ok_j1  t2 = some _ := h
        obtain rfl := Option.some.inj h
        refine LWP.ret (QG.mk (.inr rfl) (.cons (.tmp (x := (e_bool t2)) rfl) (.nil)) (RetOK.one0 (.pure rfl) (by decide)) rfl rfl)
      · intro N9 hN9
        refine LWP.region (l := [_,_,_,_,_,_,_,_,_]) ?_
        refine LWo.fieldAddr _ u_impl_Value rfl s_string rfl rfl (hn := ?_)
        refine LWo.load1 (c := (e_string a0.S)) g_string rfl (hn := ?_)
        refine LWo.str _ rfl rfl rfl (hn := ?_)
        refine LWo.move (e_bool (sEq a0.S (⟨#[]⟩ : ByteArray))) rfl (hn := ?_)
        refine LWo.byCases (t := 15) _ rfl (fun h10 => ?_) (fun h10 => ?_)
        · have h := bT h10 h
          refine LWo.guardY (t := 15) rfl h10 rfl rfl ?_
          refine LWo.fieldAddr _ u_impl_Value rfl s_int rfl rfl (hn := ?_)
          refine LWo.guardY (t := 15) rfl h10 rfl rfl ?_
          refine LWo.load1 (c := (e_int a0.N)) g_int rfl (hn := ?_)
          refine bk h fun x11 e11 h => ?_
          refine LWo.guardY (t := 15) rfl h10 rfl rfl ?_
          refine LWo.vcall rfl rfl (c_impl_between _ _ _ _ e11) (.same (.same (.same (.nil)))) (hn := ?_)
          refine LWo.pickTM (e_bool x11) rfl h10 rfl (hn := ?_)
          refine LWo.assign (e_bool x11) rfl (hn := ?_)
          refine LWo.nil (hN9 x11 _ ⟨rfl, trivial⟩ trivial h)
        · have h := bF h10 h
          refine LWo.guardNU (t := 15) rfl h10 rfl rfl rfl rfl rfl ?_
          refine LWo.guardNU (t := 15) rfl h10 rfl rfl rfl rfl rfl ?_
          refine LWo.guardNU (t := 15) rfl h10 rfl rfl rfl rfl rfl ?_
          refine LWo.pickFM (e_bool false) rfl h10 rfl (hn := ?_)
          refine LWo.assign (e_bool false) rfl (hn := ?_)
          refine LWo.nil (hN9 false _ ⟨rfl, trivial⟩ trivial h)
    · have h := bF h8 h
      refine LWP.seq_k fun N12 hN12 => ?_
      refine LWP.region (l := [_,_]) ?_
      refine LWo.int _ rfl rfl rfl (hn := ?_)
      refine LWo.assign (e_bool (a0.Kind == (2 : Int))) rfl (hn := ?_)
      refine LWo.nil (hN12 _ ?_)
      refine LWP.cond_split rfl (fun h13 => ?_) (fun h13 => ?_)
      · have h := bT h13 h
        refine LWP.join (α := Bool) (fun z : Bool => [(2, (e_bool z))]) (fun z : Bool => []) (fun z : Bool => m_impl_Value_ok_j2  z) r (fun _ => by simp [hkeys]) ?_ ?_
        · rintro t2 h
          replace h : m_impl_Value_ok_j2  t2 = some _ := h
          obtain rfl := Option.some.inj h
          refine LWP.ret (QG.mk (.inr rfl) (.cons (.tmp (x := (e_bool t2)) rfl) (.nil)) (RetOK.one0 (.pure rfl) (by decide)) rfl rfl)
        · intro N14 hN14
          refine LWP.region (l := [_,_,_,_,_,_,_,_,_,_,_,_,_,_,_]) ?_
          refine LWo.fieldAddr _ u_impl_Value rfl s_int rfl rfl (hn := ?_)
          refine LWo.load1 (c := (e_int a0.N)) g_int rfl (hn := ?_)
          refine LWo.int _ rfl rfl rfl (hn := ?_)
          refine LWo.move (e_bool (a0.N == (0 : Int))) rfl (hn := ?_)
          refine LWo.byCases (t := 25) _ rfl (fun h15 => ?_) (fun h15 => ?_)
          · have h := bT h15 h
            refine LWo.guardY (t := 25) rfl h15 rfl rfl ?_
            refine LWo.fieldAddr _ u_impl_Value rfl s_string rfl rfl (hn := ?_)
            refine LWo.guardY (t := 25) rfl h15 rfl rfl ?_
            refine LWo.load1 (c := (e_string a0.S)) g_string rfl (hn := ?_)
            refine LWo.guardY (t := 25) rfl h15 rfl rfl ?_
            refine LWo.lenS u_string rfl (hn := ?_)
            refine LWo.guardY (t := 25) rfl h15 rfl rfl ?_
            refine LWo.int _ rfl rfl rfl (hn := ?_)
            refine LWo.pickTM (e_bool (decide ((a0.S.size : Int) ≤ (6 : Int)))) rfl h15 rfl (hn := ?_)
            refine LWo.move (e_bool (decide ((a0.S.size : Int) ≤ (6 : Int)))) rfl (hn := ?_)
            refine LWo.byCases (t := 31) _ rfl (fun h16 => ?_) (fun h16 => ?_)
            · have h := bT h16 h
              refine LWo.guardY (t := 31) rfl h16 rfl rfl ?_
              refine LWo.fieldAddr _ u_impl_Value rfl s_string rfl rfl (hn := ?_)
              refine LWo.guardY (t := 31) rfl h16 rfl rfl ?_
              refine LWo.load1 (c := (e_string a0.S)) g_string rfl (hn := ?_)
              refine bk h fun x17 e17 h => ?_
              refine LWo.guardY (t := 31) rfl h16 rfl rfl ?_
              refine LWo.vcall rfl rfl (c_impl_letters _ _ e17) (.same (.nil)) (hn := ?_)
              refine LWo.pickTM (e_bool x17) rfl h16 rfl (hn := ?_)
              refine LWo.assign (e_bool x17) rfl (hn := ?_)
              refine LWo.nil (hN14 x17 _ ⟨rfl, trivial⟩ trivial h)
            · have h := bF h16 h
              refine LWo.guardNU (t := 31) rfl h16 rfl rfl rfl rfl rfl ?_
              refine LWo.guardNU (t := 31) rfl h16 rfl rfl rfl rfl rfl ?_
              refine LWo.guardNU (t := 31) rfl h16 rfl rfl rfl rfl rfl ?_
              refine LWo.pickFM (e_bool false) rfl h16 rfl (hn := ?_)
              refine LWo.assign (e_bool false) rfl (hn := ?_)
              refine LWo.nil (hN14 false _ ⟨rfl, trivial⟩ trivial h)
          · have h := bF h15 h
            refine LWo.guardNU (t := 25) rfl h15 rfl rfl rfl rfl rfl ?_
            refine LWo.guardNU (t := 25) rfl h15 rfl rfl rfl rfl rfl ?_
            refine LWo.guardNU (t := 25) rfl h15 rfl rfl rfl rfl rfl ?_
            refine LWo.guardNU (t := 25) rfl h15 rfl rfl rfl rfl rfl ?_
            refine LWo.pickFM (e_bool false) rfl h15 rfl (hn := ?_)
            refine LWo.move (e_bool false) rfl (hn := ?_)
            refine LWo.guardNU (t := 31) rfl rfl rfl rfl rfl rfl rfl ?_
            refine LWo.guardNU (t := 31) rfl rfl rfl rfl rfl rfl rfl ?_
            refine LWo.guardNU (t := 31) rfl rfl rfl rfl rfl rfl rfl ?_
            refine LWo.pickFM (e_bool false) rfl rfl rfl (hn := ?_)
            refine LWo.assign (e_bool false) rfl (hn := ?_)
            refine LWo.nil (hN14 false _ ⟨rfl, trivial⟩ trivial h)
      · have h := bF h13 h
        refine LWP.seq_k fun N18 hN18 => ?_
        refine LWP.region (l := [_,_]) ?_
        refine LWo.int _ rfl rfl rfl (hn := ?_)
        refine LWo.assign (e_bool (a0.Kind == (3 : Int))) rfl (hn := ?_)
        refine LWo.nil (hN18 _ ?_)
        refine LWP.cond_split rfl (fun h19 => ?_) (fun h19 => ?_)
        · have h := bT h19 h
          refine LWP.join (α := Bool) (fun z : Bool => [(2, (e_bool z))]) (fun z : Bool => []) (fun z : Bool => m_impl_Value_ok_j3  z) r (fun _ => by simp [hkeys]) ?_ ?_
          · rintro t2 h
            replace h : m_impl_Value_ok_j3  t2 = some _ := h
            obtain rfl := Option.some.inj h
            refine LWP.ret (QG.mk (.inr rfl) (.cons (.tmp (x := (e_bool t2)) rfl) (.nil)) (RetOK.one0 (.pure rfl) (by decide)) rfl rfl)
          · intro N20 hN20
            refine LWP.region (l := [_,_,_,_,_,_,_,_,_]) ?_
            refine LWo.fieldAddr _ u_impl_Value rfl s_string rfl rfl (hn := ?_)
            refine LWo.load1 (c := (e_string a0.S)) g_string rfl (hn := ?_)
            refine LWo.str _ rfl rfl rfl (hn := ?_)
            refine LWo.move (e_bool (sEq a0.S (⟨#[]⟩ : ByteArray))) rfl (hn := ?_)
            refine LWo.byCases (t := 41) _ rfl (fun h21 => ?_) (fun h21 => ?_)
            · have h := bT h21 h
              refine LWo.guardY (t := 41) rfl h21 rfl rfl ?_
              refine LWo.fieldAddr _ u_impl_Value rfl s_int rfl rfl (hn := ?_)
              refine LWo.guardY (t := 41) rfl h21 rfl rfl ?_
              refine LWo.load1 (c := (e_int a0.N)) g_int rfl (hn := ?_)
              refine bk h fun x22 e22 h => ?_
              refine LWo.guardY (t := 41) rfl h21 rfl rfl ?_
              refine LWo.vcall rfl rfl (c_impl_between _ _ _ _ e22) (.same (.same (.same (.nil)))) (hn := ?_)
              refine LWo.pickTM (e_bool x22) rfl h21 rfl (hn := ?_)
              refine LWo.assign (e_bool x22) rfl (hn := ?_)
              refine LWo.nil (hN20 x22 _ ⟨rfl, trivial⟩ trivial h)
            · have h := bF h21 h
              refine LWo.guardNU (t := 41) rfl h21 rfl rfl rfl rfl rfl ?_
              refine LWo.guardNU (t := 41) rfl h21 rfl rfl rfl rfl rfl ?_
              refine LWo.guardNU (t := 41) rfl h21 rfl rfl rfl rfl rfl ?_
              refine LWo.pickFM (e_bool false) rfl h21 rfl (hn := ?_)
              refine LWo.assign (e_bool false) rfl (hn := ?_)
              refine LWo.nil (hN20 false _ ⟨rfl, trivial⟩ trivial h)
        · have h := bF h19 h
          refine LWP.skip (hN2 _ ?_)
          refine LWP.seq_k fun N23 hN23 => ?_
          refine LWP.region (l := [_]) ?_
          refine LWo.assign (e_bool false) rfl (hn := ?_)
          refine LWo.nil (hN23 _ ?_)
          obtain rfl := Option.some.inj h
          refine LWP.ret (QG.mk (.inr rfl) (.cons (.tmp (x := (e_bool false)) rfl) (.nil)) (RetOK.one0 (.pure rfl) (by decide)) rfl rfl)

def m_impl_RowOk_1 (a0 : S_impl_Value) : Option Bool :=
  (m_impl_Value_ok a0).bind fun x3 =>
  some (!x3)
theorem c_impl_RowOk_1 (a0 : S_impl_Value) (r : Bool) (h : m_impl_RowOk_1 a0 = some r) : Ret Try.prog f_impl_RowOk_1 [e_impl_Value a0] (e_bool r) := by
  refine Does.goG [] F_impl_RowOk_1 rfl e_impl_RowOk_1 n_impl_RowOk_1 rfl (rvs := [.tmp 2]) rfl rfl ?_
  intro w0 ok0 lent ρ0
  refine LWP.seq_k fun N1 hN1 => ?_
  refine LWP.region (l := [_,_]) ?_
  refine LWo.boxF (e_impl_Value a0) rfl rfl rfl (hn := ?_)
  refine LWo.assign (e_bool false) rfl (hn := ?_)
  refine LWo.nil (hN1 _ ?_)
  refine LWP.seq_k fun N2 hN2 => ?_
  refine LWP.region (l := [_,_,_,_]) ?_
  refine LWo.loadN ((e_impl_Value a0)).cells g_impl_Value s_impl_Value rfl (Nat.le_of_ble_eq_true rfl) rfl (hn := ?_)
  refine bk h fun x3 e3 h => ?_
  refine LWo.vcall rfl rfl (c_impl_Value_ok _ _ e3) (.same (.nil)) (hn := ?_)
  refine LWo.not rfl (hn := ?_)
  refine LWo.assign (e_bool (!x3)) rfl (hn := ?_)
  refine LWo.nil (hN2 _ ?_)
  obtain rfl := Option.some.inj h
  refine LWP.ret (QG.mk (.inr rfl) (.cons (.tmp (x := (e_bool (!x3))) rfl) (.nil)) (RetOK.one0 (.pure rfl) (by decide)) rfl rfl)

def m_impl_RowOk_j1 (t2 : Bool) : Option Bool :=
  some t2
def m_impl_RowOk (a0 : (List S_impl_Value)) : Option Bool :=
  bif decide ((a0.length : Int) ≤ (4 : Int)) then ((m_slices_ContainsFunc_Limpl_Value_impl_Value a0 (fun b0_ => m_impl_RowOk_1 b0_ )).bind fun x4 =>
    m_impl_RowOk_j1  (!x4))
  else (m_impl_RowOk_j1  false)
theorem c_impl_RowOk (a0 : (List S_impl_Value)) (r : Bool) (h : m_impl_RowOk a0 = some r) : Ret Try.prog f_impl_RowOk [e_Limpl_Value a0] (e_bool r) := by
  refine Does.goG [] F_impl_RowOk rfl e_impl_RowOk n_impl_RowOk rfl (rvs := [.tmp 2]) rfl rfl ?_
  intro w0 ok0 lent ρ0
  refine LWP.seq_k fun N1 hN1 => ?_
  refine LWP.region (l := [_]) ?_
  refine LWo.assign (e_bool false) rfl (hn := ?_)
  refine LWo.nil (hN1 _ ?_)
  refine LWP.join (α := Bool) (fun z : Bool => [(2, (e_bool z))]) (fun z : Bool => []) (fun z : Bool => m_impl_RowOk_j1  z) r (fun _ => by simp [hkeys]) ?_ ?_
  · rintro t2 h
    replace h : m_impl_RowOk_j1  t2 = some _ := h
    obtain rfl := Option.some.inj h
    refine LWP.ret (QG.mk (.inr rfl) (.cons (.tmp (x := (e_bool t2)) rfl) (.nil)) (RetOK.one0 (.pure rfl) (by decide)) rfl rfl)
  · intro N2 hN2
    refine LWP.region (l := [_,_,_,_,_,_,_,_,_]) ?_
    refine LWo.move (e_Limpl_Value a0) rfl (hn := ?_)
    refine LWo.lenM (f := e_impl_Value) (l := a0) u_Limpl_Value rfl (hn := ?_)
    refine LWo.int _ rfl rfl rfl (hn := ?_)
    refine LWo.move (e_bool (decide ((a0.length : Int) ≤ (4 : Int)))) rfl (hn := ?_)
    refine LWo.byCases (t := 6) _ rfl (fun h3 => ?_) (fun h3 => ?_)
    · have h := bT h3 h
      refine LWo.guardY (t := 6) rfl h3 rfl rfl ?_
      refine LWo.move (e_Limpl_Value a0) rfl (hn := ?_)
      refine bk h fun x4 e4 h => ?_
      refine LWo.guardY (t := 6) rfl h3 rfl rfl ?_
      refine LWo.vcall rfl rfl (c_slices_ContainsFunc_Limpl_Value_impl_Value _ _ f_impl_RowOk_1 [] (fun _ => rfl) (fun b0_ v hv => c_impl_RowOk_1 b0_  v hv) _ e4) (.same (.same (.nil))) (hn := ?_)
      refine LWo.guardY (t := 6) rfl h3 rfl rfl ?_
      refine LWo.not rfl (hn := ?_)
      refine LWo.pickTM (e_bool (!x4)) rfl h3 rfl (hn := ?_)
      refine LWo.assign (e_bool (!x4)) rfl (hn := ?_)
      refine LWo.nil (hN2 (!x4) _ ⟨rfl, trivial⟩ trivial h)
    · have h := bF h3 h
      refine LWo.guardNU (t := 6) rfl h3 rfl rfl rfl rfl rfl ?_
      refine LWo.guardNU (t := 6) rfl h3 rfl rfl rfl rfl rfl ?_
      refine LWo.guardNU (t := 6) rfl h3 rfl rfl rfl rfl rfl ?_
      refine LWo.pickFM (e_bool false) rfl h3 rfl (hn := ?_)
      refine LWo.assign (e_bool false) rfl (hn := ?_)
      refine LWo.nil (hN2 false _ ⟨rfl, trivial⟩ trivial h)

def m_impl_RowFits_j3  : Option Bool :=
  some true
def m_impl_RowFits_j2 (k1 : (List S_impl_Column) → (List S_impl_Value) → Int → Int → Option Bool) (t0 : (List S_impl_Column)) (t22 : (List S_impl_Value)) (t23 : Int) (t24 : Int) (t49 : Bool) : Option Bool :=
  bif t49 then (some false)
  else ((ckI (t24 + (1 : Int))).bind fun x28 =>
  k1 t0 t22 t23 x28)
def m_impl_RowFits_l1 : Nat → (List S_impl_Column) → (List S_impl_Value) → Int → Int → Option Bool
  | 0, _, _, _, _ => none
  | n1 + 1, t0, t22, t23, t24 =>
    bif decide (t24 < t23) then ((at? t22 t24).bind fun x19 =>
    lt (x19) fun y20 =>
    (at? t0 t24).bind fun x22 =>
    bif (y20.Kind != x22.Kind) then (bif (y20.Kind != (0 : Int)) then (m_impl_RowFits_j2  (m_impl_RowFits_l1  n1) t0 t22 t23 t24 true)
      else ((at? t0 t24).bind fun x25 =>
        m_impl_RowFits_j2  (m_impl_RowFits_l1  n1) t0 t22 t23 t24 (!x25.Empty)))
    else (m_impl_RowFits_j2  (m_impl_RowFits_l1  n1) t0 t22 t23 t24 false))
    else (m_impl_RowFits_j3  )
def m_impl_RowFits_j1 (t0 : (List S_impl_Column)) (t1 : (List S_impl_Value)) (t21 : Bool) : Option Bool :=
  bif t21 then (some false)
  else (m_impl_RowFits_l1  (((t1.length : Int) - (0 : Int)).toNat + 1) t0 t1 (t1.length : Int) (0 : Int))
def m_impl_RowFits (a0 : (List S_impl_Column)) (a1 : (List S_impl_Value)) : Option Bool :=
  (m_impl_ColumnsOk a0).bind fun x4 =>
  bif (!x4) then (m_impl_RowFits_j1  a0 a1 true)
  else ((m_impl_RowOk a1).bind fun x6 =>
    bif (!x6) then (m_impl_RowFits_j1  a0 a1 true)
    else (m_impl_RowFits_j1  a0 a1 ((a1.length : Int) != (a0.length : Int))))
theorem c_impl_RowFits (a0 : (List S_impl_Column)) (a1 : (List S_impl_Value)) (r : Bool) (h : m_impl_RowFits a0 a1 = some r) : Ret Try.prog f_impl_RowFits [e_Limpl_Column a0, e_Limpl_Value a1] (e_bool r) := by
  refine Does.goG [] F_impl_RowFits rfl e_impl_RowFits n_impl_RowFits rfl (rvs := [.tmp 4]) rfl rfl ?_
  intro w0 ok0 lent ρ0
  refine LWP.seq_k fun N1 hN1 => ?_
  refine LWP.region (l := [_]) ?_
  refine LWo.assign (e_bool false) rfl (hn := ?_)
  refine LWo.nil (hN1 _ ?_)
  refine LWP.seq_k fun N2 hN2 => ?_
  refine LWP.join (α := (List S_impl_Column) × (List S_impl_Value) × Bool) (fun z : (List S_impl_Column) × (List S_impl_Value) × Bool => [(0, (e_Limpl_Column z.1)), (1, (e_Limpl_Value z.2.1)), (21, (e_bool z.2.2))]) (fun z : (List S_impl_Column) × (List S_impl_Value) × Bool => []) (fun z : (List S_impl_Column) × (List S_impl_Value) × Bool => m_impl_RowFits_j1  z.1 z.2.1 z.2.2) r (fun _ => by simp [hkeys]) ?_ ?_
  · rintro ⟨t0, t1, t21⟩ h
    replace h : m_impl_RowFits_j1  t0 t1 t21 = some _ := h
    refine LWP.cond_split rfl (fun h8 => ?_) (fun h8 => ?_)
    · have h := bT h8 h
      refine LWP.seq_k fun N9 hN9 => ?_
      refine LWP.region (l := [_]) ?_
      refine LWo.assign (e_bool false) rfl (hn := ?_)
      refine LWo.nil (hN9 _ ?_)
      obtain rfl := Option.some.inj h
      refine LWP.ret (QG.mk (.inr rfl) (.cons (.tmp (x := (e_bool false)) rfl) (.nil)) (RetOK.one0 (.pure rfl) (by decide)) rfl rfl)
    · have h := bF h8 h
      refine LWP.skip (hN2 _ ?_)
      refine LWP.join (α := Unit) (fun z : Unit => []) (fun z : Unit => []) (fun z : Unit => m_impl_RowFits_j3  ) r (fun _ => by simp [hkeys]) ?_ ?_
      · rintro _ h
        replace h : m_impl_RowFits_j3   = some _ := h
        refine LWP.seq_k fun N29 hN29 => ?_
        refine LWP.region (l := [_]) ?_
        refine LWo.assign (e_bool true) rfl (hn := ?_)
        refine LWo.nil (hN29 _ ?_)
        obtain rfl := Option.some.inj h
        refine LWP.ret (QG.mk (.inr rfl) (.cons (.tmp (x := (e_bool true)) rfl) (.nil)) (RetOK.one0 (.pure rfl) (by decide)) rfl rfl)
      · intro N10 hN10
        refine LWP.seq_k fun N11 hN11 => ?_
        refine LWP.region (l := [_,_,_]) ?_
        refine LWo.move (e_Limpl_Value t1) rfl (hn := ?_)
        refine LWo.lenM (f := e_impl_Value) (l := t1) u_Limpl_Value rfl (hn := ?_)
        refine LWo.move (e_int (0 : Int)) rfl (hn := ?_)
        refine LWo.nil (hN11 _ ?_)
        refine LWP.block ?_
        refine LWP.loopM (α := (List S_impl_Column) × (List S_impl_Value) × Int × Int) (fun z : (List S_impl_Column) × (List S_impl_Value) × Int × Int => [(0, (e_Limpl_Column z.1)), (22, (e_Limpl_Value z.2.1)), (23, (e_int z.2.2.1)), (24, (e_int z.2.2.2))]) (fun z : (List S_impl_Column) × (List S_impl_Value) × Int × Int => []) (fun n1 (z : (List S_impl_Column) × (List S_impl_Value) × Int × Int) => m_impl_RowFits_l1  n1 z.1 z.2.1 z.2.2.1 z.2.2.2) r _ (t0, t1, (t1.length : Int), (0 : Int)) h (fun _ => rfl) (fun _ => by simp [hkeys]) ⟨rfl, rfl, rfl, rfl, trivial⟩ trivial ?_
        rintro n1 ⟨t0, t22, t23, t24⟩ h N12 hN12
        replace h : m_impl_RowFits_l1  (n1 + 1) t0 t22 t23 t24 = some _ := h
        refine LWP.seq_k fun N14 hN14 => ?_
        refine LWP.region (l := [_]) ?_
        refine LWo.int _ rfl rfl rfl (hn := ?_)
        refine LWo.nil (hN14 _ ?_)
        refine LWP.seq_k fun N15 hN15 => ?_
        refine LWP.cond_split rfl (fun h16 => ?_) (fun h16 => ?_)
        · have h := bT h16 h
          refine LWP.skip (hN15 _ ?_)
          refine LWP.seq_k fun N17 hN17 => ?_
          refine LWP.block ?_
          refine LWP.seq_k fun N18 hN18 => ?_
          refine LWP.region (l := [_,_,_,_,_,_]) ?_
          refine LWo.move (e_int t24) rfl (hn := ?_)
          refine bk h fun x19 e19 h => ?_
          refine LWo.indexM (f := e_impl_Value) e19 u_Limpl_Value s_impl_Value rfl rfl (hn := ?_)
          refine LWo.loadN ((e_impl_Value x19)).cells g_impl_Value s_impl_Value rfl (Nat.le_of_ble_eq_true rfl) rfl (hn := ?_)
          refine LWo.alloc_impl_Value 6 rfl (hn := ?_)
          refine LWo.assign (e_int t24) rfl (hn := ?_)
          refine lk h fun y20 e20 h => ?_
          refine LWo.storeW (y := (⟨(0 : Int), (0 : Int), (⟨#[]⟩ : ByteArray)⟩ : S_impl_Value)) y20 s_impl_Value rfl rfl rfl rfl rfl rfl (by rw [e20]; exact .refl) rfl (hn := ?_)
          refine LWo.nil (hN18 _ ?_)
          refine LWP.join (α := (List S_impl_Column) × (List S_impl_Value) × Int × Int × Bool) (fun z : (List S_impl_Column) × (List S_impl_Value) × Int × Int × Bool => [(0, (e_Limpl_Column z.1)), (22, (e_Limpl_Value z.2.1)), (23, (e_int z.2.2.1)), (24, (e_int z.2.2.2.1)), (49, (e_bool z.2.2.2.2))]) (fun z : (List S_impl_Column) × (List S_impl_Value) × Int × Int × Bool => []) (fun z : (List S_impl_Column) × (List S_impl_Value) × Int × Int × Bool => m_impl_RowFits_j2  (m_impl_RowFits_l1  n1) z.1 z.2.1 z.2.2.1 z.2.2.2.1 z.2.2.2.2) r (fun _ => by simp [hkeys]) ?_ ?_
          · rintro ⟨t0, t22, t23, t24, t49⟩ h
            replace h : m_impl_RowFits_j2  (m_impl_RowFits_l1  n1) t0 t22 t23 t24 t49 = some _ := h
            refine LWP.cond_split rfl (fun h26 => ?_) (fun h26 => ?_)
            · have h := bT h26 h
              refine LWP.seq_k fun N27 hN27 => ?_
              refine LWP.region (l := [_]) ?_
              refine LWo.assign (e_bool false) rfl (hn := ?_)
              refine LWo.nil (hN27 _ ?_)
              obtain rfl := Option.some.inj h
              refine LWP.ret (QG.mk (.inr rfl) (.cons (.tmp (x := (e_bool false)) rfl) (.nil)) (RetOK.one0 (.pure rfl) (by decide)) rfl rfl)
            · have h := bF h26 h
              refine LWP.skip (hN17 _ ?_)
              refine LWP.region (l := [_,_]) ?_
              refine bk h fun x28 e28 h => ?_
              refine LWo.int _ rfl rfl (add_ck e28) (hn := ?_)
              refine LWo.move (e_int x28) rfl (hn := ?_)
              refine LWo.nil (hN12 (t0, t22, t23, x28) _ ⟨rfl, rfl, rfl, rfl, trivial⟩ trivial h)
          · intro N21 hN21
            refine bk h fun x22 e22 h => ?_
            refine bS ((y20.Kind != x22.Kind)) (fun h23 => ?_) (fun h23 => ?_)
            · have h := bT h23 h
              refine bS ((y20.Kind != (0 : Int))) (fun h24 => ?_) (fun h24 => ?_)
              · have h := bT h24 h
                refine LWP.drawE (l := [_,_,_,_,_,_,_,_,_,_,_,_,_,_,_,_,_,_,_,_,_]) [] [0, 5, 6, 22, 23, 24] [([6], []), ([29], [6]), ([0], []), ([5], []), ([31, 32], []), ([33], []), ([34], []), ([30, 35], []), ([36], []), ([6, 37], []), ([37, 38], [6]), ([37, 39], []), ([37, 40], []), ([0, 41], []), ([5, 41], []), ([41, 42, 43], []), ([41, 44], []), ([41, 45], []), ([41, 46], []), ([37, 41, 47], []), ([37, 48], [])] [0, 22, 23, 24, 49] [] mixed (by kernel_rfl) rfl (by decide) ?_
                refine ⟨rfl, .put 29 _, trivial, fun u hg hu hh => LWo.fieldPtr u_impl_Value rfl s_int hu.1 rfl (hn := LWo.nil ⟨rfl, .inl rfl, hg⟩), ?_⟩
                refine ⟨rfl, .put 30 _, trivial, fun u hg hu hh => LWo.loadV1 (e_int y20.Kind)  g_int hu.1 hh.1 rfl (hn := LWo.nil ⟨rfl, .inl rfl, hg⟩), ?_⟩
                refine ⟨rfl, .put 31 _, trivial, fun u hg hu hh => LWo.move (e_Limpl_Column t0) hu.1 (hn := LWo.nil ⟨rfl, .inl rfl, hg⟩), ?_⟩
                refine ⟨rfl, .put 32 _, trivial, fun u hg hu hh => LWo.move (e_int t24) hu.1 (hn := LWo.nil ⟨rfl, .inl rfl, hg⟩), ?_⟩
                refine ⟨rfl, .put 33 _, trivial, fun u hg hu hh => LWo.indexM (f := e_impl_Column) e22 u_Limpl_Column s_impl_Column hu.1 hu.2.1 (hn := LWo.nil ⟨rfl, .inl rfl, hg⟩), ?_⟩
                refine ⟨rfl, .put 34 _, trivial, fun u hg hu hh => LWo.fieldAddr _ u_impl_Column rfl s_int hu.1 rfl (hn := LWo.nil ⟨rfl, .inl rfl, hg⟩), ?_⟩
                refine ⟨rfl, .put 35 _, trivial, fun u hg hu hh => LWo.load1 (c := (e_int x22.Kind)) g_int hu.1 (hn := LWo.nil ⟨rfl, .inl rfl, hg⟩), ?_⟩
                refine ⟨rfl, .put 36 _, trivial, fun u hg hu hh => LWo.int _ hu.1 hu.2.1 rfl (hn := LWo.nil ⟨rfl, .inl rfl, hg⟩), ?_⟩
                refine ⟨rfl, .put 37 _, trivial, fun u hg hu hh => LWo.move (e_bool (y20.Kind != x22.Kind)) hu.1 (hn := LWo.nil ⟨rfl, .inl rfl, hg⟩), ?_⟩
                refine ⟨rfl, .put 38 _, trivial, fun u hg hu hh => LWo.guardY (t := 37) hu.2.1 h23 rfl rfl (LWo.fieldPtr u_impl_Value rfl s_int hu.1 rfl (hn := LWo.nil ⟨rfl, .inl rfl, hg⟩)), ?_⟩
                refine ⟨rfl, .put 39 _, trivial, fun u hg hu hh => LWo.guardY (t := 37) hu.1 h23 rfl rfl (LWo.loadV1 (e_int y20.Kind)  g_int hu.2.1 hh.1 rfl (hn := LWo.nil ⟨rfl, .inl rfl, hg⟩)), ?_⟩
                refine ⟨rfl, .put 40 _, trivial, fun u hg hu hh => LWo.guardY (t := 37) hu.1 h23 rfl rfl (LWo.int _ hu.2.1 rfl rfl (hn := LWo.nil ⟨rfl, .inl rfl, hg⟩)), ?_⟩
                refine ⟨rfl, .put 41 _, trivial, fun u hg hu hh => LWo.guardY (t := 37) hu.1 h23 rfl rfl (LWo.move (e_bool (y20.Kind != (0 : Int))) hu.2.1 (hn := LWo.nil ⟨rfl, .inl rfl, hg⟩)), ?_⟩
                refine ⟨rfl, .put 42 _, trivial, fun u hg hu hh => LWo.guardNU (t := 41) hu.2.1 h24 rfl rfl rfl rfl rfl (LWo.nil ⟨rfl, .inl rfl, hg⟩), ?_⟩
                refine ⟨rfl, .put 43 _, trivial, fun u hg hu hh => LWo.guardNU (t := 41) hu.2.1 h24 rfl rfl rfl rfl rfl (LWo.nil ⟨rfl, .inl rfl, hg⟩), ?_⟩
                refine ⟨rfl, .put 44 _, trivial, fun u hg hu hh => LWo.guardNU (t := 41) hu.1 h24 rfl rfl rfl rfl rfl (LWo.nil ⟨rfl, .inl rfl, hg⟩), ?_⟩
                refine ⟨rfl, .put 45 _, trivial, fun u hg hu hh => LWo.guardNU (t := 41) hu.1 h24 rfl rfl rfl rfl rfl (LWo.nil ⟨rfl, .inl rfl, hg⟩), ?_⟩
                refine ⟨rfl, .put 46 _, trivial, fun u hg hu hh => LWo.guardNU (t := 41) hu.1 h24 rfl rfl rfl rfl rfl (LWo.nil ⟨rfl, .inl rfl, hg⟩), ?_⟩
                refine ⟨rfl, .put 47 _, trivial, fun u hg hu hh => LWo.guardNU (t := 41) hu.1 h24 rfl rfl rfl rfl rfl (LWo.nil ⟨rfl, .inl rfl, hg⟩), ?_⟩
                refine ⟨rfl, .put 48 _, trivial, fun u hg hu hh => LWo.guardY (t := 37) hu.1 h23 rfl rfl (LWo.pickTM (e_bool true) hu.2.1 h24 rfl (hn := LWo.nil ⟨rfl, .inl rfl, hg⟩)), ?_⟩
                refine ⟨rfl, .put 49 _, trivial, fun u hg hu hh => LWo.pickTM (e_bool true) hu.1 h23 hu.2.1 (hn := LWo.nil ⟨rfl, .inl rfl, hg⟩), ?_⟩
                refine ⟨rfl, by kernel_rfl, hN21 (t0, t22, t23, t24, true) _ ⟨rfl, rfl, rfl, rfl, rfl, trivial⟩ trivial h⟩
              · have h := bF h24 h
                refine bk h fun x25 e25 h => ?_
                refine LWP.drawE (l := [_,_,_,_,_,_,_,_,_,_,_,_,_,_,_,_,_,_,_,_,_]) [] [0, 5, 6, 22, 23, 24] [([6], []), ([29], [6]), ([0], []), ([5], []), ([31, 32], []), ([33], []), ([34], []), ([30, 35], []), ([36], []), ([6, 37], []), ([37, 38], [6]), ([37, 39], []), ([37, 40], []), ([0, 41], []), ([5, 41], []), ([41, 42, 43], []), ([41, 44], []), ([41, 45], []), ([41, 46], []), ([37, 41, 47], []), ([37, 48], [])] [0, 22, 23, 24, 49] [] mixed (by kernel_rfl) rfl (by decide) ?_
                refine ⟨rfl, .put 29 _, trivial, fun u hg hu hh => LWo.fieldPtr u_impl_Value rfl s_int hu.1 rfl (hn := LWo.nil ⟨rfl, .inl rfl, hg⟩), ?_⟩
                refine ⟨rfl, .put 30 _, trivial, fun u hg hu hh => LWo.loadV1 (e_int y20.Kind)  g_int hu.1 hh.1 rfl (hn := LWo.nil ⟨rfl, .inl rfl, hg⟩), ?_⟩
                refine ⟨rfl, .put 31 _, trivial, fun u hg hu hh => LWo.move (e_Limpl_Column t0) hu.1 (hn := LWo.nil ⟨rfl, .inl rfl, hg⟩), ?_⟩
                refine ⟨rfl, .put 32 _, trivial, fun u hg hu hh => LWo.move (e_int t24) hu.1 (hn := LWo.nil ⟨rfl, .inl rfl, hg⟩), ?_⟩
                refine ⟨rfl, .put 33 _, trivial, fun u hg hu hh => LWo.indexM (f := e_impl_Column) e22 u_Limpl_Column s_impl_Column hu.1 hu.2.1 (hn := LWo.nil ⟨rfl, .inl rfl, hg⟩), ?_⟩
                refine ⟨rfl, .put 34 _, trivial, fun u hg hu hh => LWo.fieldAddr _ u_impl_Column rfl s_int hu.1 rfl (hn := LWo.nil ⟨rfl, .inl rfl, hg⟩), ?_⟩
                refine ⟨rfl, .put 35 _, trivial, fun u hg hu hh => LWo.load1 (c := (e_int x22.Kind)) g_int hu.1 (hn := LWo.nil ⟨rfl, .inl rfl, hg⟩), ?_⟩
                refine ⟨rfl, .put 36 _, trivial, fun u hg hu hh => LWo.int _ hu.1 hu.2.1 rfl (hn := LWo.nil ⟨rfl, .inl rfl, hg⟩), ?_⟩
                refine ⟨rfl, .put 37 _, trivial, fun u hg hu hh => LWo.move (e_bool (y20.Kind != x22.Kind)) hu.1 (hn := LWo.nil ⟨rfl, .inl rfl, hg⟩), ?_⟩
                refine ⟨rfl, .put 38 _, trivial, fun u hg hu hh => LWo.guardY (t := 37) hu.2.1 h23 rfl rfl (LWo.fieldPtr u_impl_Value rfl s_int hu.1 rfl (hn := LWo.nil ⟨rfl, .inl rfl, hg⟩)), ?_⟩
                refine ⟨rfl, .put 39 _, trivial, fun u hg hu hh => LWo.guardY (t := 37) hu.1 h23 rfl rfl (LWo.loadV1 (e_int y20.Kind)  g_int hu.2.1 hh.1 rfl (hn := LWo.nil ⟨rfl, .inl rfl, hg⟩)), ?_⟩
                refine ⟨rfl, .put 40 _, trivial, fun u hg hu hh => LWo.guardY (t := 37) hu.1 h23 rfl rfl (LWo.int _ hu.2.1 rfl rfl (hn := LWo.nil ⟨rfl, .inl rfl, hg⟩)), ?_⟩
                refine ⟨rfl, .put 41 _, trivial, fun u hg hu hh => LWo.guardY (t := 37) hu.1 h23 rfl rfl (LWo.move (e_bool (y20.Kind != (0 : Int))) hu.2.1 (hn := LWo.nil ⟨rfl, .inl rfl, hg⟩)), ?_⟩
                refine ⟨rfl, .put 42 _, trivial, fun u hg hu hh => LWo.guardY (t := 41) hu.2.1 h24 rfl rfl (LWo.move (e_Limpl_Column t0) hu.1 (hn := LWo.nil ⟨rfl, .inl rfl, hg⟩)), ?_⟩
                refine ⟨rfl, .put 43 _, trivial, fun u hg hu hh => LWo.guardY (t := 41) hu.2.1 h24 rfl rfl (LWo.move (e_int t24) hu.1 (hn := LWo.nil ⟨rfl, .inl rfl, hg⟩)), ?_⟩
                refine ⟨rfl, .put 44 _, trivial, fun u hg hu hh => LWo.guardY (t := 41) hu.1 h24 rfl rfl (LWo.indexM (f := e_impl_Column) e25 u_Limpl_Column s_impl_Column hu.2.1 hu.2.2.1 (hn := LWo.nil ⟨rfl, .inl rfl, hg⟩)), ?_⟩
                refine ⟨rfl, .put 45 _, trivial, fun u hg hu hh => LWo.guardY (t := 41) hu.1 h24 rfl rfl (LWo.fieldAddr _ u_impl_Column rfl s_bool hu.2.1 rfl (hn := LWo.nil ⟨rfl, .inl rfl, hg⟩)), ?_⟩
                refine ⟨rfl, .put 46 _, trivial, fun u hg hu hh => LWo.guardY (t := 41) hu.1 h24 rfl rfl (LWo.load1 (c := (e_bool x25.Empty)) g_bool hu.2.1 (hn := LWo.nil ⟨rfl, .inl rfl, hg⟩)), ?_⟩
                refine ⟨rfl, .put 47 _, trivial, fun u hg hu hh => LWo.guardY (t := 41) hu.1 h24 rfl rfl (LWo.not hu.2.1 (hn := LWo.nil ⟨rfl, .inl rfl, hg⟩)), ?_⟩
                refine ⟨rfl, .put 48 _, trivial, fun u hg hu hh => LWo.guardY (t := 37) hu.1 h23 rfl rfl (LWo.pickFM (e_bool (!x25.Empty)) hu.2.1 h24 hu.2.2.1 (hn := LWo.nil ⟨rfl, .inl rfl, hg⟩)), ?_⟩
                refine ⟨rfl, .put 49 _, trivial, fun u hg hu hh => LWo.pickTM (e_bool (!x25.Empty)) hu.1 h23 hu.2.1 (hn := LWo.nil ⟨rfl, .inl rfl, hg⟩), ?_⟩
                refine ⟨rfl, by kernel_rfl, hN21 (t0, t22, t23, t24, (!x25.Empty)) _ ⟨rfl, rfl, rfl, rfl, rfl, trivial⟩ trivial h⟩
            · have h := bF h23 h
              refine LWP.drawE (l := [_,_,_,_,_,_,_,_,_,_,_,_,_,_,_,_,_,_,_,_,_]) [] [0, 5, 6, 22, 23, 24] [([6], []), ([29], [6]), ([0], []), ([5], []), ([31, 32], []), ([33], []), ([34], []), ([30, 35], []), ([36], []), ([6, 37], []), ([37, 38], []), ([37, 39], []), ([37, 40], []), ([0, 41], []), ([5, 41], []), ([41, 42, 43], []), ([41, 44], []), ([41, 45], []), ([41, 46], []), ([37, 41, 47], []), ([37, 48], [])] [0, 22, 23, 24, 49] [] mixed (by kernel_rfl) rfl (by decide) ?_
              refine ⟨rfl, .put 29 _, trivial, fun u hg hu hh => LWo.fieldPtr u_impl_Value rfl s_int hu.1 rfl (hn := LWo.nil ⟨rfl, .inl rfl, hg⟩), ?_⟩
              refine ⟨rfl, .put 30 _, trivial, fun u hg hu hh => LWo.loadV1 (e_int y20.Kind)  g_int hu.1 hh.1 rfl (hn := LWo.nil ⟨rfl, .inl rfl, hg⟩), ?_⟩
              refine ⟨rfl, .put 31 _, trivial, fun u hg hu hh => LWo.move (e_Limpl_Column t0) hu.1 (hn := LWo.nil ⟨rfl, .inl rfl, hg⟩), ?_⟩
              refine ⟨rfl, .put 32 _, trivial, fun u hg hu hh => LWo.move (e_int t24) hu.1 (hn := LWo.nil ⟨rfl, .inl rfl, hg⟩), ?_⟩
              refine ⟨rfl, .put 33 _, trivial, fun u hg hu hh => LWo.indexM (f := e_impl_Column) e22 u_Limpl_Column s_impl_Column hu.1 hu.2.1 (hn := LWo.nil ⟨rfl, .inl rfl, hg⟩), ?_⟩
              refine ⟨rfl, .put 34 _, trivial, fun u hg hu hh => LWo.fieldAddr _ u_impl_Column rfl s_int hu.1 rfl (hn := LWo.nil ⟨rfl, .inl rfl, hg⟩), ?_⟩
              refine ⟨rfl, .put 35 _, trivial, fun u hg hu hh => LWo.load1 (c := (e_int x22.Kind)) g_int hu.1 (hn := LWo.nil ⟨rfl, .inl rfl, hg⟩), ?_⟩
              refine ⟨rfl, .put 36 _, trivial, fun u hg hu hh => LWo.int _ hu.1 hu.2.1 rfl (hn := LWo.nil ⟨rfl, .inl rfl, hg⟩), ?_⟩
              refine ⟨rfl, .put 37 _, trivial, fun u hg hu hh => LWo.move (e_bool (y20.Kind != x22.Kind)) hu.1 (hn := LWo.nil ⟨rfl, .inl rfl, hg⟩), ?_⟩
              refine ⟨rfl, .put 38 _, trivial, fun u hg hu hh => LWo.guardNU (t := 37) hu.2.1 h23 rfl rfl rfl rfl rfl (LWo.nil ⟨rfl, .inl rfl, hg⟩), ?_⟩
              refine ⟨rfl, .put 39 _, trivial, fun u hg hu hh => LWo.guardNU (t := 37) hu.1 h23 rfl rfl rfl rfl rfl (LWo.nil ⟨rfl, .inl rfl, hg⟩), ?_⟩
              refine ⟨rfl, .put 40 _, trivial, fun u hg hu hh => LWo.guardNU (t := 37) hu.1 h23 rfl rfl rfl rfl rfl (LWo.nil ⟨rfl, .inl rfl, hg⟩), ?_⟩
              refine ⟨rfl, .put 41 _, trivial, fun u hg hu hh => LWo.guardNU (t := 37) hu.1 h23 rfl rfl rfl rfl rfl (LWo.nil ⟨rfl, .inl rfl, hg⟩), ?_⟩
              refine ⟨rfl, .put 42 _, trivial, fun u hg hu hh => LWo.guardU (t := 41) hu.2.1 rfl rfl rfl rfl (LWo.nil ⟨rfl, .inl rfl, hg⟩), ?_⟩
              refine ⟨rfl, .put 43 _, trivial, fun u hg hu hh => LWo.guardU (t := 41) hu.2.1 rfl rfl rfl rfl (LWo.nil ⟨rfl, .inl rfl, hg⟩), ?_⟩
              refine ⟨rfl, .put 44 _, trivial, fun u hg hu hh => LWo.guardU (t := 41) hu.1 rfl rfl rfl rfl (LWo.nil ⟨rfl, .inl rfl, hg⟩), ?_⟩
              refine ⟨rfl, .put 45 _, trivial, fun u hg hu hh => LWo.guardU (t := 41) hu.1 rfl rfl rfl rfl (LWo.nil ⟨rfl, .inl rfl, hg⟩), ?_⟩
              refine ⟨rfl, .put 46 _, trivial, fun u hg hu hh => LWo.guardU (t := 41) hu.1 rfl rfl rfl rfl (LWo.nil ⟨rfl, .inl rfl, hg⟩), ?_⟩
              refine ⟨rfl, .put 47 _, trivial, fun u hg hu hh => LWo.guardU (t := 41) hu.1 rfl rfl rfl rfl (LWo.nil ⟨rfl, .inl rfl, hg⟩), ?_⟩
              refine ⟨rfl, .put 48 _, trivial, fun u hg hu hh => LWo.guardNU (t := 37) hu.1 h23 rfl rfl rfl rfl rfl (LWo.nil ⟨rfl, .inl rfl, hg⟩), ?_⟩
              refine ⟨rfl, .put 49 _, trivial, fun u hg hu hh => LWo.pickFM (e_bool false) hu.1 h23 rfl (hn := LWo.nil ⟨rfl, .inl rfl, hg⟩), ?_⟩
              refine ⟨rfl, by kernel_rfl, hN21 (t0, t22, t23, t24, false) _ ⟨rfl, rfl, rfl, rfl, rfl, trivial⟩ trivial h⟩
        · have h := bF h16 h
          refine LWP.exit (hN10 () _ trivial trivial h)
  · intro N3 hN3
    refine LWP.region (l := [_,_,_,_,_,_,_,_,_,_,_,_,_,_,_]) ?_
    refine LWo.move (e_Limpl_Column a0) rfl (hn := ?_)
    refine bk h fun x4 e4 h => ?_
    refine LWo.vcall rfl rfl (c_impl_ColumnsOk _ _ e4) (.same (.nil)) (hn := ?_)
    refine LWo.not rfl (hn := ?_)
    refine LWo.move (e_bool (!x4)) rfl (hn := ?_)
    refine LWo.byCases (t := 10) _ rfl (fun h5 => ?_) (fun h5 => ?_)
    · have h := bT h5 h
      refine LWo.guardNU (t := 10) rfl h5 rfl rfl rfl rfl rfl ?_
      refine LWo.guardNU (t := 10) rfl h5 rfl rfl rfl rfl rfl ?_
      refine LWo.guardNU (t := 10) rfl h5 rfl rfl rfl rfl rfl ?_
      refine LWo.pickTM (e_bool true) rfl h5 rfl (hn := ?_)
      refine LWo.move (e_bool true) rfl (hn := ?_)
      refine LWo.guardNU (t := 15) rfl rfl rfl rfl rfl rfl rfl ?_
      refine LWo.guardNU (t := 15) rfl rfl rfl rfl rfl rfl rfl ?_
      refine LWo.guardNU (t := 15) rfl rfl rfl rfl rfl rfl rfl ?_
      refine LWo.guardNU (t := 15) rfl rfl rfl rfl rfl rfl rfl ?_
      refine LWo.guardNU (t := 15) rfl rfl rfl rfl rfl rfl rfl ?_
      refine LWo.pickTM (e_bool true) rfl rfl rfl (hn := ?_)
      refine LWo.nil (hN3 (a0, a1, true) _ ⟨rfl, rfl, rfl, trivial⟩ trivial h)
    · have h := bF h5 h
      refine LWo.guardY (t := 10) rfl h5 rfl rfl ?_
      refine LWo.move (e_Limpl_Value a1) rfl (hn := ?_)
      refine bk h fun x6 e6 h => ?_
      refine LWo.guardY (t := 10) rfl h5 rfl rfl ?_
      refine LWo.vcall rfl rfl (c_impl_RowOk _ _ e6) (.same (.nil)) (hn := ?_)
      refine LWo.guardY (t := 10) rfl h5 rfl rfl ?_
      refine LWo.not rfl (hn := ?_)
      refine LWo.pickFM (e_bool (!x6)) rfl h5 rfl (hn := ?_)
      refine LWo.move (e_bool (!x6)) rfl (hn := ?_)
      refine LWo.byCases (t := 15) _ rfl (fun h7 => ?_) (fun h7 => ?_)
      · have h := bT h7 h
        refine LWo.guardNU (t := 15) rfl h7 rfl rfl rfl rfl rfl ?_
        refine LWo.guardNU (t := 15) rfl h7 rfl rfl rfl rfl rfl ?_
        refine LWo.guardNU (t := 15) rfl h7 rfl rfl rfl rfl rfl ?_
        refine LWo.guardNU (t := 15) rfl h7 rfl rfl rfl rfl rfl ?_
        refine LWo.guardNU (t := 15) rfl h7 rfl rfl rfl rfl rfl ?_
        refine LWo.pickTM (e_bool true) rfl h7 rfl (hn := ?_)
        refine LWo.nil (hN3 (a0, a1, true) _ ⟨rfl, rfl, rfl, trivial⟩ trivial h)
      · have h := bF h7 h
        refine LWo.guardY (t := 15) rfl h7 rfl rfl ?_
        refine LWo.move (e_Limpl_Value a1) rfl (hn := ?_)
        refine LWo.guardY (t := 15) rfl h7 rfl rfl ?_
        refine LWo.lenM (f := e_impl_Value) (l := a1) u_Limpl_Value rfl (hn := ?_)
        refine LWo.guardY (t := 15) rfl h7 rfl rfl ?_
        refine LWo.move (e_Limpl_Column a0) rfl (hn := ?_)
        refine LWo.guardY (t := 15) rfl h7 rfl rfl ?_
        refine LWo.lenM (f := e_impl_Column) (l := a0) u_Limpl_Column rfl (hn := ?_)
        refine LWo.guardY (t := 15) rfl h7 rfl rfl ?_
        refine LWo.int _ rfl rfl rfl (hn := ?_)
        refine LWo.pickFM (e_bool ((a1.length : Int) != (a0.length : Int))) rfl h7 rfl (hn := ?_)
        refine LWo.nil (hN3 (a0, a1, ((a1.length : Int) != (a0.length : Int))) _ ⟨rfl, rfl, rfl, trivial⟩ trivial h)

def m_impl_RowsOk_1 (a0 : (List S_impl_Value)) (a1 : (List S_impl_Column)) : Option Bool :=
  (m_impl_RowFits a1 a0).bind fun x3 =>
  some (!x3)
theorem c_impl_RowsOk_1 (a0 : (List S_impl_Value)) (a1 : (List S_impl_Column)) (r : Bool) (h : m_impl_RowsOk_1 a0 a1 = some r) : Ret Try.prog f_impl_RowsOk_1 [e_Limpl_Value a0, .fp (e_Limpl_Column a1).cells] (e_bool r) := by
  refine Does.goG [] F_impl_RowsOk_1 rfl e_impl_RowsOk_1 n_impl_RowsOk_1 rfl (rvs := [.tmp 3]) rfl rfl ?_
  intro w0 ok0 lent ρ0
  refine LWP.seq_k fun N1 hN1 => ?_
  refine LWP.region (l := [_]) ?_
  refine LWo.assign (e_bool false) rfl (hn := ?_)
  refine LWo.nil (hN1 _ ?_)
  refine LWP.seq_k fun N2 hN2 => ?_
  refine LWP.region (l := [_,_,_,_,_]) ?_
  refine LWo.load1 (c := (e_Limpl_Column a1)) g_Limpl_Column rfl (hn := ?_)
  refine LWo.move (e_Limpl_Value a0) rfl (hn := ?_)
  refine bk h fun x3 e3 h => ?_
  refine LWo.vcall rfl rfl (c_impl_RowFits _ _ _ e3) (.same (.same (.nil))) (hn := ?_)
  refine LWo.not rfl (hn := ?_)
  refine LWo.assign (e_bool (!x3)) rfl (hn := ?_)
  refine LWo.nil (hN2 _ ?_)
  obtain rfl := Option.some.inj h
  refine LWP.ret (QG.mk (.inr rfl) (.cons (.tmp (x := (e_bool (!x3))) rfl) (.nil)) (RetOK.one0 (.pure rfl) (by decide)) rfl rfl)

def m_slices_IndexFunc_LLimpl_Value_Limpl_Value_j1 (p1 : (List S_impl_Value) → Option Bool)  : Option Int :=
  some (-1 : Int)
def m_slices_IndexFunc_LLimpl_Value_Limpl_Value_l1 (p1 : (List S_impl_Value) → Option Bool) : Nat → (List (List S_impl_Value)) → Int → Int → Option Int
  | 0, _, _, _ => none
  | n1 + 1, t0, t7, t8 =>
    bif decide (t8 < t7) then ((at? t0 t8).bind fun x12 =>
    (p1 x12).bind fun x13 =>
    bif x13 then (some t8)
    else ((ckI (t8 + (1 : Int))).bind fun x16 =>
    (m_slices_IndexFunc_LLimpl_Value_Limpl_Value_l1 p1 n1) t0 t7 x16))
    else (m_slices_IndexFunc_LLimpl_Value_Limpl_Value_j1 p1 )
def m_slices_IndexFunc_LLimpl_Value_Limpl_Value (a0 : (List (List S_impl_Value))) (p1 : (List S_impl_Value) → Option Bool) : Option Int :=
  m_slices_IndexFunc_LLimpl_Value_Limpl_Value_l1 p1 (((a0.length : Int) - (0 : Int)).toNat + 1) a0 (a0.length : Int) (0 : Int)
theorem c_slices_IndexFunc_LLimpl_Value_Limpl_Value (a0 : (List (List S_impl_Value))) (p1 : (List S_impl_Value) → Option Bool) (f1 : FuncId) (q1 : List LV) (hq1 : ∀ k, LV.at?.atL k q1 = false) (hf1 : ∀ a0 v, p1 a0 = some v → Ret Try.prog f1 (e_Limpl_Value a0 :: q1) (e_bool v)) (r : Int) (h : m_slices_IndexFunc_LLimpl_Value_Limpl_Value a0 p1 = some r) : Ret Try.prog f_slices_IndexFunc_LLimpl_Value_Limpl_Value [e_LLimpl_Value a0, .clo f1 q1] (e_int r) := by
  refine Does.goG [] F_slices_IndexFunc_LLimpl_Value_Limpl_Value rfl e_slices_IndexFunc_LLimpl_Value_Limpl_Value n_slices_IndexFunc_LLimpl_Value_Limpl_Value rfl (rvs := [.tmp 4]) rfl rfl ?_
  intro w0 ok0 lent ρ0
  refine LWP.seq_k fun N1 hN1 => ?_
  refine LWP.region (l := [_]) ?_
  refine LWo.assign (e_int (0 : Int)) rfl (hn := ?_)
  refine LWo.nil (hN1 _ ?_)
  refine LWP.join (α := Unit) (fun z : Unit => []) (fun z : Unit => []) (fun z : Unit => m_slices_IndexFunc_LLimpl_Value_Limpl_Value_j1 p1 ) r (fun _ => by simp [hkeys]) ?_ ?_
  · rintro _ h
    replace h : m_slices_IndexFunc_LLimpl_Value_Limpl_Value_j1 p1  = some _ := h
    refine LWP.seq_k fun N17 hN17 => ?_
    refine LWP.region (l := [_]) ?_
    refine LWo.assign (e_int (-1 : Int)) rfl (hn := ?_)
    refine LWo.nil (hN17 _ ?_)
    obtain rfl := Option.some.inj h
    refine LWP.ret (QG.mk (.inr rfl) (.cons (.tmp (x := (e_int (-1 : Int))) rfl) (.nil)) (RetOK.one0 (.pure rfl) (by decide)) rfl rfl)
  · intro N2 hN2
    refine LWP.seq_k fun N3 hN3 => ?_
    refine LWP.region (l := [_,_,_]) ?_
    refine LWo.move (e_LLimpl_Value a0) rfl (hn := ?_)
    refine LWo.lenM (f := e_Limpl_Value) (l := a0) u_LLimpl_Value rfl (hn := ?_)
    refine LWo.move (e_int (0 : Int)) rfl (hn := ?_)
    refine LWo.nil (hN3 _ ?_)
    refine LWP.block ?_
    refine LWP.loopM (α := (List (List S_impl_Value)) × Int × Int) (fun z : (List (List S_impl_Value)) × Int × Int => [(0, (e_LLimpl_Value z.1)), (1, (.clo f1 q1)), (7, (e_int z.2.1)), (8, (e_int z.2.2))]) (fun z : (List (List S_impl_Value)) × Int × Int => []) (fun n1 (z : (List (List S_impl_Value)) × Int × Int) => m_slices_IndexFunc_LLimpl_Value_Limpl_Value_l1 p1 n1 z.1 z.2.1 z.2.2) r _ (a0, (a0.length : Int), (0 : Int)) h (fun _ => rfl) (fun _ => by simp [hkeys]) ⟨rfl, rfl, rfl, rfl, trivial⟩ trivial ?_
    rintro n1 ⟨t0, t7, t8⟩ h N4 hN4
    replace h : m_slices_IndexFunc_LLimpl_Value_Limpl_Value_l1 p1 (n1 + 1) t0 t7 t8 = some _ := h
    refine LWP.seq_k fun N6 hN6 => ?_
    refine LWP.region (l := [_]) ?_
    refine LWo.int _ rfl rfl rfl (hn := ?_)
    refine LWo.nil (hN6 _ ?_)
    refine LWP.seq_k fun N7 hN7 => ?_
    refine LWP.cond_split rfl (fun h8 => ?_) (fun h8 => ?_)
    · have h := bT h8 h
      refine LWP.skip (hN7 _ ?_)
      refine LWP.seq_k fun N9 hN9 => ?_
      refine LWP.block ?_
      refine LWP.seq_k fun N10 hN10 => ?_
      refine LWP.region (l := [_,_]) ?_
      refine LWo.move (e_int t8) rfl (hn := ?_)
      refine LWo.assign (e_int t8) rfl (hn := ?_)
      refine LWo.nil (hN10 _ ?_)
      refine LWP.seq_k fun N11 hN11 => ?_
      refine LWP.region (l := [_,_,_,_,_,_]) ?_
      refine LWo.move (.clo f1 q1) rfl (hn := ?_)
      refine LWo.move (e_LLimpl_Value t0) rfl (hn := ?_)
      refine LWo.move (e_int t8) rfl (hn := ?_)
      refine bk h fun x12 e12 h => ?_
      refine LWo.indexM (f := e_Limpl_Value) e12 u_LLimpl_Value s_Limpl_Value rfl rfl (hn := ?_)
      refine LWo.load1 (c := (e_Limpl_Value x12)) g_Limpl_Value rfl (hn := ?_)
      refine bk h fun x13 e13 h => ?_
      refine LWo.vcall rfl rfl (hf1 _ _ e13) .refl (hn := ?_)
      refine LWo.nil (hN11 _ ?_)
      refine LWP.cond_split rfl (fun h14 => ?_) (fun h14 => ?_)
      · have h := bT h14 h
        refine LWP.seq_k fun N15 hN15 => ?_
        refine LWP.region (l := [_,_]) ?_
        refine LWo.move (e_int t8) rfl (hn := ?_)
        refine LWo.assign (e_int t8) rfl (hn := ?_)
        refine LWo.nil (hN15 _ ?_)
        obtain rfl := Option.some.inj h
        refine LWP.ret (QG.mk (.inr rfl) (.cons (.tmp (x := (e_int t8)) rfl) (.nil)) (RetOK.one0 (.pure rfl) (by decide)) rfl rfl)
      · have h := bF h14 h
        refine LWP.skip (hN9 _ ?_)
        refine LWP.region (l := [_,_]) ?_
        refine bk h fun x16 e16 h => ?_
        refine LWo.int _ rfl rfl (add_ck e16) (hn := ?_)
        refine LWo.move (e_int x16) rfl (hn := ?_)
        refine LWo.nil (hN4 (t0, t7, x16) _ ⟨rfl, rfl, rfl, rfl, trivial⟩ trivial h)
    · have h := bF h8 h
      refine LWP.exit (hN2 () _ trivial trivial h)

def m_slices_ContainsFunc_LLimpl_Value_Limpl_Value (a0 : (List (List S_impl_Value))) (p1 : (List S_impl_Value) → Option Bool) : Option Bool :=
  (m_slices_IndexFunc_LLimpl_Value_Limpl_Value a0 p1).bind fun x3 =>
  some (decide (x3 ≥ (0 : Int)))
theorem c_slices_ContainsFunc_LLimpl_Value_Limpl_Value (a0 : (List (List S_impl_Value))) (p1 : (List S_impl_Value) → Option Bool) (f1 : FuncId) (q1 : List LV) (hq1 : ∀ k, LV.at?.atL k q1 = false) (hf1 : ∀ a0 v, p1 a0 = some v → Ret Try.prog f1 (e_Limpl_Value a0 :: q1) (e_bool v)) (r : Bool) (h : m_slices_ContainsFunc_LLimpl_Value_Limpl_Value a0 p1 = some r) : Ret Try.prog f_slices_ContainsFunc_LLimpl_Value_Limpl_Value [e_LLimpl_Value a0, .clo f1 q1] (e_bool r) := by
  refine Does.goG [] F_slices_ContainsFunc_LLimpl_Value_Limpl_Value rfl e_slices_ContainsFunc_LLimpl_Value_Limpl_Value n_slices_ContainsFunc_LLimpl_Value_Limpl_Value rfl (rvs := [.tmp 4]) rfl rfl ?_
  intro w0 ok0 lent ρ0
  refine LWP.seq_k fun N1 hN1 => ?_
  refine LWP.region (l := [_]) ?_
  refine LWo.assign (e_bool false) rfl (hn := ?_)
  refine LWo.nil (hN1 _ ?_)
  refine LWP.seq_k fun N2 hN2 => ?_
  refine LWP.region (l := [_,_,_,_,_]) ?_
  refine LWo.move (e_LLimpl_Value a0) rfl (hn := ?_)
  refine LWo.move (.clo f1 q1) rfl (hn := ?_)
  refine bk h fun x3 e3 h => ?_
  refine LWo.vcall rfl rfl (c_slices_IndexFunc_LLimpl_Value_Limpl_Value _ _ f1 q1 hq1 hf1 _ e3) (.same (.same (.nil))) (hn := ?_)
  refine LWo.int _ rfl rfl rfl (hn := ?_)
  refine LWo.assign (e_bool (decide (x3 ≥ (0 : Int)))) rfl (hn := ?_)
  refine LWo.nil (hN2 _ ?_)
  obtain rfl := Option.some.inj h
  refine LWP.ret (QG.mk (.inr rfl) (.cons (.tmp (x := (e_bool (decide (x3 ≥ (0 : Int))))) rfl) (.nil)) (RetOK.one0 (.pure rfl) (by decide)) rfl rfl)

def m_impl_RowsOk_j1 (t4 : Bool) : Option Bool :=
  some t4
def m_impl_RowsOk (a0 : (List S_impl_Column)) (a1 : (List (List S_impl_Value))) : Option Bool :=
  (m_impl_ColumnsOk a0).bind fun x3 =>
  bif x3 then ((m_slices_ContainsFunc_LLimpl_Value_Limpl_Value a1 (fun b0_ => m_impl_RowsOk_1 b0_ a0)).bind fun x5 =>
    m_impl_RowsOk_j1  (!x5))
  else (m_impl_RowsOk_j1  false)
theorem c_impl_RowsOk (a0 : (List S_impl_Column)) (a1 : (List (List S_impl_Value))) (r : Bool) (h : m_impl_RowsOk a0 a1 = some r) : Ret Try.prog f_impl_RowsOk [e_Limpl_Column a0, e_LLimpl_Value a1] (e_bool r) := by
  refine Does.goG [] F_impl_RowsOk rfl e_impl_RowsOk n_impl_RowsOk rfl (rvs := [.tmp 4]) rfl rfl ?_
  intro w0 ok0 lent ρ0
  refine LWP.seq_k fun N1 hN1 => ?_
  refine LWP.region (l := [_,_]) ?_
  refine LWo.boxF (e_Limpl_Column a0) rfl rfl rfl (hn := ?_)
  refine LWo.assign (e_bool false) rfl (hn := ?_)
  refine LWo.nil (hN1 _ ?_)
  refine LWP.join (α := Bool) (fun z : Bool => [(4, (e_bool z))]) (fun z : Bool => []) (fun z : Bool => m_impl_RowsOk_j1  z) r (fun _ => by simp [hkeys]) ?_ ?_
  · rintro t4 h
    replace h : m_impl_RowsOk_j1  t4 = some _ := h
    obtain rfl := Option.some.inj h
    refine LWP.ret (QG.mk (.inr rfl) (.cons (.tmp (x := (e_bool t4)) rfl) (.nil)) (RetOK.one0 (.pure rfl) (by decide)) rfl rfl)
  · intro N2 hN2
    refine LWP.region (l := [_,_,_,_,_,_,_,_,_]) ?_
    refine LWo.load1 (c := (e_Limpl_Column a0)) g_Limpl_Column rfl (hn := ?_)
    refine bk h fun x3 e3 h => ?_
    refine LWo.vcall rfl rfl (c_impl_ColumnsOk _ _ e3) (.same (.nil)) (hn := ?_)
    refine LWo.move (e_bool x3) rfl (hn := ?_)
    refine LWo.byCases (t := 7) _ rfl (fun h4 => ?_) (fun h4 => ?_)
    · have h := bT h4 h
      refine LWo.guardY (t := 7) rfl h4 rfl rfl ?_
      refine LWo.move (e_LLimpl_Value a1) rfl (hn := ?_)
      refine LWo.guardY (t := 7) rfl h4 rfl rfl ?_
      refine LWo.makeFuncM [(.fp (e_Limpl_Column a0).cells)] rfl rfl (hn := ?_)
      refine bk h fun x5 e5 h => ?_
      refine LWo.guardY (t := 7) rfl h4 rfl rfl ?_
      refine LWo.vcall rfl rfl (c_slices_ContainsFunc_LLimpl_Value_Limpl_Value _ _ f_impl_RowsOk_1 [(.fp (e_Limpl_Column a0).cells)] (fun _ => rfl) (fun b0_ v hv => c_impl_RowsOk_1 b0_ a0 v hv) _ e5) (.same (.same (.nil))) (hn := ?_)
      refine LWo.guardY (t := 7) rfl h4 rfl rfl ?_
      refine LWo.not rfl (hn := ?_)
      refine LWo.pickTM (e_bool (!x5)) rfl h4 rfl (hn := ?_)
      refine LWo.assign (e_bool (!x5)) rfl (hn := ?_)
      refine LWo.nil (hN2 (!x5) _ ⟨rfl, trivial⟩ trivial h)
    · have h := bF h4 h
      refine LWo.guardNU (t := 7) rfl h4 rfl rfl rfl rfl rfl ?_
      refine LWo.guardNU (t := 7) rfl h4 rfl rfl rfl rfl rfl ?_
      refine LWo.guardNU (t := 7) rfl h4 rfl rfl rfl rfl rfl ?_
      refine LWo.guardNU (t := 7) rfl h4 rfl rfl rfl rfl rfl ?_
      refine LWo.pickFM (e_bool false) rfl h4 rfl (hn := ?_)
      refine LWo.assign (e_bool false) rfl (hn := ?_)
      refine LWo.nil (hN2 false _ ⟨rfl, trivial⟩ trivial h)

theorem cc_slices_Clip_Limpl_Value_impl_Value (xs : List LV) : Does Try.prog f_slices_Clip_Limpl_Value_impl_Value [.own 0 0 xs.length] [(0, { kind := .fro, sz := 3, elems := xs })] (fun r h => r = .nw 3 xs false ∧ h = []) := by
  refine Does.go [0] F_slices_Clip_Limpl_Value_impl_Value rfl e_slices_Clip_Limpl_Value_impl_Value n_slices_Clip_Limpl_Value_impl_Value rfl (ts := [2]) rfl rfl rfl ?_
  intro w0 ok0 lent ρ0
  refine LWP.seq_k fun N1 hN1 => ?_
  refine LWP.region (l := [_]) ?_
  refine LWo.assign _ rfl (hn := ?_)
  refine LWo.nil (hN1 _ ?_)
  refine LWP.seq_k fun N2 hN2 => ?_
  refine LWP.region (l := [_,_,_,_,_,_,_]) ?_
  refine LWo.move _ rfl (hn := ?_)
  refine LWo.move _ rfl (hn := ?_)
  refine LWo.len u_Limpl_Value rfl (hn := ?_)
  refine LWo.move _ rfl (hn := ?_)
  refine LWo.len u_Limpl_Value rfl (hn := ?_)
  refine LWo.cutOwn (l := 0) (h := xs.length) u_Limpl_Value s_impl_Value rfl rfl rfl rfl ⟨_, rfl⟩ ⟨_, _, rfl, Nat.le_refl _, Nat.le_refl _⟩ (.inr (by simp)) (Nat.zero_le _) (Nat.le_refl _) rfl rfl (hn := ?_)
  refine LWo.assign _ rfl (hn := ?_)
  refine LWo.nil (hN2 _ ?_)
  refine LWP.ret (QRet.own1 (.inr rfl) rfl rfl rfl rfl (by simp) ⟨?_, rfl⟩)
  clear hN1 hN2
  exact congrArg (fun l => LV.nw 3 l false) (by simp)
def m_slices_Clip_Limpl_Value_impl_Value_o (o0 : List S_impl_Value) : Option (List S_impl_Value) := some o0
theorem c_slices_Clip_Limpl_Value_impl_Value_o (o0 : List S_impl_Value) (r : List S_impl_Value) (h : m_slices_Clip_Limpl_Value_impl_Value_o o0 = some r) : Does Try.prog f_slices_Clip_Limpl_Value_impl_Value [.own 0 0 o0.length] [(0, lob 3 e_impl_Value o0)] (fun x hh => x = .nw 3 (r.map e_impl_Value) false ∧ hh = []) := by
  cases h
  have := cc_slices_Clip_Limpl_Value_impl_Value (o0.map e_impl_Value)
  rw [List.length_map] at this
  exact this



def m_slices_Clip_Limpl_Value_impl_Value (a0 : (List S_impl_Value)) : Option (List S_impl_Value) :=
  (cut3? a0 (0 : Int) (a0.length : Int) (a0.length : Int)).bind fun x3 =>
  some x3
theorem c_slices_Clip_Limpl_Value_impl_Value (a0 : (List S_impl_Value)) (r : (List S_impl_Value)) (h : m_slices_Clip_Limpl_Value_impl_Value a0 = some r) : Ret Try.prog f_slices_Clip_Limpl_Value_impl_Value [e_Limpl_Value a0] (e_Limpl_Value r) := by
  refine Does.goG [] F_slices_Clip_Limpl_Value_impl_Value rfl e_slices_Clip_Limpl_Value_impl_Value n_slices_Clip_Limpl_Value_impl_Value rfl (rvs := [.tmp 2]) rfl rfl ?_
  intro w0 ok0 lent ρ0
  refine LWP.seq_k fun N1 hN1 => ?_
  refine LWP.region (l := [_]) ?_
  refine LWo.assign _ rfl (hn := ?_)
  refine LWo.weakT 2 (e_Limpl_Value ([] : (List S_impl_Value))) rfl .nil ?_
  refine LWo.nil (hN1 _ ?_)
  refine LWP.seq_k fun N2 hN2 => ?_
  refine LWP.region (l := [_,_,_,_,_,_,_]) ?_
  refine LWo.move (e_Limpl_Value a0) rfl (hn := ?_)
  refine LWo.move (e_Limpl_Value a0) rfl (hn := ?_)
  refine LWo.lenM (f := e_impl_Value) (l := a0) u_Limpl_Value rfl (hn := ?_)
  refine LWo.move (e_Limpl_Value a0) rfl (hn := ?_)
  refine LWo.lenM (f := e_impl_Value) (l := a0) u_Limpl_Value rfl (hn := ?_)
  refine bk h fun x3 e3 h => ?_
  refine LWo.cutM3 (f := e_impl_Value) e3 u_Limpl_Value s_impl_Value rfl rfl ⟨_, rfl⟩ ⟨_, rfl⟩ (hn := ?_)
  refine LWo.assign (e_Limpl_Value x3) rfl (hn := ?_)
  refine LWo.nil (hN2 _ ?_)
  obtain rfl := Option.some.inj h
  refine LWP.ret (QG.mk (.inr rfl) (.cons (.tmp (x := (e_Limpl_Value x3)) rfl) (.nil)) (RetOK.one0 (.pure rfl) (by decide)) rfl rfl)

def m_impl_clone_impl_Value (a0 : (List S_impl_Value)) : Option (List S_impl_Value) :=
  bif ((a0.length : Int) == (0 : Int)) then (some ([] : (List S_impl_Value)))
  else ((appN? a0).bind fun x7 =>
  (m_slices_Clip_Limpl_Value_impl_Value_o x7).bind fun x8 =>
  some x8)
theorem c_impl_clone_impl_Value (a0 : (List S_impl_Value)) (r : (List S_impl_Value)) (h : m_impl_clone_impl_Value a0 = some r) : Ret Try.prog f_impl_clone_impl_Value [e_Limpl_Value a0] (.nw 3 (r.map e_impl_Value) false) := by
  refine Does.goG [] F_impl_clone_impl_Value rfl e_impl_clone_impl_Value n_impl_clone_impl_Value rfl (rvs := [.tmp 2]) rfl rfl ?_
  intro w0 ok0 lent ρ0
  refine LWP.seq_k fun N1 hN1 => ?_
  refine LWP.region (l := [_]) ?_
  refine LWo.assign _ rfl (hn := ?_)
  refine LWo.ownNil 2 1002 3 rfl rfl rfl ?_
  refine LWo.known 2 (.own 1002 0 ([] : (List S_impl_Value)).length) rfl ?_
  refine LWo.nil (hN1 _ ?_)
  refine LWP.seq_k fun N2 hN2 => ?_
  refine LWP.seq_k fun N3 hN3 => ?_
  refine LWP.region (l := [_,_,_]) ?_
  refine LWo.move (e_Limpl_Value a0) rfl (hn := ?_)
  refine LWo.lenM (f := e_impl_Value) (l := a0) u_Limpl_Value rfl (hn := ?_)
  refine LWo.int _ rfl rfl rfl (hn := ?_)
  refine LWo.nil (hN3 _ ?_)
  refine LWP.cond_split rfl (fun h4 => ?_) (fun h4 => ?_)
  · have h := bT h4 h
    refine LWP.seq_k fun N5 hN5 => ?_
    refine LWP.region (l := [_]) ?_
    refine LWo.assign _ rfl (hn := ?_)
    refine LWo.ownNil 2 1002 3 rfl rfl rfl ?_
    refine LWo.known 2 (.own 1002 0 ([] : (List S_impl_Value)).length) rfl ?_
    refine LWo.nil (hN5 _ ?_)
    obtain rfl := Option.some.inj h
    refine LWP.ret (QG.mk (.inr rfl) (.cons (.tmp (x := (.own 1002 0 (([] : (List S_impl_Value))).length)) rfl) (.nil)) (RetOK.one0 (.nwM rfl rfl) (by decide)) rfl rfl)
  · have h := bF h4 h
    refine LWP.skip (hN2 _ ?_)
    refine LWP.seq_k fun N6 hN6 => ?_
    refine LWP.region (l := [_,_,_,_]) ?_
    refine LWo.move (e_Limpl_Value a0) rfl (hn := ?_)
    refine bk h fun x7 e7 h => ?_
    refine LWo.appendC (f := e_impl_Value) 1007 e7 u_Limpl_Value u_Limpl_Value (fun _ h => by cases h) i_impl_Value rfl rfl (.sl rfl) (fun _ => rfl) rfl rfl (hn := ?_)
    refine bk h fun x8 e8 h => ?_
    refine LWo.tcallN (e := e_impl_Value) (e' := e_impl_Value) 1008 rfl rfl (c_slices_Clip_Limpl_Value_impl_Value_o _ _ e8) (fun _ => rfl) rfl rfl rfl rfl (hn := ?_)
    refine LWo.assign (.own 1008 0 (x8).length) rfl (hn := ?_)
    refine LWo.nil (hN6 _ ?_)
    obtain rfl := Option.some.inj h
    refine LWP.ret (QG.mk (.inr rfl) (.cons (.tmp (x := (.own 1008 0 (x8).length)) rfl) (.nil)) (RetOK.one0 (.nwM rfl rfl) (by decide)) rfl rfl)

theorem cc_slices_Clip_LLimpl_Value_Limpl_Value (xs : List LV) : Does Try.prog f_slices_Clip_LLimpl_Value_Limpl_Value [.own 0 0 xs.length] [(0, { kind := .fro, sz := 1, elems := xs })] (fun r h => r = .nw 1 xs false ∧ h = []) := by
  refine Does.go [0] F_slices_Clip_LLimpl_Value_Limpl_Value rfl e_slices_Clip_LLimpl_Value_Limpl_Value n_slices_Clip_LLimpl_Value_Limpl_Value rfl (ts := [2]) rfl rfl rfl ?_
  intro w0 ok0 lent ρ0
  refine LWP.seq_k fun N1 hN1 => ?_
  refine LWP.region (l := [_]) ?_
  refine LWo.assign _ rfl (hn := ?_)
  refine LWo.nil (hN1 _ ?_)
  refine LWP.seq_k fun N2 hN2 => ?_
  refine LWP.region (l := [_,_,_,_,_,_,_]) ?_
  refine LWo.move _ rfl (hn := ?_)
  refine LWo.move _ rfl (hn := ?_)
  refine LWo.len u_LLimpl_Value rfl (hn := ?_)
  refine LWo.move _ rfl (hn := ?_)
  refine LWo.len u_LLimpl_Value rfl (hn := ?_)
  refine LWo.cutOwn (l := 0) (h := xs.length) u_LLimpl_Value s_Limpl_Value rfl rfl rfl rfl ⟨_, rfl⟩ ⟨_, _, rfl, Nat.le_refl _, Nat.le_refl _⟩ (.inr (by simp)) (Nat.zero_le _) (Nat.le_refl _) rfl rfl (hn := ?_)
  refine LWo.assign _ rfl (hn := ?_)
  refine LWo.nil (hN2 _ ?_)
  refine LWP.ret (QRet.own1 (.inr rfl) rfl rfl rfl rfl (by simp) ⟨?_, rfl⟩)
  clear hN1 hN2
  exact congrArg (fun l => LV.nw 1 l false) (by simp)
def m_slices_Clip_LLimpl_Value_Limpl_Value_o (o0 : List (List S_impl_Value)) : Option (List (List S_impl_Value)) := some o0
theorem c_slices_Clip_LLimpl_Value_Limpl_Value_o (o0 : List (List S_impl_Value)) (r : List (List S_impl_Value)) (h : m_slices_Clip_LLimpl_Value_Limpl_Value_o o0 = some r) : Does Try.prog f_slices_Clip_LLimpl_Value_Limpl_Value [.own 0 0 o0.length] [(0, lob 1 e_Limpl_Value o0)] (fun x hh => x = .nw 1 (r.map e_Limpl_Value) false ∧ hh = []) := by
  cases h
  have := cc_slices_Clip_LLimpl_Value_Limpl_Value (o0.map e_Limpl_Value)
  rw [List.length_map] at this
  exact this



def m_slices_Clip_LLimpl_Value_Limpl_Value (a0 : (List (List S_impl_Value))) : Option (List (List S_impl_Value)) :=
  (cut3? a0 (0 : Int) (a0.length : Int) (a0.length : Int)).bind fun x3 =>
  some x3
theorem c_slices_Clip_LLimpl_Value_Limpl_Value (a0 : (List (List S_impl_Value))) (r : (List (List S_impl_Value))) (h : m_slices_Clip_LLimpl_Value_Limpl_Value a0 = some r) : Ret Try.prog f_slices_Clip_LLimpl_Value_Limpl_Value [e_LLimpl_Value a0] (e_LLimpl_Value r) := by
  refine Does.goG [] F_slices_Clip_LLimpl_Value_Limpl_Value rfl e_slices_Clip_LLimpl_Value_Limpl_Value n_slices_Clip_LLimpl_Value_Limpl_Value rfl (rvs := [.tmp 2]) rfl rfl ?_
  intro w0 ok0 lent ρ0
  refine LWP.seq_k fun N1 hN1 => ?_
  refine LWP.region (l := [_]) ?_
  refine LWo.assign _ rfl (hn := ?_)
  refine LWo.weakT 2 (e_LLimpl_Value ([] : (List (List S_impl_Value)))) rfl .nil ?_
  refine LWo.nil (hN1 _ ?_)
  refine LWP.seq_k fun N2 hN2 => ?_
  refine LWP.region (l := [_,_,_,_,_,_,_]) ?_
  refine LWo.move (e_LLimpl_Value a0) rfl (hn := ?_)
  refine LWo.move (e_LLimpl_Value a0) rfl (hn := ?_)
  refine LWo.lenM (f := e_Limpl_Value) (l := a0) u_LLimpl_Value rfl (hn := ?_)
  refine LWo.move (e_LLimpl_Value a0) rfl (hn := ?_)
  refine LWo.lenM (f := e_Limpl_Value) (l := a0) u_LLimpl_Value rfl (hn := ?_)
  refine bk h fun x3 e3 h => ?_
  refine LWo.cutM3 (f := e_Limpl_Value) e3 u_LLimpl_Value s_Limpl_Value rfl rfl ⟨_, rfl⟩ ⟨_, rfl⟩ (hn := ?_)
  refine LWo.assign (e_LLimpl_Value x3) rfl (hn := ?_)
  refine LWo.nil (hN2 _ ?_)
  obtain rfl := Option.some.inj h
  refine LWP.ret (QG.mk (.inr rfl) (.cons (.tmp (x := (e_LLimpl_Value x3)) rfl) (.nil)) (RetOK.one0 (.pure rfl) (by decide)) rfl rfl)

def m_impl_rowsCopy_j1 (o1003 : (List (List S_impl_Value))) : Option (List (List S_impl_Value)) :=
  (m_slices_Clip_LLimpl_Value_Limpl_Value_o o1003).bind fun x17 =>
  some x17
def m_impl_rowsCopy_l1 : Nat → (List (List S_impl_Value)) → Int → Int → (List (List S_impl_Value)) → Option (List (List S_impl_Value))
  | 0, _, _, _, _ => none
  | n1 + 1, t6, t7, t8, o1003 =>
    bif decide (t8 < t7) then ((at? t6 t8).bind fun x12 =>
    (m_impl_clone_impl_Value x12).bind fun x13 =>
    (app? o1003 ([x13] : (List (List S_impl_Value)))).bind fun x14 =>
    (ckI (t8 + (1 : Int))).bind fun x15 =>
    (m_impl_rowsCopy_l1  n1) t6 t7 x15 x14)
    else (m_impl_rowsCopy_j1  o1003)
def m_impl_rowsCopy (a0 : (List (List S_impl_Value))) : Option (List (List S_impl_Value)) :=
  m_impl_rowsCopy_l1  (((a0.length : Int) - (0 : Int)).toNat + 1) a0 (a0.length : Int) (0 : Int) ([] : (List (List S_impl_Value)))
theorem c_impl_rowsCopy (a0 : (List (List S_impl_Value))) (r : (List (List S_impl_Value))) (h : m_impl_rowsCopy a0 = some r) : Ret Try.prog f_impl_rowsCopy [e_LLimpl_Value a0] (.nw 1 (r.map e_Limpl_Value) false) := by
  refine Does.goG [] F_impl_rowsCopy rfl e_impl_rowsCopy n_impl_rowsCopy rfl (rvs := [.tmp 2]) rfl rfl ?_
  intro w0 ok0 lent ρ0
  refine LWP.seq_k fun N1 hN1 => ?_
  refine LWP.region (l := [_]) ?_
  refine LWo.assign _ rfl (hn := ?_)
  refine LWo.ownNil 2 1002 1 rfl rfl rfl ?_
  refine LWo.known 2 (.own 1002 0 ([] : (List (List S_impl_Value))).length) rfl ?_
  refine LWo.nil (hN1 _ ?_)
  refine LWP.seq_k fun N2 hN2 => ?_
  refine LWP.region (l := [_]) ?_
  refine LWo.assign _ rfl (hn := ?_)
  refine LWo.ownNil 3 1003 1 rfl rfl rfl ?_
  refine LWo.known 3 (.own 1003 0 ([] : (List (List S_impl_Value))).length) rfl ?_
  refine LWo.nil (hN2 _ ?_)
  refine LWP.join (α := (List (List S_impl_Value))) (fun z : (List (List S_impl_Value)) => [(3, (.own 1003 0 (z).length))]) (fun z : (List (List S_impl_Value)) => [(1003, (lob 1 e_Limpl_Value z))]) (fun z : (List (List S_impl_Value)) => m_impl_rowsCopy_j1  z) r (fun _ => by simp [hkeys]) ?_ ?_
  · rintro o1003 h
    replace h : m_impl_rowsCopy_j1  o1003 = some _ := h
    refine LWP.seq_k fun N16 hN16 => ?_
    refine LWP.region (l := [_,_,_]) ?_
    refine LWo.move (.own 1003 0 (o1003).length) rfl (hn := ?_)
    refine bk h fun x17 e17 h => ?_
    refine LWo.tcallN (e := e_Limpl_Value) (e' := e_Limpl_Value) 1019 rfl rfl (c_slices_Clip_LLimpl_Value_Limpl_Value_o _ _ e17) (fun _ => rfl) rfl rfl rfl rfl (hn := ?_)
    refine LWo.assign (.own 1019 0 (x17).length) rfl (hn := ?_)
    refine LWo.nil (hN16 _ ?_)
    obtain rfl := Option.some.inj h
    refine LWP.ret (QG.mk (.inr rfl) (.cons (.tmp (x := (.own 1019 0 (x17).length)) rfl) (.nil)) (RetOK.one0 (.nwM rfl rfl) (by decide)) rfl rfl)
  · intro N3 hN3
    refine LWP.seq_k fun N4 hN4 => ?_
    refine LWP.region (l := [_,_,_]) ?_
    refine LWo.move (e_LLimpl_Value a0) rfl (hn := ?_)
    refine LWo.lenM (f := e_Limpl_Value) (l := a0) u_LLimpl_Value rfl (hn := ?_)
    refine LWo.move (e_int (0 : Int)) rfl (hn := ?_)
    refine LWo.nil (hN4 _ ?_)
    refine LWP.block ?_
    refine LWP.loopM (α := (List (List S_impl_Value)) × Int × Int × (List (List S_impl_Value))) (fun z : (List (List S_impl_Value)) × Int × Int × (List (List S_impl_Value)) => [(3, (.own 1003 0 (z.2.2.2).length)), (6, (e_LLimpl_Value z.1)), (7, (e_int z.2.1)), (8, (e_int z.2.2.1))]) (fun z : (List (List S_impl_Value)) × Int × Int × (List (List S_impl_Value)) => [(1003, (lob 1 e_Limpl_Value z.2.2.2))]) (fun n1 (z : (List (List S_impl_Value)) × Int × Int × (List (List S_impl_Value))) => m_impl_rowsCopy_l1  n1 z.1 z.2.1 z.2.2.1 z.2.2.2) r _ (a0, (a0.length : Int), (0 : Int), ([] : (List (List S_impl_Value)))) h (fun _ => rfl) (fun _ => by simp [hkeys]) ⟨rfl, rfl, rfl, rfl, trivial⟩ ⟨rfl, trivial⟩ ?_
    rintro n1 ⟨t6, t7, t8, o1003⟩ h N5 hN5
    replace h : m_impl_rowsCopy_l1  (n1 + 1) t6 t7 t8 o1003 = some _ := h
    refine LWP.seq_k fun N7 hN7 => ?_
    refine LWP.region (l := [_]) ?_
    refine LWo.int _ rfl rfl rfl (hn := ?_)
    refine LWo.nil (hN7 _ ?_)
    refine LWP.seq_k fun N8 hN8 => ?_
    refine LWP.cond_split rfl (fun h9 => ?_) (fun h9 => ?_)
    · have h := bT h9 h
      refine LWP.skip (hN8 _ ?_)
      refine LWP.seq_k fun N10 hN10 => ?_
      refine LWP.block ?_
      refine LWP.seq_k fun N11 hN11 => ?_
      refine LWP.region (l := [_,_,_]) ?_
      refine bk h fun x12 e12 h => ?_
      refine LWo.indexM (f := e_Limpl_Value) e12 u_LLimpl_Value s_Limpl_Value rfl rfl (hn := ?_)
      refine LWo.load1 (c := (e_Limpl_Value x12)) g_Limpl_Value rfl (hn := ?_)
      refine LWo.assign (e_Limpl_Value x12) rfl (hn := ?_)
      refine LWo.nil (hN11 _ ?_)
      refine LWP.region (l := [_,_,_,_,_,_]) ?_
      refine LWo.move (.own 1003 0 (o1003).length) rfl (hn := ?_)
      refine LWo.move (e_Limpl_Value x12) rfl (hn := ?_)
      refine bk h fun x13 e13 h => ?_
      refine LWo.vcall rfl rfl (c_impl_clone_impl_Value _ _ e13) (.same (.nil)) (hn := ?_)
      refine LWo.lit (ops := [_]) [(e_Limpl_Value x13)] u_LLimpl_Value s_Limpl_Value z_Limpl_Value rfl rfl rfl rfl rfl rfl (hn := ?_)
      refine bk h fun x14 e14 h => ?_
      refine LWo.appendM (f := e_Limpl_Value) e14 rfl u_LLimpl_Value u_LLimpl_Value (fun _ h => by cases h) s_Limpl_Value i_Limpl_Value rfl rfl rfl (.sl rfl) rfl rfl (hn := ?_)
      refine LWo.assign (.own 1003 0 (x14).length) rfl (hn := ?_)
      refine LWo.nil (hN10 _ ?_)
      refine LWP.region (l := [_,_]) ?_
      refine bk h fun x15 e15 h => ?_
      refine LWo.int _ rfl rfl (add_ck e15) (hn := ?_)
      refine LWo.move (e_int x15) rfl (hn := ?_)
      refine LWo.nil (hN5 (t6, t7, x15, x14) _ ⟨rfl, rfl, rfl, rfl, trivial⟩ ⟨rfl, trivial⟩ h)
    · have h := bF h9 h
      refine LWP.exit (hN3 o1003 _ ⟨rfl, trivial⟩ ⟨rfl, trivial⟩ h)

def m_cmp_isNaN_int (a0 : Int) : Option Bool :=
  some (a0 != a0)
theorem c_cmp_isNaN_int (a0 : Int) (r : Bool) (h : m_cmp_isNaN_int a0 = some r) : Ret Try.prog f_cmp_isNaN_int [e_int a0] (e_bool r) := by
  refine Does.goG [] F_cmp_isNaN_int rfl e_cmp_isNaN_int n_cmp_isNaN_int rfl (rvs := [.tmp 2]) rfl rfl ?_
  intro w0 ok0 lent ρ0
  refine LWP.seq_k fun N1 hN1 => ?_
  refine LWP.region (l := [_]) ?_
  refine LWo.assign (e_bool false) rfl (hn := ?_)
  refine LWo.nil (hN1 _ ?_)
  refine LWP.seq_k fun N2 hN2 => ?_
  refine LWP.region (l := [_,_,_,_]) ?_
  refine LWo.move (e_int a0) rfl (hn := ?_)
  refine LWo.move (e_int a0) rfl (hn := ?_)
  refine LWo.int _ rfl rfl rfl (hn := ?_)
  refine LWo.assign (e_bool (a0 != a0)) rfl (hn := ?_)
  refine LWo.nil (hN2 _ ?_)
  obtain rfl := Option.some.inj h
  refine LWP.ret (QG.mk (.inr rfl) (.cons (.tmp (x := (e_bool (a0 != a0))) rfl) (.nil)) (RetOK.one0 (.pure rfl) (by decide)) rfl rfl)

def m_cmp_Compare_int (a0 : Int) (a1 : Int) : Option Int :=
  (m_cmp_isNaN_int a0).bind fun x3 =>
  (m_cmp_isNaN_int a1).bind fun x5 =>
  bif x3 then (bif x5 then (some (0 : Int))
    else (some (-1 : Int)))
  else (bif x5 then (some (1 : Int))
  else (bif decide (a0 < a1) then (some (-1 : Int))
  else (bif decide (a0 > a1) then (some (1 : Int))
  else (some (0 : Int)))))
theorem c_cmp_Compare_int (a0 : Int) (a1 : Int) (r : Int) (h : m_cmp_Compare_int a0 a1 = some r) : Ret Try.prog f_cmp_Compare_int [e_int a0, e_int a1] (e_int r) := by
  refine Does.goG [] F_cmp_Compare_int rfl e_cmp_Compare_int n_cmp_Compare_int rfl (rvs := [.tmp 4]) rfl rfl ?_
  intro w0 ok0 lent ρ0
  refine LWP.seq_k fun N1 hN1 => ?_
  refine LWP.region (l := [_]) ?_
  refine LWo.assign (e_int (0 : Int)) rfl (hn := ?_)
  refine LWo.nil (hN1 _ ?_)
  refine LWP.seq_k fun N2 hN2 => ?_
  refine LWP.region (l := [_,_,_]) ?_
  refine LWo.move (e_int a0) rfl (hn := ?_)
  refine bk h fun x3 e3 h => ?_
  refine LWo.vcall rfl rfl (c_cmp_isNaN_int _ _ e3) (.same (.nil)) (hn := ?_)
  refine LWo.assign (e_bool x3) rfl (hn := ?_)
  refine LWo.nil (hN2 _ ?_)
  refine LWP.seq_k fun N4 hN4 => ?_
  refine LWP.region (l := [_,_,_]) ?_
  refine LWo.move (e_int a1) rfl (hn := ?_)
  refine bk h fun x5 e5 h => ?_
  refine LWo.vcall rfl rfl (c_cmp_isNaN_int _ _ e5) (.same (.nil)) (hn := ?_)
  refine LWo.assign (e_bool x5) rfl (hn := ?_)
  refine LWo.nil (hN4 _ ?_)
  refine LWP.seq_k fun N6 hN6 => ?_
  refine LWP.seq_k fun N7 hN7 => ?_
  refine LWP.region (l := [_]) ?_
  refine LWo.move (e_bool x3) rfl (hn := ?_)
  refine LWo.nil (hN7 _ ?_)
  refine LWP.cond_split rfl (fun h8 => ?_) (fun h8 => ?_)
  · have h := bT h8 h
    refine LWP.seq_k fun N9 hN9 => ?_
    refine LWP.seq_k fun N10 hN10 => ?_
    refine LWP.region (l := [_]) ?_
    refine LWo.move (e_bool x5) rfl (hn := ?_)
    refine LWo.nil (hN10 _ ?_)
    refine LWP.cond_split rfl (fun h11 => ?_) (fun h11 => ?_)
    · have h := bT h11 h
      refine LWP.seq_k fun N12 hN12 => ?_
      refine LWP.region (l := [_]) ?_
      refine LWo.assign (e_int (0 : Int)) rfl (hn := ?_)
      refine LWo.nil (hN12 _ ?_)
      obtain rfl := Option.some.inj h
      refine LWP.ret (QG.mk (.inr rfl) (.cons (.tmp (x := (e_int (0 : Int))) rfl) (.nil)) (RetOK.one0 (.pure rfl) (by decide)) rfl rfl)
    · have h := bF h11 h
      refine LWP.skip (hN9 _ ?_)
      refine LWP.seq_k fun N13 hN13 => ?_
      refine LWP.region (l := [_]) ?_
      refine LWo.assign (e_int (-1 : Int)) rfl (hn := ?_)
      refine LWo.nil (hN13 _ ?_)
      obtain rfl := Option.some.inj h
      refine LWP.ret (QG.mk (.inr rfl) (.cons (.tmp (x := (e_int (-1 : Int))) rfl) (.nil)) (RetOK.one0 (.pure rfl) (by decide)) rfl rfl)
  · have h := bF h8 h
    refine LWP.skip (hN6 _ ?_)
    refine LWP.seq_k fun N14 hN14 => ?_
    refine LWP.seq_k fun N15 hN15 => ?_
    refine LWP.region (l := [_]) ?_
    refine LWo.move (e_bool x5) rfl (hn := ?_)
    refine LWo.nil (hN15 _ ?_)
    refine LWP.cond_split rfl (fun h16 => ?_) (fun h16 => ?_)
    · have h := bT h16 h
      refine LWP.seq_k fun N17 hN17 => ?_
      refine LWP.region (l := [_]) ?_
      refine LWo.assign (e_int (1 : Int)) rfl (hn := ?_)
      refine LWo.nil (hN17 _ ?_)
      obtain rfl := Option.some.inj h
      refine LWP.ret (QG.mk (.inr rfl) (.cons (.tmp (x := (e_int (1 : Int))) rfl) (.nil)) (RetOK.one0 (.pure rfl) (by decide)) rfl rfl)
    · have h := bF h16 h
      refine LWP.skip (hN14 _ ?_)
      refine LWP.seq_k fun N18 hN18 => ?_
      refine LWP.seq_k fun N19 hN19 => ?_
      refine LWP.region (l := [_,_,_]) ?_
      refine LWo.move (e_int a0) rfl (hn := ?_)
      refine LWo.move (e_int a1) rfl (hn := ?_)
      refine LWo.int _ rfl rfl rfl (hn := ?_)
      refine LWo.nil (hN19 _ ?_)
      refine LWP.cond_split rfl (fun h20 => ?_) (fun h20 => ?_)
      · have h := bT h20 h
        refine LWP.seq_k fun N21 hN21 => ?_
        refine LWP.region (l := [_]) ?_
        refine LWo.assign (e_int (-1 : Int)) rfl (hn := ?_)
        refine LWo.nil (hN21 _ ?_)
        obtain rfl := Option.some.inj h
        refine LWP.ret (QG.mk (.inr rfl) (.cons (.tmp (x := (e_int (-1 : Int))) rfl) (.nil)) (RetOK.one0 (.pure rfl) (by decide)) rfl rfl)
      · have h := bF h20 h
        refine LWP.skip (hN18 _ ?_)
        refine LWP.seq_k fun N22 hN22 => ?_
        refine LWP.seq_k fun N23 hN23 => ?_
        refine LWP.region (l := [_,_,_]) ?_
        refine LWo.move (e_int a0) rfl (hn := ?_)
        refine LWo.move (e_int a1) rfl (hn := ?_)
        refine LWo.int _ rfl rfl rfl (hn := ?_)
        refine LWo.nil (hN23 _ ?_)
        refine LWP.cond_split rfl (fun h24 => ?_) (fun h24 => ?_)
        · have h := bT h24 h
          refine LWP.seq_k fun N25 hN25 => ?_
          refine LWP.region (l := [_]) ?_
          refine LWo.assign (e_int (1 : Int)) rfl (hn := ?_)
          refine LWo.nil (hN25 _ ?_)
          obtain rfl := Option.some.inj h
          refine LWP.ret (QG.mk (.inr rfl) (.cons (.tmp (x := (e_int (1 : Int))) rfl) (.nil)) (RetOK.one0 (.pure rfl) (by decide)) rfl rfl)
        · have h := bF h24 h
          refine LWP.skip (hN22 _ ?_)
          refine LWP.seq_k fun N26 hN26 => ?_
          refine LWP.region (l := [_]) ?_
          refine LWo.assign (e_int (0 : Int)) rfl (hn := ?_)
          refine LWo.nil (hN26 _ ?_)
          obtain rfl := Option.some.inj h
          refine LWP.ret (QG.mk (.inr rfl) (.cons (.tmp (x := (e_int (0 : Int))) rfl) (.nil)) (RetOK.one0 (.pure rfl) (by decide)) rfl rfl)

def m_cmp_isNaN_string (a0 : ByteArray) : Option Bool :=
  some (!(sEq a0 a0))
theorem c_cmp_isNaN_string (a0 : ByteArray) (r : Bool) (h : m_cmp_isNaN_string a0 = some r) : Ret Try.prog f_cmp_isNaN_string [e_string a0] (e_bool r) := by
  refine Does.goG [] F_cmp_isNaN_string rfl e_cmp_isNaN_string n_cmp_isNaN_string rfl (rvs := [.tmp 2]) rfl rfl ?_
  intro w0 ok0 lent ρ0
  refine LWP.seq_k fun N1 hN1 => ?_
  refine LWP.region (l := [_]) ?_
  refine LWo.assign (e_bool false) rfl (hn := ?_)
  refine LWo.nil (hN1 _ ?_)
  refine LWP.seq_k fun N2 hN2 => ?_
  refine LWP.region (l := [_,_,_,_]) ?_
  refine LWo.move (e_string a0) rfl (hn := ?_)
  refine LWo.move (e_string a0) rfl (hn := ?_)
  refine LWo.str _ rfl rfl rfl (hn := ?_)
  refine LWo.assign (e_bool (!(sEq a0 a0))) rfl (hn := ?_)
  refine LWo.nil (hN2 _ ?_)
  obtain rfl := Option.some.inj h
  refine LWP.ret (QG.mk (.inr rfl) (.cons (.tmp (x := (e_bool (!(sEq a0 a0)))) rfl) (.nil)) (RetOK.one0 (.pure rfl) (by decide)) rfl rfl)

def m_cmp_Compare_string (a0 : ByteArray) (a1 : ByteArray) : Option Int :=
  (m_cmp_isNaN_string a0).bind fun x3 =>
  (m_cmp_isNaN_string a1).bind fun x5 =>
  bif x3 then (bif x5 then (some (0 : Int))
    else (some (-1 : Int)))
  else (bif x5 then (some (1 : Int))
  else (bif (sLt a0 a1) then (some (-1 : Int))
  else (bif (!(sLt a0 a1 || sEq a0 a1)) then (some (1 : Int))
  else (some (0 : Int)))))
theorem c_cmp_Compare_string (a0 : ByteArray) (a1 : ByteArray) (r : Int) (h : m_cmp_Compare_string a0 a1 = some r) : Ret Try.prog f_cmp_Compare_string [e_string a0, e_string a1] (e_int r) := by
  refine Does.goG [] F_cmp_Compare_string rfl e_cmp_Compare_string n_cmp_Compare_string rfl (rvs := [.tmp 4]) rfl rfl ?_
  intro w0 ok0 lent ρ0
  refine LWP.seq_k fun N1 hN1 => ?_
  refine LWP.region (l := [_]) ?_
  refine LWo.assign (e_int (0 : Int)) rfl (hn := ?_)
  refine LWo.nil (hN1 _ ?_)
  refine LWP.seq_k fun N2 hN2 => ?_
  refine LWP.region (l := [_,_,_]) ?_
  refine LWo.move (e_string a0) rfl (hn := ?_)
  refine bk h fun x3 e3 h => ?_
  refine LWo.vcall rfl rfl (c_cmp_isNaN_string _ _ e3) (.same (.nil)) (hn := ?_)
  refine LWo.assign (e_bool x3) rfl (hn := ?_)
  refine LWo.nil (hN2 _ ?_)
  refine LWP.seq_k fun N4 hN4 => ?_
  refine LWP.region (l := [_,_,_]) ?_
  refine LWo.move (e_string a1) rfl (hn := ?_)
  refine bk h fun x5 e5 h => ?_
  refine LWo.vcall rfl rfl (c_cmp_isNaN_string _ _ e5) (.same (.nil)) (hn := ?_)
  refine LWo.assign (e_bool x5) rfl (hn := ?_)
  refine LWo.nil (hN4 _ ?_)
  refine LWP.seq_k fun N6 hN6 => ?_
  refine LWP.seq_k fun N7 hN7 => ?_
  refine LWP.region (l := [_]) ?_
  refine LWo.move (e_bool x3) rfl (hn := ?_)
  refine LWo.nil (hN7 _ ?_)
  refine LWP.cond_split rfl (fun h8 => ?_) (fun h8 => ?_)
  · have h := bT h8 h
    refine LWP.seq_k fun N9 hN9 => ?_
    refine LWP.seq_k fun N10 hN10 => ?_
    refine LWP.region (l := [_]) ?_
    refine LWo.move (e_bool x5) rfl (hn := ?_)
    refine LWo.nil (hN10 _ ?_)
    refine LWP.cond_split rfl (fun h11 => ?_) (fun h11 => ?_)
    · have h := bT h11 h
      refine LWP.seq_k fun N12 hN12 => ?_
      refine LWP.region (l := [_]) ?_
      refine LWo.assign (e_int (0 : Int)) rfl (hn := ?_)
      refine LWo.nil (hN12 _ ?_)
      obtain rfl := Option.some.inj h
      refine LWP.ret (QG.mk (.inr rfl) (.cons (.tmp (x := (e_int (0 : Int))) rfl) (.nil)) (RetOK.one0 (.pure rfl) (by decide)) rfl rfl)
    · have h := bF h11 h
      refine LWP.skip (hN9 _ ?_)
      refine LWP.seq_k fun N13 hN13 => ?_
      refine LWP.region (l := [_]) ?_
      refine LWo.assign (e_int (-1 : Int)) rfl (hn := ?_)
      refine LWo.nil (hN13 _ ?_)
      obtain rfl := Option.some.inj h
      refine LWP.ret (QG.mk (.inr rfl) (.cons (.tmp (x := (e_int (-1 : Int))) rfl) (.nil)) (RetOK.one0 (.pure rfl) (by decide)) rfl rfl)
  · have h := bF h8 h
    refine LWP.skip (hN6 _ ?_)
    refine LWP.seq_k fun N14 hN14 => ?_
    refine LWP.seq_k fun N15 hN15 => ?_
    refine LWP.region (l := [_]) ?_
    refine LWo.move (e_bool x5) rfl (hn := ?_)
    refine LWo.nil (hN15 _ ?_)
    refine LWP.cond_split rfl (fun h16 => ?_) (fun h16 => ?_)
    · have h := bT h16 h
      refine LWP.seq_k fun N17 hN17 => ?_
      refine LWP.region (l := [_]) ?_
      refine LWo.assign (e_int (1 : Int)) rfl (hn := ?_)
      refine LWo.nil (hN17 _ ?_)
      obtain rfl := Option.some.inj h
      refine LWP.ret (QG.mk (.inr rfl) (.cons (.tmp (x := (e_int (1 : Int))) rfl) (.nil)) (RetOK.one0 (.pure rfl) (by decide)) rfl rfl)
    · have h := bF h16 h
      refine LWP.skip (hN14 _ ?_)
      refine LWP.seq_k fun N18 hN18 => ?_
      refine LWP.seq_k fun N19 hN19 => ?_
      refine LWP.region (l := [_,_,_]) ?_
      refine LWo.move (e_string a0) rfl (hn := ?_)
      refine LWo.move (e_string a1) rfl (hn := ?_)
      refine LWo.str _ rfl rfl rfl (hn := ?_)
      refine LWo.nil (hN19 _ ?_)
      refine LWP.cond_split rfl (fun h20 => ?_) (fun h20 => ?_)
      · have h := bT h20 h
        refine LWP.seq_k fun N21 hN21 => ?_
        refine LWP.region (l := [_]) ?_
        refine LWo.assign (e_int (-1 : Int)) rfl (hn := ?_)
        refine LWo.nil (hN21 _ ?_)
        obtain rfl := Option.some.inj h
        refine LWP.ret (QG.mk (.inr rfl) (.cons (.tmp (x := (e_int (-1 : Int))) rfl) (.nil)) (RetOK.one0 (.pure rfl) (by decide)) rfl rfl)
      · have h := bF h20 h
        refine LWP.skip (hN18 _ ?_)
        refine LWP.seq_k fun N22 hN22 => ?_
        refine LWP.seq_k fun N23 hN23 => ?_
        refine LWP.region (l := [_,_,_]) ?_
        refine LWo.move (e_string a0) rfl (hn := ?_)
        refine LWo.move (e_string a1) rfl (hn := ?_)
        refine LWo.str _ rfl rfl rfl (hn := ?_)
        refine LWo.nil (hN23 _ ?_)
        refine LWP.cond_split rfl (fun h24 => ?_) (fun h24 => ?_)
        · have h := bT h24 h
          refine LWP.seq_k fun N25 hN25 => ?_
          refine LWP.region (l := [_]) ?_
          refine LWo.assign (e_int (1 : Int)) rfl (hn := ?_)
          refine LWo.nil (hN25 _ ?_)
          obtain rfl := Option.some.inj h
          refine LWP.ret (QG.mk (.inr rfl) (.cons (.tmp (x := (e_int (1 : Int))) rfl) (.nil)) (RetOK.one0 (.pure rfl) (by decide)) rfl rfl)
        · have h := bF h24 h
          refine LWP.skip (hN22 _ ?_)
          refine LWP.seq_k fun N26 hN26 => ?_
          refine LWP.region (l := [_]) ?_
          refine LWo.assign (e_int (0 : Int)) rfl (hn := ?_)
          refine LWo.nil (hN26 _ ?_)
          obtain rfl := Option.some.inj h
          refine LWP.ret (QG.mk (.inr rfl) (.cons (.tmp (x := (e_int (0 : Int))) rfl) (.nil)) (RetOK.one0 (.pure rfl) (by decide)) rfl rfl)

def m_cmp_Or_int_j1 (t3 : Int) : Option Int :=
  some t3
def m_cmp_Or_int_l1 : Nat → Int → (List Int) → Int → Int → Option Int
  | 0, _, _, _, _ => none
  | n1 + 1, t3, t6, t7, t8 =>
    bif decide (t8 < t7) then ((at? t6 t8).bind fun x12 =>
    bif (x12 != t3) then (some x12)
    else ((ckI (t8 + (1 : Int))).bind fun x16 =>
    (m_cmp_Or_int_l1  n1) t3 t6 t7 x16))
    else (m_cmp_Or_int_j1  t3)
def m_cmp_Or_int (a0 : (List Int)) : Option Int :=
  m_cmp_Or_int_l1  (((a0.length : Int) - (0 : Int)).toNat + 1) (0 : Int) a0 (a0.length : Int) (0 : Int)
theorem c_cmp_Or_int (a0 : (List Int)) (r : Int) (h : m_cmp_Or_int a0 = some r) : Ret Try.prog f_cmp_Or_int [e_Lint a0] (e_int r) := by
  refine Does.goG [] F_cmp_Or_int rfl e_cmp_Or_int n_cmp_Or_int rfl (rvs := [.tmp 2]) rfl rfl ?_
  intro w0 ok0 lent ρ0
  refine LWP.seq_k fun N1 hN1 => ?_
  refine LWP.region (l := [_]) ?_
  refine LWo.assign (e_int (0 : Int)) rfl (hn := ?_)
  refine LWo.nil (hN1 _ ?_)
  refine LWP.seq_k fun N2 hN2 => ?_
  refine LWP.region (l := [_]) ?_
  refine LWo.assign (e_int (0 : Int)) rfl (hn := ?_)
  refine LWo.nil (hN2 _ ?_)
  refine LWP.join (α := Int) (fun z : Int => [(3, (e_int z))]) (fun z : Int => []) (fun z : Int => m_cmp_Or_int_j1  z) r (fun _ => by simp [hkeys]) ?_ ?_
  · rintro t3 h
    replace h : m_cmp_Or_int_j1  t3 = some _ := h
    refine LWP.seq_k fun N17 hN17 => ?_
    refine LWP.region (l := [_,_]) ?_
    refine LWo.move (e_int t3) rfl (hn := ?_)
    refine LWo.assign (e_int t3) rfl (hn := ?_)
    refine LWo.nil (hN17 _ ?_)
    obtain rfl := Option.some.inj h
    refine LWP.ret (QG.mk (.inr rfl) (.cons (.tmp (x := (e_int t3)) rfl) (.nil)) (RetOK.one0 (.pure rfl) (by decide)) rfl rfl)
  · intro N3 hN3
    refine LWP.seq_k fun N4 hN4 => ?_
    refine LWP.region (l := [_,_,_]) ?_
    refine LWo.move (e_Lint a0) rfl (hn := ?_)
    refine LWo.lenM (f := e_int) (l := a0) u_Lint rfl (hn := ?_)
    refine LWo.move (e_int (0 : Int)) rfl (hn := ?_)
    refine LWo.nil (hN4 _ ?_)
    refine LWP.block ?_
    refine LWP.loopM (α := Int × (List Int) × Int × Int) (fun z : Int × (List Int) × Int × Int => [(3, (e_int z.1)), (6, (e_Lint z.2.1)), (7, (e_int z.2.2.1)), (8, (e_int z.2.2.2))]) (fun z : Int × (List Int) × Int × Int => []) (fun n1 (z : Int × (List Int) × Int × Int) => m_cmp_Or_int_l1  n1 z.1 z.2.1 z.2.2.1 z.2.2.2) r _ ((0 : Int), a0, (a0.length : Int), (0 : Int)) h (fun _ => rfl) (fun _ => by simp [hkeys]) ⟨rfl, rfl, rfl, rfl, trivial⟩ trivial ?_
    rintro n1 ⟨t3, t6, t7, t8⟩ h N5 hN5
    replace h : m_cmp_Or_int_l1  (n1 + 1) t3 t6 t7 t8 = some _ := h
    refine LWP.seq_k fun N7 hN7 => ?_
    refine LWP.region (l := [_]) ?_
    refine LWo.int _ rfl rfl rfl (hn := ?_)
    refine LWo.nil (hN7 _ ?_)
    refine LWP.seq_k fun N8 hN8 => ?_
    refine LWP.cond_split rfl (fun h9 => ?_) (fun h9 => ?_)
    · have h := bT h9 h
      refine LWP.skip (hN8 _ ?_)
      refine LWP.seq_k fun N10 hN10 => ?_
      refine LWP.block ?_
      refine LWP.seq_k fun N11 hN11 => ?_
      refine LWP.region (l := [_,_,_]) ?_
      refine bk h fun x12 e12 h => ?_
      refine LWo.indexM (f := e_int) e12 u_Lint s_int rfl rfl (hn := ?_)
      refine LWo.load1 (c := (e_int x12)) g_int rfl (hn := ?_)
      refine LWo.assign (e_int x12) rfl (hn := ?_)
      refine LWo.nil (hN11 _ ?_)
      refine LWP.seq_k fun N13 hN13 => ?_
      refine LWP.region (l := [_,_,_]) ?_
      refine LWo.move (e_int x12) rfl (hn := ?_)
      refine LWo.move (e_int t3) rfl (hn := ?_)
      refine LWo.int _ rfl rfl rfl (hn := ?_)
      refine LWo.nil (hN13 _ ?_)
      refine LWP.cond_split rfl (fun h14 => ?_) (fun h14 => ?_)
      · have h := bT h14 h
        refine LWP.seq_k fun N15 hN15 => ?_
        refine LWP.region (l := [_,_]) ?_
        refine LWo.move (e_int x12) rfl (hn := ?_)
        refine LWo.assign (e_int x12) rfl (hn := ?_)
        refine LWo.nil (hN15 _ ?_)
        obtain rfl := Option.some.inj h
        refine LWP.ret (QG.mk (.inr rfl) (.cons (.tmp (x := (e_int x12)) rfl) (.nil)) (RetOK.one0 (.pure rfl) (by decide)) rfl rfl)
      · have h := bF h14 h
        refine LWP.skip (hN10 _ ?_)
        refine LWP.region (l := [_,_]) ?_
        refine bk h fun x16 e16 h => ?_
        refine LWo.int _ rfl rfl (add_ck e16) (hn := ?_)
        refine LWo.move (e_int x16) rfl (hn := ?_)
        refine LWo.nil (hN5 (t3, t6, t7, x16) _ ⟨rfl, rfl, rfl, rfl, trivial⟩ trivial h)
    · have h := bF h9 h
      refine LWP.exit (hN3 t3 _ ⟨rfl, trivial⟩ trivial h)

def m_impl_Value_order (a0 : S_impl_Value) (a1 : S_impl_Value) : Option Int :=
  (m_cmp_Compare_int a0.Kind a1.Kind).bind fun x3 =>
  (m_cmp_Compare_int a0.N a1.N).bind fun x4 =>
  (m_cmp_Compare_string a0.S a1.S).bind fun x5 =>
  (m_cmp_Or_int ([x3, x4, x5] : (List Int))).bind fun x6 =>
  some x6
theorem c_impl_Value_order (a0 : S_impl_Value) (a1 : S_impl_Value) (r : Int) (h : m_impl_Value_order a0 a1 = some r) : Ret Try.prog f_impl_Value_order [e_impl_Value a0, e_impl_Value a1] (e_int r) := by
  refine Does.goG [] F_impl_Value_order rfl e_impl_Value_order n_impl_Value_order rfl (rvs := [.tmp 4]) rfl rfl ?_
  intro w0 ok0 lent ρ0
  refine LWP.seq_k fun N1 hN1 => ?_
  refine LWP.region (l := [_,_,_]) ?_
  refine LWo.boxF (e_impl_Value a0) rfl rfl rfl (hn := ?_)
  refine LWo.boxF (e_impl_Value a1) rfl rfl rfl (hn := ?_)
  refine LWo.assign (e_int (0 : Int)) rfl (hn := ?_)
  refine LWo.nil (hN1 _ ?_)
  refine LWP.seq_k fun N2 hN2 => ?_
  refine bk h fun x3 e3 h => ?_
  refine bk h fun x4 e4 h => ?_
  refine bk h fun x5 e5 h => ?_
  refine bk h fun x6 e6 h => ?_
  refine LWP.drawE (l := [_,_,_,_,_,_,_,_,_,_,_,_,_,_,_,_,_,_]) [] [2, 3] [([2], []), ([5], []), ([3], []), ([7], []), ([6, 8], []), ([2], []), ([10], []), ([3], []), ([12], []), ([11, 13], []), ([2], []), ([15], []), ([3], []), ([17], []), ([16, 18], []), ([9, 14, 19], []), ([20], []), ([21], [])] [4] [] mixed (by kernel_rfl) rfl (by decide) ?_
  refine ⟨rfl, .put 5 _, trivial, fun u hg hu hh => LWo.fieldAddr _ u_impl_Value rfl s_int hu.1 rfl (hn := LWo.nil ⟨rfl, .inl rfl, hg⟩), ?_⟩
  refine ⟨rfl, .put 6 _, trivial, fun u hg hu hh => LWo.load1 (c := (e_int a0.Kind)) g_int hu.1 (hn := LWo.nil ⟨rfl, .inl rfl, hg⟩), ?_⟩
  refine ⟨rfl, .put 7 _, trivial, fun u hg hu hh => LWo.fieldAddr _ u_impl_Value rfl s_int hu.1 rfl (hn := LWo.nil ⟨rfl, .inl rfl, hg⟩), ?_⟩
  refine ⟨rfl, .put 8 _, trivial, fun u hg hu hh => LWo.load1 (c := (e_int a1.Kind)) g_int hu.1 (hn := LWo.nil ⟨rfl, .inl rfl, hg⟩), ?_⟩
  refine ⟨rfl, .put 9 _, trivial, fun u hg hu hh => LWo.vcall rfl (av2 hu.1 hu.2.1) (c_cmp_Compare_int _ _ _ e3) (.same (.same (.nil))) (hn := LWo.nil ⟨rfl, .inl rfl, hg⟩), ?_⟩
  refine ⟨rfl, .put 10 _, trivial, fun u hg hu hh => LWo.fieldAddr _ u_impl_Value rfl s_int hu.1 rfl (hn := LWo.nil ⟨rfl, .inl rfl, hg⟩), ?_⟩
  refine ⟨rfl, .put 11 _, trivial, fun u hg hu hh => LWo.load1 (c := (e_int a0.N)) g_int hu.1 (hn := LWo.nil ⟨rfl, .inl rfl, hg⟩), ?_⟩
  refine ⟨rfl, .put 12 _, trivial, fun u hg hu hh => LWo.fieldAddr _ u_impl_Value rfl s_int hu.1 rfl (hn := LWo.nil ⟨rfl, .inl rfl, hg⟩), ?_⟩
  refine ⟨rfl, .put 13 _, trivial, fun u hg hu hh => LWo.load1 (c := (e_int a1.N)) g_int hu.1 (hn := LWo.nil ⟨rfl, .inl rfl, hg⟩), ?_⟩
  refine ⟨rfl, .put 14 _, trivial, fun u hg hu hh => LWo.vcall rfl (av2 hu.1 hu.2.1) (c_cmp_Compare_int _ _ _ e4) (.same (.same (.nil))) (hn := LWo.nil ⟨rfl, .inl rfl, hg⟩), ?_⟩
  refine ⟨rfl, .put 15 _, trivial, fun u hg hu hh => LWo.fieldAddr _ u_impl_Value rfl s_string hu.1 rfl (hn := LWo.nil ⟨rfl, .inl rfl, hg⟩), ?_⟩
  refine ⟨rfl, .put 16 _, trivial, fun u hg hu hh => LWo.load1 (c := (e_string a0.S)) g_string hu.1 (hn := LWo.nil ⟨rfl, .inl rfl, hg⟩), ?_⟩
  refine ⟨rfl, .put 17 _, trivial, fun u hg hu hh => LWo.fieldAddr _ u_impl_Value rfl s_string hu.1 rfl (hn := LWo.nil ⟨rfl, .inl rfl, hg⟩), ?_⟩
  refine ⟨rfl, .put 18 _, trivial, fun u hg hu hh => LWo.load1 (c := (e_string a1.S)) g_string hu.1 (hn := LWo.nil ⟨rfl, .inl rfl, hg⟩), ?_⟩
  refine ⟨rfl, .put 19 _, trivial, fun u hg hu hh => LWo.vcall rfl (av2 hu.1 hu.2.1) (c_cmp_Compare_string _ _ _ e5) (.same (.same (.nil))) (hn := LWo.nil ⟨rfl, .inl rfl, hg⟩), ?_⟩
  refine ⟨rfl, .put 20 _, trivial, fun u hg hu hh => LWo.lit (ops := [_, _, _]) [(e_int x3), (e_int x4), (e_int x5)] u_Lint s_int z_int (lv3 hu.1 hu.2.1 hu.2.2.1) rfl rfl rfl rfl rfl (hn := LWo.nil ⟨rfl, .inl rfl, hg⟩), ?_⟩
  refine ⟨rfl, .put 21 _, trivial, fun u hg hu hh => LWo.vcall rfl (av1 hu.1) (c_cmp_Or_int _ _ e6) (.same (.nil)) (hn := LWo.nil ⟨rfl, .inl rfl, hg⟩), ?_⟩
  refine ⟨rfl, .put 4 _, trivial, fun u hg hu hh => LWo.assign (e_int x6) hu.1 (hn := LWo.nil ⟨rfl, .inl rfl, hg⟩), ?_⟩
  refine ⟨rfl, by kernel_rfl, hN2 _ ?_⟩
  obtain rfl := Option.some.inj h
  refine LWP.ret (QG.mk (.inr rfl) (.cons (.tmp (x := (e_int x6)) rfl) (.nil)) (RetOK.one0 (.pure rfl) (by decide)) rfl rfl)

def m_impl_byColumn_1 (a0 : (List S_impl_Value)) (a1 : (List S_impl_Value)) (a2 : Int) : Option Int :=
  (at? a0 a2).bind fun x3 =>
  (at? a1 a2).bind fun x4 =>
  (m_impl_Value_order x3 x4).bind fun x5 =>
  some x5
theorem c_impl_byColumn_1 (a0 : (List S_impl_Value)) (a1 : (List S_impl_Value)) (a2 : Int) (r : Int) (h : m_impl_byColumn_1 a0 a1 a2 = some r) : Ret Try.prog f_impl_byColumn_1 [e_Limpl_Value a0, e_Limpl_Value a1, .fp (e_int a2).cells] (e_int r) := by
  refine Does.goG [] F_impl_byColumn_1 rfl e_impl_byColumn_1 n_impl_byColumn_1 rfl (rvs := [.tmp 5]) rfl rfl ?_
  intro w0 ok0 lent ρ0
  refine LWP.seq_k fun N1 hN1 => ?_
  refine LWP.region (l := [_]) ?_
  refine LWo.assign (e_int (0 : Int)) rfl (hn := ?_)
  refine LWo.nil (hN1 _ ?_)
  refine LWP.seq_k fun N2 hN2 => ?_
  refine bk h fun x3 e3 h => ?_
  refine bk h fun x4 e4 h => ?_
  refine bk h fun x5 e5 h => ?_
  refine LWP.drawE (l := [_,_,_,_,_,_,_,_,_,_]) [] [0, 1, 2] [([0], []), ([2], []), ([6, 7], []), ([8], []), ([1], []), ([2], []), ([10, 11], []), ([12], []), ([9, 13], []), ([14], [])] [5] [] mixed (by kernel_rfl) rfl (by decide) ?_
  refine ⟨rfl, .put 6 _, trivial, fun u hg hu hh => LWo.move (e_Limpl_Value a0) hu.1 (hn := LWo.nil ⟨rfl, .inl rfl, hg⟩), ?_⟩
  refine ⟨rfl, .put 7 _, trivial, fun u hg hu hh => LWo.load1 (c := (e_int a2)) g_int hu.1 (hn := LWo.nil ⟨rfl, .inl rfl, hg⟩), ?_⟩
  refine ⟨rfl, .put 8 _, trivial, fun u hg hu hh => LWo.indexM (f := e_impl_Value) e3 u_Limpl_Value s_impl_Value hu.1 hu.2.1 (hn := LWo.nil ⟨rfl, .inl rfl, hg⟩), ?_⟩
  refine ⟨rfl, .put 9 _, trivial, fun u hg hu hh => LWo.loadN ((e_impl_Value x3)).cells g_impl_Value s_impl_Value hu.1 (Nat.le_of_ble_eq_true rfl) rfl (hn := LWo.nil ⟨rfl, .inl rfl, hg⟩), ?_⟩
  refine ⟨rfl, .put 10 _, trivial, fun u hg hu hh => LWo.move (e_Limpl_Value a1) hu.1 (hn := LWo.nil ⟨rfl, .inl rfl, hg⟩), ?_⟩
  refine ⟨rfl, .put 11 _, trivial, fun u hg hu hh => LWo.load1 (c := (e_int a2)) g_int hu.1 (hn := LWo.nil ⟨rfl, .inl rfl, hg⟩), ?_⟩
  refine ⟨rfl, .put 12 _, trivial, fun u hg hu hh => LWo.indexM (f := e_impl_Value) e4 u_Limpl_Value s_impl_Value hu.1 hu.2.1 (hn := LWo.nil ⟨rfl, .inl rfl, hg⟩), ?_⟩
  refine ⟨rfl, .put 13 _, trivial, fun u hg hu hh => LWo.loadN ((e_impl_Value x4)).cells g_impl_Value s_impl_Value hu.1 (Nat.le_of_ble_eq_true rfl) rfl (hn := LWo.nil ⟨rfl, .inl rfl, hg⟩), ?_⟩
  refine ⟨rfl, .put 14 _, trivial, fun u hg hu hh => LWo.vcall rfl (av2 hu.1 hu.2.1) (c_impl_Value_order _ _ _ e5) (.same (.same (.nil))) (hn := LWo.nil ⟨rfl, .inl rfl, hg⟩), ?_⟩
  refine ⟨rfl, .put 5 _, trivial, fun u hg hu hh => LWo.assign (e_int x5) hu.1 (hn := LWo.nil ⟨rfl, .inl rfl, hg⟩), ?_⟩
  refine ⟨rfl, by kernel_rfl, hN2 _ ?_⟩
  obtain rfl := Option.some.inj h
  refine LWP.ret (QG.mk (.inr rfl) (.cons (.tmp (x := (e_int x5)) rfl) (.nil)) (RetOK.one0 (.pure rfl) (by decide)) rfl rfl)

def m_slices_insertionSortCmpFunc_Limpl_Value_j2 (p3 : (List S_impl_Value) → (List S_impl_Value) → Option Int) (k1 : Int → Int → Int → (List (List S_impl_Value)) → Option (List (List S_impl_Value))) (t1 : Int) (t2 : Int) (t8 : Int) (o0 : (List (List S_impl_Value))) : Option (List (List S_impl_Value)) :=
  (ckI (t8 + (1 : Int))).bind fun x36 =>
  k1 t1 t2 x36 o0
def m_slices_insertionSortCmpFunc_Limpl_Value_j1 (p3 : (List S_impl_Value) → (List S_impl_Value) → Option Int) (k1 : Int → Int → Int → (List (List S_impl_Value)) → Option (List (List S_impl_Value))) (k2 : Int → Int → Int → Int → (List (List S_impl_Value)) → Option (List (List S_impl_Value))) (t1 : Int) (t2 : Int) (t8 : Int) (t9 : Int) (t34 : Bool) (o0 : (List (List S_impl_Value))) : Option (List (List S_impl_Value)) :=
  bif t34 then ((ckI (t9 - (1 : Int))).bind fun x23 =>
  (ckI (t9 - (1 : Int))).bind fun x24 =>
  (at? o0 x24).bind fun x25 =>
  (at? o0 x24).bind fun x26 =>
  (at? o0 t9).bind fun x27 =>
  (at? o0 t9).bind fun x28 =>
  (at? o0 t9).bind fun x29 =>
  (at? o0 t9).bind fun x30 =>
  lt (x26) fun y31 =>
  (at? (o0.set (t9).toNat y31) x23).bind fun x32 =>
  (at? (o0.set (t9).toNat y31) x23).bind fun x33 =>
  lt (x28) fun y34 =>
  (ckI (t9 - (1 : Int))).bind fun x35 =>
  k2 t1 t2 t8 x35 ((o0.set (t9).toNat y31).set (x23).toNat y34))
  else (m_slices_insertionSortCmpFunc_Limpl_Value_j2 p3 k1 t1 t2 t8 o0)
def m_slices_insertionSortCmpFunc_Limpl_Value_l2 (p3 : (List S_impl_Value) → (List S_impl_Value) → Option Int) (k1 : Int → Int → Int → (List (List S_impl_Value)) → Option (List (List S_impl_Value))) : Nat → Int → Int → Int → Int → (List (List S_impl_Value)) → Option (List (List S_impl_Value))
  | 0, _, _, _, _, _ => none
  | n2 + 1, t1, t2, t8, t9, o0 =>
    bif decide (t9 > t1) then ((at? o0 t9).bind fun x15 =>
      (at? o0 t9).bind fun x16 =>
      (ckI (t9 - (1 : Int))).bind fun x17 =>
      (at? o0 x17).bind fun x18 =>
      (at? o0 x17).bind fun x19 =>
      (p3 x16 x19).bind fun x20 =>
      m_slices_insertionSortCmpFunc_Limpl_Value_j1 p3 k1 (m_slices_insertionSortCmpFunc_Limpl_Value_l2 p3 k1 n2) t1 t2 t8 t9 (decide (x20 < (0 : Int))) o0)
    else (m_slices_insertionSortCmpFunc_Limpl_Value_j1 p3 k1 (m_slices_insertionSortCmpFunc_Limpl_Value_l2 p3 k1 n2) t1 t2 t8 t9 false o0)
def m_slices_insertionSortCmpFunc_Limpl_Value_l1 (p3 : (List S_impl_Value) → (List S_impl_Value) → Option Int) : Nat → Int → Int → Int → (List (List S_impl_Value)) → Option (List (List S_impl_Value))
  | 0, _, _, _, _ => none
  | n1 + 1, t1, t2, t8, o0 =>
    bif decide (t8 < t2) then (m_slices_insertionSortCmpFunc_Limpl_Value_l2 p3 (m_slices_insertionSortCmpFunc_Limpl_Value_l1 p3 n1) (1000000000) t1 t2 t8 t8 o0)
    else (some o0)
def m_slices_insertionSortCmpFunc_Limpl_Value (o0 : (List (List S_impl_Value))) (a1 : Int) (a2 : Int) (p3 : (List S_impl_Value) → (List S_impl_Value) → Option Int) : Option (List (List S_impl_Value)) :=
  (ckI (a1 + (1 : Int))).bind fun x2 =>
  m_slices_insertionSortCmpFunc_Limpl_Value_l1 p3 ((a2 - x2).toNat + 1) a1 a2 x2 o0
theorem c_slices_insertionSortCmpFunc_Limpl_Value (o0 : (List (List S_impl_Value))) (a1 : Int) (a2 : Int) (p3 : (List S_impl_Value) → (List S_impl_Value) → Option Int) (f3 : FuncId) (q3 : List LV) (hq3 : ∀ k, LV.at?.atL k q3 = false) (hf3 : ∀ a0 a1 v, p3 a0 a1 = some v → Ret Try.prog f3 (e_Limpl_Value a0 :: e_Limpl_Value a1 :: q3) (e_int v)) (r : (List (List S_impl_Value))) (h : m_slices_insertionSortCmpFunc_Limpl_Value o0 a1 a2 p3 = some r) : Does Try.prog f_slices_insertionSortCmpFunc_Limpl_Value [.own 0 0 o0.length, e_int a1, e_int a2, .clo f3 q3] [(0, (lob 1 e_Limpl_Value o0))] (fun x hh => x = .tup [] ∧ hh = [(0, (lob 1 e_Limpl_Value r))]) := by
  refine Does.goG [0] F_slices_insertionSortCmpFunc_Limpl_Value rfl e_slices_insertionSortCmpFunc_Limpl_Value n_slices_insertionSortCmpFunc_Limpl_Value rfl (rvs := []) rfl rfl ?_
  intro w0 ok0 lent ρ0
  refine LWP.seq_k fun N1 hN1 => ?_
  refine LWP.region (l := [_,_,_]) ?_
  refine LWo.move (e_int a1) rfl (hn := ?_)
  refine bk h fun x2 e2 h => ?_
  refine LWo.int _ rfl rfl (add_ck e2) (hn := ?_)
  refine LWo.assign (e_int x2) rfl (hn := ?_)
  refine LWo.nil (hN1 _ ?_)
  refine LWP.block ?_
  refine LWP.loopM (α := Int × Int × Int × (List (List S_impl_Value))) (fun z : Int × Int × Int × (List (List S_impl_Value)) => [(0, (.own 0 0 (z.2.2.2).length)), (1, (e_int z.1)), (2, (e_int z.2.1)), (3, (.clo f3 q3)), (8, (e_int z.2.2.1))]) (fun z : Int × Int × Int × (List (List S_impl_Value)) => [(0, (lob 1 e_Limpl_Value z.2.2.2))]) (fun n1 (z : Int × Int × Int × (List (List S_impl_Value))) => m_slices_insertionSortCmpFunc_Limpl_Value_l1 p3 n1 z.1 z.2.1 z.2.2.1 z.2.2.2) r _ (a1, a2, x2, o0) h (fun _ => rfl) (fun _ => by simp [hkeys]) ⟨rfl, rfl, rfl, rfl, rfl, trivial⟩ ⟨rfl, trivial⟩ ?_
  rintro n1 ⟨t1, t2, t8, o0⟩ h N3 hN3
  replace h : m_slices_insertionSortCmpFunc_Limpl_Value_l1 p3 (n1 + 1) t1 t2 t8 o0 = some _ := h
  refine LWP.seq_k fun N5 hN5 => ?_
  refine LWP.seq_k fun N6 hN6 => ?_
  refine LWP.region (l := [_,_,_]) ?_
  refine LWo.move (e_int t8) rfl (hn := ?_)
  refine LWo.move (e_int t2) rfl (hn := ?_)
  refine LWo.int _ rfl rfl rfl (hn := ?_)
  refine LWo.nil (hN6 _ ?_)
  refine LWP.cond_split rfl (fun h7 => ?_) (fun h7 => ?_)
  · have h := bT h7 h
    refine LWP.skip (hN5 _ ?_)
    refine LWP.join (α := Int × Int × Int × (List (List S_impl_Value))) (fun z : Int × Int × Int × (List (List S_impl_Value)) => [(0, (.own 0 0 (z.2.2.2).length)), (1, (e_int z.1)), (2, (e_int z.2.1)), (3, (.clo f3 q3)), (8, (e_int z.2.2.1))]) (fun z : Int × Int × Int × (List (List S_impl_Value)) => [(0, (lob 1 e_Limpl_Value z.2.2.2))]) (fun z : Int × Int × Int × (List (List S_impl_Value)) => m_slices_insertionSortCmpFunc_Limpl_Value_j2 p3 (m_slices_insertionSortCmpFunc_Limpl_Value_l1 p3 n1) z.1 z.2.1 z.2.2.1 z.2.2.2) r (fun _ => by simp [hkeys]) ?_ ?_
    · rintro ⟨t1, t2, t8, o0⟩ h
      replace h : m_slices_insertionSortCmpFunc_Limpl_Value_j2 p3 (m_slices_insertionSortCmpFunc_Limpl_Value_l1 p3 n1) t1 t2 t8 o0 = some _ := h
      refine LWP.region (l := [_,_,_]) ?_
      refine LWo.move (e_int t8) rfl (hn := ?_)
      refine bk h fun x36 e36 h => ?_
      refine LWo.int _ rfl rfl (add_ck e36) (hn := ?_)
      refine LWo.assign (e_int x36) rfl (hn := ?_)
      refine LWo.nil (hN3 (t1, t2, x36, o0) _ ⟨rfl, rfl, rfl, rfl, rfl, trivial⟩ ⟨rfl, trivial⟩ h)
    · intro N8 hN8
      refine LWP.block ?_
      refine LWP.seq_k fun N9 hN9 => ?_
      refine LWP.region (l := [_,_]) ?_
      refine LWo.move (e_int t8) rfl (hn := ?_)
      refine LWo.assign (e_int t8) rfl (hn := ?_)
      refine LWo.nil (hN9 _ ?_)
      refine LWP.block ?_
      refine LWP.loopM (α := Int × Int × Int × Int × (List (List S_impl_Value))) (fun z : Int × Int × Int × Int × (List (List S_impl_Value)) => [(0, (.own 0 0 (z.2.2.2.2).length)), (1, (e_int z.1)), (2, (e_int z.2.1)), (3, (.clo f3 q3)), (8, (e_int z.2.2.1)), (9, (e_int z.2.2.2.1))]) (fun z : Int × Int × Int × Int × (List (List S_impl_Value)) => [(0, (lob 1 e_Limpl_Value z.2.2.2.2))]) (fun n2 (z : Int × Int × Int × Int × (List (List S_impl_Value))) => m_slices_insertionSortCmpFunc_Limpl_Value_l2 p3 (m_slices_insertionSortCmpFunc_Limpl_Value_l1 p3 n1) n2 z.1 z.2.1 z.2.2.1 z.2.2.2.1 z.2.2.2.2) r _ (t1, t2, t8, t8, o0) h (fun _ => rfl) (fun _ => by simp [hkeys]) ⟨rfl, rfl, rfl, rfl, rfl, rfl, trivial⟩ ⟨rfl, trivial⟩ ?_
      rintro n2 ⟨t1, t2, t8, t9, o0⟩ h N10 hN10
      replace h : m_slices_insertionSortCmpFunc_Limpl_Value_l2 p3 (m_slices_insertionSortCmpFunc_Limpl_Value_l1 p3 n1) (n2 + 1) t1 t2 t8 t9 o0 = some _ := h
      refine LWP.seq_k fun N12 hN12 => ?_
      refine LWP.join (α := Int × Int × Int × Int × Bool × (List (List S_impl_Value))) (fun z : Int × Int × Int × Int × Bool × (List (List S_impl_Value)) => [(0, (.own 0 0 (z.2.2.2.2.2).length)), (1, (e_int z.1)), (2, (e_int z.2.1)), (3, (.clo f3 q3)), (8, (e_int z.2.2.1)), (9, (e_int z.2.2.2.1)), (34, (e_bool z.2.2.2.2.1))]) (fun z : Int × Int × Int × Int × Bool × (List (List S_impl_Value)) => [(0, (lob 1 e_Limpl_Value z.2.2.2.2.2))]) (fun z : Int × Int × Int × Int × Bool × (List (List S_impl_Value)) => m_slices_insertionSortCmpFunc_Limpl_Value_j1 p3 (m_slices_insertionSortCmpFunc_Limpl_Value_l1 p3 n1) (m_slices_insertionSortCmpFunc_Limpl_Value_l2 p3 (m_slices_insertionSortCmpFunc_Limpl_Value_l1 p3 n1) n2) z.1 z.2.1 z.2.2.1 z.2.2.2.1 z.2.2.2.2.1 z.2.2.2.2.2) r (fun _ => by simp [hkeys]) ?_ ?_
      · rintro ⟨t1, t2, t8, t9, t34, o0⟩ h
        replace h : m_slices_insertionSortCmpFunc_Limpl_Value_j1 p3 (m_slices_insertionSortCmpFunc_Limpl_Value_l1 p3 n1) (m_slices_insertionSortCmpFunc_Limpl_Value_l2 p3 (m_slices_insertionSortCmpFunc_Limpl_Value_l1 p3 n1) n2) t1 t2 t8 t9 t34 o0 = some _ := h
        refine LWP.cond_split rfl (fun h21 => ?_) (fun h21 => ?_)
        · have h := bT h21 h
          refine LWP.skip (hN12 _ ?_)
          refine LWP.seq_k fun N22 hN22 => ?_
          refine LWP.block ?_
          refine bk h fun x23 e23 h => ?_
          refine bk h fun x24 e24 h => ?_
          refine bk h fun x25 e25 h => ?_
          refine bk h fun x26 e26 h => ?_
          refine bk h fun x27 e27 h => ?_
          refine bk h fun x28 e28 h => ?_
          refine bk h fun x29 e29 h => ?_
          refine bk h fun x30 e30 h => ?_
          refine lk h fun y31 e31 h => ?_
          refine bk h fun x32 e32 h => ?_
          refine bk h fun x33 e33 h => ?_
          refine lk h fun y34 e34 h => ?_
          refine LWP.drawE (l := [_,_,_,_,_,_,_,_,_,_,_,_,_,_,_,_,_,_]) [] [0, 1, 2, 3, 8, 9] [([0], []), ([9], []), ([0], []), ([9], []), ([40], []), ([0], []), ([9], []), ([43], []), ([42, 44], [0]), ([45], [0]), ([0], []), ([9], []), ([47, 48], [0]), ([49], [0]), ([37, 38], [0]), ([46, 51], [0]), ([39, 41], [0]), ([50, 52], [0])] [0, 1, 2, 3, 8, 9] [0] mixed (by kernel_rfl) rfl (by decide) ?_
          refine ⟨rfl, .put 37 _, trivial, fun u hg hu hh => LWo.move (.own 0 0 (o0).length) hu.1 (hn := LWo.nil ⟨rfl, .inl rfl, hg⟩), ?_⟩
          refine ⟨rfl, .put 38 _, trivial, fun u hg hu hh => LWo.move (e_int t9) hu.1 (hn := LWo.nil ⟨rfl, .inl rfl, hg⟩), ?_⟩
          refine ⟨rfl, .put 39 _, trivial, fun u hg hu hh => LWo.move (.own 0 0 (o0).length) hu.1 (hn := LWo.nil ⟨rfl, .inl rfl, hg⟩), ?_⟩
          refine ⟨rfl, .put 40 _, trivial, fun u hg hu hh => LWo.move (e_int t9) hu.1 (hn := LWo.nil ⟨rfl, .inl rfl, hg⟩), ?_⟩
          refine ⟨rfl, .put 41 _, trivial, fun u hg hu hh => LWo.int _ hu.1 rfl (sub_ck e23) (hn := LWo.nil ⟨rfl, .inl rfl, hg⟩), ?_⟩
          refine ⟨rfl, .put 42 _, trivial, fun u hg hu hh => LWo.move (.own 0 0 (o0).length) hu.1 (hn := LWo.nil ⟨rfl, .inl rfl, hg⟩), ?_⟩
          refine ⟨rfl, .put 43 _, trivial, fun u hg hu hh => LWo.move (e_int t9) hu.1 (hn := LWo.nil ⟨rfl, .inl rfl, hg⟩), ?_⟩
          refine ⟨rfl, .put 44 _, trivial, fun u hg hu hh => LWo.int _ hu.1 rfl (sub_ck e24) (hn := LWo.nil ⟨rfl, .inl rfl, hg⟩), ?_⟩
          refine ⟨rfl, .put 45 _, trivial, fun u hg hu hh => LWo.indexO e25 rfl u_LLimpl_Value s_Limpl_Value hu.1 hu.2.1 hh.1 (hn := LWo.nil ⟨rfl, .inl rfl, hg⟩), ?_⟩
          refine ⟨rfl, .put 46 _, trivial, fun u hg hu hh => LWo.loadO1 (e_Limpl_Value x26) e26 g_Limpl_Value hu.1 hh.1 rfl (hn := LWo.nil ⟨rfl, .inl rfl, hg⟩), ?_⟩
          refine ⟨rfl, .put 47 _, trivial, fun u hg hu hh => LWo.move (.own 0 0 (o0).length) hu.1 (hn := LWo.nil ⟨rfl, .inl rfl, hg⟩), ?_⟩
          refine ⟨rfl, .put 48 _, trivial, fun u hg hu hh => LWo.move (e_int t9) hu.1 (hn := LWo.nil ⟨rfl, .inl rfl, hg⟩), ?_⟩
          refine ⟨rfl, .put 49 _, trivial, fun u hg hu hh => LWo.indexO e27 rfl u_LLimpl_Value s_Limpl_Value hu.1 hu.2.1 hh.1 (hn := LWo.nil ⟨rfl, .inl rfl, hg⟩), ?_⟩
          refine ⟨rfl, .put 50 _, trivial, fun u hg hu hh => LWo.loadO1 (e_Limpl_Value x28) e28 g_Limpl_Value hu.1 hh.1 rfl (hn := LWo.nil ⟨rfl, .inl rfl, hg⟩), ?_⟩
          refine ⟨rfl, .put 51 _, trivial, fun u hg hu hh => LWo.indexO e29 rfl u_LLimpl_Value s_Limpl_Value hu.1 hu.2.1 hh.1 (hn := LWo.nil ⟨rfl, .inl rfl, hg⟩), ?_⟩
          refine ⟨rfl, .upd none .junk 0 _, (fun _ h => by cases h), fun u hg hu hh => LWo.storeO y31 e30 s_Limpl_Value hu.2.1 hu.1 rfl rfl rfl hh.1 rfl (by rw [e31]; rfl) (hn := LWo.nil ⟨rfl, .inl rfl, Ef.good_ok (e := .upd none .junk 0 _) (fun _ h => by cases h) hg⟩), ?_⟩
          refine ⟨rfl, .put 52 _, trivial, fun u hg hu hh => LWo.indexO e32 List.length_set.symm u_LLimpl_Value s_Limpl_Value hu.1 hu.2.1 hh.1 (hn := LWo.nil ⟨rfl, .inl rfl, hg⟩), ?_⟩
          refine ⟨rfl, .upd none .junk 0 _, (fun _ h => by cases h), fun u hg hu hh => LWo.storeO y34 e33 s_Limpl_Value hu.2.1 hu.1 rfl rfl rfl hh.1 rfl (by rw [e34]; rfl) (hn := LWo.nil ⟨rfl, .inl rfl, Ef.good_ok (e := .upd none .junk 0 _) (fun _ h => by cases h) hg⟩), ?_⟩
          refine ⟨rfl, by kernel_rfl, hN22 _ ?_⟩
          refine LWP.region (l := [_,_,_]) ?_
          refine LWo.move (e_int t9) rfl (hn := ?_)
          refine bk h fun x35 e35 h => ?_
          refine LWo.int _ rfl rfl (sub_ck e35) (hn := ?_)
          refine LWo.assign (e_int x35) rfl (hn := ?_)
          refine LWo.nil (hN10 (t1, t2, t8, x35, ((o0.set (t9).toNat y31).set (x23).toNat y34)) _ ⟨(congrArg (LV.own 0 0) (List.length_set.symm.trans List.length_set.symm)), rfl, rfl, rfl, rfl, rfl, trivial⟩ ⟨rfl, trivial⟩ h)
        · have h := bF h21 h
          refine LWP.exit (hN8 (t1, t2, t8, o0) _ ⟨rfl, rfl, rfl, rfl, rfl, trivial⟩ ⟨rfl, trivial⟩ h)
      · intro N13 hN13
        refine bS (decide (t9 > t1)) (fun h14 => ?_) (fun h14 => ?_)
        · have h := bT h14 h
          refine bk h fun x15 e15 h => ?_
          refine bk h fun x16 e16 h => ?_
          refine bk h fun x17 e17 h => ?_
          refine bk h fun x18 e18 h => ?_
          refine bk h fun x19 e19 h => ?_
          refine bk h fun x20 e20 h => ?_
          refine LWP.drawE (l := [_,_,_,_,_,_,_,_,_,_,_,_,_,_,_,_,_]) [] [0, 1, 2, 3, 8, 9] [([9], []), ([1], []), ([18, 19], []), ([20], []), ([3, 21], []), ([0, 21], []), ([9, 21], []), ([21, 23, 24], [0]), ([21, 25], [0]), ([0, 21], []), ([9, 21], []), ([21, 28], []), ([21, 27, 29], [0]), ([21, 30], [0]), ([21, 22, 26, 31], []), ([21, 32], []), ([21, 33], [])] [0, 1, 2, 3, 8, 9, 34] [0] mixed (by kernel_rfl) rfl (by decide) ?_
          refine ⟨rfl, .put 18 _, trivial, fun u hg hu hh => LWo.move (e_int t9) hu.1 (hn := LWo.nil ⟨rfl, .inl rfl, hg⟩), ?_⟩
          refine ⟨rfl, .put 19 _, trivial, fun u hg hu hh => LWo.move (e_int t1) hu.1 (hn := LWo.nil ⟨rfl, .inl rfl, hg⟩), ?_⟩
          refine ⟨rfl, .put 20 _, trivial, fun u hg hu hh => LWo.int _ hu.1 hu.2.1 rfl (hn := LWo.nil ⟨rfl, .inl rfl, hg⟩), ?_⟩
          refine ⟨rfl, .put 21 _, trivial, fun u hg hu hh => LWo.move (e_bool (decide (t9 > t1))) hu.1 (hn := LWo.nil ⟨rfl, .inl rfl, hg⟩), ?_⟩
          refine ⟨rfl, .put 22 _, trivial, fun u hg hu hh => LWo.guardY (t := 21) hu.2.1 h14 rfl rfl (LWo.move (.clo f3 q3) hu.1 (hn := LWo.nil ⟨rfl, .inl rfl, hg⟩)), ?_⟩
          refine ⟨rfl, .put 23 _, trivial, fun u hg hu hh => LWo.guardY (t := 21) hu.2.1 h14 rfl rfl (LWo.move (.own 0 0 (o0).length) hu.1 (hn := LWo.nil ⟨rfl, .inl rfl, hg⟩)), ?_⟩
          refine ⟨rfl, .put 24 _, trivial, fun u hg hu hh => LWo.guardY (t := 21) hu.2.1 h14 rfl rfl (LWo.move (e_int t9) hu.1 (hn := LWo.nil ⟨rfl, .inl rfl, hg⟩)), ?_⟩
          refine ⟨rfl, .put 25 _, trivial, fun u hg hu hh => LWo.guardY (t := 21) hu.1 h14 rfl rfl (LWo.indexO e15 rfl u_LLimpl_Value s_Limpl_Value hu.2.1 hu.2.2.1 hh.1 (hn := LWo.nil ⟨rfl, .inl rfl, hg⟩)), ?_⟩
          refine ⟨rfl, .put 26 _, trivial, fun u hg hu hh => LWo.guardY (t := 21) hu.1 h14 rfl rfl (LWo.loadO1 (e_Limpl_Value x16) e16 g_Limpl_Value hu.2.1 hh.1 rfl (hn := LWo.nil ⟨rfl, .inl rfl, hg⟩)), ?_⟩
          refine ⟨rfl, .put 27 _, trivial, fun u hg hu hh => LWo.guardY (t := 21) hu.2.1 h14 rfl rfl (LWo.move (.own 0 0 (o0).length) hu.1 (hn := LWo.nil ⟨rfl, .inl rfl, hg⟩)), ?_⟩
          refine ⟨rfl, .put 28 _, trivial, fun u hg hu hh => LWo.guardY (t := 21) hu.2.1 h14 rfl rfl (LWo.move (e_int t9) hu.1 (hn := LWo.nil ⟨rfl, .inl rfl, hg⟩)), ?_⟩
          refine ⟨rfl, .put 29 _, trivial, fun u hg hu hh => LWo.guardY (t := 21) hu.1 h14 rfl rfl (LWo.int _ hu.2.1 rfl (sub_ck e17) (hn := LWo.nil ⟨rfl, .inl rfl, hg⟩)), ?_⟩
          refine ⟨rfl, .put 30 _, trivial, fun u hg hu hh => LWo.guardY (t := 21) hu.1 h14 rfl rfl (LWo.indexO e18 rfl u_LLimpl_Value s_Limpl_Value hu.2.1 hu.2.2.1 hh.1 (hn := LWo.nil ⟨rfl, .inl rfl, hg⟩)), ?_⟩
          refine ⟨rfl, .put 31 _, trivial, fun u hg hu hh => LWo.guardY (t := 21) hu.1 h14 rfl rfl (LWo.loadO1 (e_Limpl_Value x19) e19 g_Limpl_Value hu.2.1 hh.1 rfl (hn := LWo.nil ⟨rfl, .inl rfl, hg⟩)), ?_⟩
          refine ⟨rfl, .put 32 _, trivial, fun u hg hu hh => LWo.guardY (t := 21) hu.1 h14 rfl rfl (LWo.vcall hu.2.1 (avq2 hu.2.2.1 hu.2.2.2.1) (hf3 _ _ _ e20) .refl (hn := LWo.nil ⟨rfl, .inl rfl, hg⟩)), ?_⟩
          refine ⟨rfl, .put 33 _, trivial, fun u hg hu hh => LWo.guardY (t := 21) hu.1 h14 rfl rfl (LWo.int _ hu.2.1 rfl rfl (hn := LWo.nil ⟨rfl, .inl rfl, hg⟩)), ?_⟩
          refine ⟨rfl, .put 34 _, trivial, fun u hg hu hh => LWo.pickTM (e_bool (decide (x20 < (0 : Int)))) hu.1 h14 hu.2.1 (hn := LWo.nil ⟨rfl, .inl rfl, hg⟩), ?_⟩
          refine ⟨rfl, by kernel_rfl, hN13 (t1, t2, t8, t9, decide (x20 < (0 : Int)), o0) _ ⟨rfl, rfl, rfl, rfl, rfl, rfl, rfl, trivial⟩ ⟨rfl, trivial⟩ h⟩
        · have h := bF h14 h
          refine LWP.drawE (l := [_,_,_,_,_,_,_,_,_,_,_,_,_,_,_,_,_]) [] [0, 1, 2, 3, 8, 9] [([9], []), ([1], []), ([18, 19], []), ([20], []), ([3, 21], []), ([0, 21], []), ([9, 21], []), ([21, 23, 24], []), ([21, 25], []), ([0, 21], []), ([9, 21], []), ([21, 28], []), ([21, 27, 29], []), ([21, 30], []), ([21, 22, 26, 31], []), ([21, 32], []), ([21, 33], [])] [0, 1, 2, 3, 8, 9, 34] [0] mixed (by kernel_rfl) rfl (by decide) ?_
          refine ⟨rfl, .put 18 _, trivial, fun u hg hu hh => LWo.move (e_int t9) hu.1 (hn := LWo.nil ⟨rfl, .inl rfl, hg⟩), ?_⟩
          refine ⟨rfl, .put 19 _, trivial, fun u hg hu hh => LWo.move (e_int t1) hu.1 (hn := LWo.nil ⟨rfl, .inl rfl, hg⟩), ?_⟩
          refine ⟨rfl, .put 20 _, trivial, fun u hg hu hh => LWo.int _ hu.1 hu.2.1 rfl (hn := LWo.nil ⟨rfl, .inl rfl, hg⟩), ?_⟩
          refine ⟨rfl, .put 21 _, trivial, fun u hg hu hh => LWo.move (e_bool (decide (t9 > t1))) hu.1 (hn := LWo.nil ⟨rfl, .inl rfl, hg⟩), ?_⟩
          refine ⟨rfl, .put 22 _, trivial, fun u hg hu hh => LWo.guardNU (t := 21) hu.2.1 h14 rfl rfl rfl rfl rfl (LWo.nil ⟨rfl, .inl rfl, hg⟩), ?_⟩
          refine ⟨rfl, .put 23 _, trivial, fun u hg hu hh => LWo.guardNU (t := 21) hu.2.1 h14 rfl rfl rfl rfl rfl (LWo.nil ⟨rfl, .inl rfl, hg⟩), ?_⟩
          refine ⟨rfl, .put 24 _, trivial, fun u hg hu hh => LWo.guardNU (t := 21) hu.2.1 h14 rfl rfl rfl rfl rfl (LWo.nil ⟨rfl, .inl rfl, hg⟩), ?_⟩
          refine ⟨rfl, .put 25 _, trivial, fun u hg hu hh => LWo.guardNU (t := 21) hu.1 h14 rfl rfl rfl rfl rfl (LWo.nil ⟨rfl, .inl rfl, hg⟩), ?_⟩
          refine ⟨rfl, .put 26 _, trivial, fun u hg hu hh => LWo.guardNU (t := 21) hu.1 h14 rfl rfl rfl rfl rfl (LWo.nil ⟨rfl, .inl rfl, hg⟩), ?_⟩
          refine ⟨rfl, .put 27 _, trivial, fun u hg hu hh => LWo.guardNU (t := 21) hu.2.1 h14 rfl rfl rfl rfl rfl (LWo.nil ⟨rfl, .inl rfl, hg⟩), ?_⟩
          refine ⟨rfl, .put 28 _, trivial, fun u hg hu hh => LWo.guardNU (t := 21) hu.2.1 h14 rfl rfl rfl rfl rfl (LWo.nil ⟨rfl, .inl rfl, hg⟩), ?_⟩
          refine ⟨rfl, .put 29 _, trivial, fun u hg hu hh => LWo.guardNU (t := 21) hu.1 h14 rfl rfl rfl rfl rfl (LWo.nil ⟨rfl, .inl rfl, hg⟩), ?_⟩
          refine ⟨rfl, .put 30 _, trivial, fun u hg hu hh => LWo.guardNU (t := 21) hu.1 h14 rfl rfl rfl rfl rfl (LWo.nil ⟨rfl, .inl rfl, hg⟩), ?_⟩
          refine ⟨rfl, .put 31 _, trivial, fun u hg hu hh => LWo.guardNU (t := 21) hu.1 h14 rfl rfl rfl rfl rfl (LWo.nil ⟨rfl, .inl rfl, hg⟩), ?_⟩
          refine ⟨rfl, .put 32 _, trivial, fun u hg hu hh => LWo.guardNU (t := 21) hu.1 h14 rfl rfl rfl rfl rfl (LWo.nil ⟨rfl, .inl rfl, hg⟩), ?_⟩
          refine ⟨rfl, .put 33 _, trivial, fun u hg hu hh => LWo.guardNU (t := 21) hu.1 h14 rfl rfl rfl rfl rfl (LWo.nil ⟨rfl, .inl rfl, hg⟩), ?_⟩
          refine ⟨rfl, .put 34 _, trivial, fun u hg hu hh => LWo.pickFM (e_bool false) hu.1 h14 rfl (hn := LWo.nil ⟨rfl, .inl rfl, hg⟩), ?_⟩
          refine ⟨rfl, by kernel_rfl, hN13 (t1, t2, t8, t9, false, o0) _ ⟨rfl, rfl, rfl, rfl, rfl, rfl, rfl, trivial⟩ ⟨rfl, trivial⟩ h⟩
  · have h := bF h7 h
    obtain rfl := Option.some.inj h
    refine LWP.exit (QG.mk (.inl rfl) (.nil) (RetOK.many1 (.nil) (by simp) (by decide) rfl rfl rfl rfl rfl) rfl rfl)
theorem k_slices_insertionSortCmpFunc_Limpl_Value (o0 : (List (List S_impl_Value))) (a1 : Int) (a2 : Int) (p3 : (List S_impl_Value) → (List S_impl_Value) → Option Int) (f3 : FuncId) (q3 : List LV) (hq3 : ∀ k, LV.at?.atL k q3 = false) (hf3 : ∀ a0 a1 v, p3 a0 a1 = some v → Ret Try.prog f3 (e_Limpl_Value a0 :: e_Limpl_Value a1 :: q3) (e_int v)) (r : (List (List S_impl_Value))) (h : m_slices_insertionSortCmpFunc_Limpl_Value o0 a1 a2 p3 = some r) (k : Nat) : Does Try.prog f_slices_insertionSortCmpFunc_Limpl_Value [.own k 0 o0.length, e_int a1, e_int a2, .clo f3 q3] [(k, (lob 1 e_Limpl_Value o0))] (fun x hh => x = .tup [] ∧ hh = [(k, (lob 1 e_Limpl_Value r))]) :=
  Does.nameO (c_slices_insertionSortCmpFunc_Limpl_Value o0 a1 a2 p3 f3 q3 hq3 hf3 r h) (fun k => (atC rfl (atC rfl (atC (hq3 k) (atN _))))) k

def m_slices_swapRangeCmpFunc_Limpl_Value_l1 (p4 : (List S_impl_Value) → (List S_impl_Value) → Option Int) : Nat → Int → Int → Int → Int → (List (List S_impl_Value)) → Option (List (List S_impl_Value))
  | 0, _, _, _, _, _ => none
  | n1 + 1, t1, t2, t3, t10, o0 =>
    bif decide (t10 < t3) then ((ckI (t1 + t10)).bind fun x8 =>
    (ckI (t2 + t10)).bind fun x9 =>
    (ckI (t2 + t10)).bind fun x10 =>
    (at? o0 x10).bind fun x11 =>
    (at? o0 x10).bind fun x12 =>
    (ckI (t1 + t10)).bind fun x13 =>
    (at? o0 x13).bind fun x14 =>
    (at? o0 x13).bind fun x15 =>
    (at? o0 x8).bind fun x16 =>
    (at? o0 x8).bind fun x17 =>
    lt (x12) fun y18 =>
    (at? (o0.set (x8).toNat y18) x9).bind fun x19 =>
    (at? (o0.set (x8).toNat y18) x9).bind fun x20 =>
    lt (x15) fun y21 =>
    (ckI (t10 + (1 : Int))).bind fun x22 =>
    (m_slices_swapRangeCmpFunc_Limpl_Value_l1 p4 n1) t1 t2 t3 x22 ((o0.set (x8).toNat y18).set (x9).toNat y21))
    else (some o0)
def m_slices_swapRangeCmpFunc_Limpl_Value (o0 : (List (List S_impl_Value))) (a1 : Int) (a2 : Int) (a3 : Int) (p4 : (List S_impl_Value) → (List S_impl_Value) → Option Int) : Option (List (List S_impl_Value)) :=
  m_slices_swapRangeCmpFunc_Limpl_Value_l1 p4 ((a3 - (0 : Int)).toNat + 1) a1 a2 a3 (0 : Int) o0
theorem c_slices_swapRangeCmpFunc_Limpl_Value (o0 : (List (List S_impl_Value))) (a1 : Int) (a2 : Int) (a3 : Int) (p4 : (List S_impl_Value) → (List S_impl_Value) → Option Int) (f4 : FuncId) (q4 : List LV) (hq4 : ∀ k, LV.at?.atL k q4 = false) (hf4 : ∀ a0 a1 v, p4 a0 a1 = some v → Ret Try.prog f4 (e_Limpl_Value a0 :: e_Limpl_Value a1 :: q4) (e_int v)) (r : (List (List S_impl_Value))) (h : m_slices_swapRangeCmpFunc_Limpl_Value o0 a1 a2 a3 p4 = some r) : Does Try.prog f_slices_swapRangeCmpFunc_Limpl_Value [.own 0 0 o0.length, e_int a1, e_int a2, e_int a3, .clo f4 q4] [(0, (lob 1 e_Limpl_Value o0))] (fun x hh => x = .tup [] ∧ hh = [(0, (lob 1 e_Limpl_Value r))]) := by
  refine Does.goG [0] F_slices_swapRangeCmpFunc_Limpl_Value rfl e_slices_swapRangeCmpFunc_Limpl_Value n_slices_swapRangeCmpFunc_Limpl_Value rfl (rvs := []) rfl rfl ?_
  intro w0 ok0 lent ρ0
  refine LWP.seq_k fun N1 hN1 => ?_
  refine LWP.region (l := [_]) ?_
  refine LWo.assign (e_int (0 : Int)) rfl (hn := ?_)
  refine LWo.nil (hN1 _ ?_)
  refine LWP.block ?_
  refine LWP.loopM (α := Int × Int × Int × Int × (List (List S_impl_Value))) (fun z : Int × Int × Int × Int × (List (List S_impl_Value)) => [(0, (.own 0 0 (z.2.2.2.2).length)), (1, (e_int z.1)), (2, (e_int z.2.1)), (3, (e_int z.2.2.1)), (10, (e_int z.2.2.2.1))]) (fun z : Int × Int × Int × Int × (List (List S_impl_Value)) => [(0, (lob 1 e_Limpl_Value z.2.2.2.2))]) (fun n1 (z : Int × Int × Int × Int × (List (List S_impl_Value))) => m_slices_swapRangeCmpFunc_Limpl_Value_l1 p4 n1 z.1 z.2.1 z.2.2.1 z.2.2.2.1 z.2.2.2.2) r _ (a1, a2, a3, (0 : Int), o0) h (fun _ => rfl) (fun _ => by simp [hkeys]) ⟨rfl, rfl, rfl, rfl, rfl, trivial⟩ ⟨rfl, trivial⟩ ?_
  rintro n1 ⟨t1, t2, t3, t10, o0⟩ h N2 hN2
  replace h : m_slices_swapRangeCmpFunc_Limpl_Value_l1 p4 (n1 + 1) t1 t2 t3 t10 o0 = some _ := h
  refine LWP.seq_k fun N4 hN4 => ?_
  refine LWP.seq_k fun N5 hN5 => ?_
  refine LWP.region (l := [_,_,_]) ?_
  refine LWo.move (e_int t10) rfl (hn := ?_)
  refine LWo.move (e_int t3) rfl (hn := ?_)
  refine LWo.int _ rfl rfl rfl (hn := ?_)
  refine LWo.nil (hN5 _ ?_)
  refine LWP.cond_split rfl (fun h6 => ?_) (fun h6 => ?_)
  · have h := bT h6 h
    refine LWP.skip (hN4 _ ?_)
    refine LWP.seq_k fun N7 hN7 => ?_
    refine LWP.block ?_
    refine bk h fun x8 e8 h => ?_
    refine bk h fun x9 e9 h => ?_
    refine bk h fun x10 e10 h => ?_
    refine bk h fun x11 e11 h => ?_
    refine bk h fun x12 e12 h => ?_
    refine bk h fun x13 e13 h => ?_
    refine bk h fun x14 e14 h => ?_
    refine bk h fun x15 e15 h => ?_
    refine bk h fun x16 e16 h => ?_
    refine bk h fun x17 e17 h => ?_
    refine lk h fun y18 e18 h => ?_
    refine bk h fun x19 e19 h => ?_
    refine bk h fun x20 e20 h => ?_
    refine lk h fun y21 e21 h => ?_
    refine LWP.drawE (l := [_,_,_,_,_,_,_,_,_,_,_,_,_,_,_,_,_,_,_,_,_,_,_,_]) [] [0, 1, 2, 3, 10] [([0], []), ([1], []), ([10], []), ([17, 18], []), ([0], []), ([2], []), ([10], []), ([21, 22], []), ([0], []), ([2], []), ([10], []), ([25, 26], []), ([24, 27], [0]), ([28], [0]), ([0], []), ([1], []), ([10], []), ([31, 32], []), ([30, 33], [0]), ([34], [0]), ([16, 19], [0]), ([29, 36], [0]), ([20, 23], [0]), ([35, 37], [0])] [0, 1, 2, 3, 10] [0] mixed (by kernel_rfl) rfl (by decide) ?_
    refine ⟨rfl, .put 16 _, trivial, fun u hg hu hh => LWo.move (.own 0 0 (o0).length) hu.1 (hn := LWo.nil ⟨rfl, .inl rfl, hg⟩), ?_⟩
    refine ⟨rfl, .put 17 _, trivial, fun u hg hu hh => LWo.move (e_int t1) hu.1 (hn := LWo.nil ⟨rfl, .inl rfl, hg⟩), ?_⟩
    refine ⟨rfl, .put 18 _, trivial, fun u hg hu hh => LWo.move (e_int t10) hu.1 (hn := LWo.nil ⟨rfl, .inl rfl, hg⟩), ?_⟩
    refine ⟨rfl, .put 19 _, trivial, fun u hg hu hh => LWo.int _ hu.1 hu.2.1 (add_ck e8) (hn := LWo.nil ⟨rfl, .inl rfl, hg⟩), ?_⟩
    refine ⟨rfl, .put 20 _, trivial, fun u hg hu hh => LWo.move (.own 0 0 (o0).length) hu.1 (hn := LWo.nil ⟨rfl, .inl rfl, hg⟩), ?_⟩
    refine ⟨rfl, .put 21 _, trivial, fun u hg hu hh => LWo.move (e_int t2) hu.1 (hn := LWo.nil ⟨rfl, .inl rfl, hg⟩), ?_⟩
    refine ⟨rfl, .put 22 _, trivial, fun u hg hu hh => LWo.move (e_int t10) hu.1 (hn := LWo.nil ⟨rfl, .inl rfl, hg⟩), ?_⟩
    refine ⟨rfl, .put 23 _, trivial, fun u hg hu hh => LWo.int _ hu.1 hu.2.1 (add_ck e9) (hn := LWo.nil ⟨rfl, .inl rfl, hg⟩), ?_⟩
    refine ⟨rfl, .put 24 _, trivial, fun u hg hu hh => LWo.move (.own 0 0 (o0).length) hu.1 (hn := LWo.nil ⟨rfl, .inl rfl, hg⟩), ?_⟩
    refine ⟨rfl, .put 25 _, trivial, fun u hg hu hh => LWo.move (e_int t2) hu.1 (hn := LWo.nil ⟨rfl, .inl rfl, hg⟩), ?_⟩
    refine ⟨rfl, .put 26 _, trivial, fun u hg hu hh => LWo.move (e_int t10) hu.1 (hn := LWo.nil ⟨rfl, .inl rfl, hg⟩), ?_⟩
    refine ⟨rfl, .put 27 _, trivial, fun u hg hu hh => LWo.int _ hu.1 hu.2.1 (add_ck e10) (hn := LWo.nil ⟨rfl, .inl rfl, hg⟩), ?_⟩
    refine ⟨rfl, .put 28 _, trivial, fun u hg hu hh => LWo.indexO e11 rfl u_LLimpl_Value s_Limpl_Value hu.1 hu.2.1 hh.1 (hn := LWo.nil ⟨rfl, .inl rfl, hg⟩), ?_⟩
    refine ⟨rfl, .put 29 _, trivial, fun u hg hu hh => LWo.loadO1 (e_Limpl_Value x12) e12 g_Limpl_Value hu.1 hh.1 rfl (hn := LWo.nil ⟨rfl, .inl rfl, hg⟩), ?_⟩
    refine ⟨rfl, .put 30 _, trivial, fun u hg hu hh => LWo.move (.own 0 0 (o0).length) hu.1 (hn := LWo.nil ⟨rfl, .inl rfl, hg⟩), ?_⟩
    refine ⟨rfl, .put 31 _, trivial, fun u hg hu hh => LWo.move (e_int t1) hu.1 (hn := LWo.nil ⟨rfl, .inl rfl, hg⟩), ?_⟩
    refine ⟨rfl, .put 32 _, trivial, fun u hg hu hh => LWo.move (e_int t10) hu.1 (hn := LWo.nil ⟨rfl, .inl rfl, hg⟩), ?_⟩
    refine ⟨rfl, .put 33 _, trivial, fun u hg hu hh => LWo.int _ hu.1 hu.2.1 (add_ck e13) (hn := LWo.nil ⟨rfl, .inl rfl, hg⟩), ?_⟩
    refine ⟨rfl, .put 34 _, trivial, fun u hg hu hh => LWo.indexO e14 rfl u_LLimpl_Value s_Limpl_Value hu.1 hu.2.1 hh.1 (hn := LWo.nil ⟨rfl, .inl rfl, hg⟩), ?_⟩
    refine ⟨rfl, .put 35 _, trivial, fun u hg hu hh => LWo.loadO1 (e_Limpl_Value x15) e15 g_Limpl_Value hu.1 hh.1 rfl (hn := LWo.nil ⟨rfl, .inl rfl, hg⟩), ?_⟩
    refine ⟨rfl, .put 36 _, trivial, fun u hg hu hh => LWo.indexO e16 rfl u_LLimpl_Value s_Limpl_Value hu.1 hu.2.1 hh.1 (hn := LWo.nil ⟨rfl, .inl rfl, hg⟩), ?_⟩
    refine ⟨rfl, .upd none .junk 0 _, (fun _ h => by cases h), fun u hg hu hh => LWo.storeO y18 e17 s_Limpl_Value hu.2.1 hu.1 rfl rfl rfl hh.1 rfl (by rw [e18]; rfl) (hn := LWo.nil ⟨rfl, .inl rfl, Ef.good_ok (e := .upd none .junk 0 _) (fun _ h => by cases h) hg⟩), ?_⟩
    refine ⟨rfl, .put 37 _, trivial, fun u hg hu hh => LWo.indexO e19 List.length_set.symm u_LLimpl_Value s_Limpl_Value hu.1 hu.2.1 hh.1 (hn := LWo.nil ⟨rfl, .inl rfl, hg⟩), ?_⟩
    refine ⟨rfl, .upd none .junk 0 _, (fun _ h => by cases h), fun u hg hu hh => LWo.storeO y21 e20 s_Limpl_Value hu.2.1 hu.1 rfl rfl rfl hh.1 rfl (by rw [e21]; rfl) (hn := LWo.nil ⟨rfl, .inl rfl, Ef.good_ok (e := .upd none .junk 0 _) (fun _ h => by cases h) hg⟩), ?_⟩
    refine ⟨rfl, by kernel_rfl, hN7 _ ?_⟩
    refine LWP.region (l := [_,_,_]) ?_
    refine LWo.move (e_int t10) rfl (hn := ?_)
    refine bk h fun x22 e22 h => ?_
    refine LWo.int _ rfl rfl (add_ck e22) (hn := ?_)
    refine LWo.assign (e_int x22) rfl (hn := ?_)
    refine LWo.nil (hN2 (t1, t2, t3, x22, ((o0.set (x8).toNat y18).set (x9).toNat y21)) _ ⟨(congrArg (LV.own 0 0) (List.length_set.symm.trans List.length_set.symm)), rfl, rfl, rfl, rfl, trivial⟩ ⟨rfl, trivial⟩ h)
  · have h := bF h6 h
    obtain rfl := Option.some.inj h
    refine LWP.exit (QG.mk (.inl rfl) (.nil) (RetOK.many1 (.nil) (by simp) (by decide) rfl rfl rfl rfl rfl) rfl rfl)
theorem k_slices_swapRangeCmpFunc_Limpl_Value (o0 : (List (List S_impl_Value))) (a1 : Int) (a2 : Int) (a3 : Int) (p4 : (List S_impl_Value) → (List S_impl_Value) → Option Int) (f4 : FuncId) (q4 : List LV) (hq4 : ∀ k, LV.at?.atL k q4 = false) (hf4 : ∀ a0 a1 v, p4 a0 a1 = some v → Ret Try.prog f4 (e_Limpl_Value a0 :: e_Limpl_Value a1 :: q4) (e_int v)) (r : (List (List S_impl_Value))) (h : m_slices_swapRangeCmpFunc_Limpl_Value o0 a1 a2 a3 p4 = some r) (k : Nat) : Does Try.prog f_slices_swapRangeCmpFunc_Limpl_Value [.own k 0 o0.length, e_int a1, e_int a2, e_int a3, .clo f4 q4] [(k, (lob 1 e_Limpl_Value o0))] (fun x hh => x = .tup [] ∧ hh = [(k, (lob 1 e_Limpl_Value r))]) :=
  Does.nameO (c_slices_swapRangeCmpFunc_Limpl_Value o0 a1 a2 a3 p4 f4 q4 hq4 hf4 r h) (fun k => (atC rfl (atC rfl (atC rfl (atC (hq4 k) (atN _)))))) k
end Go.Proofs.Ytemfdnnhknepbaa
