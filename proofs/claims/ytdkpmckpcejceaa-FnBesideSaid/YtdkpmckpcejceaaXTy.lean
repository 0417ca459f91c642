/- The types of the program as Lean data, and the steps of the logic at them. -/
import Derived.Test.YtdkpmckpcejceaaXNm
import Derived.Test.YtdkpmckpcejceaaLd
import Derived.Laws.StructEq
set_option linter.unusedVariables false
set_option linter.unusedSimpArgs false
set_option linter.unnecessarySimpa false
set_option maxHeartbeats 4000000
namespace Go.Proofs.Ytdkpmckpcejceaa
open Go.Proofs Go.Lift Go.RowKit
theorem eqf_last {P : Program} {d : Nat} {xs ys : Array Value} {f : Field} {a b : Value} {r : Bool} {w : World} (hn : (f.name == "_") = false) (ha : (part f.type xs f.offset).run P w = .ok a w) (hb : (part f.type ys f.offset).run P w = .ok b w) (he : (Op.equalIn d f.type a b).run P w = .ok r w) : (Op.eqFields d xs ys [f]).run P w = .ok r w := by
  have hn' : f.name ≠ "_" := by simpa using hn
  simp only [Op.eqFields, if_pos hn', Sem.run_bind, ha, hb, he, Result.andThen_ok]; cases r <;> simp
theorem eqf_cons {P : Program} {d : Nat} {xs ys : Array Value} {f : Field} {fs : List Field} {a b : Value} {r s : Bool} {w : World} (hn : (f.name == "_") = false) (ha : (part f.type xs f.offset).run P w = .ok a w) (hb : (part f.type ys f.offset).run P w = .ok b w) (he : (Op.equalIn d f.type a b).run P w = .ok r w) (hr : (Op.eqFields d xs ys fs).run P w = .ok s w) : (Op.eqFields d xs ys (f :: fs)).run P w = .ok (r && s) w := by
  have hn' : f.name ≠ "_" := by simpa using hn
  rw [Op.eqFields]; simp only [if_pos hn', Sem.run_bind, ha, hb, he, Result.andThen_ok]; cases r
  · simp
  · simpa using hr
theorem eqA_of {P : Program} {d : Nat} {xs ys : Array Value} {r : Bool} {w : World} {t : TypeId} {fs : Array Field} (hu : P.underlying t = some (.struct fs)) (hp : P.stoodInHeld t = false) (h : (Op.eqFields d xs ys fs.toList).run P w = .ok r w) : (Op.equalIn (d + 1) t (.agg xs) (.agg ys)).run P w = .ok r w := by
  have hf : P.fieldsOf t = fs := by simp [Program.fieldsOf, hu]
  rw [run_equalIn_struct (P := P) w d t xs ys (by rw [hf]; exact hu) hp, hf]; exact h
theorem part1 {T : TypeId} {xs : Array Value} {i : Nat} {v : Value} (hg : ∀ w, (isAgg T).run Try.prog w = .ok false w) (h : xs[i]? = some v) (w : World) : (part T xs i).run Try.prog w = .ok v w := by
  simp [part, hg, h]
theorem bytes_beq (a b : ByteArray) : (a.toList = b.toList) ↔ (a = b) := by
  rw [ByteArray.toList_eq, ByteArray.toList_eq, Array.toList_inj]; exact ⟨fun h => ByteArray.ext h, fun h => by rw [h]⟩
theorem pv2 {s : LState} {x y : Operand} {i j : Nat} {a b : LV} (h : s.eval x = a) (h2 : s.eval y = b) : [(i, x), (j, y)].map (fun p => (p.1, s.eval p.2)) = [(i, a), (j, b)] := by simp [h, h2]
theorem pv3 {s : LState} {x y z : Operand} {i j k : Nat} {a b c : LV} (h : s.eval x = a) (h2 : s.eval y = b) (h3 : s.eval z = c) : [(i, x), (j, y), (k, z)].map (fun p => (p.1, s.eval p.2)) = [(i, a), (j, b), (k, c)] := by simp [h, h2, h3]
structure S_laws_Ask where
  Who : Int
  Key : Int
  Kind : Int
  deriving DecidableEq
def e_laws_Ask (v : S_laws_Ask) : LV := .agg [e_int v.Who, e_int v.Key, e_int v.Kind]
def B_laws_Ask (v : S_laws_Ask) : Prop := B_int v.Who ∧ B_int v.Key ∧ B_int v.Kind
def e_Llaws_Ask (l : (List S_laws_Ask)) : LV := .sl 3 (l.map e_laws_Ask)
structure S_laws_Locks where
  Held : (List S_laws_Ask)
  Queue : (List S_laws_Ask)
  deriving DecidableEq
def e_laws_Locks (v : S_laws_Locks) : LV := .agg [e_Llaws_Ask v.Held, e_Llaws_Ask v.Queue]
def B_laws_Locks (v : S_laws_Locks) : Prop := (B_list B_laws_Ask) v.Held ∧ (B_list B_laws_Ask) v.Queue
def e_Lint (l : (List Int)) : LV := .sl 1 (l.map e_int)
structure S_impl_Ask where
  Who : Int
  Key : Int
  Kind : Int
  deriving DecidableEq
def e_impl_Ask (v : S_impl_Ask) : LV := .agg [e_int v.Who, e_int v.Key, e_int v.Kind]
def B_impl_Ask (v : S_impl_Ask) : Prop := B_int v.Who ∧ B_int v.Key ∧ B_int v.Kind
def e_Limpl_Ask (l : (List S_impl_Ask)) : LV := .sl 3 (l.map e_impl_Ask)
structure S_impl_Locks where
  Held : (List S_impl_Ask)
  Queue : (List S_impl_Ask)
  deriving DecidableEq
def e_impl_Locks (v : S_impl_Locks) : LV := .agg [e_Limpl_Ask v.Held, e_Limpl_Ask v.Queue]
def B_impl_Locks (v : S_impl_Locks) : Prop := (B_list B_impl_Ask) v.Held ∧ (B_list B_impl_Ask) v.Queue
structure S_laws_Value where
  Kind : Int
  N : Int
  S : ByteArray
  deriving DecidableEq
def e_laws_Value (v : S_laws_Value) : LV := .agg [e_int v.Kind, e_int v.N, e_string v.S]
def B_laws_Value (v : S_laws_Value) : Prop := B_int v.Kind ∧ B_int v.N ∧ B_string v.S
def e_Llaws_Value (l : (List S_laws_Value)) : LV := .sl 3 (l.map e_laws_Value)
structure S_laws_Version where
  Key : Int
  Born : Int
  Died : Int
  Row : (List S_laws_Value)
  deriving DecidableEq
def e_laws_Version (v : S_laws_Version) : LV := .agg [e_int v.Key, e_int v.Born, e_int v.Died, e_Llaws_Value v.Row]
def B_laws_Version (v : S_laws_Version) : Prop := B_int v.Key ∧ B_int v.Born ∧ B_int v.Died ∧ (B_list B_laws_Value) v.Row
def e_Llaws_Version (l : (List S_laws_Version)) : LV := .sl 4 (l.map e_laws_Version)
structure S_laws_Write where
  Key : Int
  Row : (List S_laws_Value)
  Gone : Bool
  deriving DecidableEq
def e_laws_Write (v : S_laws_Write) : LV := .agg [e_int v.Key, e_Llaws_Value v.Row, e_bool v.Gone]
def B_laws_Write (v : S_laws_Write) : Prop := B_int v.Key ∧ (B_list B_laws_Value) v.Row ∧ B_bool v.Gone
def e_Llaws_Write (l : (List S_laws_Write)) : LV := .sl 3 (l.map e_laws_Write)
structure S_laws_Txn where
  State : Int
  Begin : Int
  End : Int
  Reads : (List Int)
  Writes : (List S_laws_Write)
  deriving DecidableEq
def e_laws_Txn (v : S_laws_Txn) : LV := .agg [e_int v.State, e_int v.Begin, e_int v.End, e_Lint v.Reads, e_Llaws_Write v.Writes]
def B_laws_Txn (v : S_laws_Txn) : Prop := B_int v.State ∧ B_int v.Begin ∧ B_int v.End ∧ (B_list B_int) v.Reads ∧ (B_list B_laws_Write) v.Writes
def e_Llaws_Txn (l : (List S_laws_Txn)) : LV := .sl 5 (l.map e_laws_Txn)
structure S_laws_House where
  f_List : (List S_laws_Version)
  Clock : Int
  Txns : (List S_laws_Txn)
  deriving DecidableEq
def e_laws_House (v : S_laws_House) : LV := .agg [e_Llaws_Version v.f_List, e_int v.Clock, e_Llaws_Txn v.Txns]
def B_laws_House (v : S_laws_House) : Prop := (B_list B_laws_Version) v.f_List ∧ B_int v.Clock ∧ (B_list B_laws_Txn) v.Txns
structure S_impl_Value where
  Kind : Int
  N : Int
  S : ByteArray
  deriving DecidableEq
def e_impl_Value (v : S_impl_Value) : LV := .agg [e_int v.Kind, e_int v.N, e_string v.S]
def B_impl_Value (v : S_impl_Value) : Prop := B_int v.Kind ∧ B_int v.N ∧ B_string v.S
def e_Limpl_Value (l : (List S_impl_Value)) : LV := .sl 3 (l.map e_impl_Value)
structure S_impl_Version where
  Key : Int
  Born : Int
  Died : Int
  Row : (List S_impl_Value)
  deriving DecidableEq
def e_impl_Version (v : S_impl_Version) : LV := .agg [e_int v.Key, e_int v.Born, e_int v.Died, e_Limpl_Value v.Row]
def B_impl_Version (v : S_impl_Version) : Prop := B_int v.Key ∧ B_int v.Born ∧ B_int v.Died ∧ (B_list B_impl_Value) v.Row
def e_Limpl_Version (l : (List S_impl_Version)) : LV := .sl 4 (l.map e_impl_Version)
structure S_impl_Write where
  Key : Int
  Row : (List S_impl_Value)
  Gone : Bool
  deriving DecidableEq
def e_impl_Write (v : S_impl_Write) : LV := .agg [e_int v.Key, e_Limpl_Value v.Row, e_bool v.Gone]
def B_impl_Write (v : S_impl_Write) : Prop := B_int v.Key ∧ (B_list B_impl_Value) v.Row ∧ B_bool v.Gone
def e_Limpl_Write (l : (List S_impl_Write)) : LV := .sl 3 (l.map e_impl_Write)
structure S_impl_Txn where
  State : Int
  Begin : Int
  End : Int
  Reads : (List Int)
  Writes : (List S_impl_Write)
  deriving DecidableEq
def e_impl_Txn (v : S_impl_Txn) : LV := .agg [e_int v.State, e_int v.Begin, e_int v.End, e_Lint v.Reads, e_Limpl_Write v.Writes]
def B_impl_Txn (v : S_impl_Txn) : Prop := B_int v.State ∧ B_int v.Begin ∧ B_int v.End ∧ (B_list B_int) v.Reads ∧ (B_list B_impl_Write) v.Writes
def e_Limpl_Txn (l : (List S_impl_Txn)) : LV := .sl 5 (l.map e_impl_Txn)
structure S_impl_House where
  f_List : (List S_impl_Version)
  Clock : Int
  Txns : (List S_impl_Txn)
  deriving DecidableEq
def e_impl_House (v : S_impl_House) : LV := .agg [e_Limpl_Version v.f_List, e_int v.Clock, e_Limpl_Txn v.Txns]
def em_impl_House (v : S_impl_House) : LV := .agg [.tup [e_Limpl_Version v.f_List], e_int v.Clock, .nw 5 (v.Txns.map e_impl_Txn) false]
def B_impl_House (v : S_impl_House) : Prop := (B_list B_impl_Version) v.f_List ∧ B_int v.Clock ∧ (B_list B_impl_Txn) v.Txns
structure S_laws_Column where
  Kind : Int
  Empty : Bool
  deriving DecidableEq
def e_laws_Column (v : S_laws_Column) : LV := .agg [e_int v.Kind, e_bool v.Empty]
def B_laws_Column (v : S_laws_Column) : Prop := B_int v.Kind ∧ B_bool v.Empty
def e_Llaws_Column (l : (List S_laws_Column)) : LV := .sl 2 (l.map e_laws_Column)
def e_LLlaws_Value (l : (List (List S_laws_Value))) : LV := .sl 1 (l.map e_Llaws_Value)
structure S_laws_Table where
  Columns : (List S_laws_Column)
  Rows : (List (List S_laws_Value))
  deriving DecidableEq
def e_laws_Table (v : S_laws_Table) : LV := .agg [e_Llaws_Column v.Columns, e_LLlaws_Value v.Rows]
def B_laws_Table (v : S_laws_Table) : Prop := (B_list B_laws_Column) v.Columns ∧ (B_list (B_list B_laws_Value)) v.Rows
def e_Llaws_Table (l : (List S_laws_Table)) : LV := .sl 2 (l.map e_laws_Table)
structure S_laws_Change where
  In : Int
  Row : (List S_laws_Value)
  Come : Bool
  deriving DecidableEq
def e_laws_Change (v : S_laws_Change) : LV := .agg [e_int v.In, e_Llaws_Value v.Row, e_bool v.Come]
def B_laws_Change (v : S_laws_Change) : Prop := B_int v.In ∧ (B_list B_laws_Value) v.Row ∧ B_bool v.Come
structure S_impl_Column where
  Kind : Int
  Empty : Bool
  deriving DecidableEq
def e_impl_Column (v : S_impl_Column) : LV := .agg [e_int v.Kind, e_bool v.Empty]
def B_impl_Column (v : S_impl_Column) : Prop := B_int v.Kind ∧ B_bool v.Empty
def e_Limpl_Column (l : (List S_impl_Column)) : LV := .sl 2 (l.map e_impl_Column)
def e_LLimpl_Value (l : (List (List S_impl_Value))) : LV := .sl 1 (l.map e_Limpl_Value)
def em_LLimpl_Value (l : (List (List S_impl_Value))) : LV := .nw 1 (l.map e_Limpl_Value) false
structure S_impl_Table where
  Columns : (List S_impl_Column)
  Rows : (List (List S_impl_Value))
  deriving DecidableEq
def e_impl_Table (v : S_impl_Table) : LV := .agg [e_Limpl_Column v.Columns, e_LLimpl_Value v.Rows]
def em_impl_Table (v : S_impl_Table) : LV := .agg [.tup [e_Limpl_Column v.Columns], .nw 1 (v.Rows.map e_Limpl_Value) false]
def B_impl_Table (v : S_impl_Table) : Prop := (B_list B_impl_Column) v.Columns ∧ (B_list (B_list B_impl_Value)) v.Rows
def e_Limpl_Table (l : (List S_impl_Table)) : LV := .sl 2 (l.map e_impl_Table)
structure S_impl_Change where
  In : Int
  Row : (List S_impl_Value)
  Come : Bool
  deriving DecidableEq
def e_impl_Change (v : S_impl_Change) : LV := .agg [e_int v.In, e_Limpl_Value v.Row, e_bool v.Come]
def B_impl_Change (v : S_impl_Change) : Prop := B_int v.In ∧ (B_list B_impl_Value) v.Row ∧ B_bool v.Come
def e_Luint8 (l : (List UInt8)) : LV := .sl 1 (l.map e_uint8)
structure S_impl_Part where
  Kind : Int
  N : Int
  V : S_impl_Value
  deriving DecidableEq
def e_impl_Part (v : S_impl_Part) : LV := .agg [e_int v.Kind, e_int v.N, e_int v.V.Kind, e_int v.V.N, e_string v.V.S]
def B_impl_Part (v : S_impl_Part) : Prop := B_int v.Kind ∧ B_int v.N ∧ B_impl_Value v.V
def e_Limpl_Part (l : (List S_impl_Part)) : LV := .sl 5 (l.map e_impl_Part)
structure S_impl_Step where
  Kind : Int
  A : Int
  B : Int
  N : Int
  E : (List S_impl_Part)
  f_List : (List Int)
  deriving DecidableEq
def e_impl_Step (v : S_impl_Step) : LV := .agg [e_int v.Kind, e_int v.A, e_int v.B, e_int v.N, e_Limpl_Part v.E, e_Lint v.f_List]
def B_impl_Step (v : S_impl_Step) : Prop := B_int v.Kind ∧ B_int v.A ∧ B_int v.B ∧ B_int v.N ∧ (B_list B_impl_Part) v.E ∧ (B_list B_int) v.f_List
def e_Limpl_Step (l : (List S_impl_Step)) : LV := .sl 6 (l.map e_impl_Step)
def e_LLLimpl_Value (l : (List (List (List S_impl_Value)))) : LV := .sl 1 (l.map e_LLimpl_Value)
structure S_impl_Delta where
  Row : (List S_impl_Value)
  Many : Int
  deriving DecidableEq
def e_impl_Delta (v : S_impl_Delta) : LV := .agg [e_Limpl_Value v.Row, e_int v.Many]
def B_impl_Delta (v : S_impl_Delta) : Prop := (B_list B_impl_Value) v.Row ∧ B_int v.Many
def e_Limpl_Delta (l : (List S_impl_Delta)) : LV := .sl 2 (l.map e_impl_Delta)
def e_Lbool (l : (List Bool)) : LV := .sl 1 (l.map e_bool)
structure S_impl_made where
  columns : (List S_impl_Column)
  most : Int
  deriving DecidableEq
def e_impl_made (v : S_impl_made) : LV := .agg [e_Limpl_Column v.columns, e_int v.most]
def B_impl_made (v : S_impl_made) : Prop := (B_list B_impl_Column) v.columns ∧ B_int v.most
def e_Limpl_made (l : (List S_impl_made)) : LV := .sl 2 (l.map e_impl_made)
def e_LLimpl_Column (l : (List (List S_impl_Column))) : LV := .sl 1 (l.map e_Limpl_Column)
structure S_spec_l20Rd where
  b : (List UInt8)
  p : Int
  deriving DecidableEq
def e_spec_l20Rd (v : S_spec_l20Rd) : LV := .agg [e_Luint8 v.b, e_int v.p]
structure S_impl_Move where
  Kind : Int
  Who : Int
  Key : Int
  Row : (List S_impl_Value)
  deriving DecidableEq
def e_impl_Move (v : S_impl_Move) : LV := .agg [e_int v.Kind, e_int v.Who, e_int v.Key, e_Limpl_Value v.Row]
def B_impl_Move (v : S_impl_Move) : Prop := B_int v.Kind ∧ B_int v.Who ∧ B_int v.Key ∧ (B_list B_impl_Value) v.Row
def e_Limpl_Move (l : (List S_impl_Move)) : LV := .sl 4 (l.map e_impl_Move)
def e_Lstring (l : (List ByteArray)) : LV := .sl 1 (l.map e_string)
section
variable {E : Ent} {Q : Exit → LState → Prop} {s : LState} {all : Array Oper} {rest : List Oper} {d : Nat} {ty : TypeId} {pos : String} {af : Array Edge}
theorem _root_.Go.Lift.LWo.build_impl_Value {parts : List (Nat × Operand)} {ps : List (Nat × LV)} {ys : List LV} (v : S_impl_Value) (hps : parts.map (fun p => (p.1, s.eval p.2)) = ps) (hc : ps.all (fun p => p.2.cellable) = true) (hy : lfill (#[(0, 1), (1, 1), (2, 1)][·]?) [.imm (Go.Value.int Go.IntKind.i64 0), .imm (Go.Value.int Go.IntKind.i64 0), .imm (Go.Value.string { data := #[] })] ps = some ys) (hw : Wk (.agg ys) (e_impl_Value v)) (hd : Nat.blt d E.n = true := by exact rfl)
    (hn : LWo Try.prog E all rest Q (s.put (some d) (e_impl_Value v))) :
    LWo Try.prog E all ({ dst := some d, op := .build t_impl_Value parts.toArray, type := ty, pos := pos, after := af, guard := none } :: rest) Q s :=
  LWo.buildW (zs := [Go.Value.int Go.IntKind.i64 0, Go.Value.int Go.IntKind.i64 0, Go.Value.string { data := #[] }]) ys _ u_impl_Value z_impl_Value (fun w => by simp [Array.mapM_eq_mapM_toList, Try.sizeOf3, Try.sizeOf9]) rfl hps hc hy hw hd hn
theorem eqI_impl_Value (d : Nat) (a b : S_impl_Value) (w : World) : (Op.equalIn (d + 1 + 1) t_impl_Value (.agg #[.int .i64 a.Kind, .int .i64 a.N, .string a.S]) (.agg #[.int .i64 b.Kind, .int .i64 b.N, .string b.S])).run Try.prog w = .ok (((a.Kind == b.Kind) && ((a.N == b.N) && (a.S.toList == b.S.toList)))) w := by
  refine eqA_of u_impl_Value h_impl_Value ?_; refine eqf_cons rfl (part1 g_int rfl w) (part1 g_int rfl w) (run_equalIn_int w _ _ _ _ _ _ u_int) ?_; refine eqf_cons rfl (part1 g_int rfl w) (part1 g_int rfl w) (run_equalIn_int w _ _ _ _ _ _ u_int) ?_; exact eqf_last rfl (part1 g_string rfl w) (part1 g_string rfl w) (run_equalIn_string w _ _ _ _ u_string)
theorem eqV_impl_Value (a b : S_impl_Value) (w : World) : (Op.equal t_impl_Value (.agg #[.int .i64 a.Kind, .int .i64 a.N, .string a.S]) (.agg #[.int .i64 b.Kind, .int .i64 b.N, .string b.S])).run Try.prog w = .ok (decide (a = b)) w := by
  have h : (Op.equal t_impl_Value (.agg #[.int .i64 a.Kind, .int .i64 a.N, .string a.S]) (.agg #[.int .i64 b.Kind, .int .i64 b.N, .string b.S])).run Try.prog w = .ok (((a.Kind == b.Kind) && ((a.N == b.N) && (a.S.toList == b.S.toList)))) w := eqI_impl_Value 9998 a b w; refine h.trans (congrArg (fun x => Result.ok x w) ?_); cases a; cases b; simp only [S_impl_Value.mk.injEq]; rw [Bool.eq_iff_iff]; simp [bytes_beq]
theorem _root_.Go.Lift.LWo.eq_impl_Value {t' : TypeId} {x y : Operand} (a b : S_impl_Value) (hx : s.eval x = e_impl_Value a) (hy : s.eval y = e_impl_Value b) (hd : Nat.blt d E.n = true := by exact rfl) (hn : LWo Try.prog E all rest Q (s.put (some d) (.imm (.bool (decide (a = b)))))) :
    LWo Try.prog E all ({ dst := some d, op := .binOp .eql t_impl_Value x y t', type := ty, pos := pos, after := af, guard := none } :: rest) Q s :=
  LWo.eqA [.int .i64 a.Kind, .int .i64 a.N, .string a.S] [.int .i64 b.Kind, .int .i64 b.N, .string b.S] _ q_impl_Value (eqV_impl_Value a b) hx rfl hy rfl hd hn
theorem _root_.Go.Lift.LWo.alloc_impl_Value (k : Nat) (hl : Lift.lone k (hdel k s.h) = true) (hkp : E.keep.contains k = false := by exact rfl) (hd : Nat.blt d E.n = true := by exact rfl)
    (hn : LWo Try.prog E all rest Q { tm := (d, .ptr k 0 0) :: kill k s.tm, h := (k, vob 3 e_impl_Value ((⟨(0 : Int), (0 : Int), (⟨#[]⟩ : ByteArray)⟩ : S_impl_Value) : S_impl_Value)) :: hdel k s.h }) :
    LWo Try.prog E all ({ dst := some d, op := .alloc t_impl_Value, type := ty, pos := pos, after := af, guard := none } :: rest) Q s :=
  LWo.allocW (zs := [Go.Value.int Go.IntKind.i64 0, Go.Value.int Go.IntKind.i64 0, Go.Value.string { data := #[] }]) (f := e_impl_Value) (y := (⟨(0 : Int), (0 : Int), (⟨#[]⟩ : ByteArray)⟩ : S_impl_Value)) k z_impl_Value rfl rfl rfl (.cons .refl (.cons .refl (.cons .refl .nil))) rfl hl hkp hd hn
theorem _root_.Go.Lift.LWo.build_impl_Version {parts : List (Nat × Operand)} {ps : List (Nat × LV)} {ys : List LV} (v : S_impl_Version) (hps : parts.map (fun p => (p.1, s.eval p.2)) = ps) (hc : ps.all (fun p => p.2.cellable) = true) (hy : lfill (#[(0, 1), (1, 1), (2, 1), (3, 1)][·]?) [.imm (Go.Value.int Go.IntKind.i64 0), .imm (Go.Value.int Go.IntKind.i64 0), .imm (Go.Value.int Go.IntKind.i64 0), .imm (Go.Value.slice none 0 0)] ps = some ys) (hw : Wk (.agg ys) (e_impl_Version v)) (hd : Nat.blt d E.n = true := by exact rfl)
    (hn : LWo Try.prog E all rest Q (s.put (some d) (e_impl_Version v))) :
    LWo Try.prog E all ({ dst := some d, op := .build t_impl_Version parts.toArray, type := ty, pos := pos, after := af, guard := none } :: rest) Q s :=
  LWo.buildW (zs := [Go.Value.int Go.IntKind.i64 0, Go.Value.int Go.IntKind.i64 0, Go.Value.int Go.IntKind.i64 0, Go.Value.slice none 0 0]) ys _ u_impl_Version z_impl_Version (fun w => by simp [Array.mapM_eq_mapM_toList, Try.sizeOf3, Try.sizeOf42]) rfl hps hc hy hw hd hn
theorem _root_.Go.Lift.LWo.alloc_impl_Version (k : Nat) (hl : Lift.lone k (hdel k s.h) = true) (hkp : E.keep.contains k = false := by exact rfl) (hd : Nat.blt d E.n = true := by exact rfl)
    (hn : LWo Try.prog E all rest Q { tm := (d, .ptr k 0 0) :: kill k s.tm, h := (k, vob 4 e_impl_Version ((⟨(0 : Int), (0 : Int), (0 : Int), []⟩ : S_impl_Version) : S_impl_Version)) :: hdel k s.h }) :
    LWo Try.prog E all ({ dst := some d, op := .alloc t_impl_Version, type := ty, pos := pos, after := af, guard := none } :: rest) Q s :=
  LWo.allocW (zs := [Go.Value.int Go.IntKind.i64 0, Go.Value.int Go.IntKind.i64 0, Go.Value.int Go.IntKind.i64 0, Go.Value.slice none 0 0]) (f := e_impl_Version) (y := (⟨(0 : Int), (0 : Int), (0 : Int), []⟩ : S_impl_Version)) k z_impl_Version rfl rfl rfl (.cons .refl (.cons .refl (.cons .refl (.cons .nil .nil)))) rfl hl hkp hd hn
theorem _root_.Go.Lift.LWo.build_impl_Write {parts : List (Nat × Operand)} {ps : List (Nat × LV)} {ys : List LV} (v : S_impl_Write) (hps : parts.map (fun p => (p.1, s.eval p.2)) = ps) (hc : ps.all (fun p => p.2.cellable) = true) (hy : lfill (#[(0, 1), (1, 1), (2, 1)][·]?) [.imm (Go.Value.int Go.IntKind.i64 0), .imm (Go.Value.slice none 0 0), .imm (Go.Value.bool false)] ps = some ys) (hw : Wk (.agg ys) (e_impl_Write v)) (hd : Nat.blt d E.n = true := by exact rfl)
    (hn : LWo Try.prog E all rest Q (s.put (some d) (e_impl_Write v))) :
    LWo Try.prog E all ({ dst := some d, op := .build t_impl_Write parts.toArray, type := ty, pos := pos, after := af, guard := none } :: rest) Q s :=
  LWo.buildW (zs := [Go.Value.int Go.IntKind.i64 0, Go.Value.slice none 0 0, Go.Value.bool false]) ys _ u_impl_Write z_impl_Write (fun w => by simp [Array.mapM_eq_mapM_toList, Try.sizeOf3, Try.sizeOf4, Try.sizeOf42]) rfl hps hc hy hw hd hn
theorem _root_.Go.Lift.LWo.alloc_impl_Write (k : Nat) (hl : Lift.lone k (hdel k s.h) = true) (hkp : E.keep.contains k = false := by exact rfl) (hd : Nat.blt d E.n = true := by exact rfl)
    (hn : LWo Try.prog E all rest Q { tm := (d, .ptr k 0 0) :: kill k s.tm, h := (k, vob 3 e_impl_Write ((⟨(0 : Int), [], false⟩ : S_impl_Write) : S_impl_Write)) :: hdel k s.h }) :
    LWo Try.prog E all ({ dst := some d, op := .alloc t_impl_Write, type := ty, pos := pos, after := af, guard := none } :: rest) Q s :=
  LWo.allocW (zs := [Go.Value.int Go.IntKind.i64 0, Go.Value.slice none 0 0, Go.Value.bool false]) (f := e_impl_Write) (y := (⟨(0 : Int), [], false⟩ : S_impl_Write)) k z_impl_Write rfl rfl rfl (.cons .refl (.cons .nil (.cons .refl .nil))) rfl hl hkp hd hn
theorem _root_.Go.Lift.LWo.build_impl_Txn {parts : List (Nat × Operand)} {ps : List (Nat × LV)} {ys : List LV} (v : S_impl_Txn) (hps : parts.map (fun p => (p.1, s.eval p.2)) = ps) (hc : ps.all (fun p => p.2.cellable) = true) (hy : lfill (#[(0, 1), (1, 1), (2, 1), (3, 1), (4, 1)][·]?) [.imm (Go.Value.int Go.IntKind.i64 0), .imm (Go.Value.int Go.IntKind.i64 0), .imm (Go.Value.int Go.IntKind.i64 0), .imm (Go.Value.slice none 0 0), .imm (Go.Value.slice none 0 0)] ps = some ys) (hw : Wk (.agg ys) (e_impl_Txn v)) (hd : Nat.blt d E.n = true := by exact rfl)
    (hn : LWo Try.prog E all rest Q (s.put (some d) (e_impl_Txn v))) :
    LWo Try.prog E all ({ dst := some d, op := .build t_impl_Txn parts.toArray, type := ty, pos := pos, after := af, guard := none } :: rest) Q s :=
  LWo.buildW (zs := [Go.Value.int Go.IntKind.i64 0, Go.Value.int Go.IntKind.i64 0, Go.Value.int Go.IntKind.i64 0, Go.Value.slice none 0 0, Go.Value.slice none 0 0]) ys _ u_impl_Txn z_impl_Txn (fun w => by simp [Array.mapM_eq_mapM_toList, Try.sizeOf3, Try.sizeOf26, Try.sizeOf123]) rfl hps hc hy hw hd hn
theorem _root_.Go.Lift.LWo.alloc_impl_Txn (k : Nat) (hl : Lift.lone k (hdel k s.h) = true) (hkp : E.keep.contains k = false := by exact rfl) (hd : Nat.blt d E.n = true := by exact rfl)
    (hn : LWo Try.prog E all rest Q { tm := (d, .ptr k 0 0) :: kill k s.tm, h := (k, vob 5 e_impl_Txn ((⟨(0 : Int), (0 : Int), (0 : Int), [], []⟩ : S_impl_Txn) : S_impl_Txn)) :: hdel k s.h }) :
    LWo Try.prog E all ({ dst := some d, op := .alloc t_impl_Txn, type := ty, pos := pos, after := af, guard := none } :: rest) Q s :=
  LWo.allocW (zs := [Go.Value.int Go.IntKind.i64 0, Go.Value.int Go.IntKind.i64 0, Go.Value.int Go.IntKind.i64 0, Go.Value.slice none 0 0, Go.Value.slice none 0 0]) (f := e_impl_Txn) (y := (⟨(0 : Int), (0 : Int), (0 : Int), [], []⟩ : S_impl_Txn)) k z_impl_Txn rfl rfl rfl (.cons .refl (.cons .refl (.cons .refl (.cons .nil (.cons .nil .nil))))) rfl hl hkp hd hn
theorem _root_.Go.Lift.LWo.build_impl_House {parts : List (Nat × Operand)} {ps : List (Nat × LV)} {ys : List LV} (v : S_impl_House) (hps : parts.map (fun p => (p.1, s.eval p.2)) = ps) (hc : ps.all (fun p => p.2.cellable) = true) (hy : lfill (#[(0, 1), (1, 1), (2, 1)][·]?) [.imm (Go.Value.slice none 0 0), .imm (Go.Value.int Go.IntKind.i64 0), .imm (Go.Value.slice none 0 0)] ps = some ys) (hw : Wk (.agg ys) (e_impl_House v)) (hd : Nat.blt d E.n = true := by exact rfl)
    (hn : LWo Try.prog E all rest Q (s.put (some d) (e_impl_House v))) :
    LWo Try.prog E all ({ dst := some d, op := .build t_impl_House parts.toArray, type := ty, pos := pos, after := af, guard := none } :: rest) Q s :=
  LWo.buildW (zs := [Go.Value.slice none 0 0, Go.Value.int Go.IntKind.i64 0, Go.Value.slice none 0 0]) ys _ u_impl_House z_impl_House (fun w => by simp [Array.mapM_eq_mapM_toList, Try.sizeOf3, Try.sizeOf45, Try.sizeOf46]) rfl hps hc hy hw hd hn
theorem _root_.Go.Lift.LWo.buildR_impl_House {parts : List (Nat × Operand)} {ps : List (Nat × LV)} (ys : List LV) (hps : parts.map (fun p => (p.1, s.eval p.2)) = ps) (hc : ps.all (fun p => p.2.cellable) = true) (hy : lfill (#[(0, 1), (1, 1), (2, 1)][·]?) [.imm (Go.Value.slice none 0 0), .imm (Go.Value.int Go.IntKind.i64 0), .imm (Go.Value.slice none 0 0)] ps = some ys) (hd : Nat.blt d E.n = true := by exact rfl)
    (hn : LWo Try.prog E all rest Q (s.put (some d) (.agg ys))) :
    LWo Try.prog E all ({ dst := some d, op := .build t_impl_House parts.toArray, type := ty, pos := pos, after := af, guard := none } :: rest) Q s :=
  LWo.buildW (zs := [Go.Value.slice none 0 0, Go.Value.int Go.IntKind.i64 0, Go.Value.slice none 0 0]) ys _ u_impl_House z_impl_House (fun w => by simp [Array.mapM_eq_mapM_toList, Try.sizeOf3, Try.sizeOf45, Try.sizeOf46]) rfl hps hc hy .refl hd hn
theorem _root_.Go.Lift.LWo.alloc_impl_House (k : Nat) (hl : Lift.lone k (hdel k s.h) = true) (hkp : E.keep.contains k = false := by exact rfl) (hd : Nat.blt d E.n = true := by exact rfl)
    (hn : LWo Try.prog E all rest Q { tm := (d, .ptr k 0 0) :: kill k s.tm, h := (k, vob 3 e_impl_House ((⟨[], (0 : Int), []⟩ : S_impl_House) : S_impl_House)) :: hdel k s.h }) :
    LWo Try.prog E all ({ dst := some d, op := .alloc t_impl_House, type := ty, pos := pos, after := af, guard := none } :: rest) Q s :=
  LWo.allocW (zs := [Go.Value.slice none 0 0, Go.Value.int Go.IntKind.i64 0, Go.Value.slice none 0 0]) (f := e_impl_House) (y := (⟨[], (0 : Int), []⟩ : S_impl_House)) k z_impl_House rfl rfl rfl (.cons .nil (.cons .refl (.cons .nil .nil))) rfl hl hkp hd hn
theorem _root_.Go.Lift.LWo.allocX_impl_House (os : List (Nat × LV)) (k : Nat) (hy : ovr (e_impl_House ((⟨[], (0 : Int), []⟩ : S_impl_House) : S_impl_House)).cells os = [Go.Value.slice none 0 0, Go.Value.int Go.IntKind.i64 0, Go.Value.slice none 0 0].map LV.imm) (hl : Lift.lone k (hdel k s.h) = true) (hkp : E.keep.contains k = false := by exact rfl) (hd : Nat.blt d E.n = true := by exact rfl)
    (hn : LWo Try.prog E all rest Q { tm := (d, .ptr k 0 0) :: kill k s.tm, h := (k, xob 3 e_impl_House ((⟨[], (0 : Int), []⟩ : S_impl_House) : S_impl_House) os) :: hdel k s.h }) :
    LWo Try.prog E all ({ dst := some d, op := .alloc t_impl_House, type := ty, pos := pos, after := af, guard := none } :: rest) Q s :=
  LWo.allocX (zs := [Go.Value.slice none 0 0, Go.Value.int Go.IntKind.i64 0, Go.Value.slice none 0 0]) os k z_impl_House rfl rfl rfl hy hl hkp hd hn
theorem _root_.Go.Lift.LWo.build_impl_Column {parts : List (Nat × Operand)} {ps : List (Nat × LV)} {ys : List LV} (v : S_impl_Column) (hps : parts.map (fun p => (p.1, s.eval p.2)) = ps) (hc : ps.all (fun p => p.2.cellable) = true) (hy : lfill (#[(0, 1), (1, 1)][·]?) [.imm (Go.Value.int Go.IntKind.i64 0), .imm (Go.Value.bool false)] ps = some ys) (hw : Wk (.agg ys) (e_impl_Column v)) (hd : Nat.blt d E.n = true := by exact rfl)
    (hn : LWo Try.prog E all rest Q (s.put (some d) (e_impl_Column v))) :
    LWo Try.prog E all ({ dst := some d, op := .build t_impl_Column parts.toArray, type := ty, pos := pos, after := af, guard := none } :: rest) Q s :=
  LWo.buildW (zs := [Go.Value.int Go.IntKind.i64 0, Go.Value.bool false]) ys _ u_impl_Column z_impl_Column (fun w => by simp [Array.mapM_eq_mapM_toList, Try.sizeOf3, Try.sizeOf4]) rfl hps hc hy hw hd hn
theorem _root_.Go.Lift.LWo.build_spec_l20Rd {parts : List (Nat × Operand)} {ps : List (Nat × LV)} {ys : List LV} (v : S_spec_l20Rd) (hps : parts.map (fun p => (p.1, s.eval p.2)) = ps) (hc : ps.all (fun p => p.2.cellable) = true) (hy : lfill (#[(0, 1), (1, 1)][·]?) [.imm (Go.Value.slice none 0 0), .imm (Go.Value.int Go.IntKind.i64 0)] ps = some ys) (hw : Wk (.agg ys) (e_spec_l20Rd v)) (hd : Nat.blt d E.n = true := by exact rfl)
    (hn : LWo Try.prog E all rest Q (s.put (some d) (e_spec_l20Rd v))) :
    LWo Try.prog E all ({ dst := some d, op := .build t_spec_l20Rd parts.toArray, type := ty, pos := pos, after := af, guard := none } :: rest) Q s :=
  LWo.buildW (zs := [Go.Value.slice none 0 0, Go.Value.int Go.IntKind.i64 0]) ys _ u_spec_l20Rd z_spec_l20Rd (fun w => by simp [Array.mapM_eq_mapM_toList, Try.sizeOf3, Try.sizeOf73]) rfl hps hc hy hw hd hn
theorem _root_.Go.Lift.LWo.build_impl_Move {parts : List (Nat × Operand)} {ps : List (Nat × LV)} {ys : List LV} (v : S_impl_Move) (hps : parts.map (fun p => (p.1, s.eval p.2)) = ps) (hc : ps.all (fun p => p.2.cellable) = true) (hy : lfill (#[(0, 1), (1, 1), (2, 1), (3, 1)][·]?) [.imm (Go.Value.int Go.IntKind.i64 0), .imm (Go.Value.int Go.IntKind.i64 0), .imm (Go.Value.int Go.IntKind.i64 0), .imm (Go.Value.slice none 0 0)] ps = some ys) (hw : Wk (.agg ys) (e_impl_Move v)) (hd : Nat.blt d E.n = true := by exact rfl)
    (hn : LWo Try.prog E all rest Q (s.put (some d) (e_impl_Move v))) :
    LWo Try.prog E all ({ dst := some d, op := .build t_impl_Move parts.toArray, type := ty, pos := pos, after := af, guard := none } :: rest) Q s :=
  LWo.buildW (zs := [Go.Value.int Go.IntKind.i64 0, Go.Value.int Go.IntKind.i64 0, Go.Value.int Go.IntKind.i64 0, Go.Value.slice none 0 0]) ys _ u_impl_Move z_impl_Move (fun w => by simp [Array.mapM_eq_mapM_toList, Try.sizeOf3, Try.sizeOf42]) rfl hps hc hy hw hd hn
theorem _root_.Go.Lift.LWo.alloc_impl_Move (k : Nat) (hl : Lift.lone k (hdel k s.h) = true) (hkp : E.keep.contains k = false := by exact rfl) (hd : Nat.blt d E.n = true := by exact rfl)
    (hn : LWo Try.prog E all rest Q { tm := (d, .ptr k 0 0) :: kill k s.tm, h := (k, vob 4 e_impl_Move ((⟨(0 : Int), (0 : Int), (0 : Int), []⟩ : S_impl_Move) : S_impl_Move)) :: hdel k s.h }) :
    LWo Try.prog E all ({ dst := some d, op := .alloc t_impl_Move, type := ty, pos := pos, after := af, guard := none } :: rest) Q s :=
  LWo.allocW (zs := [Go.Value.int Go.IntKind.i64 0, Go.Value.int Go.IntKind.i64 0, Go.Value.int Go.IntKind.i64 0, Go.Value.slice none 0 0]) (f := e_impl_Move) (y := (⟨(0 : Int), (0 : Int), (0 : Int), []⟩ : S_impl_Move)) k z_impl_Move rfl rfl rfl (.cons .refl (.cons .refl (.cons .refl (.cons .nil .nil)))) rfl hl hkp hd hn
end
end Go.Proofs.Ytdkpmckpcejceaa
