/- The types of the program as Lean data, and the steps of the logic at them. -/
import Derived.Test.YtdkpmckpcejceaaDoorXNm
import Derived.Test.YtdkpmckpcejceaaDoorLd
import Derived.Test.YtdkpmckpcejceaaDoorXErr
import Derived.Laws.StructEq
set_option linter.unusedVariables false
set_option linter.unusedSimpArgs false
set_option linter.unnecessarySimpa false
set_option maxHeartbeats 4000000
namespace Go.Proofs.YtdkpmckpcejceaaDoor
open Go.Proofs Go.Lift Go.RowKit
theorem eqf_last {P : Program} {d : Nat} {xs ys : Array Value} {f : Field} {a b : Value} {r : Bool} {w : World} (hn : (f.name == "_") = false) (ha : (part f.type xs f.offset).run P w = .ok a w) (hb : (part f.type ys f.offset).run P w = .ok b w) (he : (Op.equalIn d f.type a b).run P w = .ok r w) : (Op.eqFields d xs ys [f]).run P w = .ok r w := by
  have hn' : f.name ≠ "_" := by simpa using hn
  simp only [Op.eqFields, if_pos hn', Sem.run_bind, ha, hb, he, Result.andThen_ok]; cases r <;> simp
theorem eqf_cons {P : Program} {d : Nat} {xs ys : Array Value} {f : Field} {fs : List Field} {a b : Value} {r s : Bool} {w : World} (hn : (f.name == "_") = false) (ha : (part f.type xs f.offset).run P w = .ok a w) (hb : (part f.type ys f.offset).run P w = .ok b w) (he : (Op.equalIn d f.type a b).run P w = .ok r w) (hr : (Op.eqFields d xs ys fs).run P w = .ok s w) : (Op.eqFields d xs ys (f :: fs)).run P w = .ok (r && s) w := by
  have hn' : f.name ≠ "_" := by simpa using hn
  rw [Op.eqFields]; simp only [if_pos hn', Sem.run_bind, ha, hb, he, Result.andThen_ok]; cases r
  · simp
  · simpa using hr
theorem eqA_of {P : Program} {d : Nat} {xs ys : Array Value} {r : Bool} {w : World} {t : TypeId} {fs : Array Field} (hu : P.underlying t = some (.struct fs)) (hp : P.stoodInHeld t = false) (h : (Op.eqFields d xs ys fs.toList).run P w = .ok r w) : (Op.equalIn (d + 1) t (.agg xs) (.agg ys)).run P w = .ok r w := by
  have hf : P.fieldsOf t = fs := by simp [Program.fieldsOf, hu]
  rw [run_equalIn_struct (P := P) w d t xs ys (by rw [hf]; exact hu) hp, hf]; exact h
theorem part1 {T : TypeId} {xs : Array Value} {i : Nat} {v : Value} (hg : ∀ w, (isAgg T).run Tryd.prog w = .ok false w) (h : xs[i]? = some v) (w : World) : (part T xs i).run Tryd.prog w = .ok v w := by
  simp [part, hg, h]
theorem bytes_beq (a b : ByteArray) : (a.toList = b.toList) ↔ (a = b) := by
  rw [ByteArray.toList_eq, ByteArray.toList_eq, Array.toList_inj]; exact ⟨fun h => ByteArray.ext h, fun h => by rw [h]⟩
def e_Luint8 (l : (List UInt8)) : LV := .sl 1 (l.map e_uint8)
structure S_impl_Value where
  Kind : Int
  N : Int
  S : ByteArray
  deriving DecidableEq
def e_impl_Value (v : S_impl_Value) : LV := .agg [e_int v.Kind, e_int v.N, e_string v.S]
def B_impl_Value (v : S_impl_Value) : Prop := B_int v.Kind ∧ B_int v.N ∧ B_string v.S
def e_Lstring (l : (List ByteArray)) : LV := .sl 1 (l.map e_string)
def e_Lint (l : (List Int)) : LV := .sl 1 (l.map e_int)
structure S_spec_l20Rd where
  b : (List UInt8)
  p : Int
  deriving DecidableEq
def e_spec_l20Rd (v : S_spec_l20Rd) : LV := .agg [e_Luint8 v.b, e_int v.p]
structure S_errors_errorString where
  s : ByteArray
  deriving DecidableEq
def e_errors_errorString (v : S_errors_errorString) : LV := .agg [e_string v.s]
def B_errors_errorString (v : S_errors_errorString) : Prop := B_string v.s
section
variable {E : Ent} {Q : Exit → LState → Prop} {s : LState} {all : Array Oper} {rest : List Oper} {d : Nat} {ty : TypeId} {pos : String} {af : Array Edge}
theorem _root_.Go.Lift.LWo.build_impl_Value {parts : List (Nat × Operand)} {ps : List (Nat × LV)} {ys : List LV} (v : S_impl_Value) (hps : parts.map (fun p => (p.1, s.eval p.2)) = ps) (hc : ps.all (fun p => p.2.cellable) = true) (hy : lfill (#[(0, 1), (1, 1), (2, 1)][·]?) [.imm (Go.Value.int Go.IntKind.i64 0), .imm (Go.Value.int Go.IntKind.i64 0), .imm (Go.Value.string { data := #[] })] ps = some ys) (hw : Wk (.agg ys) (e_impl_Value v)) (hd : Nat.blt d E.n = true := by exact rfl)
    (hn : LWo Tryd.prog E all rest Q (s.put (some d) (e_impl_Value v))) :
    LWo Tryd.prog E all ({ dst := some d, op := .build t_impl_Value parts.toArray, type := ty, pos := pos, after := af, guard := none } :: rest) Q s :=
  LWo.buildW (zs := [Go.Value.int Go.IntKind.i64 0, Go.Value.int Go.IntKind.i64 0, Go.Value.string { data := #[] }]) ys _ u_impl_Value z_impl_Value (fun w => by simp [Array.mapM_eq_mapM_toList, Tryd.sizeOf3, Tryd.sizeOf9]) rfl hps hc hy hw hd hn
theorem eqI_impl_Value (d : Nat) (a b : S_impl_Value) (w : World) : (Op.equalIn (d + 1 + 1) t_impl_Value (.agg #[.int .i64 a.Kind, .int .i64 a.N, .string a.S]) (.agg #[.int .i64 b.Kind, .int .i64 b.N, .string b.S])).run Tryd.prog w = .ok (((a.Kind == b.Kind) && ((a.N == b.N) && (a.S.toList == b.S.toList)))) w := by
  refine eqA_of u_impl_Value h_impl_Value ?_; refine eqf_cons rfl (part1 g_int rfl w) (part1 g_int rfl w) (run_equalIn_int w _ _ _ _ _ _ u_int) ?_; refine eqf_cons rfl (part1 g_int rfl w) (part1 g_int rfl w) (run_equalIn_int w _ _ _ _ _ _ u_int) ?_; exact eqf_last rfl (part1 g_string rfl w) (part1 g_string rfl w) (run_equalIn_string w _ _ _ _ u_string)
theorem eqV_impl_Value (a b : S_impl_Value) (w : World) : (Op.equal t_impl_Value (.agg #[.int .i64 a.Kind, .int .i64 a.N, .string a.S]) (.agg #[.int .i64 b.Kind, .int .i64 b.N, .string b.S])).run Tryd.prog w = .ok (decide (a = b)) w := by
  have h : (Op.equal t_impl_Value (.agg #[.int .i64 a.Kind, .int .i64 a.N, .string a.S]) (.agg #[.int .i64 b.Kind, .int .i64 b.N, .string b.S])).run Tryd.prog w = .ok (((a.Kind == b.Kind) && ((a.N == b.N) && (a.S.toList == b.S.toList)))) w := eqI_impl_Value 9998 a b w; refine h.trans (congrArg (fun x => Result.ok x w) ?_); cases a; cases b; simp only [S_impl_Value.mk.injEq]; rw [Bool.eq_iff_iff]; simp [bytes_beq]
theorem _root_.Go.Lift.LWo.eq_impl_Value {t' : TypeId} {x y : Operand} (a b : S_impl_Value) (hx : s.eval x = e_impl_Value a) (hy : s.eval y = e_impl_Value b) (hd : Nat.blt d E.n = true := by exact rfl) (hn : LWo Tryd.prog E all rest Q (s.put (some d) (.imm (.bool (decide (a = b)))))) :
    LWo Tryd.prog E all ({ dst := some d, op := .binOp .eql t_impl_Value x y t', type := ty, pos := pos, after := af, guard := none } :: rest) Q s :=
  LWo.eqA [.int .i64 a.Kind, .int .i64 a.N, .string a.S] [.int .i64 b.Kind, .int .i64 b.N, .string b.S] _ q_impl_Value (eqV_impl_Value a b) hx rfl hy rfl hd hn
theorem _root_.Go.Lift.LWo.alloc_impl_Value (k : Nat) (hl : Lift.lone k (hdel k s.h) = true) (hkp : E.keep.contains k = false := by exact rfl) (hd : Nat.blt d E.n = true := by exact rfl)
    (hn : LWo Tryd.prog E all rest Q { tm := (d, .ptr k 0 0) :: kill k s.tm, h := (k, vob 3 e_impl_Value ((⟨(0 : Int), (0 : Int), (⟨#[]⟩ : ByteArray)⟩ : S_impl_Value) : S_impl_Value)) :: hdel k s.h }) :
    LWo Tryd.prog E all ({ dst := some d, op := .alloc t_impl_Value, type := ty, pos := pos, after := af, guard := none } :: rest) Q s :=
  LWo.allocW (zs := [Go.Value.int Go.IntKind.i64 0, Go.Value.int Go.IntKind.i64 0, Go.Value.string { data := #[] }]) (f := e_impl_Value) (y := (⟨(0 : Int), (0 : Int), (⟨#[]⟩ : ByteArray)⟩ : S_impl_Value)) k z_impl_Value rfl rfl rfl (.cons .refl (.cons .refl (.cons .refl .nil))) rfl hl hkp hd hn
end
end Go.Proofs.YtdkpmckpcejceaaDoor
