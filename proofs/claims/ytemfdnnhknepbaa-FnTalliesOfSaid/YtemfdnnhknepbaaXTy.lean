/- The types of the program as Lean data, and the steps of the logic at them. -/
import Derived.Test.YtemfdnnhknepbaaXNm
import Derived.Test.YtemfdnnhknepbaaLd
import Derived.Laws.StructEq
set_option linter.unusedVariables false
set_option linter.unusedSimpArgs false
set_option linter.unnecessarySimpa false
namespace Go.Proofs.Ytemfdnnhknepbaa
open Go.Proofs Go.Lift Go.RowKit
theorem eqf_last {P : Program} {d : Nat} {xs ys : Array Value} {f : Field} {a b : Value} {r : Bool} {w : World} (hn : (f.name == "_") = false) (ha : (part f.type xs f.offset).run P w = .ok a w) (hb : (part f.type ys f.offset).run P w = .ok b w) (he : (Op.equalIn d f.type a b).run P w = .ok r w) : (Op.eqFields d xs ys [f]).run P w = .ok r w := by
  have hn' : f.name ≠ "_" := by simpa using hn
  simp only [Op.eqFields, if_pos hn', Sem.run_bind, ha, hb, he, Result.andThen_ok]
  cases r <;> simp
theorem eqf_cons {P : Program} {d : Nat} {xs ys : Array Value} {f : Field} {fs : List Field} {a b : Value} {r s : Bool} {w : World} (hn : (f.name == "_") = false) (ha : (part f.type xs f.offset).run P w = .ok a w) (hb : (part f.type ys f.offset).run P w = .ok b w) (he : (Op.equalIn d f.type a b).run P w = .ok r w) (hr : (Op.eqFields d xs ys fs).run P w = .ok s w) : (Op.eqFields d xs ys (f :: fs)).run P w = .ok (r && s) w := by
  have hn' : f.name ≠ "_" := by simpa using hn
  rw [Op.eqFields]
  simp only [if_pos hn', Sem.run_bind, ha, hb, he, Result.andThen_ok]
  cases r
  · simp
  · simpa using hr
theorem eqA_of {P : Program} {d : Nat} {xs ys : Array Value} {r : Bool} {w : World} {t : TypeId} {fs : Array Field} (hu : P.underlying t = some (.struct fs)) (hp : P.stoodInHeld t = false) (h : (Op.eqFields d xs ys fs.toList).run P w = .ok r w) : (Op.equalIn (d + 1) t (.agg xs) (.agg ys)).run P w = .ok r w := by
  have hf : P.fieldsOf t = fs := by simp [Program.fieldsOf, hu]
  rw [run_equalIn_struct (P := P) w d t xs ys (by rw [hf]; exact hu) hp, hf]
  exact h
theorem part1 {T : TypeId} {xs : Array Value} {i : Nat} {v : Value} (hg : ∀ w, (isAgg T).run Try.prog w = .ok false w) (h : xs[i]? = some v) (w : World) : (part T xs i).run Try.prog w = .ok v w := by
  simp [part, hg, h]
theorem bytes_beq (a b : ByteArray) : (a.toList = b.toList) ↔ (a = b) := by
  rw [ByteArray.toList_eq, ByteArray.toList_eq, Array.toList_inj]
  exact ⟨fun h => ByteArray.ext h, fun h => by rw [h]⟩
theorem pv1 {s : LState} {x : Operand} {i : Nat} {a : LV} (h : s.eval x = a) : [(i, x)].map (fun p => (p.1, s.eval p.2)) = [(i, a)] := by simp [h]
theorem pv2 {s : LState} {x y : Operand} {i j : Nat} {a b : LV} (h : s.eval x = a) (h2 : s.eval y = b) : [(i, x), (j, y)].map (fun p => (p.1, s.eval p.2)) = [(i, a), (j, b)] := by simp [h, h2]
theorem pv3 {s : LState} {x y z : Operand} {i j k : Nat} {a b c : LV} (h : s.eval x = a) (h2 : s.eval y = b) (h3 : s.eval z = c) : [(i, x), (j, y), (k, z)].map (fun p => (p.1, s.eval p.2)) = [(i, a), (j, b), (k, c)] := by simp [h, h2, h3]
def e_Luint8 (l : (List UInt8)) : LV := .sl 1 (l.map e_uint8)
structure S_impl_Value where
  Kind : Int
  N : Int
  S : ByteArray
  deriving DecidableEq
def e_impl_Value (v : S_impl_Value) : LV := .agg [e_int v.Kind, e_int v.N, e_string v.S]
def e_Limpl_Value (l : (List S_impl_Value)) : LV := .sl 3 (l.map e_impl_Value)
def e_LLimpl_Value (l : (List (List S_impl_Value))) : LV := .sl 1 (l.map e_Limpl_Value)
structure S_laws_Column where
  Kind : Int
  Empty : Bool
  deriving DecidableEq
def e_laws_Column (v : S_laws_Column) : LV := .agg [e_int v.Kind, e_bool v.Empty]
def e_Llaws_Column (l : (List S_laws_Column)) : LV := .sl 2 (l.map e_laws_Column)
structure S_laws_Value where
  Kind : Int
  N : Int
  S : ByteArray
  deriving DecidableEq
def e_laws_Value (v : S_laws_Value) : LV := .agg [e_int v.Kind, e_int v.N, e_string v.S]
def e_Llaws_Value (l : (List S_laws_Value)) : LV := .sl 3 (l.map e_laws_Value)
def e_LLlaws_Value (l : (List (List S_laws_Value))) : LV := .sl 1 (l.map e_Llaws_Value)
structure S_laws_Table where
  Columns : (List S_laws_Column)
  Rows : (List (List S_laws_Value))
  deriving DecidableEq
def e_laws_Table (v : S_laws_Table) : LV := .agg [e_Llaws_Column v.Columns, e_LLlaws_Value v.Rows]
def e_Llaws_Table (l : (List S_laws_Table)) : LV := .sl 2 (l.map e_laws_Table)
structure S_laws_Part where
  Kind : Int
  N : Int
  V : S_laws_Value
  deriving DecidableEq
def e_laws_Part (v : S_laws_Part) : LV := .agg [e_int v.Kind, e_int v.N, e_int v.V.Kind, e_int v.V.N, e_string v.V.S]
def e_Llaws_Part (l : (List S_laws_Part)) : LV := .sl 5 (l.map e_laws_Part)
structure S_laws_Guard where
  In : Int
  E : (List S_laws_Part)
  deriving DecidableEq
def e_laws_Guard (v : S_laws_Guard) : LV := .agg [e_int v.In, e_Llaws_Part v.E]
def e_Llaws_Guard (l : (List S_laws_Guard)) : LV := .sl 2 (l.map e_laws_Guard)
structure S_impl_Column where
  Kind : Int
  Empty : Bool
  deriving DecidableEq
def e_impl_Column (v : S_impl_Column) : LV := .agg [e_int v.Kind, e_bool v.Empty]
def e_Limpl_Column (l : (List S_impl_Column)) : LV := .sl 2 (l.map e_impl_Column)
structure S_impl_Table where
  Columns : (List S_impl_Column)
  Rows : (List (List S_impl_Value))
  deriving DecidableEq
def e_impl_Table (v : S_impl_Table) : LV := .agg [e_Limpl_Column v.Columns, e_LLimpl_Value v.Rows]
def e_Limpl_Table (l : (List S_impl_Table)) : LV := .sl 2 (l.map e_impl_Table)
structure S_impl_Part where
  Kind : Int
  N : Int
  V : S_impl_Value
  deriving DecidableEq
def e_impl_Part (v : S_impl_Part) : LV := .agg [e_int v.Kind, e_int v.N, e_int v.V.Kind, e_int v.V.N, e_string v.V.S]
def e_Limpl_Part (l : (List S_impl_Part)) : LV := .sl 5 (l.map e_impl_Part)
structure S_impl_Guard where
  In : Int
  E : (List S_impl_Part)
  deriving DecidableEq
def e_impl_Guard (v : S_impl_Guard) : LV := .agg [e_int v.In, e_Limpl_Part v.E]
def e_Limpl_Guard (l : (List S_impl_Guard)) : LV := .sl 2 (l.map e_impl_Guard)
structure S_impl_Tally where
  Key : (List S_impl_Value)
  Rows : Int
  Many : Int
  Sum : Int
  deriving DecidableEq
def e_impl_Tally (v : S_impl_Tally) : LV := .agg [e_Limpl_Value v.Key, e_int v.Rows, e_int v.Many, e_int v.Sum]
def e_Limpl_Tally (l : (List S_impl_Tally)) : LV := .sl 4 (l.map e_impl_Tally)
def e_LLLimpl_Value (l : (List (List (List S_impl_Value)))) : LV := .sl 1 (l.map e_LLimpl_Value)
def e_Lint (l : (List Int)) : LV := .sl 1 (l.map e_int)
structure S_spec_l20Rd where
  b : (List UInt8)
  p : Int
  deriving DecidableEq
def e_spec_l20Rd (v : S_spec_l20Rd) : LV := .agg [e_Luint8 v.b, e_int v.p]
def e_Lstring (l : (List ByteArray)) : LV := .sl 1 (l.map e_string)
section
variable {E : Ent} {Q : Exit → LState → Prop} {s : LState} {all : Array Oper} {rest : List Oper} {d : Nat} {ty : TypeId} {pos : String} {af : Array Edge}
theorem _root_.Go.Lift.LWo.alloc_int (k : Nat) (hl : Lift.lone k (hdel k s.h) = true) (hkp : E.keep.contains k = false := by exact rfl) (hd : Nat.blt d E.n = true := by exact rfl)
    (hn : LWo Try.prog E all rest Q { tm := (d, .ptr k 0 0) :: kill k s.tm, h := (k, vob 1 e_int ((0 : Int) : Int)) :: hdel k s.h }) :
    LWo Try.prog E all ({ dst := some d, op := .alloc t_int64, type := ty, pos := pos, after := af, guard := none } :: rest) Q s :=
  LWo.allocW (zs := [(Go.Value.int Go.IntKind.i64 0)]) (f := e_int) (y := (0 : Int)) k z_int64 rfl rfl rfl (.cons .refl .nil) rfl hl hkp hd hn
theorem _root_.Go.Lift.LWo.make_int {T e : TypeId} {x c : Operand} {kl kc : IntKind} {m n : Int} {r : List Int} (k : Nat) (hr : mk2? m n ((0 : Int) : Int) = some r) (hu : Try.prog.underlying T = some (.slice e)) (hinfo : (Try.prog.info? e).map (fun i => (i.size, i.bytes, i.zero)) = some (1, 8, some ((Go.Value.int Go.IntKind.i64 0)))) (hx : s.eval x = .imm (.int kl m)) (hc : s.eval c = .imm (.int kc n)) (hl : Lift.lone k (hdel k s.h) = true) (hkp : E.keep.contains k = false := by exact rfl) (hd : Nat.blt d E.n = true := by exact rfl)
    (hn : LWo Try.prog E all rest Q { tm := (d, .own k 0 r.length) :: kill k s.tm, h := (k, lob 1 e_int r) :: hdel k s.h }) :
    LWo Try.prog E all ({ dst := some d, op := .makeSlice T x c, type := ty, pos := pos, after := af, guard := none } :: rest) Q s := by
  obtain ⟨h0, h1, h2, rfl⟩ := mk2_b hr
  exact LWo.makeW (zs := [(Go.Value.int Go.IntKind.i64 0)]) (f := e_int) (y := ((0 : Int) : Int)) k h0 h1 h2 hu hinfo rfl rfl rfl (.cons .refl .nil) hx hc hl rfl hkp hd hn
theorem _root_.Go.Lift.LWo.alloc_bool (k : Nat) (hl : Lift.lone k (hdel k s.h) = true) (hkp : E.keep.contains k = false := by exact rfl) (hd : Nat.blt d E.n = true := by exact rfl)
    (hn : LWo Try.prog E all rest Q { tm := (d, .ptr k 0 0) :: kill k s.tm, h := (k, vob 1 e_bool (false : Bool)) :: hdel k s.h }) :
    LWo Try.prog E all ({ dst := some d, op := .alloc t_bool, type := ty, pos := pos, after := af, guard := none } :: rest) Q s :=
  LWo.allocW (zs := [(Go.Value.bool false)]) (f := e_bool) (y := false) k z_bool rfl rfl rfl (.cons .refl .nil) rfl hl hkp hd hn
theorem _root_.Go.Lift.LWo.alloc_uint8 (k : Nat) (hl : Lift.lone k (hdel k s.h) = true) (hkp : E.keep.contains k = false := by exact rfl) (hd : Nat.blt d E.n = true := by exact rfl)
    (hn : LWo Try.prog E all rest Q { tm := (d, .ptr k 0 0) :: kill k s.tm, h := (k, vob 1 e_uint8 ((0 : UInt8) : UInt8)) :: hdel k s.h }) :
    LWo Try.prog E all ({ dst := some d, op := .alloc t_uint8, type := ty, pos := pos, after := af, guard := none } :: rest) Q s :=
  LWo.allocW (zs := [(Go.Value.int Go.IntKind.u8 0)]) (f := e_uint8) (y := (0 : UInt8)) k z_uint8 rfl rfl rfl (.cons .refl .nil) rfl hl hkp hd hn
theorem _root_.Go.Lift.LWo.make_uint8 {T e : TypeId} {x c : Operand} {kl kc : IntKind} {m n : Int} {r : List UInt8} (k : Nat) (hr : mk2? m n ((0 : UInt8) : UInt8) = some r) (hu : Try.prog.underlying T = some (.slice e)) (hinfo : (Try.prog.info? e).map (fun i => (i.size, i.bytes, i.zero)) = some (1, 1, some ((Go.Value.int Go.IntKind.u8 0)))) (hx : s.eval x = .imm (.int kl m)) (hc : s.eval c = .imm (.int kc n)) (hl : Lift.lone k (hdel k s.h) = true) (hkp : E.keep.contains k = false := by exact rfl) (hd : Nat.blt d E.n = true := by exact rfl)
    (hn : LWo Try.prog E all rest Q { tm := (d, .own k 0 r.length) :: kill k s.tm, h := (k, lob 1 e_uint8 r) :: hdel k s.h }) :
    LWo Try.prog E all ({ dst := some d, op := .makeSlice T x c, type := ty, pos := pos, after := af, guard := none } :: rest) Q s := by
  obtain ⟨h0, h1, h2, rfl⟩ := mk2_b hr
  exact LWo.makeW (zs := [(Go.Value.int Go.IntKind.u8 0)]) (f := e_uint8) (y := ((0 : UInt8) : UInt8)) k h0 h1 h2 hu hinfo rfl rfl rfl (.cons .refl .nil) hx hc hl rfl hkp hd hn
theorem _root_.Go.Lift.LWo.alloc_string (k : Nat) (hl : Lift.lone k (hdel k s.h) = true) (hkp : E.keep.contains k = false := by exact rfl) (hd : Nat.blt d E.n = true := by exact rfl)
    (hn : LWo Try.prog E all rest Q { tm := (d, .ptr k 0 0) :: kill k s.tm, h := (k, vob 1 e_string ((⟨#[]⟩ : ByteArray) : ByteArray)) :: hdel k s.h }) :
    LWo Try.prog E all ({ dst := some d, op := .alloc t_string, type := ty, pos := pos, after := af, guard := none } :: rest) Q s :=
  LWo.allocW (zs := [(Go.Value.string { data := #[] })]) (f := e_string) (y := (⟨#[]⟩ : ByteArray)) k z_string rfl rfl rfl (.cons .refl .nil) rfl hl hkp hd hn
theorem _root_.Go.Lift.LWo.make_string {T e : TypeId} {x c : Operand} {kl kc : IntKind} {m n : Int} {r : List ByteArray} (k : Nat) (hr : mk2? m n ((⟨#[]⟩ : ByteArray) : ByteArray) = some r) (hu : Try.prog.underlying T = some (.slice e)) (hinfo : (Try.prog.info? e).map (fun i => (i.size, i.bytes, i.zero)) = some (1, 16, some ((Go.Value.string { data := #[] })))) (hx : s.eval x = .imm (.int kl m)) (hc : s.eval c = .imm (.int kc n)) (hl : Lift.lone k (hdel k s.h) = true) (hkp : E.keep.contains k = false := by exact rfl) (hd : Nat.blt d E.n = true := by exact rfl)
    (hn : LWo Try.prog E all rest Q { tm := (d, .own k 0 r.length) :: kill k s.tm, h := (k, lob 1 e_string r) :: hdel k s.h }) :
    LWo Try.prog E all ({ dst := some d, op := .makeSlice T x c, type := ty, pos := pos, after := af, guard := none } :: rest) Q s := by
  obtain ⟨h0, h1, h2, rfl⟩ := mk2_b hr
  exact LWo.makeW (zs := [(Go.Value.string { data := #[] })]) (f := e_string) (y := ((⟨#[]⟩ : ByteArray) : ByteArray)) k h0 h1 h2 hu hinfo rfl rfl rfl (.cons .refl .nil) hx hc hl rfl hkp hd hn
theorem _root_.Go.Lift.LWo.alloc_uint64 (k : Nat) (hl : Lift.lone k (hdel k s.h) = true) (hkp : E.keep.contains k = false := by exact rfl) (hd : Nat.blt d E.n = true := by exact rfl)
    (hn : LWo Try.prog E all rest Q { tm := (d, .ptr k 0 0) :: kill k s.tm, h := (k, vob 1 e_uint64 ((0 : Int) : Int)) :: hdel k s.h }) :
    LWo Try.prog E all ({ dst := some d, op := .alloc t_uintptr, type := ty, pos := pos, after := af, guard := none } :: rest) Q s :=
  LWo.allocW (zs := [(Go.Value.int Go.IntKind.u64 0)]) (f := e_uint64) (y := (0 : Int)) k z_uintptr rfl rfl rfl (.cons .refl .nil) rfl hl hkp hd hn
theorem _root_.Go.Lift.LWo.alloc_Luint8 (k : Nat) (hl : Lift.lone k (hdel k s.h) = true) (hkp : E.keep.contains k = false := by exact rfl) (hd : Nat.blt d E.n = true := by exact rfl)
    (hn : LWo Try.prog E all rest Q { tm := (d, .ptr k 0 0) :: kill k s.tm, h := (k, vob 1 e_Luint8 ([] : (List UInt8))) :: hdel k s.h }) :
    LWo Try.prog E all ({ dst := some d, op := .alloc t_Luint8, type := ty, pos := pos, after := af, guard := none } :: rest) Q s :=
  LWo.allocW (zs := [(Go.Value.slice none 0 0)]) (f := e_Luint8) (y := []) k z_Luint8 rfl rfl rfl (.cons .nil .nil) rfl hl hkp hd hn
theorem _root_.Go.Lift.LWo.build_impl_Value {parts : List (Nat × Operand)} {ps : List (Nat × LV)} {ys : List LV} (v : S_impl_Value) (hps : parts.map (fun p => (p.1, s.eval p.2)) = ps) (hc : ps.all (fun p => p.2.cellable) = true) (hy : lfill (#[(0, 1), (1, 1), (2, 1)][·]?) [.imm (Go.Value.int Go.IntKind.i64 0), .imm (Go.Value.int Go.IntKind.i64 0), .imm (Go.Value.string { data := #[] })] ps = some ys) (hw : Wk (.agg ys) (e_impl_Value v)) (hd : Nat.blt d E.n = true := by exact rfl)
    (hn : LWo Try.prog E all rest Q (s.put (some d) (e_impl_Value v))) :
    LWo Try.prog E all ({ dst := some d, op := .build t_impl_Value parts.toArray, type := ty, pos := pos, after := af, guard := none } :: rest) Q s :=
  LWo.buildW (zs := [Go.Value.int Go.IntKind.i64 0, Go.Value.int Go.IntKind.i64 0, Go.Value.string { data := #[] }]) ys _ u_impl_Value z_impl_Value (fun w => by simp [Array.mapM_eq_mapM_toList, Try.sizeOf3, Try.sizeOf9]) rfl hps hc hy hw hd hn
theorem eqI_impl_Value (d : Nat) (a b : S_impl_Value) (w : World) : (Op.equalIn (d + 1 + 1) t_impl_Value (.agg #[.int .i64 a.Kind, .int .i64 a.N, .string a.S]) (.agg #[.int .i64 b.Kind, .int .i64 b.N, .string b.S])).run Try.prog w = .ok (((a.Kind == b.Kind) && ((a.N == b.N) && (a.S.toList == b.S.toList)))) w := by
  refine eqA_of u_impl_Value h_impl_Value ?_
  refine eqf_cons rfl (part1 g_int rfl w) (part1 g_int rfl w) (run_equalIn_int w _ _ _ _ _ _ u_int) ?_
  refine eqf_cons rfl (part1 g_int rfl w) (part1 g_int rfl w) (run_equalIn_int w _ _ _ _ _ _ u_int) ?_
  exact eqf_last rfl (part1 g_string rfl w) (part1 g_string rfl w) (run_equalIn_string w _ _ _ _ u_string)
theorem eqV_impl_Value (a b : S_impl_Value) (w : World) : (Op.equal t_impl_Value (.agg #[.int .i64 a.Kind, .int .i64 a.N, .string a.S]) (.agg #[.int .i64 b.Kind, .int .i64 b.N, .string b.S])).run Try.prog w = .ok (decide (a = b)) w := by
  have h : (Op.equal t_impl_Value (.agg #[.int .i64 a.Kind, .int .i64 a.N, .string a.S]) (.agg #[.int .i64 b.Kind, .int .i64 b.N, .string b.S])).run Try.prog w = .ok (((a.Kind == b.Kind) && ((a.N == b.N) && (a.S.toList == b.S.toList)))) w := eqI_impl_Value 9998 a b w
  refine h.trans (congrArg (fun x => Result.ok x w) ?_)
  cases a; cases b
  simp only [S_impl_Value.mk.injEq]
  rw [Bool.eq_iff_iff]
  simp [bytes_beq]
theorem _root_.Go.Lift.LWo.eq_impl_Value {t' : TypeId} {x y : Operand} (a b : S_impl_Value) (hx : s.eval x = e_impl_Value a) (hy : s.eval y = e_impl_Value b) (hd : Nat.blt d E.n = true := by exact rfl) (hn : LWo Try.prog E all rest Q (s.put (some d) (.imm (.bool (decide (a = b)))))) :
    LWo Try.prog E all ({ dst := some d, op := .binOp .eql t_impl_Value x y t', type := ty, pos := pos, after := af, guard := none } :: rest) Q s :=
  LWo.eqA [.int .i64 a.Kind, .int .i64 a.N, .string a.S] [.int .i64 b.Kind, .int .i64 b.N, .string b.S] _ q_impl_Value (eqV_impl_Value a b) hx rfl hy rfl hd hn
theorem _root_.Go.Lift.LWo.ne_impl_Value {t' : TypeId} {x y : Operand} (a b : S_impl_Value) (hx : s.eval x = e_impl_Value a) (hy : s.eval y = e_impl_Value b) (hd : Nat.blt d E.n = true := by exact rfl) (hn : LWo Try.prog E all rest Q (s.put (some d) (.imm (.bool (!(decide (a = b))))))) :
    LWo Try.prog E all ({ dst := some d, op := .binOp .neq t_impl_Value x y t', type := ty, pos := pos, after := af, guard := none } :: rest) Q s :=
  LWo.neA [.int .i64 a.Kind, .int .i64 a.N, .string a.S] [.int .i64 b.Kind, .int .i64 b.N, .string b.S] _ q_impl_Value (eqV_impl_Value a b) hx rfl hy rfl hd hn
theorem _root_.Go.Lift.LWo.alloc_impl_Value (k : Nat) (hl : Lift.lone k (hdel k s.h) = true) (hkp : E.keep.contains k = false := by exact rfl) (hd : Nat.blt d E.n = true := by exact rfl)
    (hn : LWo Try.prog E all rest Q { tm := (d, .ptr k 0 0) :: kill k s.tm, h := (k, vob 3 e_impl_Value ((⟨(0 : Int), (0 : Int), (⟨#[]⟩ : ByteArray)⟩ : S_impl_Value) : S_impl_Value)) :: hdel k s.h }) :
    LWo Try.prog E all ({ dst := some d, op := .alloc t_impl_Value, type := ty, pos := pos, after := af, guard := none } :: rest) Q s :=
  LWo.allocW (zs := [Go.Value.int Go.IntKind.i64 0, Go.Value.int Go.IntKind.i64 0, Go.Value.string { data := #[] }]) (f := e_impl_Value) (y := (⟨(0 : Int), (0 : Int), (⟨#[]⟩ : ByteArray)⟩ : S_impl_Value)) k z_impl_Value rfl rfl rfl (.cons .refl (.cons .refl (.cons .refl .nil))) rfl hl hkp hd hn
theorem _root_.Go.Lift.LWo.make_impl_Value {T e : TypeId} {x c : Operand} {kl kc : IntKind} {m n : Int} {r : List S_impl_Value} (k : Nat) (hr : mk2? m n ((⟨(0 : Int), (0 : Int), (⟨#[]⟩ : ByteArray)⟩ : S_impl_Value) : S_impl_Value) = some r) (hu : Try.prog.underlying T = some (.slice e)) (hinfo : (Try.prog.info? e).map (fun i => (i.size, i.bytes, i.zero)) = some (3, 32, some ((Go.Value.agg #[Go.Value.int Go.IntKind.i64 0, Go.Value.int Go.IntKind.i64 0, Go.Value.string { data := #[] }])))) (hx : s.eval x = .imm (.int kl m)) (hc : s.eval c = .imm (.int kc n)) (hl : Lift.lone k (hdel k s.h) = true) (hkp : E.keep.contains k = false := by exact rfl) (hd : Nat.blt d E.n = true := by exact rfl)
    (hn : LWo Try.prog E all rest Q { tm := (d, .own k 0 r.length) :: kill k s.tm, h := (k, lob 3 e_impl_Value r) :: hdel k s.h }) :
    LWo Try.prog E all ({ dst := some d, op := .makeSlice T x c, type := ty, pos := pos, after := af, guard := none } :: rest) Q s := by
  obtain ⟨h0, h1, h2, rfl⟩ := mk2_b hr
  exact LWo.makeW (zs := [Go.Value.int Go.IntKind.i64 0, Go.Value.int Go.IntKind.i64 0, Go.Value.string { data := #[] }]) (f := e_impl_Value) (y := ((⟨(0 : Int), (0 : Int), (⟨#[]⟩ : ByteArray)⟩ : S_impl_Value) : S_impl_Value)) k h0 h1 h2 hu hinfo rfl rfl rfl (.cons .refl (.cons .refl (.cons .refl .nil))) hx hc hl rfl hkp hd hn
theorem _root_.Go.Lift.LWo.alloc_Limpl_Value (k : Nat) (hl : Lift.lone k (hdel k s.h) = true) (hkp : E.keep.contains k = false := by exact rfl) (hd : Nat.blt d E.n = true := by exact rfl)
    (hn : LWo Try.prog E all rest Q { tm := (d, .ptr k 0 0) :: kill k s.tm, h := (k, vob 1 e_Limpl_Value ([] : (List S_impl_Value))) :: hdel k s.h }) :
    LWo Try.prog E all ({ dst := some d, op := .alloc t_Limpl_Value, type := ty, pos := pos, after := af, guard := none } :: rest) Q s :=
  LWo.allocW (zs := [(Go.Value.slice none 0 0)]) (f := e_Limpl_Value) (y := []) k z_Limpl_Value rfl rfl rfl (.cons .nil .nil) rfl hl hkp hd hn
theorem _root_.Go.Lift.LWo.make_Limpl_Value {T e : TypeId} {x c : Operand} {kl kc : IntKind} {m n : Int} {r : List (List S_impl_Value)} (k : Nat) (hr : mk2? m n ([] : (List S_impl_Value)) = some r) (hu : Try.prog.underlying T = some (.slice e)) (hinfo : (Try.prog.info? e).map (fun i => (i.size, i.bytes, i.zero)) = some (1, 24, some ((Go.Value.slice none 0 0)))) (hx : s.eval x = .imm (.int kl m)) (hc : s.eval c = .imm (.int kc n)) (hl : Lift.lone k (hdel k s.h) = true) (hkp : E.keep.contains k = false := by exact rfl) (hd : Nat.blt d E.n = true := by exact rfl)
    (hn : LWo Try.prog E all rest Q { tm := (d, .own k 0 r.length) :: kill k s.tm, h := (k, lob 1 e_Limpl_Value r) :: hdel k s.h }) :
    LWo Try.prog E all ({ dst := some d, op := .makeSlice T x c, type := ty, pos := pos, after := af, guard := none } :: rest) Q s := by
  obtain ⟨h0, h1, h2, rfl⟩ := mk2_b hr
  exact LWo.makeW (zs := [(Go.Value.slice none 0 0)]) (f := e_Limpl_Value) (y := ([] : (List S_impl_Value))) k h0 h1 h2 hu hinfo rfl rfl rfl (.cons .nil .nil) hx hc hl rfl hkp hd hn
theorem _root_.Go.Lift.LWo.alloc_LLimpl_Value (k : Nat) (hl : Lift.lone k (hdel k s.h) = true) (hkp : E.keep.contains k = false := by exact rfl) (hd : Nat.blt d E.n = true := by exact rfl)
    (hn : LWo Try.prog E all rest Q { tm := (d, .ptr k 0 0) :: kill k s.tm, h := (k, vob 1 e_LLimpl_Value ([] : (List (List S_impl_Value)))) :: hdel k s.h }) :
    LWo Try.prog E all ({ dst := some d, op := .alloc t_LLimpl_Value, type := ty, pos := pos, after := af, guard := none } :: rest) Q s :=
  LWo.allocW (zs := [(Go.Value.slice none 0 0)]) (f := e_LLimpl_Value) (y := []) k z_LLimpl_Value rfl rfl rfl (.cons .nil .nil) rfl hl hkp hd hn
theorem _root_.Go.Lift.LWo.make_LLimpl_Value {T e : TypeId} {x c : Operand} {kl kc : IntKind} {m n : Int} {r : List (List (List S_impl_Value))} (k : Nat) (hr : mk2? m n ([] : (List (List S_impl_Value))) = some r) (hu : Try.prog.underlying T = some (.slice e)) (hinfo : (Try.prog.info? e).map (fun i => (i.size, i.bytes, i.zero)) = some (1, 24, some ((Go.Value.slice none 0 0)))) (hx : s.eval x = .imm (.int kl m)) (hc : s.eval c = .imm (.int kc n)) (hl : Lift.lone k (hdel k s.h) = true) (hkp : E.keep.contains k = false := by exact rfl) (hd : Nat.blt d E.n = true := by exact rfl)
    (hn : LWo Try.prog E all rest Q { tm := (d, .own k 0 r.length) :: kill k s.tm, h := (k, lob 1 e_LLimpl_Value r) :: hdel k s.h }) :
    LWo Try.prog E all ({ dst := some d, op := .makeSlice T x c, type := ty, pos := pos, after := af, guard := none } :: rest) Q s := by
  obtain ⟨h0, h1, h2, rfl⟩ := mk2_b hr
  exact LWo.makeW (zs := [(Go.Value.slice none 0 0)]) (f := e_LLimpl_Value) (y := ([] : (List (List S_impl_Value)))) k h0 h1 h2 hu hinfo rfl rfl rfl (.cons .nil .nil) hx hc hl rfl hkp hd hn
theorem _root_.Go.Lift.LWo.build_laws_Column {parts : List (Nat × Operand)} {ps : List (Nat × LV)} {ys : List LV} (v : S_laws_Column) (hps : parts.map (fun p => (p.1, s.eval p.2)) = ps) (hc : ps.all (fun p => p.2.cellable) = true) (hy : lfill (#[(0, 1), (1, 1)][·]?) [.imm (Go.Value.int Go.IntKind.i64 0), .imm (Go.Value.bool false)] ps = some ys) (hw : Wk (.agg ys) (e_laws_Column v)) (hd : Nat.blt d E.n = true := by exact rfl)
    (hn : LWo Try.prog E all rest Q (s.put (some d) (e_laws_Column v))) :
    LWo Try.prog E all ({ dst := some d, op := .build t_laws_Column parts.toArray, type := ty, pos := pos, after := af, guard := none } :: rest) Q s :=
  LWo.buildW (zs := [Go.Value.int Go.IntKind.i64 0, Go.Value.bool false]) ys _ u_laws_Column z_laws_Column (fun w => by simp [Array.mapM_eq_mapM_toList, Try.sizeOf3, Try.sizeOf4]) rfl hps hc hy hw hd hn
theorem eqI_laws_Column (d : Nat) (a b : S_laws_Column) (w : World) : (Op.equalIn (d + 1 + 1) t_laws_Column (.agg #[.int .i64 a.Kind, .bool a.Empty]) (.agg #[.int .i64 b.Kind, .bool b.Empty])).run Try.prog w = .ok (((a.Kind == b.Kind) && (a.Empty == b.Empty))) w := by
  refine eqA_of u_laws_Column h_laws_Column ?_
  refine eqf_cons rfl (part1 g_int rfl w) (part1 g_int rfl w) (run_equalIn_int w _ _ _ _ _ _ u_int) ?_
  exact eqf_last rfl (part1 g_bool rfl w) (part1 g_bool rfl w) (run_equalIn_bool' w _ _ _ _ u_bool)
theorem eqV_laws_Column (a b : S_laws_Column) (w : World) : (Op.equal t_laws_Column (.agg #[.int .i64 a.Kind, .bool a.Empty]) (.agg #[.int .i64 b.Kind, .bool b.Empty])).run Try.prog w = .ok (decide (a = b)) w := by
  have h : (Op.equal t_laws_Column (.agg #[.int .i64 a.Kind, .bool a.Empty]) (.agg #[.int .i64 b.Kind, .bool b.Empty])).run Try.prog w = .ok (((a.Kind == b.Kind) && (a.Empty == b.Empty))) w := eqI_laws_Column 9998 a b w
  refine h.trans (congrArg (fun x => Result.ok x w) ?_)
  cases a; cases b
  simp only [S_laws_Column.mk.injEq]
  rw [Bool.eq_iff_iff]
  simp [bytes_beq]
theorem _root_.Go.Lift.LWo.eq_laws_Column {t' : TypeId} {x y : Operand} (a b : S_laws_Column) (hx : s.eval x = e_laws_Column a) (hy : s.eval y = e_laws_Column b) (hd : Nat.blt d E.n = true := by exact rfl) (hn : LWo Try.prog E all rest Q (s.put (some d) (.imm (.bool (decide (a = b)))))) :
    LWo Try.prog E all ({ dst := some d, op := .binOp .eql t_laws_Column x y t', type := ty, pos := pos, after := af, guard := none } :: rest) Q s :=
  LWo.eqA [.int .i64 a.Kind, .bool a.Empty] [.int .i64 b.Kind, .bool b.Empty] _ q_laws_Column (eqV_laws_Column a b) hx rfl hy rfl hd hn
theorem _root_.Go.Lift.LWo.ne_laws_Column {t' : TypeId} {x y : Operand} (a b : S_laws_Column) (hx : s.eval x = e_laws_Column a) (hy : s.eval y = e_laws_Column b) (hd : Nat.blt d E.n = true := by exact rfl) (hn : LWo Try.prog E all rest Q (s.put (some d) (.imm (.bool (!(decide (a = b))))))) :
    LWo Try.prog E all ({ dst := some d, op := .binOp .neq t_laws_Column x y t', type := ty, pos := pos, after := af, guard := none } :: rest) Q s :=
  LWo.neA [.int .i64 a.Kind, .bool a.Empty] [.int .i64 b.Kind, .bool b.Empty] _ q_laws_Column (eqV_laws_Column a b) hx rfl hy rfl hd hn
theorem _root_.Go.Lift.LWo.alloc_laws_Column (k : Nat) (hl : Lift.lone k (hdel k s.h) = true) (hkp : E.keep.contains k = false := by exact rfl) (hd : Nat.blt d E.n = true := by exact rfl)
    (hn : LWo Try.prog E all rest Q { tm := (d, .ptr k 0 0) :: kill k s.tm, h := (k, vob 2 e_laws_Column ((⟨(0 : Int), false⟩ : S_laws_Column) : S_laws_Column)) :: hdel k s.h }) :
    LWo Try.prog E all ({ dst := some d, op := .alloc t_laws_Column, type := ty, pos := pos, after := af, guard := none } :: rest) Q s :=
  LWo.allocW (zs := [Go.Value.int Go.IntKind.i64 0, Go.Value.bool false]) (f := e_laws_Column) (y := (⟨(0 : Int), false⟩ : S_laws_Column)) k z_laws_Column rfl rfl rfl (.cons .refl (.cons .refl .nil)) rfl hl hkp hd hn
theorem _root_.Go.Lift.LWo.make_laws_Column {T e : TypeId} {x c : Operand} {kl kc : IntKind} {m n : Int} {r : List S_laws_Column} (k : Nat) (hr : mk2? m n ((⟨(0 : Int), false⟩ : S_laws_Column) : S_laws_Column) = some r) (hu : Try.prog.underlying T = some (.slice e)) (hinfo : (Try.prog.info? e).map (fun i => (i.size, i.bytes, i.zero)) = some (2, 16, some ((Go.Value.agg #[Go.Value.int Go.IntKind.i64 0, Go.Value.bool false])))) (hx : s.eval x = .imm (.int kl m)) (hc : s.eval c = .imm (.int kc n)) (hl : Lift.lone k (hdel k s.h) = true) (hkp : E.keep.contains k = false := by exact rfl) (hd : Nat.blt d E.n = true := by exact rfl)
    (hn : LWo Try.prog E all rest Q { tm := (d, .own k 0 r.length) :: kill k s.tm, h := (k, lob 2 e_laws_Column r) :: hdel k s.h }) :
    LWo Try.prog E all ({ dst := some d, op := .makeSlice T x c, type := ty, pos := pos, after := af, guard := none } :: rest) Q s := by
  obtain ⟨h0, h1, h2, rfl⟩ := mk2_b hr
  exact LWo.makeW (zs := [Go.Value.int Go.IntKind.i64 0, Go.Value.bool false]) (f := e_laws_Column) (y := ((⟨(0 : Int), false⟩ : S_laws_Column) : S_laws_Column)) k h0 h1 h2 hu hinfo rfl rfl rfl (.cons .refl (.cons .refl .nil)) hx hc hl rfl hkp hd hn
theorem _root_.Go.Lift.LWo.alloc_Llaws_Column (k : Nat) (hl : Lift.lone k (hdel k s.h) = true) (hkp : E.keep.contains k = false := by exact rfl) (hd : Nat.blt d E.n = true := by exact rfl)
    (hn : LWo Try.prog E all rest Q { tm := (d, .ptr k 0 0) :: kill k s.tm, h := (k, vob 1 e_Llaws_Column ([] : (List S_laws_Column))) :: hdel k s.h }) :
    LWo Try.prog E all ({ dst := some d, op := .alloc t_Llaws_Column, type := ty, pos := pos, after := af, guard := none } :: rest) Q s :=
  LWo.allocW (zs := [(Go.Value.slice none 0 0)]) (f := e_Llaws_Column) (y := []) k z_Llaws_Column rfl rfl rfl (.cons .nil .nil) rfl hl hkp hd hn
theorem _root_.Go.Lift.LWo.build_laws_Value {parts : List (Nat × Operand)} {ps : List (Nat × LV)} {ys : List LV} (v : S_laws_Value) (hps : parts.map (fun p => (p.1, s.eval p.2)) = ps) (hc : ps.all (fun p => p.2.cellable) = true) (hy : lfill (#[(0, 1), (1, 1), (2, 1)][·]?) [.imm (Go.Value.int Go.IntKind.i64 0), .imm (Go.Value.int Go.IntKind.i64 0), .imm (Go.Value.string { data := #[] })] ps = some ys) (hw : Wk (.agg ys) (e_laws_Value v)) (hd : Nat.blt d E.n = true := by exact rfl)
    (hn : LWo Try.prog E all rest Q (s.put (some d) (e_laws_Value v))) :
    LWo Try.prog E all ({ dst := some d, op := .build t_laws_Value parts.toArray, type := ty, pos := pos, after := af, guard := none } :: rest) Q s :=
  LWo.buildW (zs := [Go.Value.int Go.IntKind.i64 0, Go.Value.int Go.IntKind.i64 0, Go.Value.string { data := #[] }]) ys _ u_laws_Value z_laws_Value (fun w => by simp [Array.mapM_eq_mapM_toList, Try.sizeOf3, Try.sizeOf9]) rfl hps hc hy hw hd hn
theorem eqI_laws_Value (d : Nat) (a b : S_laws_Value) (w : World) : (Op.equalIn (d + 1 + 1) t_laws_Value (.agg #[.int .i64 a.Kind, .int .i64 a.N, .string a.S]) (.agg #[.int .i64 b.Kind, .int .i64 b.N, .string b.S])).run Try.prog w = .ok (((a.Kind == b.Kind) && ((a.N == b.N) && (a.S.toList == b.S.toList)))) w := by
  refine eqA_of u_laws_Value h_laws_Value ?_
  refine eqf_cons rfl (part1 g_int rfl w) (part1 g_int rfl w) (run_equalIn_int w _ _ _ _ _ _ u_int) ?_
  refine eqf_cons rfl (part1 g_int rfl w) (part1 g_int rfl w) (run_equalIn_int w _ _ _ _ _ _ u_int) ?_
  exact eqf_last rfl (part1 g_string rfl w) (part1 g_string rfl w) (run_equalIn_string w _ _ _ _ u_string)
theorem eqV_laws_Value (a b : S_laws_Value) (w : World) : (Op.equal t_laws_Value (.agg #[.int .i64 a.Kind, .int .i64 a.N, .string a.S]) (.agg #[.int .i64 b.Kind, .int .i64 b.N, .string b.S])).run Try.prog w = .ok (decide (a = b)) w := by
  have h : (Op.equal t_laws_Value (.agg #[.int .i64 a.Kind, .int .i64 a.N, .string a.S]) (.agg #[.int .i64 b.Kind, .int .i64 b.N, .string b.S])).run Try.prog w = .ok (((a.Kind == b.Kind) && ((a.N == b.N) && (a.S.toList == b.S.toList)))) w := eqI_laws_Value 9998 a b w
  refine h.trans (congrArg (fun x => Result.ok x w) ?_)
  cases a; cases b
  simp only [S_laws_Value.mk.injEq]
  rw [Bool.eq_iff_iff]
  simp [bytes_beq]
theorem _root_.Go.Lift.LWo.eq_laws_Value {t' : TypeId} {x y : Operand} (a b : S_laws_Value) (hx : s.eval x = e_laws_Value a) (hy : s.eval y = e_laws_Value b) (hd : Nat.blt d E.n = true := by exact rfl) (hn : LWo Try.prog E all rest Q (s.put (some d) (.imm (.bool (decide (a = b)))))) :
    LWo Try.prog E all ({ dst := some d, op := .binOp .eql t_laws_Value x y t', type := ty, pos := pos, after := af, guard := none } :: rest) Q s :=
  LWo.eqA [.int .i64 a.Kind, .int .i64 a.N, .string a.S] [.int .i64 b.Kind, .int .i64 b.N, .string b.S] _ q_laws_Value (eqV_laws_Value a b) hx rfl hy rfl hd hn
theorem _root_.Go.Lift.LWo.ne_laws_Value {t' : TypeId} {x y : Operand} (a b : S_laws_Value) (hx : s.eval x = e_laws_Value a) (hy : s.eval y = e_laws_Value b) (hd : Nat.blt d E.n = true := by exact rfl) (hn : LWo Try.prog E all rest Q (s.put (some d) (.imm (.bool (!(decide (a = b))))))) :
    LWo Try.prog E all ({ dst := some d, op := .binOp .neq t_laws_Value x y t', type := ty, pos := pos, after := af, guard := none } :: rest) Q s :=
  LWo.neA [.int .i64 a.Kind, .int .i64 a.N, .string a.S] [.int .i64 b.Kind, .int .i64 b.N, .string b.S] _ q_laws_Value (eqV_laws_Value a b) hx rfl hy rfl hd hn
theorem _root_.Go.Lift.LWo.alloc_laws_Value (k : Nat) (hl : Lift.lone k (hdel k s.h) = true) (hkp : E.keep.contains k = false := by exact rfl) (hd : Nat.blt d E.n = true := by exact rfl)
    (hn : LWo Try.prog E all rest Q { tm := (d, .ptr k 0 0) :: kill k s.tm, h := (k, vob 3 e_laws_Value ((⟨(0 : Int), (0 : Int), (⟨#[]⟩ : ByteArray)⟩ : S_laws_Value) : S_laws_Value)) :: hdel k s.h }) :
    LWo Try.prog E all ({ dst := some d, op := .alloc t_laws_Value, type := ty, pos := pos, after := af, guard := none } :: rest) Q s :=
  LWo.allocW (zs := [Go.Value.int Go.IntKind.i64 0, Go.Value.int Go.IntKind.i64 0, Go.Value.string { data := #[] }]) (f := e_laws_Value) (y := (⟨(0 : Int), (0 : Int), (⟨#[]⟩ : ByteArray)⟩ : S_laws_Value)) k z_laws_Value rfl rfl rfl (.cons .refl (.cons .refl (.cons .refl .nil))) rfl hl hkp hd hn
theorem _root_.Go.Lift.LWo.make_laws_Value {T e : TypeId} {x c : Operand} {kl kc : IntKind} {m n : Int} {r : List S_laws_Value} (k : Nat) (hr : mk2? m n ((⟨(0 : Int), (0 : Int), (⟨#[]⟩ : ByteArray)⟩ : S_laws_Value) : S_laws_Value) = some r) (hu : Try.prog.underlying T = some (.slice e)) (hinfo : (Try.prog.info? e).map (fun i => (i.size, i.bytes, i.zero)) = some (3, 32, some ((Go.Value.agg #[Go.Value.int Go.IntKind.i64 0, Go.Value.int Go.IntKind.i64 0, Go.Value.string { data := #[] }])))) (hx : s.eval x = .imm (.int kl m)) (hc : s.eval c = .imm (.int kc n)) (hl : Lift.lone k (hdel k s.h) = true) (hkp : E.keep.contains k = false := by exact rfl) (hd : Nat.blt d E.n = true := by exact rfl)
    (hn : LWo Try.prog E all rest Q { tm := (d, .own k 0 r.length) :: kill k s.tm, h := (k, lob 3 e_laws_Value r) :: hdel k s.h }) :
    LWo Try.prog E all ({ dst := some d, op := .makeSlice T x c, type := ty, pos := pos, after := af, guard := none } :: rest) Q s := by
  obtain ⟨h0, h1, h2, rfl⟩ := mk2_b hr
  exact LWo.makeW (zs := [Go.Value.int Go.IntKind.i64 0, Go.Value.int Go.IntKind.i64 0, Go.Value.string { data := #[] }]) (f := e_laws_Value) (y := ((⟨(0 : Int), (0 : Int), (⟨#[]⟩ : ByteArray)⟩ : S_laws_Value) : S_laws_Value)) k h0 h1 h2 hu hinfo rfl rfl rfl (.cons .refl (.cons .refl (.cons .refl .nil))) hx hc hl rfl hkp hd hn
theorem _root_.Go.Lift.LWo.alloc_Llaws_Value (k : Nat) (hl : Lift.lone k (hdel k s.h) = true) (hkp : E.keep.contains k = false := by exact rfl) (hd : Nat.blt d E.n = true := by exact rfl)
    (hn : LWo Try.prog E all rest Q { tm := (d, .ptr k 0 0) :: kill k s.tm, h := (k, vob 1 e_Llaws_Value ([] : (List S_laws_Value))) :: hdel k s.h }) :
    LWo Try.prog E all ({ dst := some d, op := .alloc t_Llaws_Value, type := ty, pos := pos, after := af, guard := none } :: rest) Q s :=
  LWo.allocW (zs := [(Go.Value.slice none 0 0)]) (f := e_Llaws_Value) (y := []) k z_Llaws_Value rfl rfl rfl (.cons .nil .nil) rfl hl hkp hd hn
theorem _root_.Go.Lift.LWo.make_Llaws_Value {T e : TypeId} {x c : Operand} {kl kc : IntKind} {m n : Int} {r : List (List S_laws_Value)} (k : Nat) (hr : mk2? m n ([] : (List S_laws_Value)) = some r) (hu : Try.prog.underlying T = some (.slice e)) (hinfo : (Try.prog.info? e).map (fun i => (i.size, i.bytes, i.zero)) = some (1, 24, some ((Go.Value.slice none 0 0)))) (hx : s.eval x = .imm (.int kl m)) (hc : s.eval c = .imm (.int kc n)) (hl : Lift.lone k (hdel k s.h) = true) (hkp : E.keep.contains k = false := by exact rfl) (hd : Nat.blt d E.n = true := by exact rfl)
    (hn : LWo Try.prog E all rest Q { tm := (d, .own k 0 r.length) :: kill k s.tm, h := (k, lob 1 e_Llaws_Value r) :: hdel k s.h }) :
    LWo Try.prog E all ({ dst := some d, op := .makeSlice T x c, type := ty, pos := pos, after := af, guard := none } :: rest) Q s := by
  obtain ⟨h0, h1, h2, rfl⟩ := mk2_b hr
  exact LWo.makeW (zs := [(Go.Value.slice none 0 0)]) (f := e_Llaws_Value) (y := ([] : (List S_laws_Value))) k h0 h1 h2 hu hinfo rfl rfl rfl (.cons .nil .nil) hx hc hl rfl hkp hd hn
theorem _root_.Go.Lift.LWo.alloc_LLlaws_Value (k : Nat) (hl : Lift.lone k (hdel k s.h) = true) (hkp : E.keep.contains k = false := by exact rfl) (hd : Nat.blt d E.n = true := by exact rfl)
    (hn : LWo Try.prog E all rest Q { tm := (d, .ptr k 0 0) :: kill k s.tm, h := (k, vob 1 e_LLlaws_Value ([] : (List (List S_laws_Value)))) :: hdel k s.h }) :
    LWo Try.prog E all ({ dst := some d, op := .alloc t_LLlaws_Value, type := ty, pos := pos, after := af, guard := none } :: rest) Q s :=
  LWo.allocW (zs := [(Go.Value.slice none 0 0)]) (f := e_LLlaws_Value) (y := []) k z_LLlaws_Value rfl rfl rfl (.cons .nil .nil) rfl hl hkp hd hn
theorem _root_.Go.Lift.LWo.build_laws_Table {parts : List (Nat × Operand)} {ps : List (Nat × LV)} {ys : List LV} (v : S_laws_Table) (hps : parts.map (fun p => (p.1, s.eval p.2)) = ps) (hc : ps.all (fun p => p.2.cellable) = true) (hy : lfill (#[(0, 1), (1, 1)][·]?) [.imm (Go.Value.slice none 0 0), .imm (Go.Value.slice none 0 0)] ps = some ys) (hw : Wk (.agg ys) (e_laws_Table v)) (hd : Nat.blt d E.n = true := by exact rfl)
    (hn : LWo Try.prog E all rest Q (s.put (some d) (e_laws_Table v))) :
    LWo Try.prog E all ({ dst := some d, op := .build t_laws_Table parts.toArray, type := ty, pos := pos, after := af, guard := none } :: rest) Q s :=
  LWo.buildW (zs := [Go.Value.slice none 0 0, Go.Value.slice none 0 0]) ys _ u_laws_Table z_laws_Table (fun w => by simp [Array.mapM_eq_mapM_toList, Try.sizeOf74, Try.sizeOf75]) rfl hps hc hy hw hd hn
theorem _root_.Go.Lift.LWo.alloc_laws_Table (k : Nat) (hl : Lift.lone k (hdel k s.h) = true) (hkp : E.keep.contains k = false := by exact rfl) (hd : Nat.blt d E.n = true := by exact rfl)
    (hn : LWo Try.prog E all rest Q { tm := (d, .ptr k 0 0) :: kill k s.tm, h := (k, vob 2 e_laws_Table ((⟨[], []⟩ : S_laws_Table) : S_laws_Table)) :: hdel k s.h }) :
    LWo Try.prog E all ({ dst := some d, op := .alloc t_laws_Table, type := ty, pos := pos, after := af, guard := none } :: rest) Q s :=
  LWo.allocW (zs := [Go.Value.slice none 0 0, Go.Value.slice none 0 0]) (f := e_laws_Table) (y := (⟨[], []⟩ : S_laws_Table)) k z_laws_Table rfl rfl rfl (.cons .nil (.cons .nil .nil)) rfl hl hkp hd hn
theorem _root_.Go.Lift.LWo.make_laws_Table {T e : TypeId} {x c : Operand} {kl kc : IntKind} {m n : Int} {r : List S_laws_Table} (k : Nat) (hr : mk2? m n ((⟨[], []⟩ : S_laws_Table) : S_laws_Table) = some r) (hu : Try.prog.underlying T = some (.slice e)) (hinfo : (Try.prog.info? e).map (fun i => (i.size, i.bytes, i.zero)) = some (2, 48, some ((Go.Value.agg #[Go.Value.slice none 0 0, Go.Value.slice none 0 0])))) (hx : s.eval x = .imm (.int kl m)) (hc : s.eval c = .imm (.int kc n)) (hl : Lift.lone k (hdel k s.h) = true) (hkp : E.keep.contains k = false := by exact rfl) (hd : Nat.blt d E.n = true := by exact rfl)
    (hn : LWo Try.prog E all rest Q { tm := (d, .own k 0 r.length) :: kill k s.tm, h := (k, lob 2 e_laws_Table r) :: hdel k s.h }) :
    LWo Try.prog E all ({ dst := some d, op := .makeSlice T x c, type := ty, pos := pos, after := af, guard := none } :: rest) Q s := by
  obtain ⟨h0, h1, h2, rfl⟩ := mk2_b hr
  exact LWo.makeW (zs := [Go.Value.slice none 0 0, Go.Value.slice none 0 0]) (f := e_laws_Table) (y := ((⟨[], []⟩ : S_laws_Table) : S_laws_Table)) k h0 h1 h2 hu hinfo rfl rfl rfl (.cons .nil (.cons .nil .nil)) hx hc hl rfl hkp hd hn
theorem _root_.Go.Lift.LWo.alloc_Llaws_Table (k : Nat) (hl : Lift.lone k (hdel k s.h) = true) (hkp : E.keep.contains k = false := by exact rfl) (hd : Nat.blt d E.n = true := by exact rfl)
    (hn : LWo Try.prog E all rest Q { tm := (d, .ptr k 0 0) :: kill k s.tm, h := (k, vob 1 e_Llaws_Table ([] : (List S_laws_Table))) :: hdel k s.h }) :
    LWo Try.prog E all ({ dst := some d, op := .alloc t_Llaws_Table, type := ty, pos := pos, after := af, guard := none } :: rest) Q s :=
  LWo.allocW (zs := [(Go.Value.slice none 0 0)]) (f := e_Llaws_Table) (y := []) k z_Llaws_Table rfl rfl rfl (.cons .nil .nil) rfl hl hkp hd hn
theorem _root_.Go.Lift.LWo.build_laws_Part {parts : List (Nat × Operand)} {ps : List (Nat × LV)} {ys : List LV} (v : S_laws_Part) (hps : parts.map (fun p => (p.1, s.eval p.2)) = ps) (hc : ps.all (fun p => p.2.cellable) = true) (hy : lfill (#[(0, 1), (1, 1), (2, 3)][·]?) [.imm (Go.Value.int Go.IntKind.i64 0), .imm (Go.Value.int Go.IntKind.i64 0), .imm (Go.Value.int Go.IntKind.i64 0), .imm (Go.Value.int Go.IntKind.i64 0), .imm (Go.Value.string { data := #[] })] ps = some ys) (hw : Wk (.agg ys) (e_laws_Part v)) (hd : Nat.blt d E.n = true := by exact rfl)
    (hn : LWo Try.prog E all rest Q (s.put (some d) (e_laws_Part v))) :
    LWo Try.prog E all ({ dst := some d, op := .build t_laws_Part parts.toArray, type := ty, pos := pos, after := af, guard := none } :: rest) Q s :=
  LWo.buildW (zs := [Go.Value.int Go.IntKind.i64 0, Go.Value.int Go.IntKind.i64 0, Go.Value.int Go.IntKind.i64 0, Go.Value.int Go.IntKind.i64 0, Go.Value.string { data := #[] }]) ys _ u_laws_Part z_laws_Part (fun w => by simp [Array.mapM_eq_mapM_toList, Try.sizeOf3, Try.sizeOf159]) rfl hps hc hy hw hd hn
theorem _root_.Go.Lift.LWo.alloc_laws_Part (k : Nat) (hl : Lift.lone k (hdel k s.h) = true) (hkp : E.keep.contains k = false := by exact rfl) (hd : Nat.blt d E.n = true := by exact rfl)
    (hn : LWo Try.prog E all rest Q { tm := (d, .ptr k 0 0) :: kill k s.tm, h := (k, vob 5 e_laws_Part ((⟨(0 : Int), (0 : Int), (⟨(0 : Int), (0 : Int), (⟨#[]⟩ : ByteArray)⟩ : S_laws_Value)⟩ : S_laws_Part) : S_laws_Part)) :: hdel k s.h }) :
    LWo Try.prog E all ({ dst := some d, op := .alloc t_laws_Part, type := ty, pos := pos, after := af, guard := none } :: rest) Q s :=
  LWo.allocW (zs := [Go.Value.int Go.IntKind.i64 0, Go.Value.int Go.IntKind.i64 0, Go.Value.int Go.IntKind.i64 0, Go.Value.int Go.IntKind.i64 0, Go.Value.string { data := #[] }]) (f := e_laws_Part) (y := (⟨(0 : Int), (0 : Int), (⟨(0 : Int), (0 : Int), (⟨#[]⟩ : ByteArray)⟩ : S_laws_Value)⟩ : S_laws_Part)) k z_laws_Part rfl rfl rfl (.cons .refl (.cons .refl (.cons .refl (.cons .refl (.cons .refl .nil))))) rfl hl hkp hd hn
theorem _root_.Go.Lift.LWo.make_laws_Part {T e : TypeId} {x c : Operand} {kl kc : IntKind} {m n : Int} {r : List S_laws_Part} (k : Nat) (hr : mk2? m n ((⟨(0 : Int), (0 : Int), (⟨(0 : Int), (0 : Int), (⟨#[]⟩ : ByteArray)⟩ : S_laws_Value)⟩ : S_laws_Part) : S_laws_Part) = some r) (hu : Try.prog.underlying T = some (.slice e)) (hinfo : (Try.prog.info? e).map (fun i => (i.size, i.bytes, i.zero)) = some (5, 48, some ((Go.Value.agg #[Go.Value.int Go.IntKind.i64 0, Go.Value.int Go.IntKind.i64 0, Go.Value.int Go.IntKind.i64 0, Go.Value.int Go.IntKind.i64 0, Go.Value.string { data := #[] }])))) (hx : s.eval x = .imm (.int kl m)) (hc : s.eval c = .imm (.int kc n)) (hl : Lift.lone k (hdel k s.h) = true) (hkp : E.keep.contains k = false := by exact rfl) (hd : Nat.blt d E.n = true := by exact rfl)
    (hn : LWo Try.prog E all rest Q { tm := (d, .own k 0 r.length) :: kill k s.tm, h := (k, lob 5 e_laws_Part r) :: hdel k s.h }) :
    LWo Try.prog E all ({ dst := some d, op := .makeSlice T x c, type := ty, pos := pos, after := af, guard := none } :: rest) Q s := by
  obtain ⟨h0, h1, h2, rfl⟩ := mk2_b hr
  exact LWo.makeW (zs := [Go.Value.int Go.IntKind.i64 0, Go.Value.int Go.IntKind.i64 0, Go.Value.int Go.IntKind.i64 0, Go.Value.int Go.IntKind.i64 0, Go.Value.string { data := #[] }]) (f := e_laws_Part) (y := ((⟨(0 : Int), (0 : Int), (⟨(0 : Int), (0 : Int), (⟨#[]⟩ : ByteArray)⟩ : S_laws_Value)⟩ : S_laws_Part) : S_laws_Part)) k h0 h1 h2 hu hinfo rfl rfl rfl (.cons .refl (.cons .refl (.cons .refl (.cons .refl (.cons .refl .nil))))) hx hc hl rfl hkp hd hn
theorem _root_.Go.Lift.LWo.alloc_Llaws_Part (k : Nat) (hl : Lift.lone k (hdel k s.h) = true) (hkp : E.keep.contains k = false := by exact rfl) (hd : Nat.blt d E.n = true := by exact rfl)
    (hn : LWo Try.prog E all rest Q { tm := (d, .ptr k 0 0) :: kill k s.tm, h := (k, vob 1 e_Llaws_Part ([] : (List S_laws_Part))) :: hdel k s.h }) :
    LWo Try.prog E all ({ dst := some d, op := .alloc t_Llaws_Part, type := ty, pos := pos, after := af, guard := none } :: rest) Q s :=
  LWo.allocW (zs := [(Go.Value.slice none 0 0)]) (f := e_Llaws_Part) (y := []) k z_Llaws_Part rfl rfl rfl (.cons .nil .nil) rfl hl hkp hd hn
theorem _root_.Go.Lift.LWo.build_laws_Guard {parts : List (Nat × Operand)} {ps : List (Nat × LV)} {ys : List LV} (v : S_laws_Guard) (hps : parts.map (fun p => (p.1, s.eval p.2)) = ps) (hc : ps.all (fun p => p.2.cellable) = true) (hy : lfill (#[(0, 1), (1, 1)][·]?) [.imm (Go.Value.int Go.IntKind.i64 0), .imm (Go.Value.slice none 0 0)] ps = some ys) (hw : Wk (.agg ys) (e_laws_Guard v)) (hd : Nat.blt d E.n = true := by exact rfl)
    (hn : LWo Try.prog E all rest Q (s.put (some d) (e_laws_Guard v))) :
    LWo Try.prog E all ({ dst := some d, op := .build t_laws_Guard parts.toArray, type := ty, pos := pos, after := af, guard := none } :: rest) Q s :=
  LWo.buildW (zs := [Go.Value.int Go.IntKind.i64 0, Go.Value.slice none 0 0]) ys _ u_laws_Guard z_laws_Guard (fun w => by simp [Array.mapM_eq_mapM_toList, Try.sizeOf3, Try.sizeOf79]) rfl hps hc hy hw hd hn
theorem _root_.Go.Lift.LWo.alloc_laws_Guard (k : Nat) (hl : Lift.lone k (hdel k s.h) = true) (hkp : E.keep.contains k = false := by exact rfl) (hd : Nat.blt d E.n = true := by exact rfl)
    (hn : LWo Try.prog E all rest Q { tm := (d, .ptr k 0 0) :: kill k s.tm, h := (k, vob 2 e_laws_Guard ((⟨(0 : Int), []⟩ : S_laws_Guard) : S_laws_Guard)) :: hdel k s.h }) :
    LWo Try.prog E all ({ dst := some d, op := .alloc t_laws_Guard, type := ty, pos := pos, after := af, guard := none } :: rest) Q s :=
  LWo.allocW (zs := [Go.Value.int Go.IntKind.i64 0, Go.Value.slice none 0 0]) (f := e_laws_Guard) (y := (⟨(0 : Int), []⟩ : S_laws_Guard)) k z_laws_Guard rfl rfl rfl (.cons .refl (.cons .nil .nil)) rfl hl hkp hd hn
theorem _root_.Go.Lift.LWo.make_laws_Guard {T e : TypeId} {x c : Operand} {kl kc : IntKind} {m n : Int} {r : List S_laws_Guard} (k : Nat) (hr : mk2? m n ((⟨(0 : Int), []⟩ : S_laws_Guard) : S_laws_Guard) = some r) (hu : Try.prog.underlying T = some (.slice e)) (hinfo : (Try.prog.info? e).map (fun i => (i.size, i.bytes, i.zero)) = some (2, 32, some ((Go.Value.agg #[Go.Value.int Go.IntKind.i64 0, Go.Value.slice none 0 0])))) (hx : s.eval x = .imm (.int kl m)) (hc : s.eval c = .imm (.int kc n)) (hl : Lift.lone k (hdel k s.h) = true) (hkp : E.keep.contains k = false := by exact rfl) (hd : Nat.blt d E.n = true := by exact rfl)
    (hn : LWo Try.prog E all rest Q { tm := (d, .own k 0 r.length) :: kill k s.tm, h := (k, lob 2 e_laws_Guard r) :: hdel k s.h }) :
    LWo Try.prog E all ({ dst := some d, op := .makeSlice T x c, type := ty, pos := pos, after := af, guard := none } :: rest) Q s := by
  obtain ⟨h0, h1, h2, rfl⟩ := mk2_b hr
  exact LWo.makeW (zs := [Go.Value.int Go.IntKind.i64 0, Go.Value.slice none 0 0]) (f := e_laws_Guard) (y := ((⟨(0 : Int), []⟩ : S_laws_Guard) : S_laws_Guard)) k h0 h1 h2 hu hinfo rfl rfl rfl (.cons .refl (.cons .nil .nil)) hx hc hl rfl hkp hd hn
theorem _root_.Go.Lift.LWo.alloc_Llaws_Guard (k : Nat) (hl : Lift.lone k (hdel k s.h) = true) (hkp : E.keep.contains k = false := by exact rfl) (hd : Nat.blt d E.n = true := by exact rfl)
    (hn : LWo Try.prog E all rest Q { tm := (d, .ptr k 0 0) :: kill k s.tm, h := (k, vob 1 e_Llaws_Guard ([] : (List S_laws_Guard))) :: hdel k s.h }) :
    LWo Try.prog E all ({ dst := some d, op := .alloc t_Llaws_Guard, type := ty, pos := pos, after := af, guard := none } :: rest) Q s :=
  LWo.allocW (zs := [(Go.Value.slice none 0 0)]) (f := e_Llaws_Guard) (y := []) k z_Llaws_Guard rfl rfl rfl (.cons .nil .nil) rfl hl hkp hd hn
theorem _root_.Go.Lift.LWo.build_impl_Column {parts : List (Nat × Operand)} {ps : List (Nat × LV)} {ys : List LV} (v : S_impl_Column) (hps : parts.map (fun p => (p.1, s.eval p.2)) = ps) (hc : ps.all (fun p => p.2.cellable) = true) (hy : lfill (#[(0, 1), (1, 1)][·]?) [.imm (Go.Value.int Go.IntKind.i64 0), .imm (Go.Value.bool false)] ps = some ys) (hw : Wk (.agg ys) (e_impl_Column v)) (hd : Nat.blt d E.n = true := by exact rfl)
    (hn : LWo Try.prog E all rest Q (s.put (some d) (e_impl_Column v))) :
    LWo Try.prog E all ({ dst := some d, op := .build t_impl_Column parts.toArray, type := ty, pos := pos, after := af, guard := none } :: rest) Q s :=
  LWo.buildW (zs := [Go.Value.int Go.IntKind.i64 0, Go.Value.bool false]) ys _ u_impl_Column z_impl_Column (fun w => by simp [Array.mapM_eq_mapM_toList, Try.sizeOf3, Try.sizeOf4]) rfl hps hc hy hw hd hn
theorem eqI_impl_Column (d : Nat) (a b : S_impl_Column) (w : World) : (Op.equalIn (d + 1 + 1) t_impl_Column (.agg #[.int .i64 a.Kind, .bool a.Empty]) (.agg #[.int .i64 b.Kind, .bool b.Empty])).run Try.prog w = .ok (((a.Kind == b.Kind) && (a.Empty == b.Empty))) w := by
  refine eqA_of u_impl_Column h_impl_Column ?_
  refine eqf_cons rfl (part1 g_int rfl w) (part1 g_int rfl w) (run_equalIn_int w _ _ _ _ _ _ u_int) ?_
  exact eqf_last rfl (part1 g_bool rfl w) (part1 g_bool rfl w) (run_equalIn_bool' w _ _ _ _ u_bool)
theorem eqV_impl_Column (a b : S_impl_Column) (w : World) : (Op.equal t_impl_Column (.agg #[.int .i64 a.Kind, .bool a.Empty]) (.agg #[.int .i64 b.Kind, .bool b.Empty])).run Try.prog w = .ok (decide (a = b)) w := by
  have h : (Op.equal t_impl_Column (.agg #[.int .i64 a.Kind, .bool a.Empty]) (.agg #[.int .i64 b.Kind, .bool b.Empty])).run Try.prog w = .ok (((a.Kind == b.Kind) && (a.Empty == b.Empty))) w := eqI_impl_Column 9998 a b w
  refine h.trans (congrArg (fun x => Result.ok x w) ?_)
  cases a; cases b
  simp only [S_impl_Column.mk.injEq]
  rw [Bool.eq_iff_iff]
  simp [bytes_beq]
theorem _root_.Go.Lift.LWo.eq_impl_Column {t' : TypeId} {x y : Operand} (a b : S_impl_Column) (hx : s.eval x = e_impl_Column a) (hy : s.eval y = e_impl_Column b) (hd : Nat.blt d E.n = true := by exact rfl) (hn : LWo Try.prog E all rest Q (s.put (some d) (.imm (.bool (decide (a = b)))))) :
    LWo Try.prog E all ({ dst := some d, op := .binOp .eql t_impl_Column x y t', type := ty, pos := pos, after := af, guard := none } :: rest) Q s :=
  LWo.eqA [.int .i64 a.Kind, .bool a.Empty] [.int .i64 b.Kind, .bool b.Empty] _ q_impl_Column (eqV_impl_Column a b) hx rfl hy rfl hd hn
theorem _root_.Go.Lift.LWo.ne_impl_Column {t' : TypeId} {x y : Operand} (a b : S_impl_Column) (hx : s.eval x = e_impl_Column a) (hy : s.eval y = e_impl_Column b) (hd : Nat.blt d E.n = true := by exact rfl) (hn : LWo Try.prog E all rest Q (s.put (some d) (.imm (.bool (!(decide (a = b))))))) :
    LWo Try.prog E all ({ dst := some d, op := .binOp .neq t_impl_Column x y t', type := ty, pos := pos, after := af, guard := none } :: rest) Q s :=
  LWo.neA [.int .i64 a.Kind, .bool a.Empty] [.int .i64 b.Kind, .bool b.Empty] _ q_impl_Column (eqV_impl_Column a b) hx rfl hy rfl hd hn
theorem _root_.Go.Lift.LWo.alloc_impl_Column (k : Nat) (hl : Lift.lone k (hdel k s.h) = true) (hkp : E.keep.contains k = false := by exact rfl) (hd : Nat.blt d E.n = true := by exact rfl)
    (hn : LWo Try.prog E all rest Q { tm := (d, .ptr k 0 0) :: kill k s.tm, h := (k, vob 2 e_impl_Column ((⟨(0 : Int), false⟩ : S_impl_Column) : S_impl_Column)) :: hdel k s.h }) :
    LWo Try.prog E all ({ dst := some d, op := .alloc t_impl_Column, type := ty, pos := pos, after := af, guard := none } :: rest) Q s :=
  LWo.allocW (zs := [Go.Value.int Go.IntKind.i64 0, Go.Value.bool false]) (f := e_impl_Column) (y := (⟨(0 : Int), false⟩ : S_impl_Column)) k z_impl_Column rfl rfl rfl (.cons .refl (.cons .refl .nil)) rfl hl hkp hd hn
theorem _root_.Go.Lift.LWo.make_impl_Column {T e : TypeId} {x c : Operand} {kl kc : IntKind} {m n : Int} {r : List S_impl_Column} (k : Nat) (hr : mk2? m n ((⟨(0 : Int), false⟩ : S_impl_Column) : S_impl_Column) = some r) (hu : Try.prog.underlying T = some (.slice e)) (hinfo : (Try.prog.info? e).map (fun i => (i.size, i.bytes, i.zero)) = some (2, 16, some ((Go.Value.agg #[Go.Value.int Go.IntKind.i64 0, Go.Value.bool false])))) (hx : s.eval x = .imm (.int kl m)) (hc : s.eval c = .imm (.int kc n)) (hl : Lift.lone k (hdel k s.h) = true) (hkp : E.keep.contains k = false := by exact rfl) (hd : Nat.blt d E.n = true := by exact rfl)
    (hn : LWo Try.prog E all rest Q { tm := (d, .own k 0 r.length) :: kill k s.tm, h := (k, lob 2 e_impl_Column r) :: hdel k s.h }) :
    LWo Try.prog E all ({ dst := some d, op := .makeSlice T x c, type := ty, pos := pos, after := af, guard := none } :: rest) Q s := by
  obtain ⟨h0, h1, h2, rfl⟩ := mk2_b hr
  exact LWo.makeW (zs := [Go.Value.int Go.IntKind.i64 0, Go.Value.bool false]) (f := e_impl_Column) (y := ((⟨(0 : Int), false⟩ : S_impl_Column) : S_impl_Column)) k h0 h1 h2 hu hinfo rfl rfl rfl (.cons .refl (.cons .refl .nil)) hx hc hl rfl hkp hd hn
theorem _root_.Go.Lift.LWo.alloc_Limpl_Column (k : Nat) (hl : Lift.lone k (hdel k s.h) = true) (hkp : E.keep.contains k = false := by exact rfl) (hd : Nat.blt d E.n = true := by exact rfl)
    (hn : LWo Try.prog E all rest Q { tm := (d, .ptr k 0 0) :: kill k s.tm, h := (k, vob 1 e_Limpl_Column ([] : (List S_impl_Column))) :: hdel k s.h }) :
    LWo Try.prog E all ({ dst := some d, op := .alloc t_Limpl_Column, type := ty, pos := pos, after := af, guard := none } :: rest) Q s :=
  LWo.allocW (zs := [(Go.Value.slice none 0 0)]) (f := e_Limpl_Column) (y := []) k z_Limpl_Column rfl rfl rfl (.cons .nil .nil) rfl hl hkp hd hn
theorem _root_.Go.Lift.LWo.build_impl_Table {parts : List (Nat × Operand)} {ps : List (Nat × LV)} {ys : List LV} (v : S_impl_Table) (hps : parts.map (fun p => (p.1, s.eval p.2)) = ps) (hc : ps.all (fun p => p.2.cellable) = true) (hy : lfill (#[(0, 1), (1, 1)][·]?) [.imm (Go.Value.slice none 0 0), .imm (Go.Value.slice none 0 0)] ps = some ys) (hw : Wk (.agg ys) (e_impl_Table v)) (hd : Nat.blt d E.n = true := by exact rfl)
    (hn : LWo Try.prog E all rest Q (s.put (some d) (e_impl_Table v))) :
    LWo Try.prog E all ({ dst := some d, op := .build t_impl_Table parts.toArray, type := ty, pos := pos, after := af, guard := none } :: rest) Q s :=
  LWo.buildW (zs := [Go.Value.slice none 0 0, Go.Value.slice none 0 0]) ys _ u_impl_Table z_impl_Table (fun w => by simp [Array.mapM_eq_mapM_toList, Try.sizeOf23, Try.sizeOf43]) rfl hps hc hy hw hd hn
theorem _root_.Go.Lift.LWo.alloc_impl_Table (k : Nat) (hl : Lift.lone k (hdel k s.h) = true) (hkp : E.keep.contains k = false := by exact rfl) (hd : Nat.blt d E.n = true := by exact rfl)
    (hn : LWo Try.prog E all rest Q { tm := (d, .ptr k 0 0) :: kill k s.tm, h := (k, vob 2 e_impl_Table ((⟨[], []⟩ : S_impl_Table) : S_impl_Table)) :: hdel k s.h }) :
    LWo Try.prog E all ({ dst := some d, op := .alloc t_impl_Table, type := ty, pos := pos, after := af, guard := none } :: rest) Q s :=
  LWo.allocW (zs := [Go.Value.slice none 0 0, Go.Value.slice none 0 0]) (f := e_impl_Table) (y := (⟨[], []⟩ : S_impl_Table)) k z_impl_Table rfl rfl rfl (.cons .nil (.cons .nil .nil)) rfl hl hkp hd hn
theorem _root_.Go.Lift.LWo.make_impl_Table {T e : TypeId} {x c : Operand} {kl kc : IntKind} {m n : Int} {r : List S_impl_Table} (k : Nat) (hr : mk2? m n ((⟨[], []⟩ : S_impl_Table) : S_impl_Table) = some r) (hu : Try.prog.underlying T = some (.slice e)) (hinfo : (Try.prog.info? e).map (fun i => (i.size, i.bytes, i.zero)) = some (2, 48, some ((Go.Value.agg #[Go.Value.slice none 0 0, Go.Value.slice none 0 0])))) (hx : s.eval x = .imm (.int kl m)) (hc : s.eval c = .imm (.int kc n)) (hl : Lift.lone k (hdel k s.h) = true) (hkp : E.keep.contains k = false := by exact rfl) (hd : Nat.blt d E.n = true := by exact rfl)
    (hn : LWo Try.prog E all rest Q { tm := (d, .own k 0 r.length) :: kill k s.tm, h := (k, lob 2 e_impl_Table r) :: hdel k s.h }) :
    LWo Try.prog E all ({ dst := some d, op := .makeSlice T x c, type := ty, pos := pos, after := af, guard := none } :: rest) Q s := by
  obtain ⟨h0, h1, h2, rfl⟩ := mk2_b hr
  exact LWo.makeW (zs := [Go.Value.slice none 0 0, Go.Value.slice none 0 0]) (f := e_impl_Table) (y := ((⟨[], []⟩ : S_impl_Table) : S_impl_Table)) k h0 h1 h2 hu hinfo rfl rfl rfl (.cons .nil (.cons .nil .nil)) hx hc hl rfl hkp hd hn
theorem _root_.Go.Lift.LWo.alloc_Limpl_Table (k : Nat) (hl : Lift.lone k (hdel k s.h) = true) (hkp : E.keep.contains k = false := by exact rfl) (hd : Nat.blt d E.n = true := by exact rfl)
    (hn : LWo Try.prog E all rest Q { tm := (d, .ptr k 0 0) :: kill k s.tm, h := (k, vob 1 e_Limpl_Table ([] : (List S_impl_Table))) :: hdel k s.h }) :
    LWo Try.prog E all ({ dst := some d, op := .alloc t_Limpl_Table, type := ty, pos := pos, after := af, guard := none } :: rest) Q s :=
  LWo.allocW (zs := [(Go.Value.slice none 0 0)]) (f := e_Limpl_Table) (y := []) k z_Limpl_Table rfl rfl rfl (.cons .nil .nil) rfl hl hkp hd hn
theorem _root_.Go.Lift.LWo.build_impl_Part {parts : List (Nat × Operand)} {ps : List (Nat × LV)} {ys : List LV} (v : S_impl_Part) (hps : parts.map (fun p => (p.1, s.eval p.2)) = ps) (hc : ps.all (fun p => p.2.cellable) = true) (hy : lfill (#[(0, 1), (1, 1), (2, 3)][·]?) [.imm (Go.Value.int Go.IntKind.i64 0), .imm (Go.Value.int Go.IntKind.i64 0), .imm (Go.Value.int Go.IntKind.i64 0), .imm (Go.Value.int Go.IntKind.i64 0), .imm (Go.Value.string { data := #[] })] ps = some ys) (hw : Wk (.agg ys) (e_impl_Part v)) (hd : Nat.blt d E.n = true := by exact rfl)
    (hn : LWo Try.prog E all rest Q (s.put (some d) (e_impl_Part v))) :
    LWo Try.prog E all ({ dst := some d, op := .build t_impl_Part parts.toArray, type := ty, pos := pos, after := af, guard := none } :: rest) Q s :=
  LWo.buildW (zs := [Go.Value.int Go.IntKind.i64 0, Go.Value.int Go.IntKind.i64 0, Go.Value.int Go.IntKind.i64 0, Go.Value.int Go.IntKind.i64 0, Go.Value.string { data := #[] }]) ys _ u_impl_Part z_impl_Part (fun w => by simp [Array.mapM_eq_mapM_toList, Try.sizeOf3, Try.sizeOf50]) rfl hps hc hy hw hd hn
theorem _root_.Go.Lift.LWo.alloc_impl_Part (k : Nat) (hl : Lift.lone k (hdel k s.h) = true) (hkp : E.keep.contains k = false := by exact rfl) (hd : Nat.blt d E.n = true := by exact rfl)
    (hn : LWo Try.prog E all rest Q { tm := (d, .ptr k 0 0) :: kill k s.tm, h := (k, vob 5 e_impl_Part ((⟨(0 : Int), (0 : Int), (⟨(0 : Int), (0 : Int), (⟨#[]⟩ : ByteArray)⟩ : S_impl_Value)⟩ : S_impl_Part) : S_impl_Part)) :: hdel k s.h }) :
    LWo Try.prog E all ({ dst := some d, op := .alloc t_impl_Part, type := ty, pos := pos, after := af, guard := none } :: rest) Q s :=
  LWo.allocW (zs := [Go.Value.int Go.IntKind.i64 0, Go.Value.int Go.IntKind.i64 0, Go.Value.int Go.IntKind.i64 0, Go.Value.int Go.IntKind.i64 0, Go.Value.string { data := #[] }]) (f := e_impl_Part) (y := (⟨(0 : Int), (0 : Int), (⟨(0 : Int), (0 : Int), (⟨#[]⟩ : ByteArray)⟩ : S_impl_Value)⟩ : S_impl_Part)) k z_impl_Part rfl rfl rfl (.cons .refl (.cons .refl (.cons .refl (.cons .refl (.cons .refl .nil))))) rfl hl hkp hd hn
theorem _root_.Go.Lift.LWo.make_impl_Part {T e : TypeId} {x c : Operand} {kl kc : IntKind} {m n : Int} {r : List S_impl_Part} (k : Nat) (hr : mk2? m n ((⟨(0 : Int), (0 : Int), (⟨(0 : Int), (0 : Int), (⟨#[]⟩ : ByteArray)⟩ : S_impl_Value)⟩ : S_impl_Part) : S_impl_Part) = some r) (hu : Try.prog.underlying T = some (.slice e)) (hinfo : (Try.prog.info? e).map (fun i => (i.size, i.bytes, i.zero)) = some (5, 48, some ((Go.Value.agg #[Go.Value.int Go.IntKind.i64 0, Go.Value.int Go.IntKind.i64 0, Go.Value.int Go.IntKind.i64 0, Go.Value.int Go.IntKind.i64 0, Go.Value.string { data := #[] }])))) (hx : s.eval x = .imm (.int kl m)) (hc : s.eval c = .imm (.int kc n)) (hl : Lift.lone k (hdel k s.h) = true) (hkp : E.keep.contains k = false := by exact rfl) (hd : Nat.blt d E.n = true := by exact rfl)
    (hn : LWo Try.prog E all rest Q { tm := (d, .own k 0 r.length) :: kill k s.tm, h := (k, lob 5 e_impl_Part r) :: hdel k s.h }) :
    LWo Try.prog E all ({ dst := some d, op := .makeSlice T x c, type := ty, pos := pos, after := af, guard := none } :: rest) Q s := by
  obtain ⟨h0, h1, h2, rfl⟩ := mk2_b hr
  exact LWo.makeW (zs := [Go.Value.int Go.IntKind.i64 0, Go.Value.int Go.IntKind.i64 0, Go.Value.int Go.IntKind.i64 0, Go.Value.int Go.IntKind.i64 0, Go.Value.string { data := #[] }]) (f := e_impl_Part) (y := ((⟨(0 : Int), (0 : Int), (⟨(0 : Int), (0 : Int), (⟨#[]⟩ : ByteArray)⟩ : S_impl_Value)⟩ : S_impl_Part) : S_impl_Part)) k h0 h1 h2 hu hinfo rfl rfl rfl (.cons .refl (.cons .refl (.cons .refl (.cons .refl (.cons .refl .nil))))) hx hc hl rfl hkp hd hn
theorem _root_.Go.Lift.LWo.alloc_Limpl_Part (k : Nat) (hl : Lift.lone k (hdel k s.h) = true) (hkp : E.keep.contains k = false := by exact rfl) (hd : Nat.blt d E.n = true := by exact rfl)
    (hn : LWo Try.prog E all rest Q { tm := (d, .ptr k 0 0) :: kill k s.tm, h := (k, vob 1 e_Limpl_Part ([] : (List S_impl_Part))) :: hdel k s.h }) :
    LWo Try.prog E all ({ dst := some d, op := .alloc t_Limpl_Part, type := ty, pos := pos, after := af, guard := none } :: rest) Q s :=
  LWo.allocW (zs := [(Go.Value.slice none 0 0)]) (f := e_Limpl_Part) (y := []) k z_Limpl_Part rfl rfl rfl (.cons .nil .nil) rfl hl hkp hd hn
theorem _root_.Go.Lift.LWo.build_impl_Guard {parts : List (Nat × Operand)} {ps : List (Nat × LV)} {ys : List LV} (v : S_impl_Guard) (hps : parts.map (fun p => (p.1, s.eval p.2)) = ps) (hc : ps.all (fun p => p.2.cellable) = true) (hy : lfill (#[(0, 1), (1, 1)][·]?) [.imm (Go.Value.int Go.IntKind.i64 0), .imm (Go.Value.slice none 0 0)] ps = some ys) (hw : Wk (.agg ys) (e_impl_Guard v)) (hd : Nat.blt d E.n = true := by exact rfl)
    (hn : LWo Try.prog E all rest Q (s.put (some d) (e_impl_Guard v))) :
    LWo Try.prog E all ({ dst := some d, op := .build t_impl_Guard parts.toArray, type := ty, pos := pos, after := af, guard := none } :: rest) Q s :=
  LWo.buildW (zs := [Go.Value.int Go.IntKind.i64 0, Go.Value.slice none 0 0]) ys _ u_impl_Guard z_impl_Guard (fun w => by simp [Array.mapM_eq_mapM_toList, Try.sizeOf3, Try.sizeOf82]) rfl hps hc hy hw hd hn
theorem _root_.Go.Lift.LWo.alloc_impl_Guard (k : Nat) (hl : Lift.lone k (hdel k s.h) = true) (hkp : E.keep.contains k = false := by exact rfl) (hd : Nat.blt d E.n = true := by exact rfl)
    (hn : LWo Try.prog E all rest Q { tm := (d, .ptr k 0 0) :: kill k s.tm, h := (k, vob 2 e_impl_Guard ((⟨(0 : Int), []⟩ : S_impl_Guard) : S_impl_Guard)) :: hdel k s.h }) :
    LWo Try.prog E all ({ dst := some d, op := .alloc t_impl_Guard, type := ty, pos := pos, after := af, guard := none } :: rest) Q s :=
  LWo.allocW (zs := [Go.Value.int Go.IntKind.i64 0, Go.Value.slice none 0 0]) (f := e_impl_Guard) (y := (⟨(0 : Int), []⟩ : S_impl_Guard)) k z_impl_Guard rfl rfl rfl (.cons .refl (.cons .nil .nil)) rfl hl hkp hd hn
theorem _root_.Go.Lift.LWo.make_impl_Guard {T e : TypeId} {x c : Operand} {kl kc : IntKind} {m n : Int} {r : List S_impl_Guard} (k : Nat) (hr : mk2? m n ((⟨(0 : Int), []⟩ : S_impl_Guard) : S_impl_Guard) = some r) (hu : Try.prog.underlying T = some (.slice e)) (hinfo : (Try.prog.info? e).map (fun i => (i.size, i.bytes, i.zero)) = some (2, 32, some ((Go.Value.agg #[Go.Value.int Go.IntKind.i64 0, Go.Value.slice none 0 0])))) (hx : s.eval x = .imm (.int kl m)) (hc : s.eval c = .imm (.int kc n)) (hl : Lift.lone k (hdel k s.h) = true) (hkp : E.keep.contains k = false := by exact rfl) (hd : Nat.blt d E.n = true := by exact rfl)
    (hn : LWo Try.prog E all rest Q { tm := (d, .own k 0 r.length) :: kill k s.tm, h := (k, lob 2 e_impl_Guard r) :: hdel k s.h }) :
    LWo Try.prog E all ({ dst := some d, op := .makeSlice T x c, type := ty, pos := pos, after := af, guard := none } :: rest) Q s := by
  obtain ⟨h0, h1, h2, rfl⟩ := mk2_b hr
  exact LWo.makeW (zs := [Go.Value.int Go.IntKind.i64 0, Go.Value.slice none 0 0]) (f := e_impl_Guard) (y := ((⟨(0 : Int), []⟩ : S_impl_Guard) : S_impl_Guard)) k h0 h1 h2 hu hinfo rfl rfl rfl (.cons .refl (.cons .nil .nil)) hx hc hl rfl hkp hd hn
theorem _root_.Go.Lift.LWo.alloc_Limpl_Guard (k : Nat) (hl : Lift.lone k (hdel k s.h) = true) (hkp : E.keep.contains k = false := by exact rfl) (hd : Nat.blt d E.n = true := by exact rfl)
    (hn : LWo Try.prog E all rest Q { tm := (d, .ptr k 0 0) :: kill k s.tm, h := (k, vob 1 e_Limpl_Guard ([] : (List S_impl_Guard))) :: hdel k s.h }) :
    LWo Try.prog E all ({ dst := some d, op := .alloc t_Limpl_Guard, type := ty, pos := pos, after := af, guard := none } :: rest) Q s :=
  LWo.allocW (zs := [(Go.Value.slice none 0 0)]) (f := e_Limpl_Guard) (y := []) k z_Limpl_Guard rfl rfl rfl (.cons .nil .nil) rfl hl hkp hd hn
theorem _root_.Go.Lift.LWo.build_impl_Tally {parts : List (Nat × Operand)} {ps : List (Nat × LV)} {ys : List LV} (v : S_impl_Tally) (hps : parts.map (fun p => (p.1, s.eval p.2)) = ps) (hc : ps.all (fun p => p.2.cellable) = true) (hy : lfill (#[(0, 1), (1, 1), (2, 1), (3, 1)][·]?) [.imm (Go.Value.slice none 0 0), .imm (Go.Value.int Go.IntKind.i64 0), .imm (Go.Value.int Go.IntKind.i64 0), .imm (Go.Value.int Go.IntKind.i64 0)] ps = some ys) (hw : Wk (.agg ys) (e_impl_Tally v)) (hd : Nat.blt d E.n = true := by exact rfl)
    (hn : LWo Try.prog E all rest Q (s.put (some d) (e_impl_Tally v))) :
    LWo Try.prog E all ({ dst := some d, op := .build t_impl_Tally parts.toArray, type := ty, pos := pos, after := af, guard := none } :: rest) Q s :=
  LWo.buildW (zs := [Go.Value.slice none 0 0, Go.Value.int Go.IntKind.i64 0, Go.Value.int Go.IntKind.i64 0, Go.Value.int Go.IntKind.i64 0]) ys _ u_impl_Tally z_impl_Tally (fun w => by simp [Array.mapM_eq_mapM_toList, Try.sizeOf3, Try.sizeOf51]) rfl hps hc hy hw hd hn
theorem _root_.Go.Lift.LWo.alloc_impl_Tally (k : Nat) (hl : Lift.lone k (hdel k s.h) = true) (hkp : E.keep.contains k = false := by exact rfl) (hd : Nat.blt d E.n = true := by exact rfl)
    (hn : LWo Try.prog E all rest Q { tm := (d, .ptr k 0 0) :: kill k s.tm, h := (k, vob 4 e_impl_Tally ((⟨[], (0 : Int), (0 : Int), (0 : Int)⟩ : S_impl_Tally) : S_impl_Tally)) :: hdel k s.h }) :
    LWo Try.prog E all ({ dst := some d, op := .alloc t_impl_Tally, type := ty, pos := pos, after := af, guard := none } :: rest) Q s :=
  LWo.allocW (zs := [Go.Value.slice none 0 0, Go.Value.int Go.IntKind.i64 0, Go.Value.int Go.IntKind.i64 0, Go.Value.int Go.IntKind.i64 0]) (f := e_impl_Tally) (y := (⟨[], (0 : Int), (0 : Int), (0 : Int)⟩ : S_impl_Tally)) k z_impl_Tally rfl rfl rfl (.cons .nil (.cons .refl (.cons .refl (.cons .refl .nil)))) rfl hl hkp hd hn
theorem _root_.Go.Lift.LWo.make_impl_Tally {T e : TypeId} {x c : Operand} {kl kc : IntKind} {m n : Int} {r : List S_impl_Tally} (k : Nat) (hr : mk2? m n ((⟨[], (0 : Int), (0 : Int), (0 : Int)⟩ : S_impl_Tally) : S_impl_Tally) = some r) (hu : Try.prog.underlying T = some (.slice e)) (hinfo : (Try.prog.info? e).map (fun i => (i.size, i.bytes, i.zero)) = some (4, 48, some ((Go.Value.agg #[Go.Value.slice none 0 0, Go.Value.int Go.IntKind.i64 0, Go.Value.int Go.IntKind.i64 0, Go.Value.int Go.IntKind.i64 0])))) (hx : s.eval x = .imm (.int kl m)) (hc : s.eval c = .imm (.int kc n)) (hl : Lift.lone k (hdel k s.h) = true) (hkp : E.keep.contains k = false := by exact rfl) (hd : Nat.blt d E.n = true := by exact rfl)
    (hn : LWo Try.prog E all rest Q { tm := (d, .own k 0 r.length) :: kill k s.tm, h := (k, lob 4 e_impl_Tally r) :: hdel k s.h }) :
    LWo Try.prog E all ({ dst := some d, op := .makeSlice T x c, type := ty, pos := pos, after := af, guard := none } :: rest) Q s := by
  obtain ⟨h0, h1, h2, rfl⟩ := mk2_b hr
  exact LWo.makeW (zs := [Go.Value.slice none 0 0, Go.Value.int Go.IntKind.i64 0, Go.Value.int Go.IntKind.i64 0, Go.Value.int Go.IntKind.i64 0]) (f := e_impl_Tally) (y := ((⟨[], (0 : Int), (0 : Int), (0 : Int)⟩ : S_impl_Tally) : S_impl_Tally)) k h0 h1 h2 hu hinfo rfl rfl rfl (.cons .nil (.cons .refl (.cons .refl (.cons .refl .nil)))) hx hc hl rfl hkp hd hn
theorem _root_.Go.Lift.LWo.alloc_Limpl_Tally (k : Nat) (hl : Lift.lone k (hdel k s.h) = true) (hkp : E.keep.contains k = false := by exact rfl) (hd : Nat.blt d E.n = true := by exact rfl)
    (hn : LWo Try.prog E all rest Q { tm := (d, .ptr k 0 0) :: kill k s.tm, h := (k, vob 1 e_Limpl_Tally ([] : (List S_impl_Tally))) :: hdel k s.h }) :
    LWo Try.prog E all ({ dst := some d, op := .alloc t_Limpl_Tally, type := ty, pos := pos, after := af, guard := none } :: rest) Q s :=
  LWo.allocW (zs := [(Go.Value.slice none 0 0)]) (f := e_Limpl_Tally) (y := []) k z_Limpl_Tally rfl rfl rfl (.cons .nil .nil) rfl hl hkp hd hn
theorem _root_.Go.Lift.LWo.alloc_LLLimpl_Value (k : Nat) (hl : Lift.lone k (hdel k s.h) = true) (hkp : E.keep.contains k = false := by exact rfl) (hd : Nat.blt d E.n = true := by exact rfl)
    (hn : LWo Try.prog E all rest Q { tm := (d, .ptr k 0 0) :: kill k s.tm, h := (k, vob 1 e_LLLimpl_Value ([] : (List (List (List S_impl_Value))))) :: hdel k s.h }) :
    LWo Try.prog E all ({ dst := some d, op := .alloc t_LLLimpl_Value, type := ty, pos := pos, after := af, guard := none } :: rest) Q s :=
  LWo.allocW (zs := [(Go.Value.slice none 0 0)]) (f := e_LLLimpl_Value) (y := []) k z_LLLimpl_Value rfl rfl rfl (.cons .nil .nil) rfl hl hkp hd hn
theorem _root_.Go.Lift.LWo.alloc_Lint (k : Nat) (hl : Lift.lone k (hdel k s.h) = true) (hkp : E.keep.contains k = false := by exact rfl) (hd : Nat.blt d E.n = true := by exact rfl)
    (hn : LWo Try.prog E all rest Q { tm := (d, .ptr k 0 0) :: kill k s.tm, h := (k, vob 1 e_Lint ([] : (List Int))) :: hdel k s.h }) :
    LWo Try.prog E all ({ dst := some d, op := .alloc t_Lint, type := ty, pos := pos, after := af, guard := none } :: rest) Q s :=
  LWo.allocW (zs := [(Go.Value.slice none 0 0)]) (f := e_Lint) (y := []) k z_Lint rfl rfl rfl (.cons .nil .nil) rfl hl hkp hd hn
theorem _root_.Go.Lift.LWo.build_spec_l20Rd {parts : List (Nat × Operand)} {ps : List (Nat × LV)} {ys : List LV} (v : S_spec_l20Rd) (hps : parts.map (fun p => (p.1, s.eval p.2)) = ps) (hc : ps.all (fun p => p.2.cellable) = true) (hy : lfill (#[(0, 1), (1, 1)][·]?) [.imm (Go.Value.slice none 0 0), .imm (Go.Value.int Go.IntKind.i64 0)] ps = some ys) (hw : Wk (.agg ys) (e_spec_l20Rd v)) (hd : Nat.blt d E.n = true := by exact rfl)
    (hn : LWo Try.prog E all rest Q (s.put (some d) (e_spec_l20Rd v))) :
    LWo Try.prog E all ({ dst := some d, op := .build t_spec_l20Rd parts.toArray, type := ty, pos := pos, after := af, guard := none } :: rest) Q s :=
  LWo.buildW (zs := [Go.Value.slice none 0 0, Go.Value.int Go.IntKind.i64 0]) ys _ u_spec_l20Rd z_spec_l20Rd (fun w => by simp [Array.mapM_eq_mapM_toList, Try.sizeOf3, Try.sizeOf22]) rfl hps hc hy hw hd hn
theorem _root_.Go.Lift.LWo.alloc_spec_l20Rd (k : Nat) (hl : Lift.lone k (hdel k s.h) = true) (hkp : E.keep.contains k = false := by exact rfl) (hd : Nat.blt d E.n = true := by exact rfl)
    (hn : LWo Try.prog E all rest Q { tm := (d, .ptr k 0 0) :: kill k s.tm, h := (k, vob 2 e_spec_l20Rd ((⟨[], (0 : Int)⟩ : S_spec_l20Rd) : S_spec_l20Rd)) :: hdel k s.h }) :
    LWo Try.prog E all ({ dst := some d, op := .alloc t_spec_l20Rd, type := ty, pos := pos, after := af, guard := none } :: rest) Q s :=
  LWo.allocW (zs := [Go.Value.slice none 0 0, Go.Value.int Go.IntKind.i64 0]) (f := e_spec_l20Rd) (y := (⟨[], (0 : Int)⟩ : S_spec_l20Rd)) k z_spec_l20Rd rfl rfl rfl (.cons .nil (.cons .refl .nil)) rfl hl hkp hd hn
theorem _root_.Go.Lift.LWo.alloc_Lstring (k : Nat) (hl : Lift.lone k (hdel k s.h) = true) (hkp : E.keep.contains k = false := by exact rfl) (hd : Nat.blt d E.n = true := by exact rfl)
    (hn : LWo Try.prog E all rest Q { tm := (d, .ptr k 0 0) :: kill k s.tm, h := (k, vob 1 e_Lstring ([] : (List ByteArray))) :: hdel k s.h }) :
    LWo Try.prog E all ({ dst := some d, op := .alloc t_Lstring, type := ty, pos := pos, after := af, guard := none } :: rest) Q s :=
  LWo.allocW (zs := [(Go.Value.slice none 0 0)]) (f := e_Lstring) (y := []) k z_Lstring rfl rfl rfl (.cons .nil .nil) rfl hl hkp hd hn
end
end Go.Proofs.Ytemfdnnhknepbaa
