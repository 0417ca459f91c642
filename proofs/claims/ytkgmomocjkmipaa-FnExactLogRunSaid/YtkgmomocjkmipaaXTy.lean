/- The types of the program as Lean data, and the steps of the logic at them. -/
import Derived.Test.YtkgmomocjkmipaaXNm
import Derived.Test.YtkgmomocjkmipaaLd
import Derived.Laws.StructEq
set_option linter.unusedVariables false
set_option linter.unusedSimpArgs false
set_option linter.unnecessarySimpa false
namespace Go.Proofs.Ytkgmomocjkmipaa
open Go.Proofs Go.Lift Go.RowKit
theorem eqf_last {P : Program} {d : Nat} {xs ys : Array Value} {f : Field} {a b : Value} {r : Bool} {w : World} (hn : (f.name == "_") = false) (ha : (part f.type xs f.offset).run P w = .ok a w) (hb : (part f.type ys f.offset).run P w = .ok b w) (he : (Op.equalIn d f.type a b).run P w = .ok r w) : (Op.eqFields d xs ys [f]).run P w = .ok r w := by
  have hn' : f.name ≠ "_" := by simpa using hn
  simp only [Op.eqFields, if_pos hn', Sem.run_bind, ha, hb, he, Result.andThen_ok]
  cases r <;> simp
theorem eqf_cons {P : Program} {d : Nat} {xs ys : Array Value} {f : Field} {fs : List Field} {a b : Value} {r s : Bool} {w : World} (hn : (f.name == "_") = false) (ha : (part f.type xs f.offset).run P w = .ok a w) (hb : (part f.type ys f.offset).run P w = .ok b w) (he : (Op.equalIn d f.type a b).run P w = .ok r w) (hr : (Op.eqFields d xs ys fs).run P w = .ok s w) : (Op.eqFields d xs ys (f :: fs)).run P w = .ok (r && s) w := by
  have hn' : f.name ≠ "_" := by simpa using hn
  rw [Op.eqFields]
  simp only [if_pos hn', Sem.run_bind, ha, hb, he, Result.andThen_ok]
  cases r
  · simp
  · simpa using hr
theorem eqA_of {P : Program} {d : Nat} {xs ys : Array Value} {r : Bool} {w : World} {t : TypeId} {fs : Array Field} (hu : P.underlying t = some (.struct fs)) (hp : P.stoodInHeld t = false) (h : (Op.eqFields d xs ys fs.toList).run P w = .ok r w) : (Op.equalIn (d + 1) t (.agg xs) (.agg ys)).run P w = .ok r w := by
  have hf : P.fieldsOf t = fs := by simp [Program.fieldsOf, hu]
  rw [run_equalIn_struct (P := P) w d t xs ys (by rw [hf]; exact hu) hp, hf]
  exact h
theorem part1 {T : TypeId} {xs : Array Value} {i : Nat} {v : Value} (hg : ∀ w, (isAgg T).run Try.prog w = .ok false w) (h : xs[i]? = some v) (w : World) : (part T xs i).run Try.prog w = .ok v w := by
  simp [part, hg, h]
theorem bytes_beq (a b : ByteArray) : (a.toList = b.toList) ↔ (a = b) := by
  rw [ByteArray.toList_eq, ByteArray.toList_eq, Array.toList_inj]
  exact ⟨fun h => ByteArray.ext h, fun h => by rw [h]⟩
theorem pv3 {s : LState} {x y z : Operand} {i j k : Nat} {a b c : LV} (h : s.eval x = a) (h2 : s.eval y = b) (h3 : s.eval z = c) : [(i, x), (j, y), (k, z)].map (fun p => (p.1, s.eval p.2)) = [(i, a), (j, b), (k, c)] := by simp [h, h2, h3]
theorem pv4 {s : LState} {x y z u : Operand} {i j k l : Nat} {a b c d : LV} (h0 : s.eval x = a) (h1 : s.eval y = b) (h2 : s.eval z = c) (h3 : s.eval u = d) : [(i, x), (j, y), (k, z), (l, u)].map (fun p => (p.1, s.eval p.2)) = [(i, a), (j, b), (k, c), (l, d)] := by simp [h0, h1, h2, h3]
structure S_laws_Pair where
  From : Int
  To : Int
  deriving DecidableEq
def e_laws_Pair (v : S_laws_Pair) : LV := .agg [e_int v.From, e_int v.To]
def B_laws_Pair (v : S_laws_Pair) : Prop := B_int v.From ∧ B_int v.To
def e_Llaws_Pair (l : (List S_laws_Pair)) : LV := .sl 2 (l.map e_laws_Pair)
structure S_impl_Pair where
  From : Int
  To : Int
  deriving DecidableEq
def e_impl_Pair (v : S_impl_Pair) : LV := .agg [e_int v.From, e_int v.To]
def B_impl_Pair (v : S_impl_Pair) : Prop := B_int v.From ∧ B_int v.To
def e_Limpl_Pair (l : (List S_impl_Pair)) : LV := .sl 2 (l.map e_impl_Pair)
def e_Luint8 (l : (List UInt8)) : LV := .sl 1 (l.map e_uint8)
structure S_impl_Value where
  Kind : Int
  N : Int
  S : ByteArray
  deriving DecidableEq
def e_impl_Value (v : S_impl_Value) : LV := .agg [e_int v.Kind, e_int v.N, e_string v.S]
def B_impl_Value (v : S_impl_Value) : Prop := B_int v.Kind ∧ B_int v.N ∧ B_string v.S
def e_Limpl_Value (l : (List S_impl_Value)) : LV := .sl 3 (l.map e_impl_Value)
structure S_impl_Write where
  Key : Int
  Row : (List S_impl_Value)
  Gone : Bool
  deriving DecidableEq
def e_impl_Write (v : S_impl_Write) : LV := .agg [e_int v.Key, e_Limpl_Value v.Row, e_bool v.Gone]
def B_impl_Write (v : S_impl_Write) : Prop := B_int v.Key ∧ (B_list B_impl_Value) v.Row ∧ B_bool v.Gone
def e_Limpl_Write (l : (List S_impl_Write)) : LV := .sl 3 (l.map e_impl_Write)
structure S_impl_Entry where
  Time : Int
  Writes : (List S_impl_Write)
  deriving DecidableEq
def e_impl_Entry (v : S_impl_Entry) : LV := .agg [e_int v.Time, e_Limpl_Write v.Writes]
def B_impl_Entry (v : S_impl_Entry) : Prop := B_int v.Time ∧ (B_list B_impl_Write) v.Writes
def e_Limpl_Entry (l : (List S_impl_Entry)) : LV := .sl 2 (l.map e_impl_Entry)
structure S_laws_Value where
  Kind : Int
  N : Int
  S : ByteArray
  deriving DecidableEq
def e_laws_Value (v : S_laws_Value) : LV := .agg [e_int v.Kind, e_int v.N, e_string v.S]
def B_laws_Value (v : S_laws_Value) : Prop := B_int v.Kind ∧ B_int v.N ∧ B_string v.S
def e_Llaws_Value (l : (List S_laws_Value)) : LV := .sl 3 (l.map e_laws_Value)
def e_LLlaws_Value (l : (List (List S_laws_Value))) : LV := .sl 1 (l.map e_Llaws_Value)
structure S_impl_Tally where
  Key : (List S_impl_Value)
  Rows : Int
  Many : Int
  Sum : Int
  deriving DecidableEq
def e_impl_Tally (v : S_impl_Tally) : LV := .agg [e_Limpl_Value v.Key, e_int v.Rows, e_int v.Many, e_int v.Sum]
def B_impl_Tally (v : S_impl_Tally) : Prop := (B_list B_impl_Value) v.Key ∧ B_int v.Rows ∧ B_int v.Many ∧ B_int v.Sum
def e_Limpl_Tally (l : (List S_impl_Tally)) : LV := .sl 4 (l.map e_impl_Tally)
def e_LLimpl_Value (l : (List (List S_impl_Value))) : LV := .sl 1 (l.map e_Limpl_Value)
structure S_laws_Write where
  Key : Int
  Row : (List S_laws_Value)
  Gone : Bool
  deriving DecidableEq
def e_laws_Write (v : S_laws_Write) : LV := .agg [e_int v.Key, e_Llaws_Value v.Row, e_bool v.Gone]
def B_laws_Write (v : S_laws_Write) : Prop := B_int v.Key ∧ (B_list B_laws_Value) v.Row ∧ B_bool v.Gone
def e_Llaws_Write (l : (List S_laws_Write)) : LV := .sl 3 (l.map e_laws_Write)
structure S_laws_Entry where
  Time : Int
  Writes : (List S_laws_Write)
  deriving DecidableEq
def e_laws_Entry (v : S_laws_Entry) : LV := .agg [e_int v.Time, e_Llaws_Write v.Writes]
def B_laws_Entry (v : S_laws_Entry) : Prop := B_int v.Time ∧ (B_list B_laws_Write) v.Writes
def e_Llaws_Entry (l : (List S_laws_Entry)) : LV := .sl 2 (l.map e_laws_Entry)
structure S_impl_Version where
  Key : Int
  Born : Int
  Died : Int
  Row : (List S_impl_Value)
  deriving DecidableEq
def e_impl_Version (v : S_impl_Version) : LV := .agg [e_int v.Key, e_int v.Born, e_int v.Died, e_Limpl_Value v.Row]
def B_impl_Version (v : S_impl_Version) : Prop := B_int v.Key ∧ B_int v.Born ∧ B_int v.Died ∧ (B_list B_impl_Value) v.Row
def e_Limpl_Version (l : (List S_impl_Version)) : LV := .sl 4 (l.map e_impl_Version)
structure S_laws_Version where
  Key : Int
  Born : Int
  Died : Int
  Row : (List S_laws_Value)
  deriving DecidableEq
def e_laws_Version (v : S_laws_Version) : LV := .agg [e_int v.Key, e_int v.Born, e_int v.Died, e_Llaws_Value v.Row]
def B_laws_Version (v : S_laws_Version) : Prop := B_int v.Key ∧ B_int v.Born ∧ B_int v.Died ∧ (B_list B_laws_Value) v.Row
def e_Llaws_Version (l : (List S_laws_Version)) : LV := .sl 4 (l.map e_laws_Version)
def e_Lint (l : (List Int)) : LV := .sl 1 (l.map e_int)
def e_LLimpl_Pair (l : (List (List S_impl_Pair))) : LV := .sl 1 (l.map e_Limpl_Pair)
structure S_spec_l20Rd where
  b : (List UInt8)
  p : Int
  deriving DecidableEq
def e_spec_l20Rd (v : S_spec_l20Rd) : LV := .agg [e_Luint8 v.b, e_int v.p]

structure S_impl_Column where
  Kind : Int
  Empty : Bool
  deriving DecidableEq
def e_impl_Column (v : S_impl_Column) : LV := .agg [e_int v.Kind, e_bool v.Empty]
def B_impl_Column (v : S_impl_Column) : Prop := B_int v.Kind ∧ B_bool v.Empty
def e_Limpl_Column (l : (List S_impl_Column)) : LV := .sl 2 (l.map e_impl_Column)
def e_Lstring (l : (List ByteArray)) : LV := .sl 1 (l.map e_string)
section
variable {E : Ent} {Q : Exit → LState → Prop} {s : LState} {all : Array Oper} {rest : List Oper} {d : Nat} {ty : TypeId} {pos : String} {af : Array Edge}
theorem _root_.Go.Lift.LWo.build_impl_Value {parts : List (Nat × Operand)} {ps : List (Nat × LV)} {ys : List LV} (v : S_impl_Value) (hps : parts.map (fun p => (p.1, s.eval p.2)) = ps) (hc : ps.all (fun p => p.2.cellable) = true) (hy : lfill (#[(0, 1), (1, 1), (2, 1)][·]?) [.imm (Go.Value.int Go.IntKind.i64 0), .imm (Go.Value.int Go.IntKind.i64 0), .imm (Go.Value.string { data := #[] })] ps = some ys) (hw : Wk (.agg ys) (e_impl_Value v)) (hd : Nat.blt d E.n = true := by exact rfl)
    (hn : LWo Try.prog E all rest Q (s.put (some d) (e_impl_Value v))) :
    LWo Try.prog E all ({ dst := some d, op := .build t_impl_Value parts.toArray, type := ty, pos := pos, after := af, guard := none } :: rest) Q s :=
  LWo.buildW (zs := [Go.Value.int Go.IntKind.i64 0, Go.Value.int Go.IntKind.i64 0, Go.Value.string { data := #[] }]) ys _ u_impl_Value z_impl_Value (fun w => by simp [Array.mapM_eq_mapM_toList, Try.sizeOf3, Try.sizeOf9]) rfl hps hc hy hw hd hn
theorem eqI_impl_Value (d : Nat) (a b : S_impl_Value) (w : World) : (Op.equalIn (d + 1 + 1) t_impl_Value (.agg #[.int .i64 a.Kind, .int .i64 a.N, .string a.S]) (.agg #[.int .i64 b.Kind, .int .i64 b.N, .string b.S])).run Try.prog w = .ok (((a.Kind == b.Kind) && ((a.N == b.N) && (a.S.toList == b.S.toList)))) w := by
  refine eqA_of u_impl_Value h_impl_Value ?_
  refine eqf_cons rfl (part1 g_int rfl w) (part1 g_int rfl w) (run_equalIn_int w _ _ _ _ _ _ u_int) ?_
  refine eqf_cons rfl (part1 g_int rfl w) (part1 g_int rfl w) (run_equalIn_int w _ _ _ _ _ _ u_int) ?_
  exact eqf_last rfl (part1 g_string rfl w) (part1 g_string rfl w) (run_equalIn_string w _ _ _ _ u_string)
theorem eqV_impl_Value (a b : S_impl_Value) (w : World) : (Op.equal t_impl_Value (.agg #[.int .i64 a.Kind, .int .i64 a.N, .string a.S]) (.agg #[.int .i64 b.Kind, .int .i64 b.N, .string b.S])).run Try.prog w = .ok (decide (a = b)) w := by
  have h : (Op.equal t_impl_Value (.agg #[.int .i64 a.Kind, .int .i64 a.N, .string a.S]) (.agg #[.int .i64 b.Kind, .int .i64 b.N, .string b.S])).run Try.prog w = .ok (((a.Kind == b.Kind) && ((a.N == b.N) && (a.S.toList == b.S.toList)))) w := eqI_impl_Value 9998 a b w
  refine h.trans (congrArg (fun x => Result.ok x w) ?_)
  cases a; cases b
  simp only [S_impl_Value.mk.injEq]
  rw [Bool.eq_iff_iff]
  simp [bytes_beq]
theorem _root_.Go.Lift.LWo.eq_impl_Value {t' : TypeId} {x y : Operand} (a b : S_impl_Value) (hx : s.eval x = e_impl_Value a) (hy : s.eval y = e_impl_Value b) (hd : Nat.blt d E.n = true := by exact rfl) (hn : LWo Try.prog E all rest Q (s.put (some d) (.imm (.bool (decide (a = b)))))) :
    LWo Try.prog E all ({ dst := some d, op := .binOp .eql t_impl_Value x y t', type := ty, pos := pos, after := af, guard := none } :: rest) Q s :=
  LWo.eqA [.int .i64 a.Kind, .int .i64 a.N, .string a.S] [.int .i64 b.Kind, .int .i64 b.N, .string b.S] _ q_impl_Value (eqV_impl_Value a b) hx rfl hy rfl hd hn
theorem _root_.Go.Lift.LWo.alloc_impl_Value (k : Nat) (hl : Lift.lone k (hdel k s.h) = true) (hkp : E.keep.contains k = false := by exact rfl) (hd : Nat.blt d E.n = true := by exact rfl)
    (hn : LWo Try.prog E all rest Q { tm := (d, .ptr k 0 0) :: kill k s.tm, h := (k, vob 3 e_impl_Value ((⟨(0 : Int), (0 : Int), (⟨#[]⟩ : ByteArray)⟩ : S_impl_Value) : S_impl_Value)) :: hdel k s.h }) :
    LWo Try.prog E all ({ dst := some d, op := .alloc t_impl_Value, type := ty, pos := pos, after := af, guard := none } :: rest) Q s :=
  LWo.allocW (zs := [Go.Value.int Go.IntKind.i64 0, Go.Value.int Go.IntKind.i64 0, Go.Value.string { data := #[] }]) (f := e_impl_Value) (y := (⟨(0 : Int), (0 : Int), (⟨#[]⟩ : ByteArray)⟩ : S_impl_Value)) k z_impl_Value rfl rfl rfl (.cons .refl (.cons .refl (.cons .refl .nil))) rfl hl hkp hd hn
theorem _root_.Go.Lift.LWo.make_impl_Value {T e : TypeId} {x c : Operand} {kl kc : IntKind} {m n : Int} {r : List S_impl_Value} (k : Nat) (hr : mk2? m n ((⟨(0 : Int), (0 : Int), (⟨#[]⟩ : ByteArray)⟩ : S_impl_Value) : S_impl_Value) = some r) (hu : Try.prog.underlying T = some (.slice e)) (hinfo : (Try.prog.info? e).map (fun i => (i.size, i.bytes, i.zero)) = some (3, 32, some ((Go.Value.agg #[Go.Value.int Go.IntKind.i64 0, Go.Value.int Go.IntKind.i64 0, Go.Value.string { data := #[] }])))) (hx : s.eval x = .imm (.int kl m)) (hc : s.eval c = .imm (.int kc n)) (hl : Lift.lone k (hdel k s.h) = true) (hkp : E.keep.contains k = false := by exact rfl) (hd : Nat.blt d E.n = true := by exact rfl)
    (hn : LWo Try.prog E all rest Q { tm := (d, .own k 0 r.length) :: kill k s.tm, h := (k, lob 3 e_impl_Value r) :: hdel k s.h }) :
    LWo Try.prog E all ({ dst := some d, op := .makeSlice T x c, type := ty, pos := pos, after := af, guard := none } :: rest) Q s := by
  obtain ⟨h0, h1, h2, rfl⟩ := mk2_b hr
  exact LWo.makeW (zs := [Go.Value.int Go.IntKind.i64 0, Go.Value.int Go.IntKind.i64 0, Go.Value.string { data := #[] }]) (f := e_impl_Value) (y := ((⟨(0 : Int), (0 : Int), (⟨#[]⟩ : ByteArray)⟩ : S_impl_Value) : S_impl_Value)) k h0 h1 h2 hu hinfo rfl rfl rfl (.cons .refl (.cons .refl (.cons .refl .nil))) hx hc hl rfl hkp hd hn
theorem _root_.Go.Lift.LWo.alloc_impl_Write (k : Nat) (hl : Lift.lone k (hdel k s.h) = true) (hkp : E.keep.contains k = false := by exact rfl) (hd : Nat.blt d E.n = true := by exact rfl)
    (hn : LWo Try.prog E all rest Q { tm := (d, .ptr k 0 0) :: kill k s.tm, h := (k, vob 3 e_impl_Write ((⟨(0 : Int), [], false⟩ : S_impl_Write) : S_impl_Write)) :: hdel k s.h }) :
    LWo Try.prog E all ({ dst := some d, op := .alloc t_impl_Write, type := ty, pos := pos, after := af, guard := none } :: rest) Q s :=
  LWo.allocW (zs := [Go.Value.int Go.IntKind.i64 0, Go.Value.slice none 0 0, Go.Value.bool false]) (f := e_impl_Write) (y := (⟨(0 : Int), [], false⟩ : S_impl_Write)) k z_impl_Write rfl rfl rfl (.cons .refl (.cons .nil (.cons .refl .nil))) rfl hl hkp hd hn
theorem _root_.Go.Lift.LWo.allocX_impl_Write (os : List (Nat × LV)) (k : Nat) (hy : ovr (e_impl_Write ((⟨(0 : Int), [], false⟩ : S_impl_Write) : S_impl_Write)).cells os = [Go.Value.int Go.IntKind.i64 0, Go.Value.slice none 0 0, Go.Value.bool false].map LV.imm) (hl : Lift.lone k (hdel k s.h) = true) (hkp : E.keep.contains k = false := by exact rfl) (hd : Nat.blt d E.n = true := by exact rfl)
    (hn : LWo Try.prog E all rest Q { tm := (d, .ptr k 0 0) :: kill k s.tm, h := (k, xob 3 e_impl_Write ((⟨(0 : Int), [], false⟩ : S_impl_Write) : S_impl_Write) os) :: hdel k s.h }) :
    LWo Try.prog E all ({ dst := some d, op := .alloc t_impl_Write, type := ty, pos := pos, after := af, guard := none } :: rest) Q s :=
  LWo.allocX (zs := [Go.Value.int Go.IntKind.i64 0, Go.Value.slice none 0 0, Go.Value.bool false]) os k z_impl_Write rfl rfl rfl hy hl hkp hd hn
theorem _root_.Go.Lift.LWo.makeD_impl_Write {T e : TypeId} {x c : Operand} {kl kc : IntKind} {m n : Int} {r : List S_impl_Write} (k : Nat) (hr : mk2? m n ((⟨(0 : Int), [], false⟩ : S_impl_Write) : S_impl_Write) = some r) (hu : Try.prog.underlying T = some (.slice e)) (hinfo : (Try.prog.info? e).map (fun i => (i.size, i.bytes, i.zero)) = some (3, 40, some ((Go.Value.agg #[Go.Value.int Go.IntKind.i64 0, Go.Value.slice none 0 0, Go.Value.bool false])))) (hx : s.eval x = .imm (.int kl m)) (hc : s.eval c = .imm (.int kc n)) (hl : Lift.lone k (hdel k s.h) = true) (hkp : E.keep.contains k = false := by exact rfl) (hd : Nat.blt d E.n = true := by exact rfl)
    (hn : LWo Try.prog E all rest Q { tm := (d, .own k 0 r.length) :: kill k s.tm, h := (k, dob 3 e_impl_Write r) :: hdel k s.h }) :
    LWo Try.prog E all ({ dst := some d, op := .makeSlice T x c, type := ty, pos := pos, after := af, guard := none } :: rest) Q s :=
  LWo.makeDW (zs := [Go.Value.int Go.IntKind.i64 0, Go.Value.slice none 0 0, Go.Value.bool false]) (f := e_impl_Write) (y := ((⟨(0 : Int), [], false⟩ : S_impl_Write) : S_impl_Write)) k hr hu hinfo rfl rfl rfl (fun _ => (.cons (.imm _) (.cons .nil (.cons (.imm _) .nil)))) hx hc hl rfl hkp hd hn
theorem _root_.Go.Lift.LWo.alloc_impl_Entry (k : Nat) (hl : Lift.lone k (hdel k s.h) = true) (hkp : E.keep.contains k = false := by exact rfl) (hd : Nat.blt d E.n = true := by exact rfl)
    (hn : LWo Try.prog E all rest Q { tm := (d, .ptr k 0 0) :: kill k s.tm, h := (k, vob 2 e_impl_Entry ((⟨(0 : Int), []⟩ : S_impl_Entry) : S_impl_Entry)) :: hdel k s.h }) :
    LWo Try.prog E all ({ dst := some d, op := .alloc t_impl_Entry, type := ty, pos := pos, after := af, guard := none } :: rest) Q s :=
  LWo.allocW (zs := [Go.Value.int Go.IntKind.i64 0, Go.Value.slice none 0 0]) (f := e_impl_Entry) (y := (⟨(0 : Int), []⟩ : S_impl_Entry)) k z_impl_Entry rfl rfl rfl (.cons .refl (.cons .nil .nil)) rfl hl hkp hd hn
theorem _root_.Go.Lift.LWo.allocX_impl_Entry (os : List (Nat × LV)) (k : Nat) (hy : ovr (e_impl_Entry ((⟨(0 : Int), []⟩ : S_impl_Entry) : S_impl_Entry)).cells os = [Go.Value.int Go.IntKind.i64 0, Go.Value.slice none 0 0].map LV.imm) (hl : Lift.lone k (hdel k s.h) = true) (hkp : E.keep.contains k = false := by exact rfl) (hd : Nat.blt d E.n = true := by exact rfl)
    (hn : LWo Try.prog E all rest Q { tm := (d, .ptr k 0 0) :: kill k s.tm, h := (k, xob 2 e_impl_Entry ((⟨(0 : Int), []⟩ : S_impl_Entry) : S_impl_Entry) os) :: hdel k s.h }) :
    LWo Try.prog E all ({ dst := some d, op := .alloc t_impl_Entry, type := ty, pos := pos, after := af, guard := none } :: rest) Q s :=
  LWo.allocX (zs := [Go.Value.int Go.IntKind.i64 0, Go.Value.slice none 0 0]) os k z_impl_Entry rfl rfl rfl hy hl hkp hd hn
theorem _root_.Go.Lift.LWo.makeD_impl_Entry {T e : TypeId} {x c : Operand} {kl kc : IntKind} {m n : Int} {r : List S_impl_Entry} (k : Nat) (hr : mk2? m n ((⟨(0 : Int), []⟩ : S_impl_Entry) : S_impl_Entry) = some r) (hu : Try.prog.underlying T = some (.slice e)) (hinfo : (Try.prog.info? e).map (fun i => (i.size, i.bytes, i.zero)) = some (2, 32, some ((Go.Value.agg #[Go.Value.int Go.IntKind.i64 0, Go.Value.slice none 0 0])))) (hx : s.eval x = .imm (.int kl m)) (hc : s.eval c = .imm (.int kc n)) (hl : Lift.lone k (hdel k s.h) = true) (hkp : E.keep.contains k = false := by exact rfl) (hd : Nat.blt d E.n = true := by exact rfl)
    (hn : LWo Try.prog E all rest Q { tm := (d, .own k 0 r.length) :: kill k s.tm, h := (k, dob 2 e_impl_Entry r) :: hdel k s.h }) :
    LWo Try.prog E all ({ dst := some d, op := .makeSlice T x c, type := ty, pos := pos, after := af, guard := none } :: rest) Q s :=
  LWo.makeDW (zs := [Go.Value.int Go.IntKind.i64 0, Go.Value.slice none 0 0]) (f := e_impl_Entry) (y := ((⟨(0 : Int), []⟩ : S_impl_Entry) : S_impl_Entry)) k hr hu hinfo rfl rfl rfl (fun _ => (.cons (.imm _) (.cons .nil .nil))) hx hc hl rfl hkp hd hn
theorem _root_.Go.Lift.LWo.build_impl_Version {parts : List (Nat × Operand)} {ps : List (Nat × LV)} {ys : List LV} (v : S_impl_Version) (hps : parts.map (fun p => (p.1, s.eval p.2)) = ps) (hc : ps.all (fun p => p.2.cellable) = true) (hy : lfill (#[(0, 1), (1, 1), (2, 1), (3, 1)][·]?) [.imm (Go.Value.int Go.IntKind.i64 0), .imm (Go.Value.int Go.IntKind.i64 0), .imm (Go.Value.int Go.IntKind.i64 0), .imm (Go.Value.slice none 0 0)] ps = some ys) (hw : Wk (.agg ys) (e_impl_Version v)) (hd : Nat.blt d E.n = true := by exact rfl)
    (hn : LWo Try.prog E all rest Q (s.put (some d) (e_impl_Version v))) :
    LWo Try.prog E all ({ dst := some d, op := .build t_impl_Version parts.toArray, type := ty, pos := pos, after := af, guard := none } :: rest) Q s :=
  LWo.buildW (zs := [Go.Value.int Go.IntKind.i64 0, Go.Value.int Go.IntKind.i64 0, Go.Value.int Go.IntKind.i64 0, Go.Value.slice none 0 0]) ys _ u_impl_Version z_impl_Version (fun w => by simp [Array.mapM_eq_mapM_toList, Try.sizeOf3, Try.sizeOf110]) rfl hps hc hy hw hd hn
theorem _root_.Go.Lift.LWo.alloc_impl_Version (k : Nat) (hl : Lift.lone k (hdel k s.h) = true) (hkp : E.keep.contains k = false := by exact rfl) (hd : Nat.blt d E.n = true := by exact rfl)
    (hn : LWo Try.prog E all rest Q { tm := (d, .ptr k 0 0) :: kill k s.tm, h := (k, vob 4 e_impl_Version ((⟨(0 : Int), (0 : Int), (0 : Int), []⟩ : S_impl_Version) : S_impl_Version)) :: hdel k s.h }) :
    LWo Try.prog E all ({ dst := some d, op := .alloc t_impl_Version, type := ty, pos := pos, after := af, guard := none } :: rest) Q s :=
  LWo.allocW (zs := [Go.Value.int Go.IntKind.i64 0, Go.Value.int Go.IntKind.i64 0, Go.Value.int Go.IntKind.i64 0, Go.Value.slice none 0 0]) (f := e_impl_Version) (y := (⟨(0 : Int), (0 : Int), (0 : Int), []⟩ : S_impl_Version)) k z_impl_Version rfl rfl rfl (.cons .refl (.cons .refl (.cons .refl (.cons .nil .nil)))) rfl hl hkp hd hn
theorem _root_.Go.Lift.LWo.allocX_impl_Version (os : List (Nat × LV)) (k : Nat) (hy : ovr (e_impl_Version ((⟨(0 : Int), (0 : Int), (0 : Int), []⟩ : S_impl_Version) : S_impl_Version)).cells os = [Go.Value.int Go.IntKind.i64 0, Go.Value.int Go.IntKind.i64 0, Go.Value.int Go.IntKind.i64 0, Go.Value.slice none 0 0].map LV.imm) (hl : Lift.lone k (hdel k s.h) = true) (hkp : E.keep.contains k = false := by exact rfl) (hd : Nat.blt d E.n = true := by exact rfl)
    (hn : LWo Try.prog E all rest Q { tm := (d, .ptr k 0 0) :: kill k s.tm, h := (k, xob 4 e_impl_Version ((⟨(0 : Int), (0 : Int), (0 : Int), []⟩ : S_impl_Version) : S_impl_Version) os) :: hdel k s.h }) :
    LWo Try.prog E all ({ dst := some d, op := .alloc t_impl_Version, type := ty, pos := pos, after := af, guard := none } :: rest) Q s :=
  LWo.allocX (zs := [Go.Value.int Go.IntKind.i64 0, Go.Value.int Go.IntKind.i64 0, Go.Value.int Go.IntKind.i64 0, Go.Value.slice none 0 0]) os k z_impl_Version rfl rfl rfl hy hl hkp hd hn
end
end Go.Proofs.Ytkgmomocjkmipaa
