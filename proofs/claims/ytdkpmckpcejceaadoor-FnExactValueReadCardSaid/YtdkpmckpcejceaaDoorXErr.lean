/- Atoi where the text is no number. -/
import Derived.Test.YtdkpmckpcejceaaDoorXSh
set_option linter.unusedVariables false
set_option linter.unusedSimpArgs false
set_option linter.unnecessarySimpa false
namespace Go.Proofs
open Go.Shelf Go.RowKit Go.Lift
theorem Tryd.info5 : (Tryd.prog.info? 5).map (fun i => (i.zero, i.size, i.bytes)) = some (some (Value.int IntKind.u8 0), 1, 1) := by kernel_rfl
set_option maxHeartbeats 4000000 in
set_option maxRecDepth 100000 in
theorem Tryd.cloneX (s : ByteArray) (w : World) (hlim : s.size ≤ 281474976710656) : Calls Tryd.prog 46 #[.string s] w fun e w' => e = .returned (.string s) ∧ Ext w [] w' := by
  by_cases h0 : s.size = 0
  · have hs : s = ⟨#[]⟩ := ByteArray.ext (Array.eq_empty_of_size_eq_zero h0)
    subst hs
    go_enter Tryd.func46, Tryd.ntmps46
    go_wp2
    go_ret
    exact ⟨rfl, ext_of_grow0⟩
  · obtain ⟨i0, hi, hz0, hz1, hz2⟩ := info_parts Tryd.info5
    have hco : Tryd.prog.cellsOf 5 = 1 := by simp [Program.cellsOf, hi, hz1]
    have hinfo : (Tryd.prog.info? 5).map (·.size) = some 1 := by rw [hi]; simp [hz1]
    obtain ⟨M, hM⟩ : ∃ M, M = madeCells (Value.int .u8 0).cells (((s.size : Nat) : Int).toNat * i0.size) := ⟨_, rfl⟩; have hMs : M.size = s.size := by rw [hM, size_madeCells, hz1]; simp
    have hmk : ∀ W : World, (Instr.makeSlice 22 (.int .i64 (s.size : Int)) (.int .i64 (s.size : Int))).run Tryd.prog W = .ok (.slice (some ⟨W.heap.size, 0, none⟩) s.size s.size) (W.alloc (.cells M 5)) := fun W => by
      have h := run_make (P := Tryd.prog) W 22 5 i0 (.int .u8 0) Tryd.underlying22 hi hz0 .i64 .i64 (s.size : Int) (s.size : Int) (by omega) (by omega) (by rw [hz2]; omega) (by omega); rw [← hM] at h; simpa using h
    clear hM; have hcp := Lib.run_copy_row_string (P := Tryd.prog) (w.alloc (.cells M 5)) 22 9 3 5 w.heap.size 0 s.size s.size s M 5 Tryd.underlying22 hinfo (heap_alloc_new w _) (Nat.le_refl _) (by omega); obtain ⟨Y, hY⟩ : ∃ Y, Y = (M.toList.take 0 ++ Lib.byteCells s.data.toList ++ M.toList.drop (0 + s.size)).toArray := ⟨_, rfl⟩; rw [← hY] at hcp
    have hYl : Y.toList = Lib.byteCells s.data.toList := by
      rw [hY, List.toList_toArray, List.take_zero, List.nil_append, List.drop_of_length_le (by rw [Array.length_toList]; omega), List.append_nil]
    have hYs : Y.size = s.size := by rw [← Array.length_toList, hYl, Lib.byteCells_length, ← Lib.size_eq]
    have hgY : ((w.alloc (.cells M 5)).setRow w.heap.size Y).heap[w.heap.size]? = some (.cells Y 5 (0, 0)) := setRow_heap _ _ M _ 5 (0, 0) (heap_alloc_new w _); have hne : s.data.toList ≠ [] := fun e => h0 (by rw [Lib.size_eq, e]; rfl)
    have hUS := Lib.run_unsafeString_row (P := Tryd.prog) ((w.alloc (.cells M 5)).setRow w.heap.size Y) 79 3 9 5 Tryd.underlying79 hco w.heap.size Y.size (by unfold World.shape?; rw [hgY]) s.data.toList hne (by rw [← Lib.size_eq]; omega) (by rw [← Lib.size_eq]; omega)
      (fun j x hx => Lib.cells_of_row hgY Y.size j _ (by rw [List.take_of_length_le (by rw [Array.length_toList]; exact Nat.le_refl _), hYl]; simp [Lib.byteCells, hx]))
    rw [← Lib.size_eq] at hUS; clear hY
    go_enter Tryd.func46, Tryd.ntmps46
    go_wp2
    go_ret
    have hb1 : Below w.heap.size w (w.alloc (.cells M 5)) := (Below.refl _ w).alloc (Nat.le_refl _) _; have hb2 : Below w.heap.size (w.alloc (.cells M 5)) ((w.alloc (.cells M 5)).setRow w.heap.size Y) := ⟨rfl, rfl, rfl, by simp, fun k hk => setRow_other _ _ _ _ (by omega)⟩; have hb := Lib.below_freeze (hb1.trans hb2) (p := ⟨w.heap.size, 0, none⟩) (Nat.le_refl _) s.size; exact ⟨rfl, hb.os, hb.tape, hb.output, hb.size, fun k hk _ => hb.block k hk, Nat.le_of_eq (by rw [show ∀ (q : World) (p : Addr) (n : Nat), (q.freeze p n).drawn = q.drawn from fun q p n => by unfold World.freeze; first | rfl | (split <;> rfl)]; rw [setRow_drawn]; rfl)⟩
theorem ext_trans {a b c : World} (h : Ext a [] b) (k : Ext b [] c) : Ext a [] c :=
  ⟨k.os.trans h.os, k.tape.trans h.tape, k.output.trans h.output, Nat.le_trans h.size k.size, fun j hj hn => (k.block j (Nat.lt_of_lt_of_le hj h.size) hn).trans (h.block j hj hn), Nat.le_trans h.drawn k.drawn⟩
theorem ext_drew {w : World} : Ext w [] w.drew := ⟨rfl, rfl, rfl, Nat.le_refl _, fun _ _ _ => rfl, Nat.le_succ _⟩
theorem ext_alloc {w : World} (o : Obj) : Ext w [] (w.alloc o) := ⟨rfl, rfl, rfl, by simp, fun j hj _ => Below.heap_alloc w o j hj, Nat.le_refl _⟩
theorem ext_cell {w w' : World} {a : Addr} {v : Value} (h : Ext w [] w') (hv : w.cell? a = some v) : w'.cell? a = some v := by
  have hlt : a.block < w.heap.size := Lib.lt_of_cell hv; have e := h.block a.block hlt (by simp); unfold World.cell? at *; rw [e]; exact hv
set_option maxHeartbeats 6400000 in
set_option maxRecDepth 100000 in
theorem Tryd.syntaxX (fn s : ByteArray) (ev : Value) (w : World) (hlim : s.size ≤ 281474976710656) (hv : w.cell? ⟨0, 0, none⟩ = some ev) (hev : ∃ te pe, ev = .iface te pe) :
    Calls Tryd.prog 37 #[.string fn, .string s] w fun e w' => ∃ N, e = .returned (.pointer (some ⟨N, 0, none⟩)) ∧ Ext w [] w' := by
  have mixed := Tryd.laysAtoi.mixed; obtain ⟨te, pe, rfl⟩ := hev; have hvd : w.drew.cell? ⟨0, 0, none⟩ = some (.iface te pe) := hv
  go_enter Tryd.func37, Tryd.ntmps37
  go_wp2
  go_region_with_o (
      go_at_call 46
      refine (Tryd.cloneX s _ hlim).mono ?_; rintro e w2 ⟨rfl, hx⟩; have hv2 : w2.cell? ⟨0, 0, none⟩ = some (.iface te pe) := ext_cell hx hvd)
  all_goals (
    go_wp2
    go_ret
    exact ⟨_, rfl, ext_trans ext_drew (ext_trans hx (ext_alloc _))⟩)
set_option maxHeartbeats 6400000 in
set_option maxRecDepth 100000 in
theorem Tryd.rangeX (fn s : ByteArray) (ev : Value) (w : World) (hlim : s.size ≤ 281474976710656) (hv : w.cell? ⟨1, 0, none⟩ = some ev) (hev : ∃ te pe, ev = .iface te pe) :
    Calls Tryd.prog 38 #[.string fn, .string s] w fun e w' => ∃ N, e = .returned (.pointer (some ⟨N, 0, none⟩)) ∧ Ext w [] w' := by
  have mixed := Tryd.laysAtoi.mixed; obtain ⟨te, pe, rfl⟩ := hev; have hvd : w.drew.cell? ⟨1, 0, none⟩ = some (.iface te pe) := hv
  go_enter Tryd.func38, Tryd.ntmps38
  go_wp2
  go_region_with_o (
      go_at_call 46
      refine (Tryd.cloneX s _ hlim).mono ?_; rintro e w2 ⟨rfl, hx⟩; have hv2 : w2.cell? ⟨1, 0, none⟩ = some (.iface te pe) := ext_cell hx hvd)
  all_goals (
    go_wp2
    go_ret
    exact ⟨_, rfl, ext_trans ext_drew (ext_trans hx (ext_alloc _))⟩)
theorem Tryd.cmp54 : (Tryd.prog.info? 54).map (·.comparable) = some true := by kernel_rfl
set_option maxHeartbeats 4000000 in
set_option maxRecDepth 100000 in
theorem Tryd.toErrS (fn s : ByteArray) (ev : Value) (w : World) (hlim : s.size ≤ 281474976710656) (hv : w.cell? ⟨0, 0, none⟩ = some ev) (hev : ∃ te pe, ev = .iface te pe) :
    Calls Tryd.prog 34 #[.string fn, .string s, .int .i64 0, .int .i64 0, .iface 54 (.int .i64 2)] w fun e w' => ∃ te pe, e = .returned (.iface te pe) ∧ Ext w [] w' := by
  have mixed := Tryd.laysAtoi.mixed; have heq : ∀ W, (binOp .eql 42 (.iface 54 (.int .i64 2)) (.iface 54 (.int .i64 2))).run Tryd.prog W = .ok (.bool true) W := fun W => Lib.run_eql_iface_int W 2 2 Tryd.underlying42 Tryd.cmp54 Tryd.underlying54
  go_enter Tryd.func34, Tryd.ntmps34
  go_wp2_with (go_at_call 37; refine (Tryd.syntaxX fn s ev _ hlim ?_ hev).mono ?_)
  · exact hv
  rintro e w2 ⟨N, rfl, hx⟩
  go_wp2
  go_ret
  exact ⟨_, _, rfl, hx⟩
set_option maxHeartbeats 4000000 in
set_option maxRecDepth 100000 in
theorem Tryd.toErrR (fn s : ByteArray) (ev : Value) (w : World) (hlim : s.size ≤ 281474976710656) (hv : w.cell? ⟨1, 0, none⟩ = some ev) (hev : ∃ te pe, ev = .iface te pe) :
    Calls Tryd.prog 34 #[.string fn, .string s, .int .i64 0, .int .i64 0, .iface 54 (.int .i64 1)] w fun e w' => ∃ te pe, e = .returned (.iface te pe) ∧ Ext w [] w' := by
  have mixed := Tryd.laysAtoi.mixed; have heq : ∀ W, (binOp .eql 42 (.iface 54 (.int .i64 1)) (.iface 54 (.int .i64 2))).run Tryd.prog W = .ok (.bool false) W := fun W => Lib.run_eql_iface_int W 1 2 Tryd.underlying42 Tryd.cmp54 Tryd.underlying54; have heq2 : ∀ W, (binOp .eql 42 (.iface 54 (.int .i64 1)) (.iface 54 (.int .i64 1))).run Tryd.prog W = .ok (.bool true) W := fun W => Lib.run_eql_iface_int W 1 1 Tryd.underlying42 Tryd.cmp54 Tryd.underlying54
  go_enter Tryd.func34, Tryd.ntmps34
  go_wp2_with (go_at_call 38; refine (Tryd.rangeX fn s ev _ hlim ?_ hev).mono ?_)
  · exact hv
  rintro e w2 ⟨N, rfl, hx⟩
  go_wp2
  go_ret
  exact ⟨_, _, rfl, hx⟩
set_option maxHeartbeats 4000000 in
set_option maxRecDepth 100000 in
theorem Tryd.atoiErr (s : ByteArray) (w : World) (hlim : s.size ≤ 281474976710656) (h : ∀ v, Lib.atoiAll s.data.toList ≠ .ok v) (es er : Value) (hs : w.cell? ⟨0, 0, none⟩ = some es) (hes : ∃ te pe, es = .iface te pe) (hr : w.cell? ⟨1, 0, none⟩ = some er) (her : ∃ te pe, er = .iface te pe) :
    Calls Tryd.prog 22 #[.string s] w fun e w' => ∃ te pe, e = .returned (.tuple #[.int .i64 (match Lib.atoiAll s.data.toList with | .range => Lib.atoiSat s.data.toList | _ => 0), .iface te pe]) ∧ Ext w [] w' := by
  have mixed := Tryd.laysAtoi.mixed; have hI := Any.internal_strconv_Atoi_all { Tryd.laysAtoi with } s (by omega) w; obtain ⟨sb0, sb1⟩ := Lib.atoiSat_bounds s.data.toList; generalize Lib.atoiSat s.data.toList = sat at hI sb0 sb1 ⊢; cases ha : Lib.atoiAll s.data.toList with
  | ok v => exact absurd ha (h v)
  | «syntax» =>
    rw [ha] at hI; have hI : Calls Tryd.prog 33 #[.string s] w fun e w' => e = .returned (.tuple #[.int .i64 (0), .iface 54 (.int .i64 2)]) ∧ (w' = w ∨ ∃ t, w' = Lib.bytesWorld w 5 t) := hI; clear ha h
    go_enter Tryd.func22, Tryd.ntmps22
    go_wp2_with (go_at_call 33; refine hI.mono ?_)
    rintro e W1 ⟨rfl, hW⟩
    have hx1 : Ext w [] W1 := by
      rcases hW with rfl | ⟨t, rfl⟩
      · exact ext_of_grow0
      · exact ext_bytes
    have hv1 := ext_cell hx1 hs; clear hW
    go_wp2_with (go_at_call 34; refine (Tryd.toErrS ⟨#[65, 116, 111, 105]⟩ s es _ hlim ?_ hes).mono ?_)
    · exact hv1
    rintro e W2 ⟨te, pe, rfl, hx2⟩
    go_wp2
    go_ret2
    exact ⟨te, pe, rfl, ext_trans hx1 hx2⟩
  | range =>
    rw [ha] at hI; have hI : Calls Tryd.prog 33 #[.string s] w fun e w' => e = .returned (.tuple #[.int .i64 sat, .iface 54 (.int .i64 1)]) ∧ (w' = w ∨ ∃ t, w' = Lib.bytesWorld w 5 t) := hI; clear ha h
    go_enter Tryd.func22, Tryd.ntmps22
    go_wp2_with (go_at_call 33; refine hI.mono ?_)
    rintro e W1 ⟨rfl, hW⟩
    have hx1 : Ext w [] W1 := by
      rcases hW with rfl | ⟨t, rfl⟩
      · exact ext_of_grow0
      · exact ext_bytes
    have hv1 := ext_cell hx1 hr; clear hW
    go_wp2_with (go_at_call 34; refine (Tryd.toErrR ⟨#[65, 116, 111, 105]⟩ s er _ hlim ?_ her).mono ?_)
    · exact hv1
    rintro e W2 ⟨te, pe, rfl, hx2⟩
    go_wp2
    go_ret2
    exact ⟨te, pe, rfl, ext_trans hx1 hx2⟩
theorem Tryd.gES0 : Tryd.prog.globalNamed "strconv.ErrSyntax" = some 0 := by kernel_rfl
theorem Tryd.gER0 : Tryd.prog.globalNamed "strconv.ErrRange" = some 1 := by kernel_rfl
def atoiE (a0 : ByteArray) : Int × Bool := match Lib.atoiAll a0.data.toList with
  | .ok v => (v, false)
  | .range => (Lib.atoiSat a0.data.toList, true)
  | .«syntax» => (0, true)
theorem Tryd.atoi_does (he : ∀ vs w, (callFunc 22 vs).run Tryd.prog w = .ok (.enter 22 vs) w) (a0 : ByteArray) (hlim : a0.size ≤ 281474976710656) : DoesG Tryd.prog GW 22 [.imm (.string a0)] (fun x hh => (∃ ev, errV (atoiE a0).2 ev ∧ x = .tup [.imm (.int .i64 (atoiE a0).1), .imm ev]) ∧ hh = []) := by
  refine DoesG.pure he fun w hG => ?_; obtain ⟨_, ⟨t1, p1, v1⟩, ⟨t2, p2, v2⟩⟩ := hG; have c1 : w.cell? ⟨0, 0, none⟩ = some (.iface t1 p1) := by have h0 := World.var?_cell Tryd.gES0 v1 0; simpa using h0
  have c2 : w.cell? ⟨1, 0, none⟩ = some (.iface t2 p2) := by have h0 := World.var?_cell Tryd.gER0 v2 0; simpa using h0
  have res : ∀ (n : Int) (ev : Value), ev.oneCell' = true → ∀ (w' : World) (ok : Nat → Prop), Res w' ok (.tup [.imm (.int .i64 n), .imm ev]) (.tuple #[.int .i64 n, ev]) [] := fun n ev _ w' ok =>
    .tup (vs := [.int .i64 n, ev]) (.cons (fun _ h => by cases h) (.fro (.imm _)) (.cons (fun _ h => by cases h) (.fro (.imm _)) .nil))
  cases ha : Lib.atoiAll a0.data.toList with
  | ok v =>
    have e : atoiE a0 = (v, false) := by unfold atoiE; rw [ha]
    rw [e]; exact (Any.strconv_Atoi_ok Tryd.laysAtoi a0 (by omega) v ha w).mono fun e w' ⟨h1, h2⟩ => ⟨_, _, h1, ⟨⟨.nilIface, .inr ⟨rfl, rfl⟩, rfl⟩, rfl⟩, by rcases h2 with rfl | ⟨t, rfl⟩; exact ext_of_grow0; exact ext_bytes, fun ok => res v .nilIface rfl w' ok⟩
  | «syntax» =>
    have e : atoiE a0 = (0, true) := by unfold atoiE; rw [ha]
    rw [e]; have := Tryd.atoiErr a0 w hlim (by rw [ha]; intro v h; cases h) _ _ c1 ⟨_, _, rfl⟩ c2 ⟨_, _, rfl⟩; rw [ha] at this; exact this.mono fun e w' ⟨te, pe, h1, h2⟩ => ⟨_, _, h1, ⟨⟨_, .inl ⟨rfl, te, pe, rfl⟩, rfl⟩, rfl⟩, h2, fun ok => res 0 (.iface te pe) rfl w' ok⟩
  | range =>
    have e : atoiE a0 = (Lib.atoiSat a0.data.toList, true) := by unfold atoiE; rw [ha]
    rw [e]; have := Tryd.atoiErr a0 w hlim (by rw [ha]; intro v h; cases h) _ _ c1 ⟨_, _, rfl⟩ c2 ⟨_, _, rfl⟩; rw [ha] at this; exact this.mono fun e w' ⟨te, pe, h1, h2⟩ => ⟨_, _, h1, ⟨⟨_, .inl ⟨rfl, te, pe, rfl⟩, rfl⟩, rfl⟩, h2, fun ok => res _ (.iface te pe) rfl w' ok⟩
end Go.Proofs
