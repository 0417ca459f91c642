/- The logic, part three: capacities, copies, lists handed on, mirrors. -/
import Derived.Test.YtdkpmckpcejceaaDoorLb
import Derived.Laws.Externs
import Derived.Laws.Small
set_option linter.unusedVariables false
set_option linter.unusedSimpArgs false
set_option linter.unnecessarySimpa false
/- The lifted logic, part 20: capacities. Own work. -/
namespace Go.Lift
open Go.RowKit
section
variable {P : Program} {E : Ent} {Q : Exit → LState → Prop} {s s' : LState} {all : Array Oper} {rest : List Oper} {d : Nat} {ty : TypeId} {pos : String} {af : Array Edge}
theorem Inv'.ownc {a : Act} {w : World} {ok : Nat → Prop} {ρ : Env} {F : Nat → List Nat} (hi : Inv' E s a w ok ρ F) {x : Operand} {o off n c : Nat} (hx : s.eval x = .ownc o off n c) : (∃ p, ρ o = some p ∧ off + c ≤ p.cap ∧ n ≤ c ∧ a.eval x = .slice (some ⟨p.blk, off * p.sz, none⟩) n c) ∨ (n = 0 ∧ c = 0 ∧ ∃ A, a.eval x = .slice A 0 0) := by
  have := hi.eval x; rw [hx] at this; exact this.ownc_inv
inductive NoRoom (s : LState) (x : Operand) (sz need : Nat) : List LV → Prop
  | nil : s.eval x = .imm (.slice none 0 0) → 0 < need → NoRoom s x sz need []
  | own {o n c : Nat} {obj : LObj} {xs : List LV} : s.eval x = .ownc o 0 n c → hget o s.h = some obj → obj.kind = .fro → obj.sz = sz → n ≤ obj.elems.length → obj.elems.take n = xs → c < n + need → (∀ x ∈ xs, x.cells.length = sz) → NoRoom s x sz need xs
end
end Go.Lift
/- The lifted logic, part 21: copy. Own work. -/
namespace Go.Lift
open Go.RowKit
section
variable {P : Program} {E : Ent} {Q : Exit → LState → Prop} {s s' : LState} {all : Array Oper} {rest : List Oper} {d : Nat} {ty : TypeId} {pos : String} {af : Array Edge}
inductive SrcPre (s : LState) (y : Operand) (sz m : Nat) (ys : List LV) : Prop
  | sl {zs : List LV} : s.eval y = .sl sz zs → zs.length = m → zs.take ys.length = ys → SrcPre s y sz m ys
  | nil : s.eval y = .imm (.slice none 0 0) → m = 0 → ys = [] → SrcPre s y sz m ys
  | own {o off : Nat} {obj : LObj} : s.eval y = .own o off m → hget o s.h = some obj → obj.kind = .fro → obj.sz = sz → off + ys.length ≤ obj.elems.length → (obj.elems.drop off).take ys.length = ys → ys.length ≤ m → SrcPre s y sz m ys
theorem SrcPre.run {y : Operand} {sz m : Nat} {ys : List LV} {a : Act} {w : World} {ok : Nat → Prop} {ρ : Env} {F : Nat → List Nat} (h : SrcPre s y sz m ys) (hi : Inv' E s a w ok ρ F) :
    ∃ A c vs, a.eval y = .slice A m c ∧ FroL w ok (ys.flatMap LV.cells) vs ∧ (∀ x ∈ ys, x.cells.length = sz) ∧ (Builtin.firstCells sz ys.length (.slice A m c)).run P w = .ok vs.toArray w := by
  have hv := hi.eval y; cases h with
  | sl h hm hy =>
    rename_i zs; rw [h] at hv; have hf := hv.sl_inv; cases hx : a.eval y with
    | slice A n c =>
      rw [hx] at hf; cases hf with
      | sl0 hc =>
        simp at hm hy; subst hm; have hys : ys = [] := hy.symm ▸ rfl; subst hys; exact ⟨A, c, [], rfl, .nil, by simp, by cases A <;> simp [Builtin.firstCells, loadCells, loadCellsFrom, Sem.run]⟩
      | sl h0 h1 h2 h3 h4 h5 h6 =>
        rename_i vs ad; subst hm; have hu : ∀ x ∈ ys, x.cells.length = sz := fun x hx => h1 x (by rw [← hy] at hx; exact List.mem_of_mem_take hx); have h2' := h2.take (ys.length * sz); rw [← flat_take _ sz _ h1, hy] at h2'; refine ⟨some ad, c, vs.take (ys.length * sz), rfl, h2', hu, ?_⟩; have hlen := h2'.length; rw [flat_len _ _ hu] at hlen
        exact run_firstCells_some w sz ys.length ad zs.length c _ hlen.symm (fun j v hj => by
          rw [List.getElem?_take] at hj
          split at hj
          · exact h3 j v hj
          · cases hj)
    | _ => rw [hx] at hf; cases hf
  | nil h hm hy =>
    subst hm hy; rw [h] at hv; rw [hv.imm_inv]; exact ⟨none, 0, [], rfl, .nil, by simp, by simp [Builtin.firstCells]⟩
  | own h ho hk hs hl hy hle =>
    rename_i o off obj; rw [h] at hv; rcases hv.own_inv with ⟨p, c, hp, h2, h3, hx⟩ | ⟨h0, A, hx⟩
    · rcases hi.heap.objs _ (hget_mem ho) with ⟨h', _⟩ | ⟨p', arr, t, vs, fps, h', hF, hobj⟩
      · rw [hp] at h'; cases h'
      · rw [hp] at h'; cases h'
        have hsz : p.sz = obj.sz := hobj.sz; have hcells := hobj.cells; rw [hk] at hcells; have hfr := (hcells.2.drop (off * sz)).take (ys.length * sz); have hunif : ∀ x ∈ obj.elems, x.cells.length = sz := fun x hx => hs ▸ hobj.unif x hx; rw [← flat_drop _ sz _ hunif, ← flat_take _ sz _ (fun x hx => hunif x (List.mem_of_mem_drop hx)), hy] at hfr; have hu : ∀ x ∈ ys, x.cells.length = sz := fun x hx => hunif x (by rw [← hy] at hx; exact List.mem_of_mem_drop (List.mem_of_mem_take hx)); refine ⟨_, c, _, hx, hfr, hu, ?_⟩; have hlen := hfr.length; rw [flat_len _ _ hu] at hlen; refine run_firstCells_some w sz ys.length _ m c _ hlen.symm (fun j v hj => ?_); rw [add_plain]; rw [List.getElem?_take] at hj
        split at hj
        · have := hobj.vals (off * sz + j) v (by simpa using hj)
          have hb := hobj.blk; simp only [World.cell?, hb, hsz, hs]; simpa using this
        · cases hj
    · have : ys = [] := List.eq_nil_of_length_eq_zero (by omega)
      subst this; subst h0; exact ⟨A, 0, [], hx, .nil, by simp, by cases A <;> simp [Builtin.firstCells, loadCells, loadCellsFrom, Sem.run]⟩
end
end Go.Lift
/- The lifted logic, part 22: slices.overlaps; a contract under other names. Own work. -/
namespace Go.Lift
open Go.RowKit
section
variable {P : Program} {E : Ent} {Q : Exit → LState → Prop} {s s' : LState} {all : Array Oper} {rest : List Oper} {d : Nat} {ty : TypeId} {pos : String} {af : Array Edge}
end
end Go.Lift
/- The lifted logic, part 23: a region of open order whose last operation writes an object. Own work. -/
namespace Go.Lift
open Go.RowKit
section
variable {P : Program} {E : Ent} {Q : Exit → LState → Prop}
end
end Go.Lift
/- The lifted logic, part 24: an object under another name; contracts under other names. Own work. -/
namespace Go.Lift
open Go.RowKit
section
variable {P : Program} {E : Ent} {Q : Exit → LState → Prop} {s s' : LState} {all : Array Oper} {rest : List Oper}
theorem Does.name {f : FuncId} {n : Nat} {obj : LObj} {xs : List LV} {R : LV → Prop} (hk : obj.kind = .fro) (hro : obj.ro = false) (hxs : LV.pure.pureL xs = true) (h : Does P f (.own 0 0 n :: xs) [(0, obj)] (fun r h => R r ∧ h = [])) (k : Nat) :
    Does P f (.own k 0 n :: xs) [(k, obj)] (fun r h => R r ∧ h = []) := by
  refine ⟨h.1, fun w vs ok ρ F hT hH hok => ?_⟩; have hFe : fpsOf (fun _ => F k) (rwOf [(0, obj)]) = fpsOf F (rwOf [(k, obj)]) := by simp [rwOf, hro, fpsOf]
  have hT' : RepT w ok (fun _ => ρ k) (.own 0 0 n :: xs) vs := by
    cases hT with
    | cons h1 h2 =>
      refine .cons ?_ ?_
      · rcases h1.own_inv with ⟨p, c, hp, h2, h3, hv⟩ | ⟨rfl, A, hv⟩
        · rw [hv]; exact .own hp h2 h3
        · rw [hv]; exact .own0
      · have : ∀ {xs : List LV} {vs : List Value}, LV.pure.pureL xs = true → RepT w ok ρ xs vs → RepT w ok (fun _ => ρ k) xs vs := by
          intro xs
          induction xs with
          | nil => intro vs _ h; cases h; exact .nil
          | cons x xs ih =>
            intro vs hp h; cases h with
            | cons h1 h2 =>
              simp [LV.pure.pureL] at hp; exact .cons (.fro (h1.pure hp.1)) (ih hp.2 h2)
        exact this hxs h2
  have hH' : HeapOK w ok (fun _ => ρ k) (fun _ => F k) [(0, obj)] := by
    refine ⟨by simp [hkeys], fun p hp => ?_, ?_, ?_⟩
    · simp at hp; subst hp
      rcases hH.objs (k, obj) (by simp) with ⟨h1, h2, h3⟩ | ⟨p, arr, t, us, fps, h1, h2, h3⟩
      · exact .inl ⟨h1, h2, h3⟩
      · refine .inr ⟨p, arr, t, us, fps, h1, h2, { h3 with cells := ?_ }⟩
        have hc := h3.cells; simp only [hk] at hc ⊢; exact hc
    · have := hH.nodup; simpa [fpsOf] using this
    · intro b hb
      exact hH.apart b (by simpa [fpsOf] using hb)
  refine (h.2 w vs ok (fun _ => ρ k) (fun _ => F k) hT' hH' hok).mono fun e w' => ?_; rintro ⟨v, r, hl', ok', F', fr, he, ⟨hR, rfl⟩, hext, hres, hk', ho', hn', hb', hok'⟩; refine ⟨v, r, [], ok', F', fr, he, ⟨hR, rfl⟩, hFe ▸ hext, hres, hk', ?_, hn', ?_, ?_⟩
  · simp
  · rw [← hFe]; exact hb'
  · rw [← hFe]; exact hok'
end
end Go.Lift
/- The lifted logic, part 25: lists handed on, frozen, begun. Own work. -/
namespace Go.Lift
open Go.RowKit
section
variable {P : Program} {E : Ent} {Q : Exit → LState → Prop} {s s' : LState} {all : Array Oper} {rest : List Oper} {d : Nat} {ty : TypeId} {pos : String} {af : Array Edge}
end
end Go.Lift
namespace Go.Lift
open Go.RowKit
section
variable {P : Program} {E : Ent} {Q : Exit → LState → Prop} {s s' : LState} {all : Array Oper} {rest : List Oper} {d : Nat} {ty : TypeId} {pos : String} {af : Array Edge}
end
end Go.Lift
/- The lifted logic, part 26: pointers lent; remainders; exclusive or. Own work. -/
namespace Go.Lift
open Go.RowKit
theorem rem_in {k : IntKind} {m n : Int} (h : n ≠ 0) : intBin .rem k m n = some (.int k (m.tmod n)) := by simp [intBin, h]
theorem quo_in {m n : Int} (h : n ≠ 0) (h0 : -9223372036854775808 ≤ m.tdiv n) (h1 : m.tdiv n ≤ 9223372036854775807) : intBin .quo .i64 m n = some (.int .i64 (m.tdiv n)) := by
  simp only [intBin, if_neg h]; rw [wrap64_in h0 h1]
section
variable {P : Program} {E : Ent} {Q : Exit → LState → Prop} {s s' : LState} {all : Array Oper} {rest : List Oper} {d : Nat} {ty : TypeId} {pos : String} {af : Array Edge}
theorem LWo.lenD {x : Operand} {T : TypeId} {e : TypeId} {n : Nat} {y : LV} (hu : P.underlying T = some (.slice e)) (hx : s.eval x = y) (hl : y.len = some n) (hs : y.isStr = false) (hd : Nat.blt d E.n = true := by exact rfl)
    (hn : LWo P E all rest Q (s.put (some d) (.imm (.int .i64 n)))) :
    LWo P E all ({ dst := some d, op := .call { callee := .builtin .len, args := #[x], argTypes := #[T] }, type := ty, pos := pos, after := af, guard := none } :: rest) Q s :=
  LWo.len hu (hx ▸ hl) (hx ▸ hs) hd hn
end
end Go.Lift
/- The lifted logic, part 27: what mirrors of functions are made of; loops and joins by mirrors; results in cells. Own work. -/
namespace Go.Lift
open Go.RowKit
theorem bs {α β : Type} {o : Option α} {f : α → Option β} {r : β} (h : o.bind f = some r) : ∃ x, o = some x ∧ f x = some r := by
  cases o with
  | none => cases h
  | some x => exact ⟨x, rfl, h⟩
theorem bT {β : Type} {b : Bool} {x y : Option β} {r : β} (hb : b = true) (h : (bif b then x else y) = some r) : x = some r := by subst hb; exact h
theorem bF {β : Type} {b : Bool} {x y : Option β} {r : β} (hb : b = false) (h : (bif b then x else y) = some r) : y = some r := by subst hb; exact h
def lt {α β : Type} (x : α) (f : α → β) : β := f x
def ckI (x : Int) : Option Int := if -9223372036854775808 ≤ x ∧ x ≤ 9223372036854775807 then some x else none
theorem ckI_some {x y : Int} (h : ckI x = some y) : y = x ∧ -9223372036854775808 ≤ x ∧ x ≤ 9223372036854775807 := by
  unfold ckI at h
  split at h
  · rename_i h1; cases h; exact ⟨rfl, h1⟩
  · cases h
theorem ckI_of {x : Int} (h0 : -9223372036854775808 ≤ x) (h1 : x ≤ 9223372036854775807) : ckI x = some x := by unfold ckI; rw [if_pos ⟨h0, h1⟩]
theorem add_ck {m n z : Int} (h : ckI (m + n) = some z) : intBin .add .i64 m n = some (.int .i64 z) := by
  obtain ⟨rfl, h0, h1⟩ := ckI_some h; exact add_in h0 h1
theorem sub_ck {m n z : Int} (h : ckI (m - n) = some z) : intBin .sub .i64 m n = some (.int .i64 z) := by
  obtain ⟨rfl, h0, h1⟩ := ckI_some h; exact sub_in h0 h1
theorem mul_ck {m n z : Int} (h : ckI (m * n) = some z) : intBin .mul .i64 m n = some (.int .i64 z) := by
  obtain ⟨rfl, h0, h1⟩ := ckI_some h; exact mul_in h0 h1
def quoI (m n : Int) : Option Int := if n = 0 then none else ckI (m.tdiv n)
def remI (m n : Int) : Option Int := if n = 0 then none else some (m.tmod n)
theorem quo_ck {m n z : Int} (h : quoI m n = some z) : intBin .quo .i64 m n = some (.int .i64 z) := by
  unfold quoI at h
  split at h
  · cases h
  · rename_i hn
    obtain ⟨rfl, h0, h1⟩ := ckI_some h; exact quo_in hn h0 h1
theorem rem_ck {m n z : Int} {k : IntKind} (h : remI m n = some z) : intBin .rem k m n = some (.int k z) := by
  unfold remI at h
  split at h
  · cases h
  · rename_i hn
    cases h; exact rem_in hn
def at? {α : Type} (l : List α) (i : Int) : Option α := if 0 ≤ i then l[i.toNat]? else none
theorem at_0 {α : Type} {l : List α} {i : Int} {x : α} (h : at? l i = some x) : 0 ≤ i := by
  unfold at? at h
  split at h
  · assumption
  · cases h
theorem at_g {α : Type} {l : List α} {i : Int} {x : α} (h : at? l i = some x) : l[i.toNat]? = some x := by
  have := at_0 h; unfold at? at h
  rwa [if_pos this] at h
theorem at_m {α : Type} {f : α → LV} {l : List α} {i : Int} {x : α} (h : at? l i = some x) : (l.map f)[i.toNat]? = some (f x) := by
  rw [List.getElem?_map, at_g h]; rfl
theorem at_someI {α : Type} {l : List α} {i : Int} (h0 : 0 ≤ i) (h : i.toNat < l.length) : at? l i = some l[i.toNat] := by
  unfold at?; rw [if_pos h0]; simp [h]
def cut? {α : Type} (l : List α) (lo hi : Int) : Option (List α) := if 0 ≤ lo ∧ lo ≤ hi ∧ hi ≤ l.length then some ((l.take hi.toNat).drop lo.toNat) else none
def sEq (a b : ByteArray) : Bool := a.toList == b.toList
theorem sEq_eq (a b : ByteArray) : sEq a b = decide (a = b) := by
  unfold sEq; rw [ByteArray.toList_eq, ByteArray.toList_eq, Bool.eq_iff_iff]; simp only [beq_iff_eq, decide_eq_true_eq, Array.toList_inj]; exact ⟨fun h => ByteArray.ext h, fun h => by rw [h]⟩
def sCat? (a b : ByteArray) : Option ByteArray := if a.size + b.size ≤ 9223372036854775807 then some (a ++ b) else none
theorem cat_ck {a b z : ByteArray} (h : sCat? a b = some z) : strBin .add a b = some (.string z) := by
  unfold sCat? at h
  split at h
  · rename_i h1
    cases h; have hm : IntKind.i64.max = 9223372036854775807 := by decide
    have : ¬ (((a.size + b.size : Nat) : Int) > IntKind.i64.max) := by rw [hm]; omega
    simp only [strBin, if_neg this]
  · cases h
def sAt? (a : ByteArray) (i : Int) : Option UInt8 := if 0 ≤ i then a[i.toNat]? else none
theorem sAt_0 {a : ByteArray} {i : Int} {c : UInt8} (h : sAt? a i = some c) : 0 ≤ i := by
  unfold sAt? at h
  split at h
  · assumption
  · cases h
theorem sAt_g {a : ByteArray} {i : Int} {c : UInt8} (h : sAt? a i = some c) : a[i.toNat]? = some c := by
  have := sAt_0 h; unfold sAt? at h
  rwa [if_pos this] at h
def sCut? (a : ByteArray) (lo hi : Int) : Option ByteArray := if 0 ≤ lo ∧ lo ≤ hi ∧ hi ≤ a.size then some (a.extract lo.toNat hi.toNat) else none
def byteOf (n : Int) : UInt8 := UInt8.ofNat (n % 256).toNat
theorem wrap_u8 (n : Int) : IntKind.u8.wrap n = ((byteOf n).toNat : Int) := by
  unfold byteOf; have h0 := Int.emod_nonneg n (show (256 : Int) ≠ 0 by decide); have h1 := Int.emod_lt_of_pos n (show (0 : Int) < 256 by decide); rw [UInt8.toNat_ofNat']; rw [Nat.mod_eq_of_lt (by omega), Int.toNat_of_nonneg h0]; rfl
section
variable {P : Program} {E : Ent} {Q : Exit → LState → Prop} {s : LState} {all : Array Oper} {rest : List Oper} {d : Nat} {ty : TypeId} {pos : String} {af : Array Edge}
theorem LWP.join {x y : Code} {α R : Type} (V : α → Tm) (H : α → LHeap) (J : α → Option R) (r : R) (hk : ∀ z, (hkeys (H z)).Nodup)
    (h2 : ∀ z, J z = some r → LWP P E y Q ⟨V z, H z⟩)
    (h1 : ∀ N : LState → Prop, (∀ z s', AllEq s'.tm (V z) → HSub s'.h (H z) → J z = some r → N s') → LWP P E x (LThen N Q) s) : LWP P E (.seq x y) Q s :=
  LWP.seq_k fun N hN => h1 N fun z s' a b c => hN s' (LWP.told a.mem b (hk z) (h2 z c))
theorem LWP.loopM {c : Code} {α R : Type} (V : α → Tm) (H : α → LHeap) (L : Nat → α → Option R) (r : R) (n0 : Nat) (x0 : α) (hL : L n0 x0 = some r) (hz : ∀ x, L 0 x = none) (hk : ∀ z, (hkeys (H z)).Nodup) (hV : AllEq s.tm (V x0)) (hH : HSub s.h (H x0))
    (round : ∀ n x, L (n + 1) x = some r → ∀ N : LState → Prop, (∀ y s', AllEq s'.tm (V y) → HSub s'.h (H y) → L n y = some r → N s') → LWP P E c (LThen N Q) ⟨V x, H x⟩) : LWP P E (.loop c) Q s := by
  refine LWP.loopV (α := Nat × α) [] (fun p => p.1) (fun p => L p.1 p.2 = some r) (fun p => V p.2) (fun p => H p.2) (n0, x0) (fun p => hk p.2) hL hV hH ?_; rintro ⟨n, x⟩ hx; cases n with
  | zero => simp [hz] at hx
  | succ n =>
    simp only [pickT, List.append_nil]; refine (round n x hx (fun s' => ∃ y, AllEq s'.tm (V y) ∧ HSub s'.h (H y) ∧ L n y = some r) fun y s' a b c => ⟨y, a, b, c⟩).mono fun e s' h => ?_; cases e <;> first | exact h | skip; obtain ⟨y, a, b, c⟩ := h; exact ⟨(n, y), c, by simp, a, trivial, b⟩
theorem LWo.boxF {T : TypeId} {x : Operand} (y : LV) (hx : s.eval x = y) (hc : y.cellable = true) (hp : LV.pure.pureL y.cells = true) (hd : Nat.blt d E.n = true := by exact rfl)
    (hn : LWo P E all rest Q (s.put (some d) (.fp y.cells))) :
    LWo P E all ({ dst := some d, op := .box T x, type := ty, pos := pos, after := af, guard := none } :: rest) Q s :=
  LWo.value _ rfl (fun a w ok ρ F hi => by
    have h := hi.eval x; rw [hx] at h; have hcl := (h.cells' hc).pure hp; refine ⟨.value (.pointer (some ⟨w.heap.size, 0, none⟩)), w.alloc (.cells (a.eval x).cells T), ?_, .inl ⟨_, rfl, _, _, _, (hi.newFro (.cells (a.eval x).cells T)).put hd ?_⟩⟩
    · simp [execOp, Instr.box, newVar, newRow]
    · have hfro := FroL.stable (w := w) (w' := w.alloc (.cells (a.eval x).cells T)) (ok' := fun b => ok b ∨ b = w.heap.size) (fun b hb => heap_alloc_lt w _ b (hi.okk b hb).1) (fun b hb => Or.inl hb) hcl
      refine .fp hfro ?_ (.inr rfl); intro k v hk; rw [add_plain]; have := World.cell?_alloc_new w (a.eval x).cells T (0 + k); rw [this]; simpa using hk) hn
inductive RVal (P : Program) (s : LState) : ResultVar → LV → Prop
  | tmp {t : Nat} {x : LV} : get t s.tm = x → RVal P s (.tmp t) x
  | cell1 {t k i j : Nat} {T : TypeId} {obj : LObj} {y c : LV} : (∀ w, (isAgg T).run P w = .ok false w) → get t s.tm = .ptr k i j → hget k s.h = some obj → obj.elems[i]? = some y → y.cells[j]? = some c → obj.lets c = true → RVal P s (.cell t T) c
  | cellN {t k i j n : Nat} {T : TypeId} {obj : LObj} {y : LV} {ys : List LV} : (∀ w, (isAgg T).run P w = .ok true w) → (∀ w, (sizeOf T).run P w = .ok n w) → get t s.tm = .ptr k i j → hget k s.h = some obj → obj.elems[i]? = some y → (y.cells.drop j).take n = ys → ys.length = n → (∀ c ∈ ys, obj.lets c = true) → RVal P s (.cell t T) (.agg ys)
inductive RValL (P : Program) (s : LState) : List ResultVar → List LV → Prop
  | nil : RValL P s [] []
  | cons {v : ResultVar} {x : LV} {vs : List ResultVar} {xs : List LV} : RVal P s v x → RValL P s vs xs → RValL P s (v :: vs) (x :: xs)
theorem RVal.run {v : ResultVar} {x : LV} (h : RVal P s v x) {a : Act} {w : World} {ok : Nat → Prop} {ρ : Env} {F : Nat → List Nat} (hi : Inv' E s a w ok ρ F) :
    ∃ u, (match v with | .tmp t => pure (a.tmps.getD t undef) | .cell b t => (do loadVar t (← asAddr (a.tmps.getD b undef))) : Sem Value).run P w = .ok u w ∧ Rep w ok ρ x u := by
  cases h with
  | tmp h => exact ⟨_, rfl, h ▸ hi.slots _⟩
  | cell1 hg hx ho hy hc hl =>
    rename_i t k i j T obj y; have hv := hi.slots t; rw [hx] at hv; obtain ⟨p, hp, hv⟩ := hv.ptr_inv; obtain ⟨v, h1, h2, h3⟩ := obj_cell hi ho hp hy hc hl; exact ⟨v, by simp [hv, asAddr, loadVar, hg w, load, Sem.run, h1], h3⟩
  | cellN hg hz hx ho hy hc hlen hl =>
    rename_i t k i j n T obj y ys; have hv := hi.slots t; rw [hx] at hv; obtain ⟨p, hp, hv⟩ := hv.ptr_inv
    obtain ⟨vs, h1, h2⟩ := obj_cells hi ho hp hy ys j (fun q c hk => by
      have hk' := hk; refine ⟨?_, hl c (List.mem_of_getElem? hk')⟩; rw [← hc, List.getElem?_take] at hk
      split at hk
      · simpa using hk
      · cases hk)
    have hr := run_loadCells_list (P := P) (w := w) _ vs (fun j v hj => h2 j v hj); rw [← h1.length, hlen] at hr; exact ⟨.agg vs.toArray, by simp [hv, asAddr, loadVar, hg w, hz w, hr], .agg h1⟩
theorem RValL.run {a : Act} {w : World} {ok : Nat → Prop} {ρ : Env} {F : Nat → List Nat} (hi : Inv' E s a w ok ρ F) : ∀ {vs : List ResultVar} {xs : List LV}, RValL P s vs xs →
    ∃ us : List Value, (vs.mapM fun v => (match v with | .tmp t => pure (a.tmps.getD t undef) | .cell b t => (do loadVar t (← asAddr (a.tmps.getD b undef))) : Sem Value)).run P w = .ok us w ∧ RepT w ok ρ xs us
  | _, _, .nil => ⟨[], rfl, .nil⟩
  | _, _, .cons h h' => by
    obtain ⟨u, h1, h2⟩ := h.run hi; obtain ⟨us, h3, h4⟩ := RValL.run hi h'; refine ⟨u :: us, ?_, .cons h2 h4⟩; rw [List.mapM_cons, Sem.run_bind, h1, Result.andThen_ok, Sem.run_bind, h3, Result.andThen_ok]; rfl
theorem RValL.results {fn : Func} {vs : List ResultVar} {xs : List LV} (hf : fn.results = vs.toArray) (h : RValL P s vs xs) {a : Act} {w : World} {ok : Nat → Prop} {ρ : Env} {F : Nat → List Nat} (hi : Inv' E s a w ok ρ F) :
    ∃ us : List Value, (results fn a.tmps).run P w = .ok (if h : us.toArray.size = 1 then us.toArray[0] else .tuple us.toArray) w ∧ RepT w ok ρ xs us := by
  obtain ⟨us, h1, h2⟩ := h.run hi; refine ⟨us, ?_, h2⟩; unfold Go.results; rw [hf, Array.mapM_eq_mapM_toList, Sem.run_bind, Sem.run_map]; exact Eq.trans (congrArg (fun r : Result (List Value) => Result.andThen (Result.andThen r fun a w' => Result.ok a.toArray w') fun a w' => Sem.run P (pure (if h : a.size = 1 then a[0] else Value.tuple a)) w') h1) rfl
def QG (P : Program) (E : Ent) (vs : List ResultVar) (Post : LV → LHeap → Prop) : Exit → LState → Prop := fun e s => (e = .normal ∨ e = .ret) ∧ ∃ xs r hl', RValL P s vs xs ∧ RetOK E s xs r hl' ∧ Post r hl'
theorem Does.introG {f : FuncId} {fn : Func} {c : Code} {n : Nat} {rvs : List ResultVar} {xs : List LV} {hl : LHeap} {Post : LV → LHeap → Prop} (hf : P.funcs[f]? = some fn) (hb : fn.body = some c) (he : ∀ vs w, (callFunc f vs).run P w = .ok (.enter f vs) w)
    (hnt : fn.ntmps = n) (hxs : xs.length ≤ n) (hres : fn.results = rvs.toArray)
    (h : ∀ E : Ent, E.n = n → E.keep = hkeys (rwOf hl) → LWP P E c (QG P E rvs Post) { tm := argTm 0 xs, h := hl }) : Does P f xs hl Post := by
  refine ⟨he, fun w vs ok ρ F hT hH hok => ?_⟩; refine calls_of_wp hf hb ?_; have hvl := hT.length
  let E : Ent := { w0 := w, ok0 := ok, lent := fpsOf F (rwOf hl), n := n, ρ0 := ρ, keep := hkeys (rwOf hl) }
  have hinit : Inv E { tm := argTm 0 xs, h := hl } { tmps := vs.toArray ++ Array.replicate (fn.ntmps - vs.toArray.size) undef, defers := [] } w := by
    refine ⟨ok, ρ, F, { defers := rfl, size := by simp [E]; omega, ext := ⟨rfl, rfl, rfl, Nat.le_refl _, fun _ _ _ => rfl, Nat.le_refl _⟩, okk := fun k hk => ⟨hok k hk, fun _ => .inl hk⟩, heap := hH, mine := ?_, slots := ?_, keep := fun _ _ => rfl }⟩
    · intro p hp hro b hb _
      exact mem_fpsOf.2 ⟨p, by simp [rwOf, hro]; exact hp, hb⟩
    · intro t
      have := (get_args 0 t hT).1 (by omega); rw [Nat.sub_zero] at this
      have e : (vs.toArray ++ Array.replicate (fn.ntmps - vs.toArray.size) undef).getD t undef = (vs[t]?).getD undef := by
        rw [Array.getD_eq_getD_getElem?]; rcases Nat.lt_or_ge t vs.length with hlt | hge
        · rw [Array.getElem?_append_left (by simpa using hlt)]; simp
        · rw [Array.getElem?_append_right (by simpa using hge), List.getElem?_eq_none hge]
          simp only [Array.getElem?_replicate]
          split <;> rfl
      rw [e]; exact this
  refine wp_mono (h E rfl rfl _ _ hinit) fun e a w' ⟨s, ⟨okf, ρf, Ff, hi⟩, he', xs1, r, hl', hrv0, hret, hpost⟩ => ?_; obtain ⟨ks, fz, hr, hnd, hdis⟩ := hret.res; obtain ⟨us, hus, hTT⟩ := hrv0.results hres hi; have hlu := hTT.length
  have hrun : ∃ v fr, (results fn a.tmps).run P w' = .ok v w' ∧ Res w' (okF okf Ff fz) r v fr ∧ fr.Sublist (ks.flatMap Ff) := by
    rcases hr with ⟨x, rfl, hr⟩ | ⟨hne, rs, rfl, hr⟩
    · match us, hTT with
      | [u], .cons hu .nil =>
        obtain ⟨fr, h1, h2, _⟩ := hr.res hi (all := fz) (fun _ h => h) hu; exact ⟨_, fr, by simpa using hus, h1, h2⟩
    · obtain ⟨fr, h1, h2⟩ := hr.res hi (all := fz) (fun _ h => h) hTT
      refine ⟨_, fr, by rw [hus, dif_neg (by simpa using fun e => hne (by rw [hlu, e]))], .tup h1, h2⟩
  obtain ⟨v, fr, hrv, hres', hsub⟩ := hrun
  have hin : ∀ k ∈ ks ++ fz, ∃ obj, hget k s.h = some obj ∧ obj.ro = false := by
    rcases hr with ⟨x, hx, hr⟩ | ⟨hne, rs, _, hr⟩
    · exact hr.inh
    · exact hr.inh
  have hkey : ∀ k ∈ ks ++ fz, k ∈ hkeys s.h := fun k hk => by
    obtain ⟨o, ho, _⟩ := hin k hk; have := hget_mem ho; simp [hkeys]; exact ⟨o, this⟩
  have hmine : ∀ k ∈ ks ++ fz, ∀ b ∈ Ff k, ¬ okf b ∧ b < w'.heap.size ∧ (b < w.heap.size → b ∈ fpsOf F (rwOf hl)) := by
    intro k hk b hb; obtain ⟨o, ho, hro⟩ := hin k hk; have := hi.heap.apart b (mem_fpsOf.2 ⟨_, hget_mem ho, hb⟩); exact ⟨this.1, this.2, hi.mine _ (hget_mem ho) hro b hb⟩
  have hkey' : ∀ p ∈ hl', p.1 ∈ hkeys s.h := fun p hp => by
    have := hget_mem (hret.here p hp).1; simp [hkeys]; exact ⟨p.2, this⟩
  have hndall : ((ks ++ fz) ++ hkeys hl').Nodup := by
    rw [List.nodup_append]; refine ⟨hnd, hret.keys, ?_⟩; intro k h1 j h2 e; subst e; obtain ⟨o, ho⟩ : ∃ o, (k, o) ∈ hl' := by simpa [hkeys] using h2
    exact hdis _ ho h1
  have hflat := nodup_keys hi.heap.keys hi.heap.nodup hndall (by
    intro k hk; rcases List.mem_append.1 hk with hk | hk
    · exact hkey k hk
    · obtain ⟨o, ho⟩ : ∃ o, (k, o) ∈ hl' := by simpa [hkeys] using hk
      exact hkey' _ ho)
  have hfl : (ks.flatMap Ff ++ fz.flatMap Ff ++ fpsOf Ff hl').Nodup := by
    rw [fpsOf_keys]; simpa [List.flatMap_append] using hflat
  have hfinal : ∃ v r hl' ok' F' fr, (Ending.returned v) = .returned v ∧ Post r hl' ∧ Ext w (fpsOf F (rwOf hl)) w' ∧ Res w' ok' r v fr ∧
      (hkeys hl').Nodup ∧ (∀ p ∈ hl', p.2.ro = false ∧ p.1 ∈ hkeys (rwOf hl) ∧ ObjRep w' ok' ρ p.1 p.2 (F' p.1)) ∧ (fr ++ fpsOf F' hl').Nodup ∧
      (∀ b ∈ fr ++ fpsOf F' hl', ¬ ok' b ∧ b < w'.heap.size ∧ (b < w.heap.size → b ∈ fpsOf F (rwOf hl))) ∧
      (∀ k, ok' k → k < w'.heap.size ∧ (k < w.heap.size → ok k ∨ k ∈ fpsOf F (rwOf hl))) ∧ (results fn a.tmps).run P w' = .ok v w' := by
    refine ⟨v, r, hl', okF okf Ff fz, Ff, fr, rfl, hpost, hi.ext, hres', hret.keys, ?_, ?_, ?_, ?_, hrv⟩
    · intro p hp
      obtain ⟨h1, h2, h3, h4'⟩ := hret.here p hp; refine ⟨h2, h3, ?_⟩; have hob := hi.heap.objs _ (hget_mem h1); refine ObjRep.stable (w := w') (ok := okf) (ρ := ρf) (fun _ _ => rfl) (fun _ hb => .inl hb) (fun _ _ => rfl) (hi.keep p.1 h3).symm ?_ hob; intro k hk; exact (hi.keep k (h4' k hk)).symm
    · rw [List.append_assoc] at hfl
      have h1 := List.nodup_append.1 hfl; rw [List.nodup_append]; refine ⟨hsub.nodup h1.1, (List.nodup_append.1 h1.2.1).2.1, ?_⟩; intro b hb c hc; exact h1.2.2 b (hsub.mem hb) c (List.mem_append.2 (.inr hc))
    · intro b hb
      have hbb : ∃ k ∈ ks ++ hkeys hl', b ∈ Ff k ∧ k ∉ fz ∧ k ∈ hkeys s.h ∧ (¬ okf b ∧ b < w'.heap.size ∧ (b < w.heap.size → b ∈ fpsOf F (rwOf hl))) := by
        rcases List.mem_append.1 hb with hb | hb
        · obtain ⟨k, hk, hb⟩ := List.mem_flatMap.1 (hsub.mem hb)
          exact ⟨k, by simp [hk], hb, fun hf => (List.nodup_append.1 hnd).2.2 k hk k hf rfl, hkey k (by simp [hk]), hmine k (by simp [hk]) b hb⟩
        · obtain ⟨p, hp, hb⟩ := mem_fpsOf.1 hb
          obtain ⟨h1, h2, h3, h4'⟩ := hret.here p hp; have := hi.heap.apart b (mem_fpsOf.2 ⟨_, hget_mem h1, hb⟩); exact ⟨p.1, by simp [hkeys]; exact .inr ⟨p.2, hp⟩, hb, fun hf => hdis p hp (by simp [hf]), hkey' p hp, this.1, this.2, hi.mine _ (hget_mem h1) h2 b hb⟩
      obtain ⟨k, _, hbk, hkf, hks, h1, h2, h3⟩ := hbb; refine ⟨?_, h2, h3⟩; rintro (h4 | ⟨j, hj, h4⟩)
      · exact h1 h4
      · exact key_apart hi.heap.keys hi.heap.nodup hks (hkey j (by simp [hj])) (fun e => hkf (e ▸ hj)) b hbk h4
    · rintro b (h1 | ⟨k, hk, h1⟩)
      · exact hi.okk b h1
      · have := hmine k (by simp [hk]) b h1
        exact ⟨this.2.1, fun hlt => .inr (this.2.2 hlt)⟩
  obtain ⟨v, r, hl', ok', F', fr, _, h1, h2, h3, h4, h5, h6, h7, h8, h9⟩ := hfinal; rcases he' with rfl | rfl
  · exact ⟨hi.defers, v, h9, v, r, hl', ok', F', fr, rfl, h1, h2, h3, h4, h5, h6, h7, h8⟩
  · exact ⟨hi.defers, v, h9, v, r, hl', ok', F', fr, rfl, h1, h2, h3, h4, h5, h6, h7, h8⟩
theorem Does.goG {f : FuncId} {fn : Func} {c : Code} {n : Nat} {rvs : List ResultVar} {xs : List LV} {hl : LHeap} {Post : LV → LHeap → Prop} (keep : List Nat) (hf : P.funcs[f]? = some fn) (hb : fn.body = some c) (he : ∀ vs w, (callFunc f vs).run P w = .ok (.enter f vs) w)
    (hnt : fn.ntmps = n) (hxs : Nat.ble xs.length n = true) (hres : fn.results = rvs.toArray) (hkeep : hkeys (rwOf hl) = keep)
    (h : ∀ w0 ok0 lent ρ0, LWP P ⟨w0, ok0, lent, n, ρ0, keep⟩ c (QG P ⟨w0, ok0, lent, n, ρ0, keep⟩ rvs Post) { tm := argTm 0 xs, h := hl }) : Does P f xs hl Post := by
  refine Does.introG hf hb he hnt (Nat.le_of_ble_eq_true hxs) hres fun E e1 e2 => ?_; obtain ⟨w0, ok0, lent, n', ρ0, keep'⟩ := E; simp only at e1 e2; subst e1; rw [hkeep] at e2; subst e2; exact h w0 ok0 lent ρ0
end
end Go.Lift
/- The lifted logic, part 28: the steps of a walk by a mirror. Own work. -/
namespace Go.Lift
open Go.RowKit
theorem bk {α β : Type} {o : Option α} {f : α → Option β} {r : β} {p : Prop} (h : o.bind f = some r) (k : ∀ x, o = some x → f x = some r → p) : p := by
  obtain ⟨x, h1, h2⟩ := bs h; exact k x h1 h2
theorem lk {α β : Type} {x : α} {f : α → Option β} {r : β} {p : Prop} (h : lt x f = some r) (k : ∀ y, y = x → f y = some r → p) : p := k x rfl h
def e_int (n : Int) : LV := .imm (.int .i64 n)
def e_bool (b : Bool) : LV := .imm (.bool b)
def e_string (b : ByteArray) : LV := .imm (.string b)
def e_uint8 (b : UInt8) : LV := .imm (.int .u8 (b.toNat : Int))
def lob {α : Type} (sz : Nat) (e : α → LV) (l : List α) : LObj := { kind := .fro, sz := sz, elems := l.map e }
def vob {α : Type} (sz : Nat) (e : α → LV) (x : α) : LObj := { kind := .box, sz := sz, elems := [e x] }
theorem u8_sub (a b : UInt8) : intBin .sub .u8 (a.toNat : Int) (b.toNat : Int) = some (.int .u8 ((a - b).toNat : Int)) := by
  simp only [intBin, wrap_u8]
  congr 2
  have : byteOf ((a.toNat : Int) - (b.toNat : Int)) = a - b := by
    unfold byteOf; have h1 := a.toNat_lt; have h2 := b.toNat_lt
    apply UInt8.toNat_inj.1
    rw [UInt8.toNat_ofNat', UInt8.toNat_sub]; omega
  rw [this]
section
variable {P : Program} {E : Ent} {Q : Exit → LState → Prop} {s : LState} {all : Array Oper} {rest : List Oper} {d : Nat} {ty : TypeId} {pos : String} {af : Array Edge}
theorem LWo.boolNe {t t' : TypeId} {x y : Operand} {a b : Bool} (hu : P.underlying t = some .bool) (hx : s.eval x = .imm (.bool a)) (hy : s.eval y = .imm (.bool b)) (hd : Nat.blt d E.n = true := by exact rfl) (hn : LWo P E all rest Q (s.put (some d) (.imm (.bool (a != b))))) :
    LWo P E all ({ dst := some d, op := .binOp .neq t x y t', type := ty, pos := pos, after := af, guard := none } :: rest) Q s :=
  LWo.bin (.bool (a != b)) hx hy (fun _ => guard_bool) (fun w => by simp [binOp, run_equal_bool w t a b hu]; cases a <;> cases b <;> rfl) hd hn
theorem LWo.lenM {α : Type} {x : Operand} {T : TypeId} {e : TypeId} {sz : Nat} {f : α → LV} {l : List α} (hu : P.underlying T = some (.slice e)) (hx : s.eval x = .sl sz (l.map f)) (hd : Nat.blt d E.n = true := by exact rfl) (hn : LWo P E all rest Q (s.put (some d) (e_int l.length))) :
    LWo P E all ({ dst := some d, op := .call { callee := .builtin .len, args := #[x], argTypes := #[T] }, type := ty, pos := pos, after := af, guard := none } :: rest) Q s :=
  LWo.lenD (n := l.length) hu hx (by simp [LV.len]) rfl hd hn
theorem LWo.indexM {α : Type} {T e : TypeId} {sz : Nat} {f : α → LV} {l : List α} {y : α} {x ix : Operand} {k : IntKind} {i : Int} (he : at? l i = some y) (hu : P.underlying T = some (.slice e)) (hz : ∀ w, (sizeOf e).run P w = .ok sz w)
    (hx : s.eval x = .sl sz (l.map f)) (hi : s.eval ix = .imm (.int k i)) (hd : Nat.blt d E.n = true := by exact rfl) (hn : LWo P E all rest Q (s.put (some d) (.fp (f y).cells))) :
    LWo P E all ({ dst := some d, op := .indexAddr T x ix, type := ty, pos := pos, after := af, guard := none } :: rest) Q s :=
  LWo.indexAddr (f y) hu hz hx hi (at_0 he) (at_m he) hd hn
theorem LWo.cutS {T : TypeId} {b r : ByteArray} {lo hi : Int} {x : Operand} {lx hx' : Option Operand} (he : sCut? b lo hi = some r) (hu : P.underlying T = some .string)
    (hx : s.eval x = .imm (.string b)) (hl : match lx with | none => lo = 0 | some o => ∃ k, s.eval o = .imm (.int k lo)) (hh : match hx' with | none => hi = b.size | some o => ∃ k, s.eval o = .imm (.int k hi)) (hd : Nat.blt d E.n = true := by exact rfl)
    (hn : LWo P E all rest Q (s.put (some d) (e_string r))) :
    LWo P E all ({ dst := some d, op := .slice T x lx hx' none, type := ty, pos := pos, after := af, guard := none } :: rest) Q s := by
  unfold sCut? at he
  split at he
  · rename_i h1
    cases he; refine LWo.cutStr (l := lo.toNat) (h := hi.toNat) hu hx ?_ ?_ (by omega) (by omega) hd hn
    · cases lx with
      | none => simp only at hl; subst hl; rfl
      | some o => obtain ⟨k, hk⟩ := hl; exact ⟨k, by rw [hk, Int.toNat_of_nonneg h1.1]⟩
    · cases hx' with
      | none => simp only at hh; subst hh; simp [Bound]
      | some o => obtain ⟨k, hk⟩ := hh; exact ⟨k, by rw [hk, Int.toNat_of_nonneg (by omega)]⟩
  · cases he
inductive SrcM {α : Type} (s : LState) (y : Operand) (sz : Nat) (f : α → LV) (l : List α) : Prop
  | sl : s.eval y = .sl sz (l.map f) → SrcM s y sz f l
  | nil : s.eval y = .imm (.slice none 0 0) → l = [] → SrcM s y sz f l
  | own {o n : Nat} : s.eval y = .own o 0 n → n = l.length → hget o s.h = some (lob sz f l) → SrcM s y sz f l
  | str {b : ByteArray} : s.eval y = .imm (.string b) → sz = 1 → (l.map f = b.data.toList.map fun b => LV.imm (.int .u8 (b.toNat : Int))) → SrcM s y sz f l
theorem LWo.loadVN {α : Type} {T : TypeId} {x : Operand} {o j n sz : Nat} {f : α → LV} {y : α} (ys : List LV) (hg : ∀ w, (isAgg T).run P w = .ok true w) (hz : ∀ w, (sizeOf T).run P w = .ok n w) (hx : s.eval x = .ptr o 0 j) (ho : hget o s.h = some (vob sz f y)) (hc : ((f y).cells.drop j).take n = ys) (hlen : ys.length = n) (hd : Nat.blt d E.n = true := by exact rfl)
    (hn : LWo P E all rest Q (s.put (some d) (.agg ys))) :
    LWo P E all ({ dst := some d, op := .load T x, type := ty, pos := pos, after := af, guard := none } :: rest) Q s :=
  LWo.loadPtrN ys hg hz hx ho rfl hc hlen (fun _ _ => rfl) hd hn
theorem RetOK.one0 {x r : LV} {ks fz : List Nat} (hr : ResOf s.h x r ks fz) (hn : (ks ++ fz).Nodup) : RetOK E s [x] r [] :=
  ⟨⟨ks, fz, .inl ⟨_, rfl, hr⟩, hn, by simp⟩, by simp [hkeys], by simp⟩
theorem RetOK.many0 {xs rs : List LV} {ks fz : List Nat} (hr : ResOfL s.h xs rs ks fz) (hl : xs.length ≠ 1) (hn : (ks ++ fz).Nodup) : RetOK E s xs (.tup rs) [] :=
  ⟨⟨ks, fz, .inr ⟨hl, _, rfl, hr⟩, hn, by simp⟩, by simp [hkeys], by simp⟩
theorem QG.mk {vs : List ResultVar} {e : Exit} {xs : List LV} {r : LV} {hl : LHeap} (he : e = .normal ∨ e = .ret) (hv : RValL P s vs xs) (hr : RetOK E s xs r hl) {r' : LV} {hl' : LHeap} (h1 : r = r') (h2 : hl = hl') : QG P E vs (fun r h => r = r' ∧ h = hl') e s := ⟨he, xs, r, hl, hv, hr, h1, h2⟩
end
end Go.Lift
/- The lifted logic, part 29: nil read as the list of nothing, wherever it stands. Own work. -/
namespace Go.Lift
open Go.RowKit
mutual
inductive Wk : LV → LV → Prop
  | refl {x : LV} : Wk x x
  | nil {sz : Nat} : Wk (.imm (.slice none 0 0)) (.sl sz [])
  | nilx {sz : Nat} : Wk (.imm (.slice none 0 0)) (.slx sz [])
  | slx {sz : Nat} {xs : List LV} : Wk (.slx sz xs) (.sl sz xs)
  | agg {cs ds : List LV} : WkL cs ds → Wk (.agg cs) (.agg ds)
  | sl {sz : Nat} {x : LV} {xs ys : List LV} : WkE sz (x :: xs) ys → Wk (.sl sz (x :: xs)) (.sl sz ys)
inductive WkL : List LV → List LV → Prop
  | nil : WkL [] []
  | cons {x y : LV} {xs ys : List LV} : Wk x y → WkL xs ys → WkL (x :: xs) (y :: ys)
inductive WkE : Nat → List LV → List LV → Prop
  | nil {sz : Nat} : WkE sz [] []
  | cons {sz : Nat} {x y : LV} {xs ys : List LV} : WkL x.cells y.cells → WkE sz xs ys → WkE sz (x :: xs) (y :: ys)
end
theorem WkL.refl : ∀ {xs : List LV}, WkL xs xs
  | [] => .nil
  | _ :: _ => .cons .refl WkL.refl
mutual
theorem WkL.length : ∀ {xs ys : List LV}, WkL xs ys → xs.length = ys.length
  | _, _, .nil => rfl
  | _, _, .cons _ h => by simp [h.length]
end
theorem WkL.append : ∀ {xs ys zs us : List LV}, WkL xs ys → WkL zs us → WkL (xs ++ zs) (ys ++ us)
  | _, _, _, _, .nil, h => h
  | _, _, _, _, .cons h h1, k => .cons h (h1.append k)
theorem WkE.flat {sz : Nat} : ∀ {xs ys : List LV}, WkE sz xs ys → WkL (xs.flatMap LV.cells) (ys.flatMap LV.cells) ∧ xs.length = ys.length
  | _, _, .nil => ⟨.nil, rfl⟩
  | _, _, .cons h h1 => by
    obtain ⟨a, b⟩ := h1.flat; exact ⟨by simp only [List.flatMap_cons]; exact h.append a, by simp [b]⟩
theorem WkE.sizes {sz : Nat} : ∀ {xs ys : List LV}, WkE sz xs ys → (∀ x ∈ xs, x.cells.length = sz) → ∀ y ∈ ys, y.cells.length = sz
  | _, _, .nil, h => h
  | _, _, .cons h h1, hx => by
    intro y hy; rcases List.mem_cons.1 hy with rfl | hy
    · rw [← h.length]; exact hx _ (by simp)
    · exact h1.sizes (fun z hz => hx z (by simp [hz])) y hy
mutual
theorem Fro.weak {w : World} {ok : Nat → Prop} : ∀ {x y : LV} {v : Value}, Fro w ok x v → Wk x y → Fro w ok y v
  | _, _, _, h, .refl => h
  | _, _, _, .imm _, .nil => .sl0 (Nat.zero_le _)
  | _, _, _, .imm _, .nilx => .slx0
  | _, _, _, .slx0, .slx => .sl0 (Nat.zero_le _)
  | _, _, _, .slx h0 h1 h2 h3 h4 h5, .slx => .sl h0 h1 h2 h3 h4 (Nat.le_refl _) h5
  | _, _, _, .agg h, .agg k => .agg (FroL.weak h k)
  | _, .sl _ ys, _, .sl h0 h1 h2 h3 h4 h5 h6, .sl k => by
    obtain ⟨a, b⟩ := k.flat; have hne : ys ≠ [] := fun e => by rw [e] at b; simp at b
    rw [b] at h5 ⊢; exact .sl hne (k.sizes h1) (FroL.weak h2 a) h3 h4 h5 h6
theorem FroL.weak {w : World} {ok : Nat → Prop} : ∀ {x y : List LV} {v : List Value}, FroL w ok x v → WkL x y → FroL w ok y v
  | _, _, _, .nil, .nil => .nil
  | _, _, _, .cons h h1 h2, .cons k k1 => .cons (Fro.weak h k) h1 (FroL.weak h2 k1)
end
mutual
theorem Rep.weak {w : World} {ok : Nat → Prop} {ρ : Env} : ∀ {x y : LV} {v : Value}, Rep w ok ρ x v → Wk x y → Rep w ok ρ y v
  | _, _, _, h, .refl => h
  | _, _, _, .fro h, k => .fro (h.weak k)
  | _, _, _, .agg h, .agg k => .agg (RepL.weak h k)
theorem RepL.weak {w : World} {ok : Nat → Prop} {ρ : Env} : ∀ {x y : List LV} {v : List Value}, RepL w ok ρ x v → WkL x y → RepL w ok ρ y v
  | _, _, _, .nil, .nil => .nil
  | _, _, _, .cons h h1 h2, .cons k k1 => .cons (Rep.weak h k) h1 (RepL.weak h2 k1)
end
theorem hdel_idem (k : Nat) : ∀ h : LHeap, hdel k (hdel k h) = hdel k h
  | [] => rfl
  | (j, o) :: r => by
    simp only [hdel]
    split
    · exact hdel_idem k r
    · rename_i hj
      simp only [hdel, if_neg hj, hdel_idem k r]
section
variable {P : Program} {E : Ent} {Q : Exit → LState → Prop} {s : LState} {all : Array Oper} {rest : List Oper} {d : Nat} {ty : TypeId} {pos : String} {af : Array Edge}
theorem Inv.weakO {k sz : Nat} {x y : LV} (ho : hget k s.h = some { kind := .box, sz := sz, elems := [x] }) (hw : WkL x.cells y.cells) (hat : LV.at?.atL k y.cells = LV.at?.atL k y.cells) (href : ∀ j ∈ LV.refs.refsL y.cells, j ∈ LV.refs.refsL x.cells) {a : Act} {w : World} (hi : Inv E s a w) : Inv E { tm := s.tm, h := (k, { kind := .box, sz := sz, elems := [y] }) :: hdel k s.h } a w := by
  obtain ⟨ok, ρ, F, hi⟩ := hi; have hp := hput_perm (x := { kind := .box, sz := sz, elems := [y] }) hi.heap.keys ho
  have key : Inv' E { tm := s.tm, h := hput k { kind := .box, sz := sz, elems := [y] } s.h } a w ok ρ F := by
    refine { hi with heap := ⟨by rw [hput_keys]; exact hi.heap.keys, ?_, ?_, ?_⟩, mine := ?_ }
    · intro p hp
      rcases mem_hput hp with ⟨e1, e2⟩ | ⟨_, hm⟩
      · obtain ⟨pk, po⟩ := p
        simp only at e1 e2; subst e1; subst e2; rcases hi.heap.objs _ (hget_mem ho) with ⟨_, h2, _⟩ | ⟨p, arr, t, vs, fps, h1, h2, h3⟩
        · simp at h2
        · refine .inr ⟨p, arr, t, vs, fps, h1, h2, ⟨h3.sz, ?_, by simpa using h3.len, h3.cap, h3.blk, h3.room, h3.vals, ?_⟩⟩
          · intro z hz
            simp at hz; subst hz; rw [← hw.length]; exact h3.unif _ (by simp)
          · obtain ⟨h4, h5⟩ := h3.cells
            refine ⟨h4, ?_⟩; simp only [List.flatMap_cons, List.flatMap_nil, List.append_nil] at h5 ⊢; exact h5.weak hw
      · exact hi.heap.objs p hm
    · rw [fpsOf_keys, hput_keys, ← fpsOf_keys]; exact hi.heap.nodup
    · intro b hb
      rw [fpsOf_keys, hput_keys, ← fpsOf_keys] at hb; exact hi.heap.apart b hb
    · intro p hp hro b hb hlt
      rcases mem_hput hp with ⟨e1, e2⟩ | ⟨_, hm⟩
      · obtain ⟨pk, po⟩ := p
        simp only at e1 e2; subst e1; subst e2; exact hi.mine _ (hget_mem ho) rfl b hb hlt
      · exact hi.mine p hm hro b hb hlt
  exact ⟨ok, ρ, F, key.perm hp⟩
theorem LWo.storeW {α : Type} {T : TypeId} {x v : Operand} {o j n sz : Nat} {f : α → LV} {y : α} {z : LV} (y' : α) (hz : ∀ w, (sizeOf T).run P w = .ok n w) (hx : s.eval x = .ptr o 0 j) (hv : s.eval v = z) (hc : z.cellable = true) (hzn : z.cells.length = n)
    (ho : hget o s.h = some (vob sz f y)) (hj : Nat.ble (j + n) (f y).cells.length = true) (hy' : WkL (setRange (f y).cells j z.cells) (f y').cells) (href : LV.refs.refsL (f y').cells = [])
    (hn : LWo P E all rest Q { s with h := (o, vob sz f y') :: hdel o s.h }) :
    LWo P E all ({ dst := none, op := .store T x v, type := ty, pos := pos, after := af, guard := none } :: rest) Q s :=
  LWo.store (.agg (setRange (f y).cells j z.cells)) hz hx hv hc hzn ho rfl (.inr rfl) rfl (Nat.le_of_ble_eq_true hj) rfl
    (LWo.ghost (fun a w hi => by
      have := hi.weakO (k := o) (y := f y') (sz := sz) (x := .agg (setRange (f y).cells j z.cells)) (by show (if o = o then some _ else _) = _; rw [if_pos rfl]; rfl) (by simpa using hy') rfl (by rw [href]; simp); have e : hdel o ((o, { vob sz f y with elems := (vob sz f y).elems.set 0 (LV.agg (setRange (f y).cells j z.cells)) }) :: hdel o s.h) = hdel o s.h := by simp [hdel, hdel_idem]
      rw [e] at this; exact this) hn)
end
end Go.Lift
/- The lifted logic, part 30: more steps by mirrors. Own work. -/
namespace Go.Lift
open Go.RowKit
def maxI (m n : Int) : Int := if n > m then n else m
def sBytes? (b : ByteArray) : Option (List UInt8) := if b.size ≤ 9223372036854775807 then some b.data.toList else none
section
variable {P : Program} {E : Ent} {Q : Exit → LState → Prop} {s : LState} {all : Array Oper} {rest : List Oper} {d : Nat} {ty : TypeId} {pos : String} {af : Array Edge}
theorem LWo.convU8 {src dst : TypeId} {x : Operand} {n : Int} {u : TypeDesc} (hu : P.underlying src = some u) (hk : P.underlying dst = some (.int .u8)) (hx : s.eval x = .imm (.int .i64 n)) (hd : Nat.blt d E.n = true := by exact rfl)
    (hn : LWo P E all rest Q (s.put (some d) (e_uint8 (byteOf n)))) :
    LWo P E all ({ dst := some d, op := .convert src dst x, type := ty, pos := pos, after := af, guard := none } :: rest) Q s :=
  LWo.convInt hu hk hx hd (by rw [wrap_u8]; exact hn)
theorem LWo.bytesM {src dst e : TypeId} {x : Operand} {b : ByteArray} {z : List UInt8} (he : sBytes? b = some z) (hs : P.underlying src = some .string) (hu : P.underlying dst = some (.slice e)) (hk : P.underlying e = some (.int .u8)) (hx : s.eval x = .imm (.string b)) (hd : Nat.blt d E.n = true := by exact rfl)
    (hn : LWo P E all rest Q (s.put (some d) (.sl 1 (z.map e_uint8)))) :
    LWo P E all ({ dst := some d, op := .convert src dst x, type := ty, pos := pos, after := af, guard := none } :: rest) Q s := by
  unfold sBytes? at he
  split at he
  · rename_i h0
    cases he; exact LWo.strBytes hs hu hk hx h0 hd hn
  · cases he
def OwnAt (tm : Tm) (k n : Nat) : List Nat → Prop
  | [] => True
  | t :: r => get t tm = .own k 0 n ∧ OwnAt tm k n r
theorem OwnAt.mem {tm : Tm} {k n j : Nat} : ∀ {ts : List Nat}, OwnAt tm k n ts → j ∈ ts → get j tm = .own k 0 n
  | t :: r, h, hm => by
    rcases List.mem_cons.1 hm with rfl | hm
    · exact h.1
    · exact h.2.mem hm
theorem LWo.buildW {T : TypeId} {fs : Array Field} {places : Array (Nat × Nat)} {zs : List Value} {parts : List (Nat × Operand)} {ps : List (Nat × LV)} (ys : List LV) (y : LV) (hu : P.underlying T = some (.struct fs))
    (hz : ∀ w, (zeroValue T).run P w = .ok (.agg zs.toArray) w) (hpl : ∀ w, (fs.mapM fun f => Prod.mk f.offset <$> sizeOf f.type : Sem (Array (Nat × Nat))).run P w = .ok places w)
    (h1 : (zs.all Value.oneCell') = true) (hps : parts.map (fun p => (p.1, s.eval p.2)) = ps) (hc : ps.all (fun p => p.2.cellable) = true) (hy : lfill (places[·]?) (zs.map LV.imm) ps = some ys) (hw : Wk (.agg ys) y) (hd : Nat.blt d E.n = true := by exact rfl)
    (hn : LWo P E all rest Q (s.put (some d) y)) :
    LWo P E all ({ dst := some d, op := .build T parts.toArray, type := ty, pos := pos, after := af, guard := none } :: rest) Q s :=
  LWo.build ps ys hu hz hpl (by simpa using h1) hps (by simpa using hc) hy hd (LWo.ghost (fun a w hi => by
    obtain ⟨ok, ρ, F, hi⟩ := hi; refine ⟨ok, ρ, F, { hi with slots := fun j => ?_ }⟩; have := hi.slots j; simp only [LState.put, Lift.get] at this ⊢
    split
    · rename_i e; rw [if_pos e] at this; exact this.weak hw
    · rename_i e; rwa [if_neg e] at this) hn)
theorem LWo.allocW {α : Type} {T : TypeId} {z : Value} {zs : List Value} {sz : Nat} {f : α → LV} {y : α} (k : Nat) (hz : ∀ w, (zeroValue T).run P w = .ok z w) (hzs : z.cells = zs.toArray) (h1 : zs.all Value.oneCell' = true) (hlen : zs.length = sz) (hw : WkL (zs.map LV.imm) (f y).cells) (hr : LV.at?.atL k (f y).cells = false) (hl : lone k (hdel k s.h) = true) (hkp : E.keep.contains k = false := by exact rfl) (hd : Nat.blt d E.n = true := by exact rfl)
    (hn : LWo P E all rest Q { tm := (d, .ptr k 0 0) :: kill k s.tm, h := (k, vob sz f y) :: hdel k s.h }) :
    LWo P E all ({ dst := some d, op := .alloc T, type := ty, pos := pos, after := af, guard := none } :: rest) Q s :=
  LWo.make k (vob sz f y) (.ptr k 0 0) hd hkp hl (.inr ⟨rfl, by simpa [vob] using hr⟩) (by simp only [vob, List.mem_singleton]; rintro x rfl; rw [← hw.length, List.length_map, hlen]) (fun a w ok ρ F hinv => by
    have h0 : RepL w ok ρ (f y).cells zs := (froL_imm zs (by simpa using h1)).rep.weak hw; refine ⟨.pointer (some ⟨w.heap.size, 0, none⟩), z.cells, T, zs, 1, w, ?_, .inl rfl, by simp [vob], by decide, ?_, fun k v hk => by rw [hzs]; simpa using hk, ?_, fun W ok' ρ' hρ => ?_⟩
    · simp [execOp, Instr.alloc, newVar, newRow, hz w]
    · rw [hzs]; simp [vob]; omega
    · exact ⟨rfl, by simpa [vob] using h0⟩
    · have := Rep.ptr (w := W) (ok := ok') (ρ := ρ') (i := 0) (j := 0) hρ
      simpa using this) hn
end
end Go.Lift
