/- The logic, part two: calls, contracts, loops, regions of open order. -/
import Derived.Test.YtdkpmckpcejceaaDoorLa
import Derived.Laws.IdiomStrings
set_option linter.unusedVariables false
set_option linter.unusedSimpArgs false
set_option linter.unnecessarySimpa false
/- The lifted logic, part 10: steps of the mind (forgetting, freezing), contracts, calls. Own work. -/
namespace Go.Lift
open Go.RowKit
section
variable {P : Program} {E : Ent} {Q : Exit → LState → Prop} {s s' : LState} {all : Array Oper} {rest : List Oper} {d : Nat} {ty : TypeId} {pos : String} {af : Array Edge}
theorem LWo.ghost {ops : List Oper} (h : ∀ a w, Inv E s a w → Inv E s' a w) (hn : LWo P E all ops Q s') : LWo P E all ops Q s := fun a w hi => hn a w (h a w hi)
theorem LWP.ghost {c : Code} (h : ∀ a w, Inv E s a w → Inv E s' a w) (hn : LWP P E c Q s') : LWP P E c Q s := fun a w hi => hn a w (h a w hi)
structure LState.le (s s' : LState) : Prop where
  tm : ∀ p ∈ s'.tm, get p.1 s.tm = p.2 ∨ p.2 = .junk ∨ (get p.1 s.tm = .imm (.slice none 0 0) ∧ ∃ sz, p.2 = .sl sz [])
  keys : (hkeys s'.h).Nodup
  h : ∀ p ∈ s'.h, hget p.1 s.h = some p.2
theorem get_mem : ∀ (tm : Tm) (t : Nat), get t tm = .junk ∨ ∃ p ∈ tm, p.1 = t ∧ p.2 = get t tm
  | [], t => .inl rfl
  | (d, v) :: r, t => by
    simp only [get]
    split
    · rename_i h
      exact .inr ⟨(d, v), by simp, h, rfl⟩
    · rcases get_mem r t with h | ⟨p, hp, h⟩
      · exact .inl h
      · exact .inr ⟨p, by simp [hp], h⟩
theorem fps_nodup_of {F : Nat → List Nat} {h : LHeap} (hk : (hkeys h).Nodup) (hn : (fpsOf F h).Nodup) : ∀ {h' : LHeap}, (hkeys h').Nodup → (∀ p ∈ h', p ∈ h) → (fpsOf F h').Nodup
  | [], _, _ => by simp [fpsOf]
  | p :: r, hk', hm => by
    have hk'' := hk'; simp only [hkeys, List.map_cons, List.nodup_cons] at hk'; simp only [fpsOf, List.flatMap_cons, List.nodup_append]; refine ⟨?_, fps_nodup_of hk hn hk'.2 (fun q hq => hm q (by simp [hq])), ?_⟩
    · have : ∀ {h : LHeap}, (fpsOf F h).Nodup → p ∈ h → (F p.1).Nodup := by
        intro h hn hp
        induction h with
        | nil => cases hp
        | cons q r ih =>
          simp only [fpsOf, List.flatMap_cons, List.nodup_append] at hn; rcases List.mem_cons.1 hp with rfl | hp
          · exact hn.1
          · exact ih hn.2.1 hp
      exact this hn (hm p (by simp))
    · intro b hb c hc e
      subst e; obtain ⟨q, hq, hb'⟩ := List.mem_flatMap.1 hc; refine nodup_apart hk hn (hm p (by simp)) (hm q (by simp [hq])) ?_ b hb hb'; intro e; exact hk'.1 (by simp only [List.mem_map]; exact ⟨q, hq, e.symm⟩)
theorem Inv.le (hle : s.le s') {a : Act} {w : World} (hi : Inv E s a w) : Inv E s' a w := by
  obtain ⟨ok, ρ, F, h⟩ := hi; have hmem : ∀ p ∈ s'.h, p ∈ s.h := fun p hp => hget_mem (hle.h p hp); have hnd := fps_nodup_of h.heap.keys h.heap.nodup hle.keys hmem; refine ⟨ok, ρ, F, { h with heap := ⟨hle.keys, fun p hp => h.heap.objs p (hmem p hp), hnd, fun b hb => ?_⟩, mine := fun p hp => h.mine p (hmem p hp), slots := fun t => ?_ }⟩
  · obtain ⟨p, hp, hb⟩ := mem_fpsOf.1 hb
    exact h.heap.apart b (mem_fpsOf.2 ⟨p, hmem p hp, hb⟩)
  · rcases get_mem s'.tm t with e | ⟨p, hp, rfl, e⟩
    · rw [e]; exact .junk _
    · rw [← e]
      rcases hle.tm p hp with h1 | h1 | ⟨h1, sz, h2⟩
      · rw [← h1]; exact h.slots _
      · rw [h1]; exact .junk _
      · have := h.slots p.1
        rw [h1] at this; rw [this.imm_inv, h2]; exact .fro (.sl0 (by decide))
theorem LWP.le {c : Code} (h : s.le s') (hn : LWP P E c Q s') : LWP P E c Q s := LWP.ghost (fun _ _ hi => hi.le h) hn
theorem LWo.le {ops : List Oper} (h : s.le s') (hn : LWo P E all ops Q s') : LWo P E all ops Q s := LWo.ghost (fun _ _ hi => hi.le h) hn
def LV.freeze (k : Nat) (obj : LObj) (v : LV) : LV :=
  match v with
  | .own o off n => if o = k then (if off + n ≤ obj.elems.length then .sl obj.sz ((obj.elems.drop off).take n) else .junk) else v
  | _ => if v.at? k then .junk else v
def freezeTm (k : Nat) (obj : LObj) : Tm → Tm
  | [] => []
  | (d, v) :: r => (d, v.freeze k obj) :: freezeTm k obj r
theorem get_freeze (k t : Nat) (obj : LObj) : ∀ tm : Tm, get t (freezeTm k obj tm) = (get t tm).freeze k obj
  | [] => by simp [freezeTm, get, LV.freeze, LV.at?]
  | (d, v) :: r => by
    simp only [freezeTm, get]
    split
    · rfl
    · exact get_freeze k t obj r
theorem DeepL.take {w : World} : ∀ {xs : List LV} {vs : List Value} {f : List Nat} (n : Nat), DeepL w xs vs f → ∃ g, DeepL w (xs.take n) (vs.take n) g ∧ g.Sublist f
  | _, _, _, 0, h => ⟨[], by simpa using DeepL.nil, by simp⟩
  | _, _, _, n + 1, .nil => ⟨[], by simpa using DeepL.nil, by simp⟩
  | _, _, _, n + 1, .cons h h1 h2 => by
    obtain ⟨g, hg, hs⟩ := DeepL.take n h2; exact ⟨_, by simpa using DeepL.cons h h1 hg, (List.Sublist.refl _).append hs⟩
theorem ObjCells.fro {w : World} {ok ok' : Nat → Prop} {ρ : Env} {k : Kind} {cells : List LV} {vs : List Value} {fps : List Nat} (h : ObjCells w ok ρ k cells vs fps) (hk : k = .fro ∨ k = .deep) (hok : ∀ b, ok b → ok' b) (hf : ∀ b ∈ fps, ok' b) : FroL w ok' cells vs := by
  rcases hk with rfl | rfl
  · exact h.2.stable (fun _ _ => rfl) hok
  · exact DeepL.fro hf h
theorem Inv'.freeze {k : Nat} {obj : LObj} (ho : hget k s.h = some obj) (hk : obj.kind = .fro ∨ obj.kind = .deep) (hro : obj.ro = false) {a : Act} {w : World} {ok : Nat → Prop} {ρ : Env} {F : Nat → List Nat} (h : Inv' E s a w ok ρ F) :
    Inv' E { tm := freezeTm k obj s.tm, h := hdel k s.h } a w (fun b => ok b ∨ b ∈ F k) ρ F := by
  have hmem := hget_mem ho; have h' := h.sub (hdel_sub k s.h); have hne := not_key (hdel_key k s.h); have hFk : ∀ b ∈ F k, b ∈ fpsOf F s.h := fun b hb => mem_fpsOf.2 ⟨_, hmem, hb⟩; refine { h' with okk := ?_, heap := ⟨h'.heap.keys, ?_, h'.heap.nodup, ?_⟩, slots := ?_ }
  · rintro b (hb | hb)
    · exact h.okk b hb
    · exact ⟨(h.heap.apart b (hFk b hb)).2, fun hlt => .inr (h.mine _ hmem hro b hb hlt)⟩
  · intro p hp
    exact (h'.heap.objs p hp).stable (fun _ _ => rfl) (fun _ hb => .inl hb) (fun _ _ => rfl) rfl (fun _ _ => rfl)
  · intro b hb
    refine ⟨?_, (h'.heap.apart b hb).2⟩; rintro (ho' | hb')
    · exact (h'.heap.apart b hb).1 ho'
    · obtain ⟨p, hp, hb⟩ := mem_fpsOf.1 hb
      exact nodup_apart h.heap.keys h.heap.nodup ((hdel_sub k s.h).mem hp) hmem (hne p hp) b hb hb'
  · intro t
    show Rep w _ ρ (get t (freezeTm k obj s.tm)) _; rw [get_freeze]; have hs := h.slots t; generalize a.tmps.getD t undef = v at hs; generalize get t s.tm = x at hs; have hst : ∀ {y : LV}, Rep w ok ρ y v → Rep w (fun b => ok b ∨ b ∈ F k) ρ y v := fun hy => hy.stable (fun _ _ => rfl) (fun _ hb => .inl hb) (fun _ _ => rfl); unfold LV.freeze
    split
    · rename_i o off n
      split
      · rename_i e
        subst e
        split
        · rename_i hle
          rcases hs.own_inv with ⟨p, c, hp, h2, h3, rfl⟩ | ⟨rfl, A, rfl⟩
          · rcases h.heap.objs _ hmem with ⟨h4, _⟩ | ⟨p', arr, t', vs, fps, h4, hF, hobj⟩
            · rw [hp] at h4; cases h4
            · rw [hp] at h4; cases h4
              have hF' : F o = p.blk :: fps := hF; have hsz : p.sz = obj.sz := hobj.sz; have hfr := hobj.cells.fro (ok' := fun b => ok b ∨ b ∈ F o) hk (fun _ hb => .inl hb) (fun b hb => .inr (by rw [hF']; simp [hb])); have hfr' := (hfr.drop (off * obj.sz)).take (n * obj.sz); have hunif : ∀ x ∈ obj.elems, x.cells.length = obj.sz := hobj.unif; rw [← flat_drop _ obj.sz _ hunif, ← flat_take _ obj.sz _ (fun x hx => hunif x (List.mem_of_mem_drop hx))] at hfr'; have hcap : p.cap ≤ maxLen := hobj.cap; have hlen : ((obj.elems.drop off).take n).length = n := by simp; omega
              rcases Nat.eq_zero_or_pos n with h0 | h0
              · subst h0
                rw [List.take_zero]; exact .fro (.sl0 (by omega))
              · have hkey := Fro.sl (w := w) (ok := fun b => ok b ∨ b ∈ F o) (sz := obj.sz) (c := c) (xs := (obj.elems.drop off).take n) (ad := ⟨p.blk, off * p.sz, none⟩) (by intro e; rw [e] at hlen; simp at hlen; omega)
                  (fun x hx => hunif x (List.mem_of_mem_drop (List.mem_of_mem_take hx))) hfr' (by
                    intro j u hj; rw [add_plain, cellQ hobj.blk]; rw [List.getElem?_take] at hj
                    split at hj
                    · rw [List.getElem?_drop] at hj
                      rw [hsz]; exact hobj.vals _ u hj
                    · cases hj) (.inr (by rw [hF']; simp)) (by omega) (by omega)
                rw [hlen] at hkey; exact .fro hkey
          · rw [List.take_zero]
            exact .fro (.sl0 (by decide))
        · exact .junk _
      · exact hst hs
    · split
      · exact .junk _
      · exact hst hs
theorem Inv.freeze {k : Nat} {obj : LObj} (ho : hget k s.h = some obj) (hk : obj.kind = .fro ∨ obj.kind = .deep) (hro : obj.ro = false) {a : Act} {w : World} (hi : Inv E s a w) :
    Inv E { tm := freezeTm k obj s.tm, h := hdel k s.h } a w := by
  obtain ⟨ok, ρ, F, h⟩ := hi; exact ⟨_, _, _, h.freeze ho hk hro⟩
theorem LWP.freeze {c : Code} (k : Nat) {obj : LObj} (ho : hget k s.h = some obj) (hk : obj.kind = .fro ∨ obj.kind = .deep) (hro : obj.ro = false) (hn : LWP P E c Q { tm := freezeTm k obj s.tm, h := hdel k s.h }) : LWP P E c Q s := LWP.ghost (fun _ _ hi => hi.freeze ho hk hro) hn
theorem LWo.freeze {ops : List Oper} (k : Nat) {obj : LObj} (ho : hget k s.h = some obj) (hk : obj.kind = .fro ∨ obj.kind = .deep) (hro : obj.ro = false) (hn : LWo P E all ops Q { tm := freezeTm k obj s.tm, h := hdel k s.h }) : LWo P E all ops Q s := LWo.ghost (fun _ _ hi => hi.freeze ho hk hro) hn
end
end Go.Lift
/- The lifted logic, part 11: contracts and calls. Own work. -/
namespace Go.Lift
open Go.RowKit
mutual
inductive Res (w : World) (ok : Nat → Prop) : LV → Value → List Nat → Prop
  | fro {x : LV} {v : Value} : Fro w ok x v → Res w ok x v []
  | nw0 {sz : Nat} {dp : Bool} {a : Option Addr} : Res w ok (.nw sz [] dp) (.slice a 0 0) []
  | nw {sz n c B : Nat} {dp : Bool} {xs : List LV} {arr : Array Value} {t : TypeId} {vs : List Value} {fps : List Nat} : n = xs.length → (∀ x ∈ xs, x.cells.length = sz) → n ≤ c → c ≤ maxLen → w.heap[B]? = some (.cells arr t (0, 0)) → c * sz ≤ arr.size →
      (∀ (k : Nat) (v : Value), vs[k]? = some v → arr[k]? = some v) → (if dp then DeepL w (xs.flatMap LV.cells) vs fps else fps = [] ∧ FroL w ok (xs.flatMap LV.cells) vs) → Res w ok (.nw sz xs dp) (.slice (some ⟨B, 0, none⟩) n c) (B :: fps)
  | tup {xs : List LV} {vs : List Value} {fr : List Nat} : ResL w ok xs vs fr → Res w ok (.tup xs) (.tuple vs.toArray) fr
  | nb {cs : List LV} {B : Nat} {arr : Array Value} {t : TypeId} {vs : List Value} : w.heap[B]? = some (.cells arr t (0, 0)) → cs.length ≤ arr.size → (∀ (k : Nat) (v : Value), vs[k]? = some v → arr[k]? = some v) → FroL w ok cs vs → Res w ok (.nb cs) (.pointer (some ⟨B, 0, none⟩)) [B]
  | dv {cs : List LV} {vs : List Value} {fr : List Nat} : DeepL w cs vs fr → Res w ok (.dv cs) (.agg vs.toArray) fr
  | mx0 {sz : Nat} {a : Option Addr} : Res w ok (.mx sz []) (.slice a 0 0) []
  | mx {sz n c B : Nat} {xs : List LV} {arr : Array Value} {t : TypeId} {vs : List Value} {fps : List Nat} : n = xs.length → (∀ x ∈ xs, x.cells.length = sz) → n ≤ c → c ≤ maxLen → w.heap[B]? = some (.cells arr t (0, 0)) → c * sz ≤ arr.size →
      (∀ (k : Nat) (v : Value), vs[k]? = some v → arr[k]? = some v) → (∀ ρ, MCells w ok ρ (xs.flatMap LV.cells) vs fps) → LV.refs.refsL (xs.flatMap LV.cells) = [] → Res w ok (.mx sz xs) (.slice (some ⟨B, 0, none⟩) n c) (B :: fps)
  | ms {cs : List LV} {vs : List Value} {fr : List Nat} : (∀ ρ, MCells w ok ρ cs vs fr) → LV.refs.refsL cs = [] → Res w ok (.ms cs) (.agg vs.toArray) fr
inductive ResL (w : World) (ok : Nat → Prop) : List LV → List Value → List Nat → Prop
  | nil : ResL w ok [] [] []
  | cons {x : LV} {v : Value} {xs : List LV} {vs : List Value} {f g : List Nat} : (∀ ys, x ≠ .tup ys) → Res w ok x v f → ResL w ok xs vs g → ResL w ok (x :: xs) (v :: vs) (f ++ g)
end
def rwOf (h : LHeap) : LHeap := h.filter fun p => !p.2.ro
def Does (P : Program) (f : FuncId) (xs : List LV) (hl : LHeap) (Post : LV → LHeap → Prop) : Prop :=
  (∀ vs w, (callFunc f vs).run P w = .ok (.enter f vs) w) ∧ ∀ (w : World) (vs : List Value) (ok : Nat → Prop) (ρ : Env) (F : Nat → List Nat), RepT w ok ρ xs vs → HeapOK w ok ρ F hl → (∀ k, ok k → k < w.heap.size) →
    Calls P f vs.toArray w fun e w' => ∃ v r hl' ok' F' fr, e = .returned v ∧ Post r hl' ∧ Ext w (fpsOf F (rwOf hl)) w' ∧ Res w' ok' r v fr ∧
      (hkeys hl').Nodup ∧ (∀ p ∈ hl', p.2.ro = false ∧ p.1 ∈ hkeys (rwOf hl) ∧ ObjRep w' ok' ρ p.1 p.2 (F' p.1)) ∧ (fr ++ fpsOf F' hl').Nodup ∧
      (∀ b ∈ fr ++ fpsOf F' hl', ¬ ok' b ∧ b < w'.heap.size ∧ (b < w.heap.size → b ∈ fpsOf F (rwOf hl))) ∧
      (∀ k, ok' k → k < w'.heap.size ∧ (k < w.heap.size → ok k ∨ k ∈ fpsOf F (rwOf hl)))
theorem Does.mono {P : Program} {f : FuncId} {xs : List LV} {hl : LHeap} {Post Post' : LV → LHeap → Prop} (h : Does P f xs hl Post) (hp : ∀ r h, Post r h → Post' r h) : Does P f xs hl Post' :=
  ⟨h.1, fun w vs ok ρ F h1 h2 h3 => (h.2 w vs ok ρ F h1 h2 h3).mono fun e w' ⟨v, r, hl', ok', F', fr, a, b, c⟩ => ⟨v, r, hl', ok', F', fr, a, hp _ _ b, c⟩⟩
def settle (k : Option Nat) : LV → LV
  | .nw sz xs dp => match k with | some k => .own k 0 xs.length | none => .sl sz xs
  | .nb cs => match k with | some k => .ptr k 0 0 | none => .fp cs
  | .dv cs => .agg cs
  | .mx _ _ => .junk
  | .ms _ => .junk
  | .tup xs => .tup (xs.map fun | .nw sz ys _ => .sl sz ys | .nb cs => .fp cs | .dv cs => .agg cs | .mx _ _ => .junk | .ms _ => .junk | x => x)
  | x => x
def LV.noFro : LV → Bool
  | .imm _ => true
  | .nw _ xs dp => dp || immL (xs.flatMap LV.cells)
  | .tup xs => allNo xs
  | .agg cs => immL cs
  | .dv _ => true
  | _ => false
where
  immL : List LV → Bool
    | [] => true
    | .imm _ :: r => immL r
    | _ => false
  allNo : List LV → Bool
    | [] => true
    | .imm _ :: r => allNo r
    | .nw _ ys dp :: r => (dp || immL (ys.flatMap LV.cells)) && allNo r
    | _ => false
theorem FroL.imm_any {w : World} {ok ok' : Nat → Prop} : ∀ {xs : List LV} {vs : List Value}, LV.noFro.immL xs = true → FroL w ok xs vs → FroL w ok' xs vs
  | _, _, _, .nil => .nil
  | x :: _, _, h, .cons h0 h1 h2 => by
    cases x <;> simp [LV.noFro.immL] at h; cases h0; exact .cons (.imm _) h1 (FroL.imm_any h h2)
theorem Res.noFro1 {w : World} {ok ok' : Nat → Prop} {x : LV} {v : Value} {fr : List Nat} (h : Res w ok x v fr) (hx : (∃ u, x = .imm u) ∨ (∃ sz xs dp, x = .nw sz xs dp ∧ (dp || LV.noFro.immL (xs.flatMap LV.cells)) = true)) : Res w ok' x v fr := by
  rcases hx with ⟨u, rfl⟩ | ⟨sz, xs, dp, rfl, hx⟩
  · cases h with | fro h => cases h; exact .fro (.imm _)
  · cases h with
    | fro h => cases h
    | nw0 => exact .nw0
    | nw h0 h1 h2 h3 h4 h5 h6 h7 =>
      refine .nw h0 h1 h2 h3 h4 h5 h6 ?_; cases dp
      · simp at hx h7 ⊢
        exact ⟨h7.1, h7.2.imm_any hx⟩
      · simpa using h7
theorem ResL.noFro {w : World} {ok ok' : Nat → Prop} : ∀ {xs : List LV} {vs : List Value} {fr : List Nat}, ResL w ok xs vs fr → LV.noFro.allNo xs = true → ResL w ok' xs vs fr
  | _, _, _, .nil, _ => .nil
  | x :: _, _, _, .cons ht h h2, hx => by
    cases x <;> simp [LV.noFro.allNo] at hx
    · exact .cons ht (h.noFro1 (.inl ⟨_, rfl⟩)) (h2.noFro hx)
    · exact .cons ht (h.noFro1 (.inr ⟨_, _, _, rfl, by simpa using hx.1⟩)) (h2.noFro hx.2)
theorem Res.noFro {w : World} {ok ok' : Nat → Prop} {x : LV} {v : Value} {fr : List Nat} (h : Res w ok x v fr) (hx : x.noFro = true) : Res w ok' x v fr := by
  cases x with
  | imm u => exact h.noFro1 (.inl ⟨_, rfl⟩)
  | nw sz xs dp => exact h.noFro1 (.inr ⟨_, _, _, rfl, by simpa [LV.noFro] using hx⟩)
  | tup xs =>
    cases h with
    | fro h => cases h
    | tup h => exact .tup (h.noFro (by simpa [LV.noFro] using hx))
  | agg cs =>
    cases h with
    | fro h =>
      cases h with
      | agg h => exact .fro (.agg (h.imm_any (by simpa [LV.noFro] using hx)))
  | dv cs =>
    cases h with
    | fro h => cases h
    | dv h => exact .dv h
  | _ => simp [LV.noFro] at hx
inductive ViewL (s : LState) (hl : LHeap) : List LV → List LV → List Nat → Prop
  | nil : ViewL s hl [] [] []
  | same {x : LV} {xs ys : List LV} {vw : List Nat} : ViewL s hl xs ys vw → ViewL s hl (x :: xs) (x :: ys) vw
  | view {o off n : Nat} {obj : LObj} {zs : List LV} {xs ys : List LV} {vw : List Nat} : hget o s.h = some obj → (obj.kind = .fro ∨ obj.kind = .deep) → off + n ≤ obj.elems.length → (obj.elems.drop off).take n = zs → o ∉ hkeys hl → ViewL s hl xs ys vw →
      ViewL s hl (.own o off n :: xs) (.sl obj.sz zs :: ys) (o :: vw)
inductive ArgsOK (s : LState) (hl : LHeap) : List LV → List LV → List Nat → Prop
  | nil : ArgsOK s hl [] [] []
  | same {x : LV} {xs ys : List LV} {vw : List Nat} : ArgsOK s hl xs ys vw → ArgsOK s hl (x :: xs) (x :: ys) vw
  | none {sz : Nat} {xs ys : List LV} {vw : List Nat} : ArgsOK s hl xs ys vw → ArgsOK s hl (.imm (.slice none 0 0) :: xs) (.sl sz [] :: ys) vw
  | view {o off n : Nat} {obj : LObj} {zs : List LV} {xs ys : List LV} {vw : List Nat} : hget o s.h = some obj → (obj.kind = .fro ∨ obj.kind = .deep) → off + n ≤ obj.elems.length → (obj.elems.drop off).take n = zs → o ∉ hkeys hl → ArgsOK s hl xs ys vw →
      ArgsOK s hl (.own o off n :: xs) (.sl obj.sz zs :: ys) (o :: vw)
  | viewC {f : FuncId} {o : Nat} {obj : LObj} {cs pa pb : List LV} {xs ys : List LV} {vw : List Nat} : hget o s.h = some obj → obj.kind = .box → obj.elems.flatMap LV.cells = cs → LV.pure.pureL cs = true → o ∉ hkeys hl → ArgsOK s hl xs ys vw →
      ArgsOK s hl (.clo f (pa ++ .ptr o 0 0 :: pb) :: xs) (.clo f (pa ++ .fp cs :: pb) :: ys) (o :: vw)
  | viewS {cs ds : List LV} {xs ys : List LV} {v1 v2 : List Nat} : ViewL s hl cs ds v1 → ArgsOK s hl xs ys v2 → ArgsOK s hl (.agg cs :: xs) (.agg ds :: ys) (v1 ++ v2)
section
variable {P : Program} {E : Ent} {Q : Exit → LState → Prop} {s s' : LState} {all : Array Oper} {rest : List Oper} {d : Nat} {ty : TypeId} {pos : String} {af : Array Edge}
theorem Rep.viewBox {a : Act} {w : World} {ok ok' : Nat → Prop} {ρ : Env} {F : Nat → List Nat} (h : Inv' E s a w ok ρ F) {o : Nat} {obj : LObj} (ho : hget o s.h = some obj) (hk : obj.kind = .box) (hp : LV.pure.pureL (obj.elems.flatMap LV.cells) = true)
    (h1 : ∀ b, ok b → ok' b) (h2 : ∀ b ∈ F o, ok' b) {v : Value} (hs : Rep w ok ρ (.ptr o 0 0) v) : Rep w ok' ρ (.fp (obj.elems.flatMap LV.cells)) v := by
  have hmem := hget_mem ho; obtain ⟨p, hpp, rfl⟩ := hs.ptr_inv; rcases h.heap.objs _ hmem with ⟨h4, _⟩ | ⟨p', arr, t', vs, fps, h4, hF, hobj⟩
  · rw [hpp] at h4; cases h4
  · rw [hpp] at h4; cases h4
    have hF' : F o = p.blk :: fps := hF
    have hc : fps = [] ∧ RepL w ok ρ (obj.elems.flatMap LV.cells) vs := by
      have := hobj.cells; rw [show (o, obj).2.kind = .box from hk] at this; exact this
    refine .fp ((RepL.pure hp hc.2).stable (fun _ _ => rfl) h1) (fun j u hj => ?_) (h2 _ (by rw [hF']; simp)); rw [add_plain, cellQ hobj.blk, Nat.zero_mul, Nat.zero_add]; exact hobj.vals _ u hj
theorem Rep.view {a : Act} {w : World} {ok ok' : Nat → Prop} {ρ : Env} {F : Nat → List Nat} (h : Inv' E s a w ok ρ F) {o off n : Nat} {obj : LObj} (ho : hget o s.h = some obj) (hk : obj.kind = .fro ∨ obj.kind = .deep) (hle : off + n ≤ obj.elems.length)
    (h1 : ∀ b, ok b → ok' b) (h2 : ∀ b ∈ F o, ok' b) {v : Value} (hs : Rep w ok ρ (.own o off n) v) : Fro w ok' (.sl obj.sz ((obj.elems.drop off).take n)) v := by
  have hmem := hget_mem ho; rcases hs.own_inv with ⟨p, c, hp, h2', h3, rfl⟩ | ⟨rfl, A, rfl⟩
  · rcases h.heap.objs _ hmem with ⟨h4, _⟩ | ⟨p', arr, t', vs, fps, h4, hF, hobj⟩
    · rw [hp] at h4; cases h4
    · rw [hp] at h4; cases h4
      have hF' : F o = p.blk :: fps := hF; have hsz : p.sz = obj.sz := hobj.sz; have hfr := hobj.cells.fro (ok' := ok') hk h1 (fun b hb => h2 b (by rw [hF']; simp [hb])); have hfr' := (hfr.drop (off * obj.sz)).take (n * obj.sz); have hunif : ∀ x ∈ obj.elems, x.cells.length = obj.sz := hobj.unif; rw [← flat_drop _ obj.sz _ hunif, ← flat_take _ obj.sz _ (fun x hx => hunif x (List.mem_of_mem_drop hx))] at hfr'; have hcap : p.cap ≤ maxLen := hobj.cap; have hlen : ((obj.elems.drop off).take n).length = n := by simp; omega
      rcases Nat.eq_zero_or_pos n with h0 | h0
      · subst h0
        rw [List.take_zero]; exact .sl0 (by omega)
      · have hkey := Fro.sl (w := w) (ok := ok') (sz := obj.sz) (c := c) (xs := (obj.elems.drop off).take n) (ad := ⟨p.blk, off * p.sz, none⟩) (by intro e; rw [e] at hlen; simp at hlen; omega)
          (fun x hx => hunif x (List.mem_of_mem_drop (List.mem_of_mem_take hx))) hfr' (by
            intro j u hj; rw [add_plain, cellQ hobj.blk]; rw [List.getElem?_take] at hj
            split at hj
            · rw [List.getElem?_drop] at hj
              rw [hsz]; exact hobj.vals _ u hj
            · cases hj) (h2 _ (by rw [hF']; simp)) (by omega) (by omega)
        rw [hlen] at hkey; exact hkey
  · rw [List.take_zero]
    exact .sl0 (by decide)
theorem ViewL.rep {a : Act} {w : World} {ok ok' : Nat → Prop} {ρ : Env} {F : Nat → List Nat} (h : Inv' E s a w ok ρ F) {hl : LHeap} {xs ys : List LV} {vw : List Nat} (hA : ViewL s hl xs ys vw) (h1 : ∀ b, ok b → ok' b) (h2 : ∀ o ∈ vw, ∀ b ∈ F o, ok' b) :
    ∀ {vs : List Value}, RepL w ok ρ xs vs → RepL w ok' ρ ys vs := by
  induction hA with
  | nil => intro vs h; cases h; exact .nil
  | same _ ih => intro vs hv; cases hv with | cons h3 h5 h4 => exact .cons (h3.stable (fun _ _ => rfl) h1 (fun _ _ => rfl)) h5 (ih h2 h4)
  | view ho hk hle he _ _ ih =>
    intro vs hv; cases hv with
    | cons h3 h5 h4 =>
      subst he; exact .cons (.fro (Rep.view h ho hk hle h1 (h2 _ (by simp)) h3)) h5 (ih (fun o ho => h2 o (by simp [ho])) h4)
theorem ViewL.views {hl : LHeap} {xs ys : List LV} {vw : List Nat} (hA : ViewL s hl xs ys vw) : ∀ o ∈ vw, o ∉ hkeys hl ∧ ∃ obj, (o, obj) ∈ s.h := by
  induction hA with
  | nil => simp
  | same _ ih => exact ih
  | view ho _ _ _ hn _ ih =>
    intro o hm; rcases List.mem_cons.1 hm with rfl | hm
    · exact ⟨hn, _, hget_mem ho⟩
    · exact ih o hm
theorem ArgsOK.rep {a : Act} {w : World} {ok ok' : Nat → Prop} {ρ : Env} {F : Nat → List Nat} (h : Inv' E s a w ok ρ F) {hl : LHeap} {xs ys : List LV} {vw : List Nat} (hA : ArgsOK s hl xs ys vw) (h1 : ∀ b, ok b → ok' b) (h2 : ∀ o ∈ vw, ∀ b ∈ F o, ok' b) :
    ∀ {vs : List Value}, RepT w ok ρ xs vs → RepT w ok' ρ ys vs := by
  induction hA with
  | nil => intro vs h; cases h; exact .nil
  | same _ ih => intro vs hv; cases hv with | cons h3 h4 => exact .cons (h3.stable (fun _ _ => rfl) h1 (fun _ _ => rfl)) (ih h2 h4)
  | none _ ih =>
    intro vs hv; cases hv with
    | cons h3 h4 => rw [h3.imm_inv]; exact .cons (.fro (.sl0 (by decide))) (ih h2 h4)
  | view ho hk hle he _ _ ih =>
    intro vs hv; cases hv with
    | cons h3 h4 =>
      subst he; exact .cons (.fro (Rep.view h ho hk hle h1 (h2 _ (by simp)) h3)) (ih (fun o ho => h2 o (by simp [ho])) h4)
  | @viewC f o obj cs pa pb xs ys vw ho hk he hp _ _ ih =>
    intro vs hv; cases hv with
    | cons h3 h4 =>
      subst he; refine .cons ?_ (ih (fun o ho => h2 o (by simp [ho])) h4); obtain ⟨us, rfl, hus⟩ := h3.clo_inv; refine .clo ?_; obtain ⟨g1, g2⟩ := hus.split; cases hd : us.drop pa.length with
      | nil => rw [hd] at g2; cases g2
      | cons u us2 =>
        rw [hd] at g2; cases g2 with
        | cons g3 g4 g5 =>
          have e : us = us.take pa.length ++ u :: us2 := by rw [← hd, List.take_append_drop]
          rw [e]; exact (g1.stable (fun _ _ => rfl) h1 (fun _ _ => rfl)).append (.cons (Rep.viewBox h ho hk hp h1 (h2 _ (by simp)) g3) g4 (g5.stable (fun _ _ => rfl) h1 (fun _ _ => rfl)))
  | viewS hv' _ ih =>
    intro vs hv; cases hv with
    | cons h3 h4 =>
      refine .cons ?_ (ih (fun o ho => h2 o (by simp [ho])) h4); cases h3 with
      | fro h3 =>
        cases h3 with
        | agg h3 => exact .agg (hv'.rep h h1 (fun o ho => h2 o (by simp [ho])) h3.rep)
      | agg h3 => exact .agg (hv'.rep h h1 (fun o ho => h2 o (by simp [ho])) h3)
theorem ArgsOK.views {hl : LHeap} {xs ys : List LV} {vw : List Nat} (hA : ArgsOK s hl xs ys vw) : ∀ o ∈ vw, o ∉ hkeys hl ∧ ∃ obj, (o, obj) ∈ s.h := by
  induction hA with
  | nil => simp
  | same _ ih => exact ih
  | none _ ih => exact ih
  | view ho _ _ _ hn _ ih =>
    intro o hm; rcases List.mem_cons.1 hm with rfl | hm
    · exact ⟨hn, _, hget_mem ho⟩
    · exact ih o hm
  | viewC ho _ _ _ hn _ ih =>
    intro o hm; rcases List.mem_cons.1 hm with rfl | hm
    · exact ⟨hn, _, hget_mem ho⟩
    · exact ih o hm
  | viewS hv _ ih =>
    intro o hm; rcases List.mem_append.1 hm with hm | hm
    · exact hv.views o hm
    · exact ih o hm
end
end Go.Lift
/- The lifted logic, part 12: the call. Own work. -/
namespace Go.Lift
open Go.RowKit
def hdels (ks : List Nat) : LHeap → LHeap
  | [] => []
  | (j, o) :: r => if j ∈ ks then hdels ks r else (j, o) :: hdels ks r
@[simp] theorem hdels_nil : ∀ h : LHeap, hdels [] h = h
  | [] => rfl
  | (j, o) :: r => by simp [hdels, hdels_nil r]
@[simp] theorem hdels_one (k : Nat) : ∀ h : LHeap, hdels [k] h = hdel k h
  | [] => rfl
  | (j, o) :: r => by
    simp only [hdels, hdel, List.mem_singleton, hdels_one k r]
theorem hdels_sub (ks : List Nat) : ∀ h : LHeap, (hdels ks h).Sublist h
  | [] => .slnil
  | (j, o) :: r => by
    simp only [hdels]
    split
    · exact (hdels_sub ks r).cons _
    · exact (hdels_sub ks r).cons_cons _
theorem hdels_key (ks : List Nat) : ∀ h : LHeap, ∀ p ∈ hdels ks h, p.1 ∉ ks
  | [], p, hp => by simp [hdels] at hp
  | (j, o) :: r, p, hp => by
    simp only [hdels] at hp
    split at hp
    · exact hdels_key ks r p hp
    · rename_i hj
      rcases List.mem_cons.1 hp with rfl | hp
      · exact hj
      · exact hdels_key ks r p hp
theorem ObjRep.ro {w : World} {ok : Nat → Prop} {ρ : Env} {o : Nat} {obj : LObj} {fp : List Nat} (b : Bool) (h : ObjRep w ok ρ o obj fp) : ObjRep w ok ρ o { obj with ro := b } fp := by
  rcases h with h | ⟨p, arr, t, vs, fps, h1, h2, h3⟩
  · exact .inl h
  · exact .inr ⟨p, arr, t, vs, fps, h1, h2, ⟨h3.sz, h3.unif, h3.len, h3.cap, h3.blk, h3.room, h3.vals, h3.cells⟩⟩
theorem nodup_keys {F : Nat → List Nat} {h : LHeap} (hk : (hkeys h).Nodup) (hn : (fpsOf F h).Nodup) : ∀ {ks : List Nat}, ks.Nodup → (∀ k ∈ ks, k ∈ hkeys h) → (ks.flatMap F).Nodup
  | [], _, _ => by simp
  | k :: ks, hks, hm => by
    simp only [List.nodup_cons] at hks; have mem : ∀ j ∈ hkeys h, ∃ o, (j, o) ∈ h := fun j hj => by simpa [hkeys] using hj
    simp only [List.flatMap_cons, List.nodup_append]; refine ⟨?_, nodup_keys hk hn hks.2 (fun j hj => hm j (by simp [hj])), ?_⟩
    · obtain ⟨o, ho⟩ := mem k (hm k (by simp))
      have : ∀ {h : LHeap}, (fpsOf F h).Nodup → (k, o) ∈ h → (F k).Nodup := by
        intro h hn hp
        induction h with
        | nil => cases hp
        | cons q r ih =>
          simp only [fpsOf, List.flatMap_cons, List.nodup_append] at hn; rcases List.mem_cons.1 hp with rfl | hp
          · exact hn.1
          · exact ih hn.2.1 hp
      exact this hn ho
    · intro b hb c hc e
      subst e; obtain ⟨j, hj, hb'⟩ := List.mem_flatMap.1 hc; obtain ⟨o, ho⟩ := mem k (hm k (by simp)); obtain ⟨o', ho'⟩ := mem j (hm j (by simp [hj])); exact nodup_apart hk hn ho ho' (fun e => hks.1 (by have e' : k = j := e; rw [e']; exact hj)) b hb hb'
theorem key_apart {F : Nat → List Nat} {h : LHeap} (hk : (hkeys h).Nodup) (hn : (fpsOf F h).Nodup) {i j : Nat} (hi : i ∈ hkeys h) (hj : j ∈ hkeys h) (hne : i ≠ j) : ∀ b ∈ F i, b ∉ F j := by
  have mem : ∀ j ∈ hkeys h, ∃ o, (j, o) ∈ h := fun j hj => by simpa [hkeys] using hj
  obtain ⟨o, ho⟩ := mem i hi; obtain ⟨o', ho'⟩ := mem j hj; exact nodup_apart hk hn ho ho' hne
theorem mem_rw {h : LHeap} {k : Nat} (hk : k ∈ hkeys (rwOf h)) : ∃ o, (k, o) ∈ h ∧ o.ro = false := by
  simp only [hkeys, rwOf, List.mem_map, List.mem_filter] at hk; obtain ⟨p, ⟨h1, h2⟩, rfl⟩ := hk; exact ⟨p.2, h1, by simpa using h2⟩
theorem rw_keys_sub {h : LHeap} {k : Nat} (hk : k ∈ hkeys (rwOf h)) : k ∈ hkeys h := (List.filter_sublist.map _).mem hk
section
variable {P : Program} {E : Ent} {Q : Exit → LState → Prop} {s s' : LState} {all : Array Oper} {rest : List Oper} {d : Nat} {ty : TypeId} {pos : String} {af : Array Edge}
structure LentOK (s : LState) (hl : LHeap) : Prop where
  keys : (hkeys hl).Nodup
  here : ∀ p ∈ hl, ∃ o, hget p.1 s.h = some o ∧ (p.2 = o ∨ p.2 = { o with ro := true })
theorem call_base {a : Act} {w w' : World} {ok ok' : Nat → Prop} {ρ : Env} {F F' : Nat → List Nat} {hl hl' : LHeap} {vw : List Nat} {r : LV} {v : Value} {fr : List Nat} (hi : Inv' E s a w ok ρ F) (hL : LentOK s hl) (hvw : ∀ o ∈ vw, o ∉ hkeys hl ∧ ∃ obj, (o, obj) ∈ s.h)
    (hv : vw = [] ∨ (hl' = [] ∧ r.noFro = true)) (hext : Ext w (fpsOf F (rwOf hl)) w') (hres : Res w' ok' r v fr) (hk' : (hkeys hl').Nodup) (ho' : ∀ p ∈ hl', p.2.ro = false ∧ p.1 ∈ hkeys (rwOf hl) ∧ ObjRep w' ok' ρ p.1 p.2 (F' p.1)) (hn' : (fr ++ fpsOf F' hl').Nodup)
    (hb' : ∀ b ∈ fr ++ fpsOf F' hl', ¬ ok' b ∧ b < w'.heap.size ∧ (b < w.heap.size → b ∈ fpsOf F (rwOf hl))) (hok' : ∀ k, ok' k → k < w'.heap.size ∧ (k < w.heap.size → (ok k ∨ ∃ o ∈ vw, k ∈ F o) ∨ k ∈ fpsOf F (rwOf hl))) :
    ∃ okn Does, Inv' E { tm := s.tm, h := hl' ++ hdels (hkeys (rwOf hl)) s.h } a w' okn ρ Does ∧ Res w' okn r v fr ∧ fr.Nodup ∧
      ∀ b ∈ fr, ¬ okn b ∧ b < w'.heap.size ∧ b ∉ fpsOf Does (hl' ++ hdels (hkeys (rwOf hl)) s.h) ∧ (b < E.w0.heap.size → b ∈ E.lent) := by
  have hkeyL : ∀ k ∈ hkeys hl, k ∈ hkeys s.h := fun k hk => by
    obtain ⟨o, ho⟩ : ∃ o, (k, o) ∈ hl := by simpa [hkeys] using hk
    obtain ⟨z, hz, _⟩ := hL.here _ ho; have := hget_mem hz; simp [hkeys]; exact ⟨z, this⟩
  have hLent : ∀ b, b ∈ fpsOf F (rwOf hl) ↔ ∃ k ∈ hkeys (rwOf hl), b ∈ F k := fun b => by rw [fpsOf_keys]; simp [List.mem_flatMap]
  have hmineL : ∀ b ∈ fpsOf F (rwOf hl), b < E.w0.heap.size → b ∈ E.lent := by
    intro b hb hlt; obtain ⟨k, hk, hb⟩ := (hLent b).1 hb; obtain ⟨o, ho, hro⟩ := mem_rw hk; obtain ⟨z, hz, hz'⟩ := hL.here _ ho
    have hzro : z.ro = false := by
      rcases hz' with e | e
      · have e' : o = z := e
        rw [← e']; exact hro
      · have e' : o = { z with ro := true } := e
        rw [e'] at hro; cases hro
    exact hi.mine _ (hget_mem hz) hzro b hb hlt
  have hsame : ∀ b, b < w.heap.size → b ∉ fpsOf F (rwOf hl) → w'.heap[b]? = w.heap[b]? := fun b h1 h2 => hext.block b h1 h2
  have hokL : ∀ b, ok b → b ∉ fpsOf F (rwOf hl) := by
    intro b hb hm; obtain ⟨k, hk, hm⟩ := (hLent b).1 hm; obtain ⟨o, ho⟩ : ∃ o, (k, o) ∈ s.h := by simpa [hkeys] using hkeyL k (rw_keys_sub hk)
    exact (hi.heap.apart b (mem_fpsOf.2 ⟨_, ho, hm⟩)).1 hb
  have hob : ∀ b, ok b → w'.heap[b]? = w.heap[b]? := fun b hb => hsame b (hi.okk b hb).1 (hokL b hb)
  let okn : Nat → Prop := fun b => ok b ∨ (ok' b ∧ (w.heap.size ≤ b ∨ b ∈ fpsOf F (rwOf hl)))
  have hres' : Res w' okn r v fr ∧ ∀ p ∈ hl', ObjRep w' okn ρ p.1 p.2 (F' p.1) := by
    rcases hv with rfl | ⟨h1, h2⟩
    · have hsub : ∀ b, ok' b → okn b := by
        intro b hb; rcases Nat.lt_or_ge b w.heap.size with hlt | hge
        · rcases (hok' b hb).2 hlt with (h | ⟨o, ho, _⟩) | h
          · exact .inl h
          · cases ho
          · exact .inr ⟨hb, .inr h⟩
        · exact .inr ⟨hb, .inl hge⟩
      have hmono : ∀ {x : LV} {v : Value} {fr : List Nat}, Res w' ok' x v fr → Res w' okn x v fr := by
        intro x v fr h
        have one : ∀ {x : LV} {v : Value} {fr : List Nat}, (∀ ys, x ≠ .tup ys) → Res w' ok' x v fr → Res w' okn x v fr := by
          intro x v fr hx h; cases h with
          | fro h => exact .fro (h.stable (fun _ _ => rfl) hsub)
          | nw0 => exact .nw0
          | nw g0 g1 g2 g3 g4 g5 g6 g7 =>
            refine .nw g0 g1 g2 g3 g4 g5 g6 ?_; rename_i dp _ _ _ _ _; cases dp
            · simp only [Bool.false_eq_true, if_false] at g7 ⊢
              exact ⟨g7.1, g7.2.stable (fun _ _ => rfl) hsub⟩
            · simpa using g7
          | tup _ => exact absurd rfl (hx _)
          | nb g0 g1 g2 g3 => exact .nb g0 g1 g2 (g3.stable (fun _ _ => rfl) hsub)
          | dv g => exact .dv g
          | mx0 => exact .mx0
          | mx g0 g1 g2 g3 g4 g5 g6 g7 g8 => exact .mx g0 g1 g2 g3 g4 g5 g6 (fun ρ => (g7 ρ).stable (fun _ _ => rfl) hsub (fun _ _ => rfl) (fun _ _ => rfl)) g8
          | ms g0 g1 => exact .ms (fun ρ => (g0 ρ).stable (fun _ _ => rfl) hsub (fun _ _ => rfl) (fun _ _ => rfl)) g1
        induction h using Res.rec (motive_2 := fun xs vs fr _ => ResL w' okn xs vs fr) with
        | fro h => exact one (by intro ys e; subst e; cases h) (.fro h)
        | nw0 => exact .nw0
        | nw g0 g1 g2 g3 g4 g5 g6 g7 => exact one (by intro ys e; cases e) (.nw g0 g1 g2 g3 g4 g5 g6 g7)
        | tup _ ih => exact .tup ih
        | nb g0 g1 g2 g3 => exact one (by intro ys e; cases e) (.nb g0 g1 g2 g3)
        | dv g => exact one (by intro ys e; cases e) (.dv g)
        | mx0 => exact .mx0
        | mx g0 g1 g2 g3 g4 g5 g6 g7 g8 => exact one (by intro ys e; cases e) (.mx g0 g1 g2 g3 g4 g5 g6 g7 g8)
        | ms g0 g1 => exact one (by intro ys e; cases e) (.ms g0 g1)
        | nil => exact .nil
        | cons ht _ _ ih1 ih2 => exact .cons ht ih1 ih2
      exact ⟨hmono hres, fun p hp => (ho' p hp).2.2.stable (fun _ _ => rfl) hsub (fun _ _ => rfl) rfl (fun _ _ => rfl)⟩
    · refine ⟨hres.noFro h2, fun p hp => ?_⟩
      rw [h1] at hp; cases hp
  have hrestkey : ∀ p ∈ hdels (hkeys (rwOf hl)) s.h, p.1 ∉ hkeys (rwOf hl) := hdels_key _ _; have hrestmem : ∀ p ∈ hdels (hkeys (rwOf hl)) s.h, p ∈ s.h := fun p hp => (hdels_sub _ _).mem hp
  have hrestL : ∀ p ∈ hdels (hkeys (rwOf hl)) s.h, ∀ b ∈ F p.1, b ∉ fpsOf F (rwOf hl) := by
    intro p hp b hb hm; obtain ⟨k, hk, hm⟩ := (hLent b).1 hm; refine key_apart hi.heap.keys hi.heap.nodup (by simp [hkeys]; exact ⟨p.2, hrestmem p hp⟩) (hkeyL k (rw_keys_sub hk)) ?_ b hb hm; intro e; exact hrestkey p hp (e ▸ hk)
  let Does : Nat → List Nat := fun j => if j ∈ hkeys hl' then F' j else F j
  have hFn1 : ∀ p ∈ hl', Does p.1 = F' p.1 := fun p hp => if_pos (by simp [hkeys]; exact ⟨p.2, hp⟩)
  have hk2 : ∀ k ∈ hkeys hl', k ∈ hkeys (rwOf hl) := fun k hk => by
    obtain ⟨o, ho⟩ : ∃ o, (k, o) ∈ hl' := by simpa [hkeys] using hk
    exact (ho' _ ho).2.1
  have hFn2 : ∀ p ∈ hdels (hkeys (rwOf hl)) s.h, Does p.1 = F p.1 := fun p hp => if_neg (fun hk => hrestkey p hp (hk2 _ hk))
  have hfpsn : fpsOf Does (hl' ++ hdels (hkeys (rwOf hl)) s.h) = fpsOf F' hl' ++ fpsOf F (hdels (hkeys (rwOf hl)) s.h) := by
    have e1 := fpsOf_congr hFn1; have e2 := fpsOf_congr hFn2; simp only [fpsOf, List.flatMap_append] at e1 e2 ⊢; rw [e1, e2]
  have hnd := List.nodup_append.1 hn'
  have hrest2 : ∀ b ∈ fpsOf F (hdels (hkeys (rwOf hl)) s.h), ¬ ok b ∧ b < w.heap.size ∧ b ∉ fpsOf F (rwOf hl) := by
    intro b hb; obtain ⟨p, hp, hb⟩ := mem_fpsOf.1 hb; have := hi.heap.apart b (mem_fpsOf.2 ⟨p, hrestmem p hp, hb⟩); exact ⟨this.1, this.2, hrestL p hp b hb⟩
  refine ⟨okn, Does, { defers := hi.defers, size := hi.size, ext := ?_, okk := ?_, heap := ⟨?_, ?_, ?_, ?_⟩, mine := ?_, slots := ?_, keep := hi.keep }, hres'.1, hnd.1, ?_⟩
  · refine ⟨hext.os.trans hi.ext.os, hext.tape.trans hi.ext.tape, hext.output.trans hi.ext.output, Nat.le_trans hi.ext.size hext.size, fun k hk hkl => ?_, Nat.le_trans hi.ext.drawn hext.drawn⟩
    rw [hsame k (Nat.lt_of_lt_of_le hk hi.ext.size) (fun hm => hkl (hmineL k hm hk))]; exact hi.ext.block k hk hkl
  · rintro b (hb | ⟨hb, hb2⟩)
    · have := hi.okk b hb
      exact ⟨Nat.lt_of_lt_of_le this.1 hext.size, this.2⟩
    · refine ⟨(hok' b hb).1, fun hlt => ?_⟩
      rcases hb2 with hb2 | hb2
      · have := hi.ext.size; omega
      · exact .inr (hmineL b hb2 hlt)
  · show (hkeys (hl' ++ hdels (hkeys (rwOf hl)) s.h)).Nodup
    have e : hkeys (hl' ++ hdels (hkeys (rwOf hl)) s.h) = hkeys hl' ++ hkeys (hdels (hkeys (rwOf hl)) s.h) := by simp [hkeys]
    rw [e, List.nodup_append]; refine ⟨hk', ((hdels_sub _ _).map _).nodup hi.heap.keys, ?_⟩; intro i h1 j h2 e; subst e; obtain ⟨o, ho⟩ : ∃ o, (i, o) ∈ hdels (hkeys (rwOf hl)) s.h := by simpa [hkeys] using h2
    exact hrestkey _ ho (hk2 _ h1)
  · intro p hp
    rcases List.mem_append.1 hp with hp | hp
    · rw [hFn1 p hp]; exact hres'.2 p hp
    · rw [hFn2 p hp]
      refine (hi.heap.objs p (hrestmem p hp)).stable hob (fun _ hb => .inl hb) (fun b hb => ?_) rfl (fun _ _ => rfl); exact hsame b (hi.heap.apart b (mem_fpsOf.2 ⟨p, hrestmem p hp, hb⟩)).2 (hrestL p hp b hb)
  · show (fpsOf Does (hl' ++ hdels (hkeys (rwOf hl)) s.h)).Nodup
    rw [hfpsn, List.nodup_append]; refine ⟨hnd.2.1, (fpsOf_sub (hdels_sub _ _)).nodup hi.heap.nodup, ?_⟩; intro b h1 c h2 e; subst e; obtain ⟨_, h3, h4⟩ := hrest2 b h2; exact h4 ((hb' b (List.mem_append.2 (.inr h1))).2.2 h3)
  · intro b hb
    rw [show ({ tm := s.tm, h := hl' ++ hdels (hkeys (rwOf hl)) s.h } : LState).h = hl' ++ hdels (hkeys (rwOf hl)) s.h from rfl, hfpsn] at hb; rcases List.mem_append.1 hb with hb | hb
    · obtain ⟨h1, h2, h3⟩ := hb' b (List.mem_append.2 (.inr hb))
      refine ⟨?_, h2⟩; rintro (ho | ⟨ho, _⟩)
      · exact hokL b ho (h3 (hi.okk b ho).1)
      · exact h1 ho
    · obtain ⟨h1, h2, h3⟩ := hrest2 b hb
      refine ⟨?_, Nat.lt_of_lt_of_le h2 hext.size⟩; rintro (ho | ⟨_, ho | ho⟩)
      · exact h1 ho
      · omega
      · exact h3 ho
  · intro p hp hro b hb hlt
    rcases List.mem_append.1 hp with hp | hp
    · rw [hFn1 p hp] at hb
      have := (hb' b (List.mem_append.2 (.inr (mem_fpsOf.2 ⟨p, hp, hb⟩)))).2.2 (Nat.lt_of_lt_of_le hlt hi.ext.size); exact hmineL b this hlt
    · rw [hFn2 p hp] at hb
      exact hi.mine p (hrestmem p hp) hro b hb hlt
  · intro t
    exact (hi.slots t).stable hob (fun _ hb => .inl hb) (fun _ _ => rfl)
  · intro b hb
    obtain ⟨h1, h2, h3⟩ := hb' b (List.mem_append.2 (.inl hb)); refine ⟨?_, h2, ?_, fun hlt => hmineL b (h3 (Nat.lt_of_lt_of_le hlt hi.ext.size)) hlt⟩
    · rintro (ho | ⟨ho, _⟩)
      · exact hokL b ho (h3 (hi.okk b ho).1)
      · exact h1 ho
    · rw [hfpsn]
      intro hm; rcases List.mem_append.1 hm with hm | hm
      · exact hnd.2.2 b hb b hm rfl
      · obtain ⟨_, h4, h5⟩ := hrest2 b hm
        exact h5 (h3 h4)
end
end Go.Lift
/- The lifted logic, part 13: the call, settled; a contract out of a body. Own work. -/
namespace Go.Lift
open Go.RowKit
theorem Res.frozen {w : World} {ok okn : Nat → Prop} {ρ : Env} {x : LV} {v : Value} {fr : List Nat} (h : Res w ok x v fr) (hok : ∀ b, ok b → okn b) (hfr : ∀ b ∈ fr, okn b) : Rep w okn ρ (settle none x) v := by
  have one : ∀ {x : LV} {v : Value} {fr : List Nat}, (∀ ys, x ≠ .tup ys) → (∀ b ∈ fr, okn b) → Res w ok x v fr → Rep w okn ρ (match x with | .nw sz ys _ => .sl sz ys | .nb cs => .fp cs | .dv cs => .agg cs | .mx _ _ => .junk | .ms _ => .junk | x => x) v := by
    intro x v fr hx hfr h; cases h with
    | fro h =>
      have := h.stable (w' := w) (fun _ _ => rfl) hok; cases h <;> exact .fro this
    | nw0 => exact .fro (.sl0 (by decide))
    | nw g0 g1 g2 g3 g4 g5 g6 g7 =>
      rename_i sz n c B dp xs arr t vs fps; show Rep w okn ρ (.sl sz xs) _
      have hF : FroL w okn (xs.flatMap LV.cells) vs := by
        cases dp
        · simp only [Bool.false_eq_true, if_false] at g7
          exact g7.2.stable (fun _ _ => rfl) hok
        · simp only [if_true] at g7
          exact g7.fro (fun b hb => hfr b (by simp [hb]))
      subst g0; rcases xs with _ | ⟨x, xs⟩
      · exact .fro (.sl0 g3)
      · refine .fro (.sl (by simp) g1 hF ?_ (hfr _ (by simp)) g2 g3)
        intro k u hk; rw [add_plain]; have := g6 k u hk; simpa [World.cell?, g4] using this
    | tup _ => exact absurd rfl (hx _)
    | nb g0 g1 g2 g3 =>
      refine .fp (g3.stable (fun _ _ => rfl) hok) ?_ (hfr _ (by simp)); intro k u hk; rw [add_plain]; have := g2 k u hk; simpa [World.cell?, g0] using this
    | dv g => exact .fro (.agg (g.fro hfr))
    | mx0 => exact .junk _
    | mx => exact .junk _
    | ms => exact .junk _
  cases x with
  | tup xs =>
    cases h with
    | fro h => cases h
    | tup h =>
      refine .tup ?_
      have : ∀ {xs : List LV} {vs : List Value} {fr : List Nat}, ResL w ok xs vs fr → (∀ b ∈ fr, okn b) → RepT w okn ρ (xs.map fun | .nw sz ys _ => .sl sz ys | .nb cs => .fp cs | .dv cs => .agg cs | .mx _ _ => .junk | .ms _ => .junk | x => x) vs := by
        intro xs
        induction xs with
        | nil => intro vs fr h _; cases h; exact .nil
        | cons x xs ih =>
          intro vs fr h hfr; cases h with
          | cons ht h1 h2 => exact .cons (one ht (fun b hb => hfr b (List.mem_append.2 (.inl hb))) h1) (ih h2 (fun b hb => hfr b (by simp [hb])))
      exact this h hfr
  | nw sz xs dp => exact one (by intro ys e; cases e) hfr h
  | imm u => exact one (by intro ys e; cases e) hfr h
  | junk => exact one (by intro ys e; cases e) hfr h
  | agg cs => exact one (by intro ys e; cases e) hfr h
  | sl sz xs => exact one (by intro ys e; cases e) hfr h
  | slx sz xs => exact one (by intro ys e; cases e) hfr h
  | mv f x => exact one (by intro ys e; cases e) hfr h
  | mp o ks lim => exact one (by intro ys e; cases e) hfr h
  | clo f cs => exact one (by intro ys e; cases e) hfr h
  | fp cs => exact one (by intro ys e; cases e) hfr h
  | ptr o i j => exact one (by intro ys e; cases e) hfr h
  | own o i j => exact one (by intro ys e; cases e) hfr h
  | ownc o i j c => exact one (by intro ys e; cases e) hfr h
  | nb cs => exact one (by intro ys e; cases e) hfr h
  | dv cs => exact one (by intro ys e; cases e) hfr h
  | mx sz xs => exact one (by intro ys e; cases e) hfr h
  | ms cs => exact one (by intro ys e; cases e) hfr h
theorem RepL.toT {w : World} {ok : Nat → Prop} {ρ : Env} : ∀ {xs : List LV} {vs : List Value}, RepL w ok ρ xs vs → RepT w ok ρ xs vs
  | _, _, .nil => .nil
  | _, _, .cons h _ h2 => .cons h h2.toT
section
variable {P : Program} {E : Ent} {Q : Exit → LState → Prop} {s s' : LState} {all : Array Oper} {rest : List Oper} {d : Nat} {ty : TypeId} {pos : String} {af : Array Edge}
theorem settle_frozen {a : Act} {w : World} {ok : Nat → Prop} {ρ : Env} {F : Nat → List Nat} (hi : Inv' E s a w ok ρ F) {r : LV} {v : Value} {fr : List Nat} (hr : Res w ok r v fr)
    (hb : ∀ b ∈ fr, ¬ ok b ∧ b < w.heap.size ∧ b ∉ fpsOf F s.h ∧ (b < E.w0.heap.size → b ∈ E.lent)) : Inv' E s a w (fun b => ok b ∨ b ∈ fr) ρ F ∧ Rep w (fun b => ok b ∨ b ∈ fr) ρ (settle none r) v := by
  refine ⟨{ hi with okk := ?_, heap := ⟨hi.heap.keys, ?_, hi.heap.nodup, ?_⟩, slots := ?_ }, hr.frozen (fun _ hb => .inl hb) (fun _ hb => .inr hb)⟩
  · rintro b (h | h)
    · exact hi.okk b h
    · exact ⟨(hb b h).2.1, fun hlt => .inr ((hb b h).2.2.2 hlt)⟩
  · intro p hp
    exact (hi.heap.objs p hp).stable (fun _ _ => rfl) (fun _ hb => .inl hb) (fun _ _ => rfl) rfl (fun _ _ => rfl)
  · intro b h
    refine ⟨?_, (hi.heap.apart b h).2⟩; rintro (h1 | h1)
    · exact (hi.heap.apart b h).1 h1
    · exact (hb b h1).2.2.1 h
  · intro t
    exact (hi.slots t).stable (fun _ _ => rfl) (fun _ hb => .inl hb) (fun _ _ => rfl)
theorem settle_own {a : Act} {w : World} {ok : Nat → Prop} {ρ : Env} {F : Nat → List Nat} (hi : Inv' E s a w ok ρ F) (k : Nat) (hkp : E.keep.contains k = false := by exact rfl) (hl : Lift.lone k (hdel k s.h) = true) {sz : Nat} {xs : List LV} {dp : Bool} {v : Value} {fr : List Nat} (hr : Res w ok (.nw sz xs dp) v fr) (hn : fr.Nodup)
    (hb : ∀ b ∈ fr, ¬ ok b ∧ b < w.heap.size ∧ b ∉ fpsOf F s.h ∧ (b < E.w0.heap.size → b ∈ E.lent)) :
    ∃ ρ' F', Inv' E { tm := kill k s.tm, h := (k, { kind := if dp then .deep else .fro, sz := sz, elems := xs }) :: hdel k s.h } a w ok ρ' F' ∧ Rep w ok ρ' (.own k 0 xs.length) v := by
  have h' := hi.sub (hdel_sub k s.h); have hne := not_key (hdel_key k s.h); have hF : ∀ p ∈ hdel k s.h, upd F k fr p.1 = F p.1 := fun p hp => upd_other _ _ (hne p hp)
  have hfps : fpsOf (upd F k fr) ((k, ({ kind := if dp then .deep else .fro, sz := sz, elems := xs } : LObj)) :: hdel k s.h) = fr ++ fpsOf F (hdel k s.h) := by
    have e := fpsOf_congr hF; simp only [fpsOf, List.flatMap_cons, upd_same] at e ⊢; rw [e]
  have hdis : ∀ b ∈ fr, b ∉ fpsOf F (hdel k s.h) := fun b hb' hm => (hb b hb').2.2.1 ((fpsOf_sub (hdel_sub k s.h)).mem hm)
  have build : ∀ pl : Option Place, ObjRep w ok (upd ρ k pl) k { kind := if dp then .deep else .fro, sz := sz, elems := xs } fr → Rep w ok (upd ρ k pl) (.own k 0 xs.length) v →
      ∃ ρ' F', Inv' E { tm := kill k s.tm, h := (k, { kind := if dp then .deep else .fro, sz := sz, elems := xs }) :: hdel k s.h } a w ok ρ' F' ∧ Rep w ok ρ' (.own k 0 xs.length) v := by
    intro pl ho hv; refine ⟨upd ρ k pl, upd F k fr, { h' with heap := ⟨?_, ?_, ?_, ?_⟩, mine := ?_, slots := ?_, keep := fun j hj => (upd_other ρ _ (show j ≠ k from fun e => by subst e; simp [hj] at hkp)).trans (hi.keep j hj) }, hv⟩
    · simp only [hkeys, List.map_cons, List.nodup_cons]
      exact ⟨hdel_key k s.h, h'.heap.keys⟩
    · intro p hp
      rcases List.mem_cons.1 hp with rfl | hp
      · simpa using ho
      · rw [hF p hp]
        exact (h'.heap.objs p hp).stable (fun _ _ => rfl) (fun _ hb => hb) (fun _ _ => rfl) (upd_other _ _ (hne p hp)) (fun j hj => upd_other _ _ (fun e => lone_refs hl p hp (e ▸ hj)))
    · show (fpsOf (upd F k fr) _).Nodup
      rw [hfps, List.nodup_append]; exact ⟨hn, h'.heap.nodup, fun b h1 c h2 e => hdis b h1 (e ▸ h2)⟩
    · intro b hb'
      rw [show ({ tm := kill k s.tm, h := (k, { kind := if dp then .deep else .fro, sz := sz, elems := xs }) :: hdel k s.h } : LState).h = (k, { kind := if dp then .deep else .fro, sz := sz, elems := xs }) :: hdel k s.h from rfl, hfps] at hb'; rcases List.mem_append.1 hb' with h1 | h1
      · exact ⟨(hb b h1).1, (hb b h1).2.1⟩
      · exact h'.heap.apart b h1
    · intro p hp hro b hb' hlt
      rcases List.mem_cons.1 hp with rfl | hp
      · rw [upd_same] at hb'; exact (hb b hb').2.2.2 hlt
      · rw [hF p hp] at hb'
        exact h'.mine p hp hro b hb' hlt
    · intro t
      show Rep w ok _ (get t (kill k s.tm)) _; refine Rep.stable (w := w) (ρ := ρ) (fun _ _ => rfl) (fun _ hb => hb) (fun o ho => upd_other _ _ (fun e => kill_refs k t s.tm (e ▸ ho))) ?_; rw [get_kill]
      split
      · exact .junk _
      · exact hi.slots t
  cases hr with
  | fro h => cases h
  | nw0 => exact build none (.inl ⟨by simp, rfl, rfl⟩) .own0
  | nw g0 g1 g2 g3 g4 g5 g6 g7 =>
    rename_i n c B arr t vs fps; subst g0; refine build (some ⟨B, c, sz⟩) (.inr ⟨⟨B, c, sz⟩, arr, t, vs, fps, by simp, rfl, { sz := rfl, unif := g1, len := g2, cap := g3, blk := g4, room := g5, vals := g6, cells := ?_ }⟩) ?_
    · cases dp
      · have h := g7
        simp only [Bool.false_eq_true, if_false] at h; exact h
      · have h := g7
        simp only [if_true] at h; exact h
    · have := Rep.own (w := w) (ok := ok) (ρ := upd ρ k (some ⟨B, c, sz⟩)) (o := k) (off := 0) (n := xs.length) (c := c) (p := ⟨B, c, sz⟩) (by simp) (by simp) g2
      simpa using this
theorem settle_obj {a : Act} {w : World} {ok : Nat → Prop} {ρ : Env} {F : Nat → List Nat} (hi : Inv' E s a w ok ρ F) (k : Nat) (hkp : E.keep.contains k = false) (hl : Lift.lone k (hdel k s.h) = true) {v : Value} {fr : List Nat} (hn : fr.Nodup)
    (hb : ∀ b ∈ fr, ¬ ok b ∧ b < w.heap.size ∧ b ∉ fpsOf F s.h ∧ (b < E.w0.heap.size → b ∈ E.lent)) (pl : Option Place) (obj : LObj) (y : LV) (ho : ObjRep w ok (upd ρ k pl) k obj fr) (hv : Rep w ok (upd ρ k pl) y v) :
    ∃ ρ' F', Inv' E { tm := kill k s.tm, h := (k, obj) :: hdel k s.h } a w ok ρ' F' ∧ Rep w ok ρ' y v := by
  have h' := hi.sub (hdel_sub k s.h); have hne := not_key (hdel_key k s.h); have hF : ∀ p ∈ hdel k s.h, upd F k fr p.1 = F p.1 := fun p hp => upd_other _ _ (hne p hp)
  have hfps : fpsOf (upd F k fr) ((k, obj) :: hdel k s.h) = fr ++ fpsOf F (hdel k s.h) := by
    have e := fpsOf_congr hF; simp only [fpsOf, List.flatMap_cons, upd_same] at e ⊢; rw [e]
  have hdis : ∀ b ∈ fr, b ∉ fpsOf F (hdel k s.h) := fun b hb' hm => (hb b hb').2.2.1 ((fpsOf_sub (hdel_sub k s.h)).mem hm); refine ⟨upd ρ k pl, upd F k fr, { h' with heap := ⟨?_, ?_, ?_, ?_⟩, mine := ?_, slots := ?_, keep := fun j hj => (upd_other ρ _ (show j ≠ k from fun e => by subst e; simp [hj] at hkp)).trans (hi.keep j hj) }, hv⟩
  · simp only [hkeys, List.map_cons, List.nodup_cons]
    exact ⟨hdel_key k s.h, h'.heap.keys⟩
  · intro p hp
    rcases List.mem_cons.1 hp with rfl | hp
    · simpa using ho
    · rw [hF p hp]
      exact (h'.heap.objs p hp).stable (fun _ _ => rfl) (fun _ hb => hb) (fun _ _ => rfl) (upd_other _ _ (hne p hp)) (fun j hj => upd_other _ _ (fun e => lone_refs hl p hp (e ▸ hj)))
  · show (fpsOf (upd F k fr) _).Nodup
    rw [hfps, List.nodup_append]; exact ⟨hn, h'.heap.nodup, fun b h1 c h2 e => hdis b h1 (e ▸ h2)⟩
  · intro b hb'
    rw [show ({ tm := kill k s.tm, h := (k, obj) :: hdel k s.h } : LState).h = (k, obj) :: hdel k s.h from rfl, hfps] at hb'; rcases List.mem_append.1 hb' with h1 | h1
    · exact ⟨(hb b h1).1, (hb b h1).2.1⟩
    · exact h'.heap.apart b h1
  · intro p hp hro b hb' hlt
    rcases List.mem_cons.1 hp with rfl | hp
    · rw [upd_same] at hb'; exact (hb b hb').2.2.2 hlt
    · rw [hF p hp] at hb'
      exact h'.mine p hp hro b hb' hlt
  · intro t
    show Rep w ok _ (get t (kill k s.tm)) _; refine Rep.stable (w := w) (ρ := ρ) (fun _ _ => rfl) (fun _ hb => hb) (fun o ho => upd_other _ _ (fun e => kill_refs k t s.tm (e ▸ ho))) ?_; rw [get_kill]
    split
    · exact .junk _
    · exact hi.slots t
theorem settle_box {a : Act} {w : World} {ok : Nat → Prop} {ρ : Env} {F : Nat → List Nat} (hi : Inv' E s a w ok ρ F) (k : Nat) (hkp : E.keep.contains k = false) (hl : Lift.lone k (hdel k s.h) = true) {cs : List LV} {v : Value} {fr : List Nat} (hr : Res w ok (.nb cs) v fr) (hn : fr.Nodup)
    (hb : ∀ b ∈ fr, ¬ ok b ∧ b < w.heap.size ∧ b ∉ fpsOf F s.h ∧ (b < E.w0.heap.size → b ∈ E.lent)) :
    ∃ ρ' F', Inv' E { tm := kill k s.tm, h := (k, { kind := .box, sz := cs.length, elems := [.agg cs] }) :: hdel k s.h } a w ok ρ' F' ∧ Rep w ok ρ' (.ptr k 0 0) v := by
  cases hr with
  | fro h => cases h
  | nb g0 g1 g2 g3 =>
    rename_i B arr t vs; refine settle_obj hi k hkp hl hn hb (some ⟨B, 1, cs.length⟩) _ _ (.inr ⟨⟨B, 1, cs.length⟩, arr, t, vs, [], by simp, rfl, { sz := rfl, unif := by simp, len := by simp, cap := (show 1 ≤ maxLen by decide), blk := g0, room := by simpa using g1, vals := g2, cells := ⟨rfl, by simpa using g3.rep⟩ }⟩) ?_; have := Rep.ptr (w := w) (ok := ok) (ρ := upd ρ k (some ⟨B, 1, cs.length⟩)) (o := k) (i := 0) (j := 0) (p := ⟨B, 1, cs.length⟩) (by simp); simpa using this
def afterCall (s : LState) (hl : LHeap) (d : Option Nat) (k : Option Nat) (r : LV) (hl' : LHeap) : LState :=
  match k, r with
  | some k, .nw sz xs dp => ({ tm := kill k s.tm, h := (k, { kind := if dp then .deep else .fro, sz := sz, elems := xs }) :: hdel k (hl' ++ hdels (hkeys (rwOf hl)) s.h) } : LState).put d (.own k 0 xs.length)
  | some k, .nb cs => ({ tm := kill k s.tm, h := (k, { kind := .box, sz := cs.length, elems := [.agg cs] }) :: hdel k (hl' ++ hdels (hkeys (rwOf hl)) s.h) } : LState).put d (.ptr k 0 0)
  | _, _ => ({ tm := s.tm, h := hl' ++ hdels (hkeys (rwOf hl)) s.h } : LState).put d (settle none r)
theorem LWo.call {f : Operand} {ops : List Operand} {ts : Array TypeId} {dst : Option Nat} {g : FuncId} {caps vals xs : List LV} {hl : LHeap} {vw : List Nat} {Post : LV → LHeap → Prop} (k : Option Nat) (hf : s.eval f = .clo g caps) (hv : ops.map s.eval ++ caps = vals)
    (hfn : Does P g xs hl Post) (hA : ArgsOK s hl vals xs vw) (hL : LentOK s hl) (hd : ∀ t, dst = some t → Nat.blt t E.n = true) (hk : ∀ j, k = some j → E.keep.contains j = false)
    (hn : ∀ r hl', Post r hl' → (vw = [] ∨ (hl' = [] ∧ r.noFro = true)) ∧ (∀ j, k = some j → Lift.lone j (hdel j (hl' ++ hdels (hkeys (rwOf hl)) s.h)) = true) ∧ LWo P E all rest Q (afterCall s hl dst k r hl')) :
    LWo P E all ({ dst := dst, op := .call { callee := .value f, args := ops.toArray, argTypes := ts }, type := ty, pos := pos, after := af, guard := none } :: rest) Q s := by
  intro a w ⟨ok, ρ, F, hi⟩; refine wpList_plain rfl fun K hK => ?_; have hF := hi.eval f; rw [hf] at hF; obtain ⟨cv, hfv, hcr⟩ := hF.clo_inv
  have hT : RepT w ok ρ vals (ops.map a.eval ++ cv) := by
    rw [← hv]
    have app : ∀ {xs ys : List LV} {vs us : List Value}, RepT w ok ρ xs vs → RepL w ok ρ ys us → RepT w ok ρ (xs ++ ys) (vs ++ us) := by
      intro xs
      induction xs with
      | nil =>
        intro ys vs us h k; cases h; exact k.toT
      | cons x xs ih => intro ys vs us h k; cases h with | cons h1 h2 => exact .cons h1 (ih h2 k)
    exact app (evalL ops hi) hcr
  have hrun : (execOp a.eval { dst := dst, op := .call { callee := .value f, args := ops.toArray, argTypes := ts }, type := ty, pos := pos, after := af, guard := none }).run P w = .ok (.enter g (ops.map a.eval ++ cv).toArray) w := by
    have he := hfn.1 (ops.map a.eval ++ cv).toArray w; simp only [execOp, resolve, hfv, Deferred.ofValue]; simp [invoke]; simpa using he
  unfold Oper.wp; rw [hrun]; show Calls P g _ w _; have hviews := hA.views
  have hkeyL : ∀ k ∈ hkeys hl, k ∈ hkeys s.h := fun k hk => by
    obtain ⟨o, ho⟩ : ∃ o, (k, o) ∈ hl := by simpa [hkeys] using hk
    obtain ⟨z, hz, _⟩ := hL.here _ ho; have := hget_mem hz; simp [hkeys]; exact ⟨z, this⟩
  have hHeap : HeapOK w (fun b => ok b ∨ ∃ o ∈ vw, b ∈ F o) ρ F hl := by
    refine ⟨hL.keys, ?_, ?_, ?_⟩
    · intro p hp
      obtain ⟨o, ho, ho'⟩ := hL.here p hp; have hob := hi.heap.objs _ (hget_mem ho)
      have hob' : ObjRep w ok ρ p.1 p.2 (F p.1) := by
        rcases ho' with e | e
        · rw [e]; exact hob
        · rw [e]; exact hob.ro true
      exact hob'.stable (fun _ _ => rfl) (fun _ hb => .inl hb) (fun _ _ => rfl) rfl (fun _ _ => rfl)
    · rw [fpsOf_keys]
      exact nodup_keys hi.heap.keys hi.heap.nodup hL.keys hkeyL
    · intro b hb
      rw [fpsOf_keys] at hb; obtain ⟨j, hj, hb⟩ := List.mem_flatMap.1 hb; obtain ⟨o, ho⟩ : ∃ o, (j, o) ∈ s.h := by simpa [hkeys] using hkeyL j hj
      have := hi.heap.apart b (mem_fpsOf.2 ⟨_, ho, hb⟩); refine ⟨?_, this.2⟩; rintro (h1 | ⟨o', ho', h1⟩)
      · exact this.1 h1
      · obtain ⟨hn1, obj', hm'⟩ := hviews o' ho'
        exact nodup_apart hi.heap.keys hi.heap.nodup ho hm' (fun e => hn1 (by have e' : j = o' := e; rw [← e']; exact hj)) b hb h1
  have hokc : ∀ b, (ok b ∨ ∃ o ∈ vw, b ∈ F o) → b < w.heap.size := by
    rintro b (h | ⟨o, ho, h⟩)
    · exact (hi.okk b h).1
    · obtain ⟨_, obj', hm'⟩ := hviews o ho
      exact (hi.heap.apart b (mem_fpsOf.2 ⟨_, hm', h⟩)).2
  refine (hfn.2 w _ (fun b => ok b ∨ ∃ o ∈ vw, b ∈ F o) ρ F (hA.rep hi (fun _ hb => .inl hb) (fun o ho b hb => .inr ⟨o, ho, hb⟩) hT) hHeap hokc).mono ?_; rintro e w' ⟨v, r, hl', ok', F', fr, rfl, hpost, hext, hres, hk1, ho1, hn1, hb1, hok1⟩; obtain ⟨hvw, hlone, hrest⟩ := hn r hl' hpost; obtain ⟨okn, Does', hI, hR, hnd, hbf⟩ := call_base hi hL hviews hvw hext hres hk1 ho1 hn1 hb1 hok1; refine hK _ _ (hrest _ _ ?_)
  have frozen : Inv E (({ tm := s.tm, h := hl' ++ hdels (hkeys (rwOf hl)) s.h } : LState).put dst (settle none r)) (a.put dst v) w' := by
    obtain ⟨h1, h2⟩ := settle_frozen hI hR hbf; cases dst with
    | none => exact ⟨_, _, _, h1⟩
    | some t => exact ⟨_, _, _, h1.put (hd t rfl) h2⟩
  unfold afterCall
  split
  · rename_i j sz ys dp
    obtain ⟨ρ', F'', h1, h2⟩ := settle_own hI j (hk j rfl) (hlone j rfl) hR hnd hbf; cases dst with
    | none => exact ⟨_, _, _, h1⟩
    | some t => exact ⟨_, _, _, h1.put (hd t rfl) h2⟩
  · rename_i j cs
    obtain ⟨ρ', F'', h1, h2⟩ := settle_box hI j (hk j rfl) (hlone j rfl) hR hnd hbf; cases dst with
    | none => exact ⟨_, _, _, h1⟩
    | some t => exact ⟨_, _, _, h1.put (hd t rfl) h2⟩
  · exact frozen
end
end Go.Lift
/- The lifted logic, part 14: a contract out of a body. Own work. -/
namespace Go.Lift
open Go.RowKit
def immL (cs : List LV) : Bool := LV.noFro.immL cs
theorem immL_deep {w : World} {ok : Nat → Prop} : ∀ {xs : List LV} {vs : List Value}, immL xs = true → FroL w ok xs vs → DeepL w xs vs []
  | _, _, _, .nil => .nil
  | x :: _, _, h, .cons h0 h1 h2 => by
    cases x <;> simp [immL, LV.noFro.immL] at h; cases h0; exact DeepL.cons (f := []) (.imm _) h1 (immL_deep h h2)
inductive Sink (h : LHeap) : LV → LV → List Nat → Prop
  | imm (v : Value) : Sink h (.imm v) (.imm v) []
  | nil {sz : Nat} : Sink h (.imm (.slice none 0 0)) (.sl sz []) []
  | own {k n : Nat} {obj : LObj} : hget k h = some obj → obj.ro = false → (obj.kind = .fro ∧ immL (obj.elems.flatMap LV.cells) = true ∨ obj.kind = .deep) → n = obj.elems.length → Sink h (.own k 0 n) (.sl obj.sz obj.elems) [k]
inductive SinkL (h : LHeap) : List LV → List LV → List Nat → Prop
  | nil : SinkL h [] [] []
  | cons {x y : LV} {xs ys : List LV} {ks ks' : List Nat} : Sink h x y ks → SinkL h xs ys ks' → SinkL h (x :: xs) (y :: ys) (ks ++ ks')
theorem SinkL.length {h : LHeap} : ∀ {xs ys : List LV} {ks : List Nat}, SinkL h xs ys ks → xs.length = ys.length
  | _, _, _, .nil => rfl
  | _, _, _, .cons _ h => by simp [h.length]
theorem Sink.inh {h : LHeap} {x y : LV} {ks : List Nat} (hs : Sink h x y ks) : ∀ k ∈ ks, ∃ obj, hget k h = some obj ∧ obj.ro = false := by
  cases hs with
  | imm => simp
  | nil => simp
  | own ho hro _ _ => intro k hk; simp at hk; subst hk; exact ⟨_, ho, hro⟩
theorem SinkL.inh {h : LHeap} : ∀ {xs ys : List LV} {ks : List Nat}, SinkL h xs ys ks → ∀ k ∈ ks, ∃ obj, hget k h = some obj ∧ obj.ro = false
  | _, _, _, .nil, k, hk => by simp at hk
  | _, _, _, .cons h h', k, hk => by
    rcases List.mem_append.1 hk with hk | hk
    · exact h.inh k hk
    · exact h'.inh k hk
inductive SinkM1 (h : LHeap) : LV → LV → List Nat → Prop
  | imm (v : Value) : SinkM1 h (.imm v) (.imm v) []
  | nilnw {sz : Nat} : SinkM1 h (.imm (.slice none 0 0)) (.nw sz [] false) []
  | fz {x : LV} : x.pure = true → SinkM1 h x (.tup [x]) []
  | own {k n : Nat} {obj : LObj} : hget k h = some obj → obj.ro = false → obj.kind = .fro → n = obj.elems.length → SinkM1 h (.own k 0 n) (.nw obj.sz obj.elems false) [k]
inductive SinkM (h : LHeap) : List LV → List LV → List Nat → Prop
  | nil : SinkM h [] [] []
  | cons {x y : LV} {xs ys : List LV} {ks ks' : List Nat} : SinkM1 h x y ks → SinkM h xs ys ks' → SinkM h (x :: xs) (y :: ys) (ks ++ ks')
theorem SinkM.length {h : LHeap} : ∀ {xs ys : List LV} {ks : List Nat}, SinkM h xs ys ks → xs.length = ys.length
  | _, _, _, .nil => rfl
  | _, _, _, .cons _ h => by simp [h.length]
theorem SinkM1.inh {h : LHeap} {x y : LV} {ks : List Nat} (hs : SinkM1 h x y ks) : ∀ k ∈ ks, ∃ obj, hget k h = some obj ∧ obj.ro = false := by
  cases hs with
  | own ho hro _ _ => intro k hk; simp at hk; subst hk; exact ⟨_, ho, hro⟩
  | _ => simp
theorem SinkM.inh {h : LHeap} : ∀ {xs ys : List LV} {ks : List Nat}, SinkM h xs ys ks → ∀ k ∈ ks, ∃ obj, hget k h = some obj ∧ obj.ro = false
  | _, _, _, .nil, k, hk => by simp at hk
  | _, _, _, .cons h h', k, hk => by
    rcases List.mem_append.1 hk with hk | hk
    · exact h.inh k hk
    · exact h'.inh k hk
inductive ResOf (h : LHeap) : LV → LV → List Nat → List Nat → Prop
  | pure {x : LV} : x.pure = true → ResOf h x x [] []
  | nilnw {sz : Nat} {dp : Bool} : ResOf h (.imm (.slice none 0 0)) (.nw sz [] dp) [] []
  | nilsl {sz : Nat} : ResOf h (.imm (.slice none 0 0)) (.sl sz []) [] []
  | own {k n : Nat} {obj : LObj} {dp : Bool} : hget k h = some obj → obj.ro = false → (obj.kind = .fro ∧ (dp = false ∨ immL (obj.elems.flatMap LV.cells) = true)) ∨ (obj.kind = .deep ∧ dp = true) → n ≤ obj.elems.length → ResOf h (.own k 0 n) (.nw obj.sz (obj.elems.take n) dp) [k] []
  | ownF {k off n : Nat} {obj : LObj} : hget k h = some obj → obj.ro = false → (obj.kind = .fro ∨ obj.kind = .deep) → off + n ≤ obj.elems.length → ResOf h (.own k off n) (.sl obj.sz ((obj.elems.drop off).take n)) [] [k]
  | box {k : Nat} {obj : LObj} {y : LV} : hget k h = some obj → obj.ro = false → obj.kind = .box → obj.elems = [y] → LV.pure.pureL y.cells = true → ResOf h (.ptr k 0 0) (.nb y.cells) [k] []
  | dv {cs zs : List LV} {ks : List Nat} : SinkL h cs zs ks → ResOf h (.agg cs) (.dv zs) ks []
  | mx {k n : Nat} {obj : LObj} : hget k h = some obj → obj.ro = false → obj.kind = .mix [] → n = obj.elems.length → ResOf h (.own k 0 n) (.mx obj.sz obj.elems) [k] []
  | ms {cs zs : List LV} {ks : List Nat} : SinkM h cs zs ks → LV.refs.refsL zs = [] → ResOf h (.agg cs) (.ms zs) ks []
inductive ResOfL (h : LHeap) : List LV → List LV → List Nat → List Nat → Prop
  | nil : ResOfL h [] [] [] []
  | cons {x r : LV} {xs rs : List LV} {ks fz ks' fz' : List Nat} : ResOf h x r ks fz → ResOfL h xs rs ks' fz' → ResOfL h (x :: xs) (r :: rs) (ks ++ ks') (fz ++ fz')
section
variable {P : Program} {E : Ent} {Q : Exit → LState → Prop} {s s' : LState}
theorem Sink.deep {a : Act} {w : World} {ok : Nat → Prop} {ρ : Env} {F : Nat → List Nat} (hi : Inv' E s a w ok ρ F) {x y : LV} {ks : List Nat} (h : Sink s.h x y ks) {v : Value} (hv : Rep w ok ρ x v) : ∃ fr, Deep w y v fr ∧ fr.Sublist (ks.flatMap F) := by
  cases h with
  | imm u => rw [hv.imm_inv]; exact ⟨[], .imm _, by simp⟩
  | nil => rw [hv.imm_inv]; exact ⟨[], .sl0, by simp⟩
  | own ho hro hk hle =>
    rename_i k n obj; subst hle; rcases hv.own_inv with ⟨p, c, hp, h2, h3, rfl⟩ | ⟨h0, A, rfl⟩
    · rcases hi.heap.objs _ (hget_mem ho) with ⟨h4, _⟩ | ⟨p', arr, t', vs, fps, h4, hF, hobj⟩
      · rw [hp] at h4; cases h4
      · rw [hp] at h4; cases h4
        have hF' : F k = p.blk :: fps := hF; have hsz : p.sz = obj.sz := hobj.sz; have hcap : p.cap ≤ maxLen := hobj.cap; have hroom : p.cap * p.sz ≤ arr.size := hobj.room; have hcells := hobj.cells
        have hfin : DeepL w (obj.elems.flatMap LV.cells) vs fps := by
          rcases hk with ⟨e, himm⟩ | e
          · rw [show (k, obj).2.kind = obj.kind from rfl, e] at hcells
            have hf0 : fps = [] := hcells.1; rw [hf0]; exact immL_deep himm hcells.2
          · rw [show (k, obj).2.kind = obj.kind from rfl, e] at hcells
            exact hcells
        refine ⟨p.blk :: fps, ?_, by simp [hF']⟩; have := Deep.sl (w := w) (sz := obj.sz) (c := c) (B := p.blk) hobj.unif hfin hobj.blk (by rw [← hsz]; exact Nat.le_trans (Nat.mul_le_mul_right _ (by omega)) hroom) hobj.vals h3 (by omega); simpa using this
    · have : obj.elems = [] := List.eq_nil_of_length_eq_zero h0
      rw [this]; exact ⟨[], .sl0, by simp⟩
theorem SinkL.deep {a : Act} {w : World} {ok : Nat → Prop} {ρ : Env} {F : Nat → List Nat} (hi : Inv' E s a w ok ρ F) : ∀ {xs ys : List LV} {ks : List Nat}, SinkL s.h xs ys ks → ∀ {vs : List Value}, RepL w ok ρ xs vs → ∃ fr, DeepL w ys vs fr ∧ fr.Sublist (ks.flatMap F)
  | _, _, _, .nil, _, .nil => ⟨[], .nil, by simp⟩
  | _, _, _, .cons h h', _, .cons hv h1 hv' => by
    obtain ⟨f1, g1, g2⟩ := h.deep hi hv; obtain ⟨f2, g3, g4⟩ := SinkL.deep hi h' hv'; exact ⟨f1 ++ f2, .cons g1 h1 g3, by rw [List.flatMap_append]; exact g2.append g4⟩
theorem SinkM1.mix {a : Act} {w : World} {ok : Nat → Prop} {ρ : Env} {F : Nat → List Nat} (hi : Inv' E s a w ok ρ F) {x y : LV} {ks : List Nat} (hs : SinkM1 s.h x y ks) {v : Value} (hr : Rep w ok ρ x v) : ∃ g, MCell w ok ρ y v g ∧ g.Sublist (ks.flatMap F) := by
  cases hs with
  | imm u => rw [hr.imm_inv]; exact ⟨[], .imm _, by simp⟩
  | nilnw => rw [hr.imm_inv]; exact ⟨[], .nw0, by simp⟩
  | fz hp => exact ⟨[], .fz (Rep.pure hp hr), by simp⟩
  | @own k n obj ho hro hk hn =>
    rcases hr.own_inv with ⟨p, c, hp, h2, h3, rfl⟩ | ⟨h0, A, rfl⟩
    · rcases hi.heap.objs _ (hget_mem ho) with ⟨h4, _⟩ | ⟨p', arr, t, vs, fps, h4, hF, hobj⟩
      · rw [hp] at h4; cases h4
      · rw [hp] at h4; cases h4
        have hF' : F k = p.blk :: fps := hF; have hsz : p.sz = obj.sz := hobj.sz; have hcells := hobj.cells; rw [show (k, obj).2.kind = obj.kind from rfl, hk] at hcells; have hroom : p.cap * p.sz ≤ arr.size := hobj.room; have hcap : p.cap ≤ maxLen := hobj.cap; refine ⟨[p.blk], ?_, by rw [List.flatMap_cons, hF']; simp⟩; have := MCell.nw (w := w) (ok := ok) (ρ := ρ) (sz := obj.sz) (c := c) (B := p.blk) (ys := obj.elems) hobj.unif hcells.2 hobj.blk (by rw [← hsz]; exact Nat.le_trans (Nat.mul_le_mul_right _ (by omega)) hroom) hobj.vals (by omega) (by omega); rw [← hn] at this; simpa using this
    · rw [h0] at hn
      have : obj.elems = [] := List.eq_nil_of_length_eq_zero hn.symm; rw [this]; exact ⟨[], .nw0, by simp⟩
theorem SinkM.mix {a : Act} {w : World} {ok : Nat → Prop} {ρ : Env} {F : Nat → List Nat} (hi : Inv' E s a w ok ρ F) : ∀ {xs ys : List LV} {ks : List Nat}, SinkM s.h xs ys ks → ∀ {vs : List Value}, RepL w ok ρ xs vs → ∃ g, MCells w ok ρ ys vs g ∧ g.Sublist (ks.flatMap F)
  | _, _, _, .nil, _, .nil => ⟨[], .nil, by simp⟩
  | _, _, _, .cons h h', _, .cons hr h1 hr' => by
    obtain ⟨g1, e1, e2⟩ := h.mix hi hr; obtain ⟨g2, e3, e4⟩ := SinkM.mix hi h' hr'; exact ⟨g1 ++ g2, .cons e1 h1 e3, by rw [List.flatMap_append]; exact e2.append e4⟩
def okF (ok : Nat → Prop) (F : Nat → List Nat) (fz : List Nat) : Nat → Prop := fun b => ok b ∨ ∃ k ∈ fz, b ∈ F k
theorem ResOf.res {a : Act} {w : World} {ok : Nat → Prop} {ρ : Env} {F : Nat → List Nat} (hi : Inv' E s a w ok ρ F) {x r : LV} {ks fz all : List Nat} (h : ResOf s.h x r ks fz) (hall : ∀ k ∈ fz, k ∈ all) {v : Value} (hv : Rep w ok ρ x v) :
    ∃ fr, Res w (okF ok F all) r v fr ∧ fr.Sublist (ks.flatMap F) ∧ ∀ ys, r ≠ .tup ys := by
  have hok : ∀ b, ok b → okF ok F all b := fun b hb => .inl hb; cases h with
  | pure hp =>
    have := (hv.pure hp).stable (w' := w) (fun _ _ => rfl) hok; exact ⟨[], .fro this, by simp, by rintro ys rfl; simp [LV.pure] at hp⟩
  | nilnw => rw [hv.imm_inv]; exact ⟨[], .nw0, by simp, by intro ys e; cases e⟩
  | nilsl => rw [hv.imm_inv]; exact ⟨[], .fro (.sl0 (by decide)), by simp, by intro ys e; cases e⟩
  | mx ho hro hk hn =>
    rename_i k n obj; rcases hv.own_inv with ⟨p, c, hp, h2, h3, rfl⟩ | ⟨h0, A, rfl⟩
    · rcases hi.heap.objs _ (hget_mem ho) with ⟨h4, _⟩ | ⟨p', arr, t, vs, fps, h4, hF, hobj⟩
      · rw [hp] at h4; cases h4
      · rw [hp] at h4; cases h4
        have hF' : F k = p.blk :: fps := hF; have hsz : p.sz = obj.sz := hobj.sz; have hcells := hobj.cells; rw [show (k, obj).2.kind = obj.kind from rfl, hk] at hcells; have hcells' : MCells w ok ρ (obj.elems.flatMap LV.cells) vs fps := hcells.1; have hrf : ∀ o, o ∉ LV.refs.refsL (obj.elems.flatMap LV.cells) := fun o ho => by have := hcells.2 o ho; simp at this
        have hroom : p.cap * p.sz ≤ arr.size := hobj.room; have hcap : p.cap ≤ maxLen := hobj.cap; refine ⟨p.blk :: fps, ?_, by simp [hF'], by intro ys e; cases e⟩; have := Res.mx (w := w) (ok := okF ok F all) (sz := obj.sz) (n := n) (c := c) (B := p.blk) (xs := obj.elems) (arr := arr) (t := t) (vs := vs) (fps := fps) hn hobj.unif h3 (by omega) hobj.blk (by rw [← hsz]; exact Nat.le_trans (Nat.mul_le_mul_right _ (by omega)) hroom) hobj.vals (fun ρ' => hcells'.stable (fun _ _ => rfl) hok (fun _ _ => rfl) (fun o ho => absurd ho (hrf o))) (List.eq_nil_iff_forall_not_mem.2 hrf); simpa using this
    · rw [h0] at hn
      have : obj.elems = [] := List.eq_nil_of_length_eq_zero hn.symm; rw [this]; exact ⟨[], .mx0, by simp, by intro ys e; cases e⟩
  | ownF ho hro hk hle =>
    rename_i k off n obj; have hfr := Rep.view hi ho hk hle (ok' := okF ok F all) hok (fun b hb => .inr ⟨k, hall k (by simp), hb⟩) hv; exact ⟨[], .fro hfr, by simp, by intro ys e; cases e⟩
  | box ho hro hk he hp =>
    rename_i k obj y; obtain ⟨p, hp', rfl⟩ := hv.ptr_inv; rcases hi.heap.objs _ (hget_mem ho) with ⟨h4, _⟩ | ⟨p', arr, t', vs, fps, h4, hF, hobj⟩
    · rw [hp'] at h4; cases h4
    · rw [hp'] at h4; cases h4
      have hcells := hobj.cells; rw [show (k, obj).2.kind = obj.kind from rfl, hk] at hcells; have hf0 : fps = [] := hcells.1; have e : (k, obj).2.elems.flatMap LV.cells = y.cells := by simp [he]
      have hrep : RepL w ok ρ y.cells vs := e ▸ hcells.2; have hyl : y.cells.length = obj.sz := hobj.unif y (by simp [he]); have hsz : p.sz = obj.sz := hobj.sz; have hlen : obj.elems.length ≤ p.cap := hobj.len; have hroom : p.cap * p.sz ≤ arr.size := hobj.room; have h1 : 1 * p.sz ≤ p.cap * p.sz := Nat.mul_le_mul_right _ (by rw [he] at hlen; simpa using hlen); have hF' : F k = p.blk :: fps := hF; refine ⟨[p.blk], ?_, by simp [hF'], by intro ys e; cases e⟩; have := Res.nb (w := w) (ok := okF ok F all) (cs := y.cells) hobj.blk (by omega) hobj.vals ((RepL.pure hp hrep).stable (w' := w) (fun _ _ => rfl) hok); simpa using this
  | dv hs =>
    obtain ⟨vs, rfl, hvs⟩ := hv.agg_inv; obtain ⟨g, h1, h2⟩ := hs.deep hi hvs; exact ⟨g, .dv h1, h2, by intro ys e; cases e⟩
  | ms hs hrf =>
    obtain ⟨vs, rfl, hvs⟩ := hv.agg_inv; obtain ⟨g, h1, h2⟩ := hs.mix hi hvs; exact ⟨g, .ms (fun ρ' => h1.stable (fun _ _ => rfl) hok (fun _ _ => rfl) (fun o ho => by rw [hrf] at ho; cases ho)) hrf, h2, by intro ys e; cases e⟩
  | own ho hro hk hle =>
    rename_i k n obj dp; have hmem := hget_mem ho; rcases hv.own_inv with ⟨p, c, hp, h2, h3, rfl⟩ | ⟨rfl, A, rfl⟩
    · rcases hi.heap.objs _ hmem with ⟨h4, _⟩ | ⟨p', arr, t', vs, fps, h4, hF, hobj⟩
      · rw [hp] at h4; cases h4
      · rw [hp] at h4; cases h4
        have hF' : F k = p.blk :: fps := hF; have hsz : p.sz = obj.sz := hobj.sz; have hunif : ∀ x ∈ obj.elems, x.cells.length = obj.sz := hobj.unif; have hcap : p.cap ≤ maxLen := hobj.cap; have hroom : p.cap * p.sz ≤ arr.size := hobj.room; have hcells := hobj.cells
        have hvals : ∀ (k : Nat) (v : Value), (vs.take (n * obj.sz))[k]? = some v → arr[k]? = some v := fun k v hk => by
          rw [List.getElem?_take] at hk
          split at hk
          · exact hobj.vals k v hk
          · cases hk
        have hlen : (obj.elems.take n).length = n := by simp; omega
        have hfin : ∃ g : List Nat, (if dp then DeepL w ((obj.elems.take n).flatMap LV.cells) (vs.take (n * obj.sz)) g else g = [] ∧ FroL w (okF ok F all) ((obj.elems.take n).flatMap LV.cells) (vs.take (n * obj.sz))) ∧ g.Sublist fps := by
          rw [flat_take _ obj.sz _ hunif]; rcases hk with ⟨e, hdp⟩ | ⟨e, rfl⟩
          · rw [show (k, obj).2.kind = obj.kind from rfl, e] at hcells
            have hf := hcells.2.take (n * obj.sz); cases dp
            · exact ⟨[], by simpa using hf.stable (w' := w) (fun _ _ => rfl) hok, by simp⟩
            · refine ⟨[], ?_, by simp⟩
              simp only [if_true]; refine immL_deep ?_ hf; have himm : immL (obj.elems.flatMap LV.cells) = true := by simpa using hdp
              have tk : ∀ (xs : List LV) (m : Nat), immL xs = true → immL (xs.take m) = true := by
                intro xs
                induction xs with
                | nil => intro m _; simp [immL, LV.noFro.immL]
                | cons x xs ih =>
                  intro m hx; cases m with
                  | zero => simp [immL, LV.noFro.immL]
                  | succ m =>
                    cases x <;> simp [immL, LV.noFro.immL] at hx ⊢; exact ih m hx
              exact tk _ _ himm
          · rw [show (k, obj).2.kind = obj.kind from rfl, e] at hcells
            obtain ⟨g, h5, h6⟩ := DeepL.take (n * obj.sz) hcells; exact ⟨g, by simpa using h5, h6⟩
        obtain ⟨g, hg1, hg2⟩ := hfin; refine ⟨p.blk :: g, ?_, ?_, by intro ys e; cases e⟩
        · have := Res.nw (w := w) (ok := okF ok F all) (sz := obj.sz) (n := n) (c := c) (B := p.blk) (dp := dp) (xs := obj.elems.take n) (arr := arr) (t := t') (vs := vs.take (n * obj.sz)) (fps := g) hlen.symm (fun x hx => hunif x (List.mem_of_mem_take hx)) h3 (by omega) hobj.blk
            (by rw [← hsz]; exact Nat.le_trans (Nat.mul_le_mul_right _ (by omega)) hroom) hvals hg1
          simpa using this
        · simp only [List.flatMap_cons, List.flatMap_nil, List.append_nil, hF']
          exact hg2.cons_cons _
    · refine ⟨[], ?_, by simp, by intro ys e; cases e⟩
      rw [List.take_zero]; exact .nw0
theorem ResOfL.res {a : Act} {w : World} {ok : Nat → Prop} {ρ : Env} {F : Nat → List Nat} (hi : Inv' E s a w ok ρ F) {all : List Nat} : ∀ {xs rs : List LV} {ks fz : List Nat}, ResOfL s.h xs rs ks fz → (∀ k ∈ fz, k ∈ all) → ∀ {vs : List Value}, RepT w ok ρ xs vs →
    ∃ fr, ResL w (okF ok F all) rs vs fr ∧ fr.Sublist (ks.flatMap F)
  | _, _, _, _, .nil, _, _, .nil => ⟨[], .nil, by simp⟩
  | _, _, _, _, .cons h h', hall, _, .cons hv hv' => by
    obtain ⟨f1, h1, h2, h3⟩ := h.res hi (fun k hk => hall k (by simp [hk])) hv; obtain ⟨f2, h4, h5⟩ := ResOfL.res hi h' (fun k hk => hall k (by simp [hk])) hv'; exact ⟨f1 ++ f2, .cons h3 h1 h4, by rw [List.flatMap_append]; exact h2.append h5⟩
structure RetOK (E : Ent) (s : LState) (xs : List LV) (r : LV) (hl' : LHeap) : Prop where
  res : ∃ ks fz, ((∃ x, xs = [x] ∧ ResOf s.h x r ks fz) ∨ (xs.length ≠ 1 ∧ ∃ rs, r = .tup rs ∧ ResOfL s.h xs rs ks fz)) ∧ (ks ++ fz).Nodup ∧ ∀ p ∈ hl', p.1 ∉ ks ++ fz
  keys : (hkeys hl').Nodup
  here : ∀ p ∈ hl', hget p.1 s.h = some p.2 ∧ p.2.ro = false ∧ p.1 ∈ E.keep ∧ ∀ k ∈ p.2.refs, k ∈ E.keep
def QRet (E : Ent) (ts : List Nat) (Post : LV → LHeap → Prop) : Exit → LState → Prop := fun e s => (e = .normal ∨ e = .ret) ∧ ∃ r hl', RetOK E s (ts.map (get · s.tm)) r hl' ∧ Post r hl'
theorem ResOf.inh {h : LHeap} {x r : LV} {ks fz : List Nat} (hr : ResOf h x r ks fz) : ∀ k ∈ ks ++ fz, ∃ obj, hget k h = some obj ∧ obj.ro = false := by
  cases hr with
  | pure _ => simp
  | nilnw => simp
  | nilsl => simp
  | own ho hro _ _ => intro k hk; simp at hk; subst hk; exact ⟨_, ho, hro⟩
  | ownF ho hro _ _ => intro k hk; simp at hk; subst hk; exact ⟨_, ho, hro⟩
  | box ho hro _ _ _ => intro k hk; simp at hk; subst hk; exact ⟨_, ho, hro⟩
  | dv hs => intro k hk; rw [List.append_nil] at hk; exact hs.inh k hk
  | ms hs _ => intro k hk; rw [List.append_nil] at hk; exact hs.inh k hk
  | mx ho hro _ _ => intro k hk; simp at hk; subst hk; exact ⟨_, ho, hro⟩
theorem ResOfL.inh {h : LHeap} : ∀ {xs rs : List LV} {ks fz : List Nat}, ResOfL h xs rs ks fz → ∀ k ∈ ks ++ fz, ∃ obj, hget k h = some obj ∧ obj.ro = false
  | _, _, _, _, .nil, k, hk => by simp at hk
  | _, _, _, _, .cons h h', k, hk => by
    have h1 := h.inh k; have h2 := h'.inh k; simp only [List.mem_append] at hk h1 h2; rcases hk with (hk | hk) | (hk | hk)
    · exact h1 (.inl hk)
    · exact h2 (.inl hk)
    · exact h1 (.inr hk)
    · exact h2 (.inr hk)
def argTm (k : Nat) : List LV → Tm
  | [] => []
  | x :: xs => (k, x) :: argTm (k + 1) xs
theorem get_args {w : World} {ok : Nat → Prop} {ρ : Env} : ∀ {xs : List LV} {vs : List Value} (k t : Nat), RepT w ok ρ xs vs → (k ≤ t → Rep w ok ρ (get t (argTm k xs)) ((vs[t - k]?).getD undef)) ∧ (t < k → get t (argTm k xs) = .junk)
  | _, _, k, t, .nil => ⟨fun _ => by simp [argTm, get]; exact .junk _, fun _ => by simp [argTm, get]⟩
  | _, _, k, t, .cons h h' => by
    have ih := get_args (k + 1) t h'; constructor
    · intro hk
      simp only [argTm, get]
      split
      · rename_i e; subst e; simpa using h
      · have := ih.1 (by omega)
        rw [show t - k = (t - (k + 1)) + 1 from by omega]; simpa using this
    · intro hk
      simp only [argTm, get]; rw [if_neg (by omega)]; exact ih.2 (by omega)
end
end Go.Lift
/- The lifted logic, part 15: a region whose order is open. Own work. -/
namespace Go.Lift
open Go.RowKit
inductive Ef where
  | put (d : Nat) (y : LV)
  | upd (d : Option Nat) (y : LV) (k : Nat) (obj : LObj)
  | make (d : Nat) (y : LV) (k : Nat) (obj : LObj)
  | gen (d : Option Nat) (y : LV) (add : LHeap) (del kil : List Nat)
def killN : List Nat → Tm → Tm
  | [], t => t
  | k :: ks, t => kill k (killN ks t)
def hdelN : List Nat → LHeap → LHeap
  | [], h => h
  | k :: ks, h => hdel k (hdelN ks h)
def ndB : List Nat → Bool
  | [] => true
  | k :: r => !(r.contains k) && ndB r
theorem ndB_nodup : ∀ {l : List Nat}, ndB l = true → l.Nodup
  | [], _ => .nil
  | k :: r, h => by
    rw [ndB, Bool.and_eq_true] at h; exact List.nodup_cons.2 ⟨by simpa using h.1, ndB_nodup h.2⟩
def Ef.run : Ef → LState → LState
  | .put d y, s => s.put (some d) y
  | .upd d y k obj, s => ({ s with h := (k, obj) :: hdel k s.h } : LState).put d y
  | .make d y k obj, s => { tm := (d, y) :: kill k s.tm, h := (k, obj) :: hdel k s.h }
  | .gen d y add del kil, s => ({ tm := killN kil s.tm, h := add ++ hdelN (hkeys add ++ del) s.h } : LState).put d y
def Ef.dst : Ef → Option Nat
  | .put d _ => some d
  | .upd d _ _ _ => d
  | .make d _ _ _ => some d
  | .gen d _ _ _ _ => d
def Ef.key : Ef → List Nat
  | .put _ _ => []
  | .upd _ _ k _ => [k]
  | .make _ _ k _ => [k]
  | .gen _ _ add del _ => hkeys add ++ del
def Ef.kills : Ef → List Nat
  | .make _ _ k _ => [k]
  | .gen _ _ _ _ kil => kil
  | _ => []
structure SF where
  t : Nat
  v : LV
  est : Option Nat
  rf : List Nat
structure HF where
  k : Nat
  obj : LObj
  est : Option Nat
def Ef.keepS (e : Ef) (t : Nat) (rf : List Nat) : Bool := e.dst != some t && e.kills.all fun k => !rf.contains k
def Ef.keepH (e : Ef) (k : Nat) : Bool := !e.key.contains k
theorem get_killN {t : Nat} {v : LV} : ∀ {ks : List Nat} {tm : Tm}, (∀ k ∈ ks, v.at? k = false) → get t tm = v → get t (killN ks tm) = v
  | [], _, _, h => h
  | k :: ks, tm, hk, h => by
    have := get_killN (ks := ks) (fun j hj => hk j (by simp [hj])) h; rw [killN, get_kill, this, hk k (by simp)]; rfl
theorem Ef.keepS_ok {e : Ef} {t : Nat} {v : LV} {rf : List Nat} (hrf : ∀ k, k ∉ rf → v.at? k = false) (h : e.keepS t rf = true) {s : LState} (hs : get t s.tm = v) : get t (e.run s).tm = v := by
  cases e with
  | put d y =>
    simp [Ef.keepS, Ef.dst, Ef.kills] at h; show (if d = t then y else get t s.tm) = v; rw [if_neg h]; exact hs
  | upd d y k obj =>
    simp [Ef.keepS, Ef.dst, Ef.kills] at h; cases d with
    | none => exact hs
    | some d =>
      show (if d = t then y else get t s.tm) = v; rw [if_neg (by simpa using h)]; exact hs
  | make d y k obj =>
    simp [Ef.keepS, Ef.dst, Ef.kills] at h; show (if d = t then y else get t (kill k s.tm)) = v; rw [if_neg h.1, get_kill, hs, hrf k h.2]; rfl
  | gen d y add del kil =>
    simp [Ef.keepS, Ef.dst, Ef.kills] at h; have hk : get t (killN kil s.tm) = v := get_killN (fun k hk => hrf k (h.2 k hk)) hs; cases d with
    | none => exact hk
    | some d =>
      show (if d = t then y else get t (killN kil s.tm)) = v; rw [if_neg (by simpa using h.1)]; exact hk
theorem hget_del {k j : Nat} (h : k ≠ j) : ∀ hp : LHeap, hget k (hdel j hp) = hget k hp
  | [] => rfl
  | (i, o) :: r => by
    simp only [hdel, hget]
    split
    · rename_i e; subst e
      rw [if_neg (fun e => h e.symm)]; exact hget_del h r
    · simp only [hget]; rw [hget_del h r]
theorem hget_delN {k : Nat} : ∀ {ks : List Nat} {hp : LHeap}, k ∉ ks → hget k (hdelN ks hp) = hget k hp
  | [], _, _ => rfl
  | j :: ks, hp, h => by
    rw [hdelN, hget_del (fun e => h (by simp [e]))]; exact hget_delN (fun hm => h (by simp [hm]))
theorem hget_app {k : Nat} : ∀ {a b : LHeap}, k ∉ hkeys a → hget k (a ++ b) = hget k b
  | [], _, _ => rfl
  | (j, o) :: a, b, h => by
    simp only [hkeys, List.map_cons, List.mem_cons, not_or] at h; simp only [List.cons_append, hget]; rw [if_neg (fun e => h.1 e.symm)]; exact hget_app h.2
theorem hget_app_mem {k : Nat} {o : LObj} : ∀ {a b : LHeap}, (hkeys a).Nodup → (k, o) ∈ a → hget k (a ++ b) = some o
  | (j, u) :: a, b, hn, h => by
    simp only [hkeys, List.map_cons, List.nodup_cons] at hn; simp only [List.cons_append, hget]; rcases List.mem_cons.1 h with h | h
    · cases h; rw [if_pos rfl]
    · have : j ≠ k := fun e => hn.1 (by subst e; exact List.mem_map.2 ⟨(j, o), h, rfl⟩)
      rw [if_neg this]; exact hget_app_mem hn.2 h
theorem Ef.keepH_ok {e : Ef} {k : Nat} {obj : LObj} (h : e.keepH k = true) {s : LState} (hs : hget k s.h = some obj) : hget k (e.run s).h = some obj := by
  cases e with
  | put d y => exact hs
  | upd d y j o =>
    simp [Ef.keepH, Ef.key] at h
    have : hget k ((j, o) :: hdel j s.h) = some obj := by
      simp only [hget]; rw [if_neg (fun e => h e.symm), hget_del h]; exact hs
    cases d <;> exact this
  | make d y j o =>
    simp [Ef.keepH, Ef.key] at h; show hget k ((j, o) :: hdel j s.h) = some obj; simp only [hget]; rw [if_neg (fun e => h e.symm), hget_del h]; exact hs
  | gen d y add del kil =>
    have h' : k ∉ hkeys add ++ del := by simpa [Ef.keepH, Ef.key] using h
    have : hget k (add ++ hdelN (hkeys add ++ del) s.h) = some obj := by
      rw [hget_app (fun hm => h' (by simp [hm])), hget_delN h']; exact hs
    cases d <;> exact this
def Good (KS : List (Nat × Nat)) (s : LState) : Prop := ∀ k ∈ KS, lone k.1 (hdel k.2 s.h) = true
theorem hdel_comm (j k : Nat) : ∀ h : LHeap, hdel j (hdel k h) = hdel k (hdel j h)
  | [] => rfl
  | (i, o) :: r => by
    simp only [hdel]
    by_cases h1 : i = k
    · by_cases h2 : i = j
      · rw [if_pos h1, if_pos h2]; exact hdel_comm j k r
      · rw [if_pos h1, if_neg h2, hdel, if_pos h1]; exact hdel_comm j k r
    · by_cases h2 : i = j
      · rw [if_neg h1, if_pos h2, hdel, if_pos h2]; exact hdel_comm j k r
      · rw [if_neg h1, if_neg h2, hdel, if_neg h2, hdel, if_neg h1, hdel_comm j k r]
theorem lone_del {k j : Nat} : ∀ {h : LHeap}, lone k h = true → lone k (hdel j h) = true
  | [], h => h
  | (i, o) :: r, h => by
    simp [lone] at h; simp only [hdel]
    split
    · exact lone_del h.2
    · simp [lone, h.1, lone_del h.2]
def Ef.good (KS : List (Nat × Nat)) : Ef → Prop
  | .put _ _ => True
  | .upd _ _ j obj => ∀ k ∈ KS, (j == k.2 || !obj.at? k.1) = true
  | .make _ _ j obj => ∀ k ∈ KS, (j == k.2 || !obj.at? k.1) = true
  | .gen _ _ add _ _ => ndB (hkeys add) = true ∧ ∀ k ∈ KS, (add.all fun p => p.1 == k.2 || !p.2.at? k.1) = true
theorem lone_app {k : Nat} : ∀ {a b : LHeap}, lone k a = true → lone k b = true → lone k (a ++ b) = true
  | [], _, _, h => h
  | (j, o) :: a, b, h, h2 => by
    simp only [lone, Bool.and_eq_true] at h; simp only [List.cons_append, lone, Bool.and_eq_true]; exact ⟨h.1, lone_app h.2 h2⟩
theorem hdel_app (k : Nat) : ∀ a b : LHeap, hdel k (a ++ b) = hdel k a ++ hdel k b
  | [], _ => rfl
  | (j, o) :: a, b => by
    simp only [List.cons_append, hdel]
    split
    · exact hdel_app k a b
    · rw [hdel_app k a b]; rfl
theorem lone_add {k x : Nat} : ∀ {a : LHeap}, (a.all fun p => p.1 == x || !p.2.at? k) = true → lone k (hdel x a) = true
  | [], _ => rfl
  | (j, o) :: a, h => by
    rw [List.all_cons, Bool.and_eq_true] at h; simp only [hdel]
    split
    · exact lone_add h.2
    · rename_i hj
      have h1 := h.1; simp [hj] at h1; simp only [lone, Bool.and_eq_true]; exact ⟨by simp [h1], lone_add h.2⟩
theorem lone_delN {k x : Nat} : ∀ {ks : List Nat} {h : LHeap}, lone k (hdel x h) = true → lone k (hdel x (hdelN ks h)) = true
  | [], _, h => h
  | j :: ks, h, hl => by
    rw [hdelN, hdel_comm]; exact lone_del (lone_delN hl)
theorem lone_put {k x j : Nat} {o : LObj} {h : LHeap} (he : (j == x || !o.at? k) = true) (hs : lone k (hdel x h) = true) : lone k (hdel x ((j, o) :: hdel j h)) = true := by
  simp only [hdel]
  split
  · rw [hdel_comm]; exact lone_del hs
  · rename_i hj
    simp [hj] at he; simp [lone, he]; rw [hdel_comm]; exact lone_del hs
theorem Ef.good_ok {KS : List (Nat × Nat)} {e : Ef} (he : e.good KS) {s : LState} (hs : Good KS s) : Good KS (e.run s) := by
  intro k hk; cases e with
  | put d y => exact hs k hk
  | upd d y j o =>
    have : lone k.1 (hdel k.2 ((j, o) :: hdel j s.h)) = true := lone_put (he k hk) (hs k hk); cases d <;> exact this
  | make d y j o => exact lone_put (he k hk) (hs k hk)
  | gen d y add del kil =>
    have : lone k.1 (hdel k.2 (add ++ hdelN (hkeys add ++ del) s.h)) = true := by
      rw [hdel_app]; exact lone_app (lone_add (he.2 k hk)) (lone_delN (hs k hk))
    cases d <;> exact this
section
variable {P : Program} {E : Ent} {Q : Exit → LState → Prop}
structure Rec where
  ef : Ef
  rs : List SF
  rk : List HF
def Rec.ok (P : Program) (E : Ent) (KS : List (Nat × Nat)) (all : Array Oper) (o : Oper) (r : Rec) : Prop :=
  r.ef.good KS ∧ ∀ s, Good KS s → (∀ f ∈ r.rs, get f.t s.tm = f.v) → (∀ f ∈ r.rk, hget f.k s.h = some f.obj) → LWo P E all [o] (fun e t => e = .normal ∧ (t = r.ef.run s ∨ t.le (r.ef.run s)) ∧ Good KS t) s
def edgesOf (o : Oper) : List Nat := (o.after.toList.filter (Region.binds .any)).map (·.on)
def preAll : List Oper → List (List Nat) → List (List Nat)
  | [], acc => acc
  | o :: r, acc => preAll r (acc ++ [(edgesOf o).flatMap fun j => j :: acc.getD j []])
structure OI where
  dst : Option Nat
  key : List Nat
  kills : List Nat
  rs : List (Nat × Option Nat × List Nat)
  rk : List (Nat × Option Nat)
def Rec.info (r : Rec) : OI := { dst := r.ef.dst, key := r.ef.key, kills := r.ef.kills, rs := r.rs.map fun f => (f.t, f.est, f.rf), rk := r.rk.map fun f => (f.k, f.est) }
def OI.keepS (e : OI) (t : Nat) (rf : List Nat) : Bool := e.dst != some t && e.kills.all fun k => !rf.contains k
def OI.keepH (e : OI) (k : Nat) : Bool := !e.key.contains k
def ahead (pre : List (List Nat)) (i j : Nat) : Bool := (pre.getD j []).contains i
def harmless (pre : List (List Nat)) (est : Option Nat) (x : Nat) (keep : Bool) : Bool :=
  keep || est == some x || (match est with | some e => ahead pre x e | none => false)
def drawOK (pre : List (List Nat)) (T : List OI) (FS : List (Nat × Option Nat × List Nat)) (FH : List (Nat × Option Nat)) : Bool :=
  (T.zipIdx.all fun (r, i) =>
    (r.rs.all fun (t, est, rf) => (match est with | some e => ahead pre e i | none => true) && T.zipIdx.all fun (z, x) => x == i || harmless pre est x (z.keepS t rf) || ahead pre i x) &&
    (r.rk.all fun (k, est) => (match est with | some e => ahead pre e i | none => true) && T.zipIdx.all fun (z, x) => x == i || harmless pre est x (z.keepH k) || ahead pre i x)) &&
  (FS.all fun (t, est, rf) => (match est with | some e => decide (e < T.length) | none => true) && T.zipIdx.all fun (z, x) => harmless pre est x (z.keepS t rf)) &&
  (FH.all fun (k, est) => (match est with | some e => decide (e < T.length) | none => true) && T.zipIdx.all fun (z, x) => harmless pre est x (z.keepH k))
theorem preAll_old : ∀ (ops : List Oper) (acc : List (List Nat)) (i : Nat), i < acc.length → (preAll ops acc).getD i [] = acc.getD i []
  | [], acc, i, _ => rfl
  | o :: r, acc, i, h => by
    simp only [preAll]; rw [preAll_old r _ i (by simp; omega)]; simp [List.getD_eq_getElem?_getD, List.getElem?_append_left h]
theorem preAll_at : ∀ (ops : List Oper) (acc : List (List Nat)) (i : Nat) (o : Oper), ops[i]? = some o → (∀ j ∈ edgesOf o, j < acc.length + i) →
    (preAll ops acc).getD (acc.length + i) [] = (edgesOf o).flatMap fun j => j :: (preAll ops acc).getD j []
  | [], acc, i, o, h, _ => by simp at h
  | p :: r, acc, 0, o, h, hj => by
    simp at h; subst h; simp only [preAll, Nat.add_zero]; rw [preAll_old r _ acc.length (by simp)]; have : (acc ++ [(edgesOf p).flatMap fun j => j :: acc.getD j []]).getD acc.length [] = (edgesOf p).flatMap fun j => j :: acc.getD j [] := by simp [List.getD_eq_getElem?_getD]
    rw [this]
    have : ∀ l : List Nat, (∀ j ∈ l, j < acc.length) → (l.flatMap fun j => j :: acc.getD j []) = l.flatMap fun j => j :: (preAll r (acc ++ [(edgesOf p).flatMap fun j => j :: acc.getD j []])).getD j [] := by
      intro l hl
      induction l with
      | nil => rfl
      | cons j l ih =>
        simp only [List.flatMap_cons]; rw [ih (fun q hq => hl q (by simp [hq])), preAll_old r _ j (by have := hl j (by simp); simp; omega)]; have hj := hl j (by simp); simp [List.getD_eq_getElem?_getD, List.getElem?_append_left hj]
    exact this _ (fun j hjm => by have := hj j hjm; omega)
  | p :: r, acc, i + 1, o, h, hj => by
    simp only [preAll]; have := preAll_at r (acc ++ [(edgesOf p).flatMap fun j => j :: acc.getD j []]) i o (by simpa using h) (fun j hjm => by have := hj j hjm; simp; omega); simp only [List.length_append, List.length_singleton] at this; rw [show acc.length + (i + 1) = acc.length + 1 + i from by omega]; exact this
theorem Oper.wp_to {o : Oper} {a : Act} {w : World} {K K' : Act → World → Prop} {Q1 Q2 : Exit → Act → World → Prop} (hK : ∀ a w, K a w → K' a w) (hQ : ∀ e a w, e ≠ .normal → Q1 e a w → False) (h : o.wp P a w K Q1) : o.wp P a w K' Q2 := by
  unfold Oper.wp at *; generalize (execOp a.eval o).run P w = r at *; cases r with
  | ok n w' =>
    cases n <;> simp only [Oper.upon] at h ⊢ <;>
      first
        | exact hK _ _ h
        | exact Calls.mono h (fun e w'' he => by
            cases e with
            | returned v => exact hK _ _ he
            | panicked c => exact (hQ _ _ _ (by simp) he).elim
            | outgrown => obtain ⟨a, w, h⟩ := he; exact (hQ _ _ _ (by simp) h).elim)
        | exact Rows.mono h (fun _ _ he => hK _ _ he)
  | halt x w' => cases x <;> simp only [Oper.upon] at h ⊢ <;> exact (hQ _ _ _ (by simp) h).elim
theorem wpOp_of {l : List Oper} {i : Nat} {o : Oper} (ho : l[i]? = some o) {a : Act} {w : World} {K : Act → World → Prop} {Q1 Q2 : Exit → Act → World → Prop} (hK : ∀ a w, Q1 .normal a w → K a w) (hQ : ∀ e a w, e ≠ .normal → Q1 e a w → False)
    (h : wpList P l.toArray Q1 [o] a w) : wpOp P l.toArray Q2 i K a w := by
  have ho' : l.toArray[i]? = some o := by simpa using ho
  unfold wpOp; rw [ho']; simp only; unfold wpList at h
  split at h
  · rename_i hw
    rw [if_pos hw]; rcases h with h | ⟨_, a', w', h⟩
    · exact .inl (Oper.wp_to (fun a w h => hK a w h) hQ h)
    · exact (hQ _ _ _ (by simp) h).elim
  · rename_i hw
    rw [if_neg hw]; exact hK _ _ h
theorem LWP.draw {id : Nat} {l : List Oper} {s : LState} (KS : List (Nat × Nat)) (recs : List Rec) (FS : List SF) (FH : List HF) (s' : LState) (hm : P.follows .mixedOrders = true)
    (hlen : recs.length = l.length) (hedge : (l.zipIdx.all fun (o, i) => (edgesOf o).all fun j => decide (j < i)) = true) (hgood : Good KS s)
    (hrec : ∀ (i : Nat) (o : Oper) (r : Rec), l[i]? = some o → recs[i]? = some r → r.ok P E KS l.toArray o)
    (hS : ∀ f ∈ FS, (∀ k, k ∉ f.rf → f.v.at? k = false) ∧ (match f.est with | none => get f.t s.tm = f.v | some e => ∃ r, recs[e]? = some r ∧ r.ef.dst = some f.t ∧ (∀ s, get f.t (r.ef.run s).tm = f.v)))
    (hH : ∀ f ∈ FH, (match f.est with | none => hget f.k s.h = some f.obj | some e => ∃ r, recs[e]? = some r ∧ (∀ s, hget f.k (r.ef.run s).h = some f.obj)))
    (hreq : ∀ r ∈ recs, (∀ f ∈ r.rs, f ∈ FS) ∧ ∀ f ∈ r.rk, f ∈ FH)
    (fS : List SF) (fH : List HF) (hfS : ∀ f ∈ fS, f ∈ FS) (hfH : ∀ f ∈ fH, f ∈ FH) (hkH : (fH.map (·.k)).Nodup)
    (hs' : s' = { tm := fS.map fun f => (f.t, f.v), h := fH.map fun f => (f.k, f.obj) })
    (hcheck : drawOK (preAll l []) (recs.map Rec.info) (fS.map fun f => (f.t, f.est, f.rf)) (fH.map fun f => (f.k, f.est)) = true)
    (hn : Q .normal s') : LWP P E (.region id l.toArray true) Q s := by
  intro a w hi0; refine wp_region_any hm ?_; have hsz : l.toArray.size = l.length := by simp
  rw [hsz]
  let pre := preAll l []
  let T := recs.map Rec.info
  have hT : ∀ (x : Nat) (r : Rec), recs[x]? = some r → T[x]? = some r.info := fun x r h => by simp [T, h]
  simp only [drawOK, Bool.and_eq_true, List.all_eq_true] at hcheck; obtain ⟨⟨hc1, hc2⟩, hc3⟩ := hcheck
  have hed : ∀ (i : Nat) (o : Oper), l[i]? = some o → ∀ j ∈ edgesOf o, j < i := by
    intro i o ho j hj; have := List.all_eq_true.1 hedge (o, i) (by rw [List.mem_zipIdx_iff_getElem?]; exact ho); simpa using List.all_eq_true.1 this j hj
  have hpre : ∀ (i : Nat) (o : Oper), l[i]? = some o → pre.getD i [] = (edgesOf o).flatMap fun j => j :: pre.getD j [] := by
    intro i o ho; have := preAll_at l [] i o ho (fun j hj => by have := hed i o ho j hj; simpa using this); simpa [pre] using this
  have hTx : ∀ (x : Nat) (z : OI), (z, x) ∈ T.zipIdx ↔ T[x]? = some z := fun x z => by rw [List.mem_zipIdx_iff_getElem?]
  -- what holds when L is listed
  let inL : Array Bool → Nat → Prop := fun L i => L.getD i false = true
  let validS : Array Bool → SF → Prop := fun L f => (∀ e, f.est = some e → inL L e) ∧ ∀ x z, T[x]? = some z → inL L x → harmless pre f.est x (z.keepS f.t f.rf) = true
  let validH : Array Bool → HF → Prop := fun L f => (∀ e, f.est = some e → inL L e) ∧ ∀ x z, T[x]? = some z → inL L x → harmless pre f.est x (z.keepH f.k) = true
  let Sat : Array Bool → Act → World → Prop := fun L a w => ∃ u, Inv E u a w ∧ Good KS u ∧ (∀ f ∈ FS, validS L f → get f.t u.tm = f.v) ∧ ∀ f ∈ FH, validH L f → hget f.k u.h = some f.obj
  let closed : Array Bool → Prop := fun L => ∀ (i : Nat) (o : Oper), l[i]? = some o → inL L i → ∀ j ∈ edgesOf o, inL L j
  have hclo : ∀ L, closed L → ∀ (i : Nat), i < l.length → inL L i → ∀ j ∈ pre.getD i [], inL L j := by
    intro L hL i
    induction i using Nat.strongRecOn with
    | _ i ih =>
      intro hi hin j hj; have ho : l[i]? = some l[i] := by simp [hi]
      rw [hpre i _ ho] at hj; obtain ⟨q, hq, hj⟩ := List.mem_flatMap.1 hj; have hqi := hed i _ ho q hq; have hqL := hL i _ ho hin q hq; rcases List.mem_cons.1 hj with rfl | hj
      · exact hqL
      · exact ih q hqi (by omega) hqL j hj
  have fin : ∀ L a w, Sat L a w → (∀ i, i < l.length → inL L i) → QC E Q .normal a w := by
    rintro L a w ⟨u, hu, _, huS, huH⟩ hall; refine ⟨s', ?_, hn⟩
    have hxl : ∀ x z, T[x]? = some z → x < l.length := fun x z h => by
      have : x < T.length := by
        rcases Nat.lt_or_ge x T.length with h' | h'
        · exact h'
        · rw [List.getElem?_eq_none h'] at h; cases h
      simpa [T, hlen] using this
    refine hu.le ⟨?_, ?_, ?_⟩
    · rw [hs']
      intro p hp; obtain ⟨f, hf, rfl⟩ := List.mem_map.1 hp; refine .inl (huS f (hfS f hf) ⟨fun e he => ?_, fun x z hz hx => ?_⟩)
      · have := hc2 (f.t, f.est, f.rf) (List.mem_map.2 ⟨f, hf, rfl⟩)
        rw [he] at this; simp only [decide_eq_true_eq] at this; exact hall e (by simpa [hlen] using this.1)
      · have := (hc2 (f.t, f.est, f.rf) (List.mem_map.2 ⟨f, hf, rfl⟩)).2 (z, x) ((hTx x z).2 hz)
        exact this
    · rw [hs']
      simp only [hkeys, List.map_map]; exact hkH
    · rw [hs']
      intro p hp; obtain ⟨f, hf, rfl⟩ := List.mem_map.1 hp; refine huH f (hfH f hf) ⟨fun e he => ?_, fun x z hz hx => ?_⟩
      · have := hc3 (f.k, f.est) (List.mem_map.2 ⟨f, hf, rfl⟩)
        rw [he] at this; simp only [decide_eq_true_eq] at this; exact hall e (by simpa [hlen] using this.1)
      · have := (hc3 (f.k, f.est) (List.mem_map.2 ⟨f, hf, rfl⟩)).2 (z, x) ((hTx x z).2 hz)
        exact this
  have readyIff : ∀ L i, i ∈ Region.ready .any l.toArray L → ∃ o, l[i]? = some o ∧ L.getD i true = false ∧ ∀ j ∈ edgesOf o, inL L j := by
    intro L i h; simp only [Region.ready, List.mem_filter, List.mem_range, Bool.and_eq_true, Bool.not_eq_true'] at h; obtain ⟨h1, h2, h3⟩ := h; have hlt : i < l.length := by simpa using h1
    have ho : l[i]? = some l[i] := by simp [hlt]
    refine ⟨l[i], ho, h2, ?_⟩; have ho' : l.toArray[i]? = some l[i] := by simp
    rw [ho'] at h3; simp only [Option.map_some, Option.getD_some, Array.all_eq_true_iff_forall_mem, Bool.or_eq_true, Bool.not_eq_true'] at h3; intro j hj; simp only [edgesOf, List.mem_map, List.mem_filter, Array.mem_toList_iff] at hj; obtain ⟨e, ⟨he1, he2⟩, rfl⟩ := hj; rcases h3 e he1 with h | h
    · rw [he2] at h; cases h
    · exact h
  have notready : ∀ L, L.size = l.length → Region.ready .any l.toArray L = [] → ∀ i, i < l.length → inL L i := by
    intro L hLs hr i
    induction i using Nat.strongRecOn with
    | _ i ih =>
      intro hi; have ho : l[i]? = some l[i] := by simp [hi]
      rcases hb : L.getD i false with _ | _
      · exfalso
        have hmem : i ∈ Region.ready .any l.toArray L := by
          simp only [Region.ready, List.mem_filter, List.mem_range, Bool.and_eq_true, Bool.not_eq_true']; refine ⟨by simpa using hi, ?_, ?_⟩
          · have : i < L.size := by omega
            simp [Array.getD, this] at hb ⊢; exact hb
          · have ho' : l.toArray[i]? = some l[i] := by simp
            rw [ho']; simp only [Option.map_some, Option.getD_some, Array.all_eq_true_iff_forall_mem, Bool.or_eq_true, Bool.not_eq_true']; intro e he
            by_cases hbd : Region.binds .any e = true
            · right
              have hj : e.on ∈ edgesOf l[i] := by
                simp only [edgesOf, List.mem_map, List.mem_filter, Array.mem_toList_iff]; exact ⟨e, ⟨he, hbd⟩, rfl⟩
              have hlt := hed i _ ho e.on hj; exact ih e.on hlt (by omega)
            · left; simpa using hbd
        rw [hr] at hmem; cases hmem
      · exact hb
  have step : ∀ fuel L a w, L.size = l.length → closed L → Sat L a w → ((List.range l.length).filter fun i => !L.getD i false).length ≤ fuel → wpAny P .any l.toArray (QC E Q) fuel L a w := by
    intro fuel
    induction fuel with
    | zero =>
      intro L a w hLs hcl hsat hf
      have hall : ∀ i, i < l.length → inL L i := by
        intro i hi; have he : (List.range l.length).filter (fun i => !L.getD i false) = [] := List.eq_nil_of_length_eq_zero (by omega); rw [List.filter_eq_nil_iff] at he; have := he i (by simpa using hi); simpa [inL] using this
      refine ⟨?_, fin L a w hsat hall⟩; rcases hr : Region.ready .any l.toArray L with _ | ⟨i, r⟩
      · rfl
      · obtain ⟨o, ho, h1, _⟩ := readyIff L i (by rw [hr]; simp)
        have hi : i < l.length := by
          rcases Nat.lt_or_ge i l.length with h | h
          · exact h
          · rw [List.getElem?_eq_none h] at ho; cases ho
        have := hall i hi; have hlt : i < L.size := by omega
        simp [inL, Array.getD, hlt] at this h1; rw [this] at h1; cases h1
    | succ fuel ih =>
      intro L a w hLs hcl hsat hf; refine ⟨fun hr => fin L a w hsat (notready L hLs hr), ?_⟩; intro i hir; obtain ⟨o, ho, hni, hej⟩ := readyIff L i hir
      have hi : i < l.length := by
        rcases Nat.lt_or_ge i l.length with h | h
        · exact h
        · rw [List.getElem?_eq_none h] at ho; cases ho
      have hrl : i < recs.length := by omega
      obtain ⟨r, hr⟩ : ∃ r, recs[i]? = some r := ⟨recs[i], by simp [hrl]⟩; have hok := hrec i o r ho hr; obtain ⟨u, hu, hug, huS, huH⟩ := hsat
      have hnot : ¬ inL L i := by
        have hlt : i < L.size := by omega
        simp [inL, Array.getD, hlt] at hni ⊢; exact hni
      have hpin : ∀ j ∈ pre.getD i [], inL L j := by
        intro j hj; rw [hpre i o ho] at hj; obtain ⟨q, hq, hj⟩ := List.mem_flatMap.1 hj; rcases List.mem_cons.1 hj with rfl | hj
        · exact hej _ hq
        · exact hclo L hcl q (by have := hed i o ho q hq; omega) (hej q hq) j hj
      have hmemr : r ∈ recs := List.mem_of_getElem? hr; have hci := hc1 (r.info, i) ((hTx i r.info).2 (hT i r hr))
      have hxL : ∀ x, ahead pre i x = true → x < l.length → ¬ inL L x := by
        intro x hx hxl hin; simp only [ahead, List.contains_iff_mem] at hx; exact hnot (hclo L hcl x hxl hin i hx)
      have hxlen : ∀ x z, T[x]? = some z → x < l.length := fun x z h => by
        have : x < T.length := by
          rcases Nat.lt_or_ge x T.length with h' | h'
          · exact h'
          · rw [List.getElem?_eq_none h'] at h; cases h
        simpa [T, hlen] using this
      have h1 : ∀ f ∈ r.rs, get f.t u.tm = f.v := by
        intro f hf; obtain ⟨h2, h3⟩ := hci.1 (f.t, f.est, f.rf) (List.mem_map.2 ⟨f, hf, rfl⟩); refine huS f ((hreq r hmemr).1 f hf) ⟨fun e he => ?_, fun x z hz hx => ?_⟩
        · simp only [he, ahead, List.contains_iff_mem] at h2
          exact hpin e h2
        · have := h3 (z, x) ((hTx x z).2 hz)
          simp only [Bool.or_eq_true, beq_iff_eq] at this; rcases this with (h | h) | h
          · subst h; exact absurd hx hnot
          · exact h
          · exact absurd hx (hxL x h (hxlen x z hz))
      have h2 : ∀ f ∈ r.rk, hget f.k u.h = some f.obj := by
        intro f hf; obtain ⟨h2, h3⟩ := hci.2 (f.k, f.est) (List.mem_map.2 ⟨f, hf, rfl⟩); refine huH f ((hreq r hmemr).2 f hf) ⟨fun e he => ?_, fun x z hz hx => ?_⟩
        · simp only [he, ahead, List.contains_iff_mem] at h2
          exact hpin e h2
        · have := h3 (z, x) ((hTx x z).2 hz)
          simp only [Bool.or_eq_true, beq_iff_eq] at this; rcases this with (h | h) | h
          · subst h; exact absurd hx hnot
          · exact h
          · exact absurd hx (hxL x h (hxlen x z hz))
      refine wpOp_of ho (fun a' w' hq => ?_) (fun e a w he hq => ?_) (hok.2 u hug h1 h2 a w hu)
      · obtain ⟨t, hit, _, hle, hgt⟩ := hq
        have hset : ∀ j, inL (L.setIfInBounds i true) j ↔ inL L j ∨ j = i := by
          intro j; simp only [inL, Array.getD_eq_getD_getElem?, Array.getElem?_setIfInBounds]
          by_cases hij : i = j
          · subst hij
            have : i < L.size := by omega
            simp [this]
          · simp [hij, Ne.symm hij]
        refine ih _ a' w' (by simpa using hLs) ?_ ⟨r.ef.run u, hle.elim (fun e => e ▸ hit) (fun h => hit.le h), r.ef.good_ok hok.1 hug, ?_, ?_⟩ ?_
        · intro q oq hoq hin j hj
          rcases (hset q).1 hin with h | rfl
          · exact (hset j).2 (.inl (hcl q oq hoq h j hj))
          · rw [ho] at hoq; cases hoq
            exact (hset j).2 (.inl (hej j hj))
        · intro f hf hv
          obtain ⟨hrf, hest⟩ := hS f hf
          by_cases he : f.est = some i
          · rw [he] at hest
            obtain ⟨r', hr', _, hr2⟩ := hest; rw [hr] at hr'; cases hr'; exact hr2 u
          · have hvL : validS L f := by
              refine ⟨fun e hee => ?_, fun x z hz hx => hv.2 x z hz ((hset x).2 (.inl hx))⟩; rcases (hset e).1 (hv.1 e hee) with h | rfl
              · exact h
              · exact absurd hee he
            have hk := hv.2 i r.info (hT i r hr) ((hset i).2 (.inr rfl))
            have hkeep : r.info.keepS f.t f.rf = true := by
              simp only [harmless, Bool.or_eq_true] at hk; rcases hk with (h | h) | h
              · exact h
              · exact absurd (by simpa using h) he
              · exfalso
                cases hee : f.est with
                | none => rw [hee] at h; cases h
                | some e =>
                  rw [hee] at h; have hin := hvL.1 e hee
                  have helt : e < l.length := by
                    rcases Nat.lt_or_ge e l.length with h' | h'
                    · exact h'
                    · have : L.size ≤ e := by omega
                      simp [inL, Array.getD] at hin; obtain ⟨h'', _⟩ := hin; omega
                  simp only [ahead, List.contains_iff_mem] at h; exact hnot (hclo L hcl e helt hin i h)
            exact Ef.keepS_ok hrf hkeep (huS f hf hvL)
        · intro f hf hv
          have hest := hH f hf
          by_cases he : f.est = some i
          · rw [he] at hest
            obtain ⟨r', hr', hr2⟩ := hest; rw [hr] at hr'; cases hr'; exact hr2 u
          · have hvL : validH L f := by
              refine ⟨fun e hee => ?_, fun x z hz hx => hv.2 x z hz ((hset x).2 (.inl hx))⟩; rcases (hset e).1 (hv.1 e hee) with h | rfl
              · exact h
              · exact absurd hee he
            have hk := hv.2 i r.info (hT i r hr) ((hset i).2 (.inr rfl))
            have hkeep : r.info.keepH f.k = true := by
              simp only [harmless, Bool.or_eq_true] at hk; rcases hk with (h | h) | h
              · exact h
              · exact absurd (by simpa using h) he
              · exfalso
                cases hee : f.est with
                | none => rw [hee] at h; cases h
                | some e =>
                  rw [hee] at h; have hin := hvL.1 e hee
                  have helt : e < l.length := by
                    rcases Nat.lt_or_ge e l.length with h' | h'
                    · exact h'
                    · have : L.size ≤ e := by omega
                      simp [inL, Array.getD] at hin; obtain ⟨h'', _⟩ := hin; omega
                  simp only [ahead, List.contains_iff_mem] at h; exact hnot (hclo L hcl e helt hin i h)
            exact Ef.keepH_ok hkeep (huH f hf hvL)
        · have hlt : i ∈ (List.range l.length).filter fun j => !L.getD j false := by
            simp only [List.mem_filter, List.mem_range, Bool.not_eq_true']; refine ⟨hi, ?_⟩; simpa [inL] using hnot
          have hsub : ((List.range l.length).filter fun j => !(L.setIfInBounds i true).getD j false) = ((List.range l.length).filter fun j => !L.getD j false).filter fun j => j != i := by
            rw [List.filter_filter]; refine List.filter_congr fun j _ => ?_; have := hset j; simp only [inL] at this; cases h5 : (L.setIfInBounds i true).getD j false <;> cases h6 : L.getD j false <;> simp_all
          rw [hsub]
          have : (((List.range l.length).filter fun j => !L.getD j false).filter fun j => j != i).length < ((List.range l.length).filter fun j => !L.getD j false).length :=
            List.length_filter_lt_length_iff_exists.2 ⟨i, hlt, by simp⟩
          omega
      · obtain ⟨_, _, h, _⟩ := hq
        exact he h
  have hinit : ∀ j, ¬ inL (Array.replicate l.length false) j := by
    intro j h; simp only [inL, Array.getD_eq_getD_getElem?, Array.getElem?_replicate] at h
    split at h <;> simp at h
  refine step l.length _ a _ (by simp) ?_ ⟨s, ?_, hgood, ?_, ?_⟩ ?_
  · intro i o ho hin
    exact absurd hin (hinit i)
  · obtain ⟨ok, ρ, F, h⟩ := hi0
    exact ⟨ok, ρ, F, h.drew⟩
  · intro f hf hv
    have hest := (hS f hf).2; cases he : f.est with
    | none => rw [he] at hest; exact hest
    | some e =>
      exact absurd (hv.1 e he) (hinit e)
  · intro f hf hv
    have hest := hH f hf; cases he : f.est with
    | none => rw [he] at hest; exact hest
    | some e =>
      exact absurd (hv.1 e he) (hinit e)
  · exact Nat.le_trans (List.length_filter_le _ _) (by simp)
end
end Go.Lift
/- The lifted logic, part 16: forms that walks use. Own work. -/
namespace Go.Lift
open Go.RowKit
def AllEq (tm : Tm) : Tm → Prop
  | [] => True
  | (t, v) :: r => get t tm = v ∧ AllEq tm r
def Unch (tm base : Tm) : List Nat → Prop
  | [] => True
  | t :: r => get t tm = get t base ∧ Unch tm base r
def pickT (base : Tm) : List Nat → Tm
  | [] => []
  | t :: r => (t, get t base) :: pickT base r
theorem AllEq.mem {tm : Tm} : ∀ {l : Tm}, AllEq tm l → ∀ p ∈ l, get p.1 tm = p.2
  | (t, v) :: r, h, p, hp => by
    rcases List.mem_cons.1 hp with rfl | hp
    · exact h.1
    · exact AllEq.mem h.2 p hp
theorem Unch.mem {tm base : Tm} : ∀ {l : List Nat}, Unch tm base l → ∀ p ∈ pickT base l, get p.1 tm = p.2
  | t :: r, h, p, hp => by
    rcases List.mem_cons.1 hp with rfl | hp
    · exact h.1
    · exact Unch.mem h.2 p hp
theorem hget_of_mem {k : Nat} {o : LObj} : ∀ {h : LHeap}, (hkeys h).Nodup → (k, o) ∈ h → hget k h = some o
  | (j, z) :: r, hn, hm => by
    simp only [hkeys, List.map_cons, List.nodup_cons] at hn; simp only [hget]; rcases List.mem_cons.1 hm with e | hm
    · cases e; simp
    · have : j ≠ k := fun e => hn.1 (by subst e; exact List.mem_map.2 ⟨_, hm, rfl⟩)
      rw [if_neg this]; exact hget_of_mem hn.2 hm
section
variable {P : Program} {E : Ent} {Q : Exit → LState → Prop} {s s' : LState} {all : Array Oper} {rest : List Oper} {d : Nat} {ty : TypeId} {pos : String} {af : Array Edge}
def HSub (h : LHeap) : LHeap → Prop
  | [] => True
  | (k, o) :: r => hget k h = some o ∧ HSub h r
theorem HSub.mem {h : LHeap} : ∀ {l : LHeap}, HSub h l → ∀ p ∈ l, hget p.1 h = some p.2
  | (k, o) :: r, hs, p, hp => by
    rcases List.mem_cons.1 hp with rfl | hp
    · exact hs.1
    · exact HSub.mem hs.2 p hp
theorem LWP.told {c : Code} {V : Tm} {H : LHeap} (hV : ∀ p ∈ V, get p.1 s.tm = p.2) (hH : HSub s.h H) (hk : (hkeys H).Nodup) (hn : LWP P E c Q ⟨V, H⟩) : LWP P E c Q s := fun a w hi =>
  hn a w (Inv.le (s := s) ⟨fun p hp => .inl (hV p hp), hk, hH.mem⟩ hi)
theorem told_mem {V : Tm} {base : Tm} {U : List Nat} (hV : AllEq s.tm V) (hU : Unch s.tm base U) : ∀ p ∈ V ++ pickT base U, get p.1 s.tm = p.2 := fun p hp => by
  rcases List.mem_append.1 hp with h | h
  · exact hV.mem p h
  · exact hU.mem p h
theorem Unch.refl {tm : Tm} : ∀ {U : List Nat}, Unch tm tm U
  | [] => trivial
  | _ :: _ => ⟨rfl, Unch.refl⟩
theorem LWP.loopV {c : Code} {α : Type} (U : List Nat) (m : α → Nat) (I : α → Prop) (V : α → Tm) (H : α → LHeap) (x0 : α) (hk : ∀ x, (hkeys (H x)).Nodup) (hI : I x0) (hV : AllEq s.tm (V x0)) (hH : HSub s.h (H x0))
    (round : ∀ x, I x → LWP P E c (LThen (fun s' => ∃ y, I y ∧ m y < m x ∧ AllEq s'.tm (V y) ∧ Unch s'.tm s.tm U ∧ HSub s'.h (H y)) Q) ⟨V x ++ pickT s.tm U, H x⟩) : LWP P E (.loop c) Q s := by
  refine LWP.loop m (fun x s' => I x ∧ AllEq s'.tm (V x) ∧ Unch s'.tm s.tm U ∧ HSub s'.h (H x)) x0 ⟨hI, hV, Unch.refl, hH⟩ ?_; rintro x s1 ⟨h1, h2, h3, h4⟩; refine LWP.told (told_mem h2 h3) h4 (hk x) ((round x h1).mono fun e s2 h => ?_); cases e <;> first | exact h | skip; obtain ⟨y, h5, h6, h7, h8, h9⟩ := h; exact ⟨y, ⟨h5, h7, h8, h9⟩, h6⟩
theorem LWo.guardY {o : Oper} {j t : Nat} {b want : Bool} (hb : get t s.tm = .imm (.bool b)) (h : b = want) (hg : o.guard = some (j, want) := by rfl) (hd : (all[j]?).bind (·.dst) = some t := by rfl)
    (hn : LWo P E all ({ o with guard := none } :: rest) Q s) : LWo P E all (o :: rest) Q s :=
  LWo.guard hg hd hb (fun _ => hn) (fun h' => absurd h h')
theorem LWo.byCases {ops : List Oper} {t : Nat} (b : Bool) (hb : get t s.tm = .imm (.bool b)) (h1 : b = true → LWo P E all ops Q s) (h0 : b = false → LWo P E all ops Q s) : LWo P E all ops Q s := by
  cases b
  · exact h0 rfl
  · exact h1 rfl
theorem LWo.pickT {c x y : Operand} {b : Bool} (hc : s.eval c = .imm (.bool b)) (h : b = true) (hd : Nat.blt d E.n = true := by exact rfl) (hn : LWo P E all rest Q (s.put (some d) (s.eval x))) :
    LWo P E all ({ dst := some d, op := .pick c x y, type := ty, pos := pos, after := af, guard := none } :: rest) Q s := LWo.pick (s.eval x) hc (by rw [h]; rfl) hd hn
theorem LWo.pickF {c x y : Operand} {b : Bool} (hc : s.eval c = .imm (.bool b)) (h : b = false) (hd : Nat.blt d E.n = true := by exact rfl) (hn : LWo P E all rest Q (s.put (some d) (s.eval y))) :
    LWo P E all ({ dst := some d, op := .pick c x y, type := ty, pos := pos, after := af, guard := none } :: rest) Q s := LWo.pick (s.eval y) hc (by rw [h]; rfl) hd hn
abbrev DoesR (P : Program) (f : FuncId) (xs : List LV) (R : LV → Prop) : Prop := Does P f xs [] (fun r h => R r ∧ h = [])
abbrev Ret (P : Program) (f : FuncId) (xs : List LV) (v : LV) : Prop := Does P f xs [] (fun r h => r = v ∧ h = [])
theorem LWo.rcall {f : Operand} {ops : List Operand} {ts : Array TypeId} {g : FuncId} {caps vals xs : List LV} {vw : List Nat} {R : LV → Prop} (hf : s.eval f = .clo g caps) (hv : ops.map s.eval ++ caps = vals)
    (hfn : DoesR P g xs R) (hA : ArgsOK s [] vals xs vw) (hvw : vw = [] ∨ ∀ r, R r → r.noFro = true) (hd : Nat.blt d E.n = true := by exact rfl)
    (hn : ∀ r, R r → LWo P E all rest Q (s.put (some d) (settle none r))) :
    LWo P E all ({ dst := some d, op := .call { callee := .value f, args := ops.toArray, argTypes := ts }, type := ty, pos := pos, after := af, guard := none } :: rest) Q s :=
  LWo.call none hf hv hfn hA ⟨by simp [hkeys], by simp⟩ (fun t ht => by cases ht; exact hd) (fun j hj => by cases hj) (by
    rintro r hl' ⟨h1, rfl⟩; refine ⟨hvw.imp id fun h => ⟨rfl, h r h1⟩, (fun j hj => by cases hj), ?_⟩; have := hn r h1; simpa [afterCall, rwOf, hkeys, hdels] using this)
theorem LWo.vcall {f : Operand} {ops : List Operand} {ts : Array TypeId} {g : FuncId} {caps vals xs : List LV} {v : LV} (hf : s.eval f = .clo g caps) (hv : ops.map s.eval ++ caps = vals)
    (hfn : Ret P g xs v) (hA : ArgsOK s [] vals xs []) (hd : Nat.blt d E.n = true := by exact rfl)
    (hn : LWo P E all rest Q (s.put (some d) (settle none v))) :
    LWo P E all ({ dst := some d, op := .call { callee := .value f, args := ops.toArray, argTypes := ts }, type := ty, pos := pos, after := af, guard := none } :: rest) Q s :=
  LWo.rcall hf hv hfn hA (.inl rfl) hd (by rintro r rfl; exact hn)
theorem QRet.pure1 {t : Nat} {Post : LV → LHeap → Prop} {e : Exit} (x : LV) (he : e = .normal ∨ e = .ret) (hx : get t s.tm = x) (hp : x.pure = true) (h : Post x []) : QRet E [t] Post e s :=
  ⟨he, x, [], ⟨⟨[], [], .inl ⟨_, rfl, by show ResOf _ (get t s.tm) _ _ _; rw [hx]; exact .pure hp⟩, by simp, by simp⟩, by simp [hkeys], by simp⟩, h⟩
theorem QRet.val {t : Nat} {e : Exit} {v : LV} (he : e = .normal ∨ e = .ret) (hx : get t s.tm = v) (hp : v.pure = true) : QRet E [t] (fun r h => r = v ∧ h = []) e s := QRet.pure1 v he hx hp ⟨rfl, rfl⟩
theorem QRet.bool {t : Nat} {e : Exit} {b c : Bool} (he : e = .normal ∨ e = .ret) (hx : get t s.tm = .imm (.bool b)) (h : b = c) : QRet E [t] (fun r h => r = .imm (.bool c) ∧ h = []) e s := QRet.val he (h ▸ hx) rfl
theorem QRet.int {t : Nat} {e : Exit} {k : IntKind} {b c : Int} (he : e = .normal ∨ e = .ret) (hx : get t s.tm = .imm (.int k b)) (h : b = c) : QRet E [t] (fun r h => r = .imm (.int k c) ∧ h = []) e s := QRet.val he (h ▸ hx) rfl
theorem QRet.sl {t sz : Nat} {e : Exit} {b c : List LV} (he : e = .normal ∨ e = .ret) (hx : get t s.tm = .sl sz b) (h : b = c) : QRet E [t] (fun r h => r = .sl sz c ∧ h = []) e s := QRet.val he (h ▸ hx) rfl
end
end Go.Lift
/- The lifted logic, part 17: a region of open order whose operations only compute. Own work. -/
namespace Go.Lift
open Go.RowKit
mutual
theorem LV.refs_at? (k : Nat) : ∀ x : LV, k ∉ x.refs → x.at? k = false
  | .ptr o _ _, h => by simp [LV.refs] at h; simp [LV.at?]; exact fun e => h e.symm
  | .own o _ _, h => by simp [LV.refs] at h; simp [LV.at?]; exact fun e => h e.symm
  | .ownc o _ _ _, h => by simp [LV.refs] at h; simp [LV.at?]; exact fun e => h e.symm
  | .agg cs, h => by simpa [LV.at?] using LV.refs_atL k cs (by simpa [LV.refs] using h)
  | .tup cs, h => by simpa [LV.at?] using LV.refs_atL k cs (by simpa [LV.refs] using h)
  | .clo _ cs, h => by simpa [LV.at?] using LV.refs_atL k cs (by simpa [LV.refs] using h)
  | .sl _ _, _ => by simp [LV.at?]
  | .slx _ _, _ => by simp [LV.at?]
  | .mv _ _, _ => by simp [LV.at?]
  | .mp o _ _, h => by simp [LV.refs] at h; simp [LV.at?]; exact fun e => h e.symm
  | .junk, _ => by simp [LV.at?]
  | .imm _, _ => by simp [LV.at?]
  | .fp _, _ => by simp [LV.at?]
  | .nw .., _ => by simp [LV.at?]
  | .nb _, _ => by simp [LV.at?]
  | .dv _, _ => by simp [LV.at?]
  | .mx .., _ => by simp [LV.at?]
  | .ms .., _ => by simp [LV.at?]
theorem LV.refs_atL (k : Nat) : ∀ xs : List LV, k ∉ LV.refs.refsL xs → LV.at?.atL k xs = false
  | [], _ => by simp [LV.at?.atL]
  | x :: xs, h => by
    simp [LV.refs.refsL] at h; simp [LV.at?.atL]; exact ⟨LV.refs_at? k x h.1, LV.refs_atL k xs h.2⟩
end
def look (t : Nat) : List SF → SF
  | [] => ⟨t, .junk, none, []⟩
  | f :: r => if f.t = t then f else look t r
def AllF (tm : Tm) : List SF → Prop
  | [] => True
  | f :: r => get f.t tm = f.v ∧ AllF tm r
theorem AllF.of {tm : Tm} : ∀ {l : List SF}, (∀ f ∈ l, get f.t tm = f.v) → AllF tm l
  | [], _ => trivial
  | f :: r, h => ⟨h f (by simp), AllF.of fun g hg => h g (by simp [hg])⟩
theorem look_t (t : Nat) : ∀ l, (look t l).t = t
  | [] => rfl
  | f :: r => by
    simp only [look]
    split
    · assumption
    · exact look_t t r
def hasT (t : Nat) (l : List SF) : Bool := l.any (·.t == t)
theorem look_mem {t : Nat} : ∀ {l}, hasT t l = true → look t l ∈ l
  | f :: r, h => by
    simp only [look]
    split
    · simp
    · rename_i e
      simp [hasT, e] at h; exact List.mem_cons_of_mem _ (look_mem (l := r) (by simpa [hasT] using h))
def base (s : LState) (U : List Nat) : List SF := U.map fun t => ⟨t, get t s.tm, none, (get t s.tm).refs⟩
def heapF (h : LHeap) : List HF := h.map fun p => ⟨p.1, p.2, none⟩
section
variable {P : Program} {E : Ent} {Q : Exit → LState → Prop}
def DSt (P : Program) (E : Ent) (all : Array Oper) (s : LState) : List Oper → List (Nat × List Nat) → Nat → List SF → (List SF → List Rec → Prop) → Prop
  | o :: os, (d, rd) :: ps, i, acc, k => rd.all (hasT · acc) = true ∧ ∃ y, (∀ u : LState, AllF u.tm (rd.map (look · acc)) → (∀ o obj, hget o s.h = some obj → hget o u.h = some obj) → LWo P E all [o] (fun e t => e = .normal ∧ (t = u.put (some d) y ∨ t.le (u.put (some d) y)) ∧ Good [] t) u) ∧
      DSt P E all s os ps (i + 1) (⟨d, y, some i, y.refs⟩ :: acc) (fun a r => k a (⟨.put d y, rd.map (look · acc), heapF s.h⟩ :: r))
  | [], [], _, acc, k => k acc []
  | _, _, _, _, _ => False
theorem DSt.out {all : Array Oper} {s : LState} : ∀ {os : List Oper} {ps : List (Nat × List Nat)} {i : Nat} {acc : List SF} {k : List SF → List Rec → Prop}, DSt P E all s os ps i acc k →
    ∃ (acc' : List SF) (recs : List Rec), k acc' recs ∧ recs.length = os.length ∧ (∀ (j : Nat) (o : Oper) (r : Rec), os[j]? = some o → recs[j]? = some r → r.ok P E [] all o) ∧
      (∀ f ∈ acc, f ∈ acc') ∧ (∀ f ∈ acc', f ∈ acc ∨ ∃ j r, f.est = some (i + j) ∧ recs[j]? = some r ∧ r.ef.dst = some f.t ∧ (∀ s, get f.t (r.ef.run s).tm = f.v) ∧ f.rf = f.v.refs) ∧ (∀ r ∈ recs, (∀ f ∈ r.rs, f ∈ acc') ∧ ∀ f ∈ r.rk, f ∈ heapF s.h)
  | o :: os, (d, rd) :: ps, i, acc, k, ⟨hin, y, h1, h2⟩ => by
    obtain ⟨acc', recs, hk, hlen, hok, hsub, hnew, hreq⟩ := DSt.out h2; refine ⟨acc', _, hk, by simp [hlen], ?_, fun f hf => hsub f (by simp [hf]), ?_, ?_⟩
    · intro j o' r ho hr
      cases j with
      | zero =>
        simp at ho hr; subst ho; subst hr; refine ⟨trivial, fun u _ hrs hrk => ?_⟩; exact h1 u (AllF.of hrs) (fun o obj ho => hrk ⟨o, obj, none⟩ (List.mem_map.2 ⟨(o, obj), hget_mem ho, rfl⟩))
      | succ j => simp at ho hr; exact hok j o' r ho hr
    · intro f hf
      rcases hnew f hf with h | ⟨j, r, he, hr, h⟩
      · rcases List.mem_cons.1 h with rfl | h
        · exact .inr ⟨0, _, by simp, rfl, rfl, fun s => by simp [Ef.run, LState.put, get], rfl⟩
        · exact .inl h
      · exact .inr ⟨j + 1, r, by rw [he]; congr 1; omega, by simpa using hr, h⟩
    · intro r hr
      rcases List.mem_cons.1 hr with rfl | hr
      · refine ⟨fun f hf => ?_, fun f hf => hf⟩
        obtain ⟨t, ht, rfl⟩ := List.mem_map.1 hf; exact hsub _ (by simp [look_mem (List.all_eq_true.1 hin t ht)])
      · exact hreq r hr
  | [], [], i, acc, k, h => ⟨acc, [], h, rfl, by simp, by simp, fun f hf => .inl hf, by simp⟩
end
end Go.Lift
/- The lifted logic, part 18: structs of plain cells compared; calls of boolean functions. Own work. -/
namespace Go.Lift
open Go.RowKit
theorem RepL.imms {w : World} {ok : Nat → Prop} {ρ : Env} : ∀ {us vs : List Value}, RepL w ok ρ (us.map LV.imm) vs → vs = us
  | [], _, .nil => rfl
  | u :: us, _, .cons h _ h2 => by rw [h.imm_inv, RepL.imms h2]
section
variable {P : Program} {E : Ent} {Q : Exit → LState → Prop} {s s' : LState} {all : Array Oper} {rest : List Oper} {d : Nat} {ty : TypeId} {pos : String} {af : Array Edge}
theorem aggImm {a : Act} {w : World} {ok : Nat → Prop} {ρ : Env} {F : Nat → List Nat} (hi : Inv' E s a w ok ρ F) {x : Operand} {xs : List LV} {us : List Value} (hx : s.eval x = .agg xs) (hxs : xs = us.map LV.imm) : a.eval x = .agg us.toArray := by
  have h1 := hi.eval x; rw [hx] at h1; obtain ⟨vs, hv, h⟩ := h1.agg_inv; rw [hxs] at h; rw [hv, h.imms]
theorem LWo.eqA {T t' : TypeId} {x y : Operand} {xs ys : List LV} (us vs : List Value) (b : Bool) (hg : P.eqGuardType P.depth T = false) (he : ∀ w, (Op.equal T (.agg us.toArray) (.agg vs.toArray)).run P w = .ok b w)
    (hx : s.eval x = .agg xs) (hxs : xs = us.map LV.imm) (hy : s.eval y = .agg ys) (hys : ys = vs.map LV.imm) (hd : Nat.blt d E.n = true := by exact rfl) (hn : LWo P E all rest Q (s.put (some d) (.imm (.bool b)))) :
    LWo P E all ({ dst := some d, op := .binOp .eql T x y t', type := ty, pos := pos, after := af, guard := none } :: rest) Q s :=
  LWo.still _ hd (fun a w ok ρ F hi => ⟨.bool b, by
    simp [execOp, aggImm hi hx hxs, aggImm hi hy hys, eqGuard, program, hg, binOp, he, Sem.run], .fro (.imm _)⟩) hn
end
end Go.Lift
/- The lifted logic, part 19: the bytes of a string; readings of argument lists. Own work. -/
namespace Go.Lift
open Go.RowKit
def encB (b : UInt8) : LV := .imm (.int .u8 b.toNat)
def encBs (l : List UInt8) : LV := .sl 1 (l.map encB)
theorem fro_bytes {w : World} {ok : Nat → Prop} : ∀ l : List UInt8, FroL w ok ((l.map encB).flatMap LV.cells) (l.map fun b => Value.int .u8 b.toNat)
  | [] => .nil
  | b :: l => .cons (.imm _) rfl (fro_bytes l)
section
variable {P : Program} {E : Ent} {Q : Exit → LState → Prop} {s : LState} {all : Array Oper} {rest : List Oper} {d : Nat} {ty : TypeId} {pos : String} {af : Array Edge}
theorem LWo.strBytes {src dst e : TypeId} {x : Operand} {b : ByteArray} (hs : P.underlying src = some .string) (hu : P.underlying dst = some (.slice e)) (he : P.underlying e = some (.int .u8)) (hx : s.eval x = .imm (.string b)) (hb : b.size ≤ 9223372036854775807) (hd : Nat.blt d E.n = true := by exact rfl)
    (hn : LWo P E all rest Q (s.put (some d) (encBs b.data.toList))) :
    LWo P E all ({ dst := some d, op := .convert src dst x, type := ty, pos := pos, after := af, guard := none } :: rest) Q s :=
  LWo.value _ rfl (fun a w ok ρ F hi => by
    have hr := run_bytes_of_string (P := P) w src dst e b hs hu he; have hg : grownCap w b.size 0 e = b.size + (w.tape w.drawn (.appendCap b.size 0 e)) % (2 ^ 63 - b.size) := rfl; have hlt := Nat.mod_lt (w.tape w.drawn (.appendCap b.size 0 e)) (show 2 ^ 63 - b.size > 0 by omega); generalize (w.tape w.drawn (.appendCap b.size 0 e)) % (2 ^ 63 - b.size) = m at *; generalize grownCap w b.size 0 e = c at *; have hc : c ≤ 9223372036854775807 ∧ b.size ≤ c := by omega
    refine ⟨.value (.slice (some ⟨w.heap.size, 0, none⟩) b.size c), w.drew.alloc (.cells (bytesRow b c) e ((bytesRow b c).size, (bytesRow b c).size + 1)), ?_, .inl ⟨_, rfl, _, _, _, (hi.drew.newFro (.cells (bytesRow b c) e ((bytesRow b c).size, (bytesRow b c).size + 1))).put hd ?_⟩⟩
    · clear hlt hc hg
      simp only [execOp, hi.imm hx]; rw [Sem.run_bind, hr]; rfl
    · have hsz : b.size = b.data.toList.length := rfl
      rw [hsz]
      by_cases h0 : b.data.toList = []
      · rw [h0]
        exact .fro (.sl0 (by unfold maxLen; omega))
      · refine .fro ?_
        have : (b.data.toList.map encB).length = b.data.toList.length := by simp
        unfold encBs; rw [← this]; refine .sl (by simpa using h0) (by intro x hx; obtain ⟨y, _, rfl⟩ := List.mem_map.1 hx; rfl) (fro_bytes _) ?_ (.inr rfl) (by rw [this, ← hsz]; exact hc.2) (by unfold maxLen; omega); intro k v hk; rw [add_plain]; have h1 := World.cell?_alloc_mark w.drew (bytesRow b c) e ((bytesRow b c).size, (bytesRow b c).size + 1) (0 + k); have h2 : (w.drew).heap.size = w.heap.size := rfl; rw [h2] at h1; rw [h1, Nat.zero_add]; obtain ⟨y, hy, rfl⟩ : ∃ y, b.data.toList[k]? = some y ∧ Value.int .u8 y.toNat = v := by simpa [List.getElem?_map] using hk
        have hlt : k < b.data.size := by
          have := (List.getElem?_eq_some_iff.1 hy).1; simpa using this
        rw [bytesRow_at b c k hlt]
        have : b.data[k] = y := by
          have := (List.getElem?_eq_some_iff.1 hy).2; simpa using this
        rw [this]) hn
theorem ArgsOK.refl {s : LState} : ∀ {xs : List LV}, ArgsOK s [] xs xs []
  | [] => .nil
  | _ :: _ => .same ArgsOK.refl
theorem LWo.lit {T e : TypeId} {sz n : Nat} {z : Value} {ops : List Operand} (xs : List LV) (hu : P.underlying T = some (.slice e)) (hz : ∀ w, (sizeOf e).run P w = .ok sz w) (hzv : ∀ w, (zeroValue e).run P w = .ok z w)
    (hx : ops.map s.eval = xs) (hc : xs.all (fun x => x.cellable && x.cells.length == sz && x.pure) = true) (hl : ops.length = n) (hm : Nat.ble (n * sz) 16777216 = true) (h0 : Nat.blt 0 n = true) (hsz : Nat.blt 0 sz = true) (hd : Nat.blt d E.n = true := by exact rfl)
    (hn : LWo P E all rest Q (s.put (some d) (.sl sz xs))) :
    LWo P E all ({ dst := some d, op := .buildSlice T n ((ops.zipIdx).map fun p => (p.2, p.1)).toArray, type := ty, pos := pos, after := af, guard := none } :: rest) Q s :=
  LWo.literal xs hu hz hzv hx (fun x hx => by
    have := List.all_eq_true.1 hc x hx; simp only [Bool.and_eq_true, beq_iff_eq] at this; exact ⟨this.1.1, this.1.2, this.2⟩) hl (Nat.le_of_ble_eq_true hm) (by rintro rfl; cases h0) (by rintro rfl; cases hsz) hd hn
theorem LWo.convByte {src dst : TypeId} {x : Operand} (b : UInt8) {u : TypeDesc} (hu : P.underlying src = some u) (hk : P.underlying dst = some (.int .i64)) (hx : s.eval x = encB b) (hd : Nat.blt d E.n = true := by exact rfl)
    (hn : LWo P E all rest Q (s.put (some d) (.imm (.int .i64 b.toNat)))) :
    LWo P E all ({ dst := some d, op := .convert src dst x, type := ty, pos := pos, after := af, guard := none } :: rest) Q s :=
  LWo.convInt hu hk hx hd (by
    have : IntKind.i64.wrap ((b.toNat : Nat) : Int) = b.toNat := wrap64_in (by omega) (by have := b.toNat_lt; omega); rw [this]; exact hn)
theorem lv1 {x : Operand} {a : LV} (h : s.eval x = a) : [x].map s.eval = [a] := by simp [h]
theorem av1 {x : Operand} {a : LV} (h : s.eval x = a) : [x].map s.eval ++ [] = [a] := by simp [h]
end
end Go.Lift
