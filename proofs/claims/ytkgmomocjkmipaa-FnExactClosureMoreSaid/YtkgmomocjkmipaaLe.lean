/- The logic, part five: lists that are sorted by an order. -/
import Derived.Test.YtkgmomocjkmipaaLd
import Derived.Shelf.SlSortCmp.NoneTotal
set_option linter.unusedVariables false
set_option linter.unusedSimpArgs false
set_option linter.unnecessarySimpa false
/- The lifted logic, part 44: slices.SortFunc at structs of flat cells, out of the shelf's contract. Own work. -/
namespace Go.Lift
open Go.RowKit Go.Proofs Go.Shelf Go.Sort

theorem fk_get {α : Type} {enc : α → List Value} {k : Nat} (hk : ∀ x, (enc x).length = k) (hp : 0 < k) : ∀ (l : List α) (t : Nat), (l.flatMap enc)[t]? = (l[t / k]?).bind fun x => (enc x)[t % k]?
  | [], t => by simp
  | x :: l, t => by
    rw [List.flatMap_cons]
    rcases Nat.lt_or_ge t k with h | h
    · rw [List.getElem?_append_left (by rw [hk]; exact h), Nat.div_eq_of_lt h, Nat.mod_eq_of_lt h]
      rfl
    · rw [List.getElem?_append_right (by rw [hk]; exact h), hk, fk_get hk hp l (t - k)]
      have e1 : t / k = (t - k) / k + 1 := by rw [Nat.div_eq_sub_div hp h]
      have e2 : t % k = (t - k) % k := by rw [Nat.mod_eq_sub_mod h]
      rw [e1, e2, List.getElem?_cons_succ]
theorem fk_len {α : Type} {enc : α → List Value} {k : Nat} (hk : ∀ x, (enc x).length = k) : ∀ (l : List α), (l.flatMap enc).length = l.length * k
  | [] => by simp
  | x :: l => by rw [List.flatMap_cons, List.length_append, hk, fk_len hk l, List.length_cons, Nat.succ_mul, Nat.add_comm]
theorem flatK_get {α : Type} [Inhabited α] {enc : α → List Value} {k : Nat} (hk : ∀ x, (enc x).length = k) (hp : 0 < k) (d : Array α) {t : Nat} (ht : t < d.size * k) : (d.toList.flatMap enc)[t]? = some (flatK enc k d)[t]! := by
  have h1 : t / k < d.size := Nat.div_lt_of_lt_mul (by rwa [Nat.mul_comm] at ht)
  have h2 : t % k < k := Nat.mod_lt _ hp
  rw [get_flatK enc k d t ht, fk_get hk hp]
  have e1 : d.toList[t / k]? = some d[t / k]! := by
    rw [Array.getElem?_toList, getElem!_pos d _ h1, Array.getElem?_eq_getElem h1]
  rw [e1, Option.bind_some]
  have h3 : t % k < (enc d[t / k]!).length := by rw [hk]; exact h2
  rw [List.getElem?_eq_getElem h3, getElem!_pos (enc d[t / k]!) (t % k) h3]
theorem fk_imm {w : World} {ok : Nat → Prop} : ∀ {xs vs : List Value}, FroL w ok (xs.map .imm) vs → vs = xs
  | [], _, h => by cases h; rfl
  | x :: xs, _, h => by
    cases h with
    | cons h1 _ h2 => cases h1; rw [fk_imm h2]
theorem fk_of {w : World} {ok : Nat → Prop} : ∀ {xs : List Value}, (∀ v ∈ xs, v.oneCell' = true) → FroL w ok (xs.map .imm) xs
  | [], _ => .nil
  | x :: xs, h => .cons (.imm x) (h x (by simp)) (fk_of fun v hv => h v (by simp [hv]))
theorem ext_grow {W w' : World} (h : Ext W [] w') : ∃ q os, w' = grow (W.drewN q) os := by
  refine ⟨w'.drawn - W.drawn, w'.heap.extract W.heap.size w'.heap.size, ?_⟩
  obtain ⟨h1, h2, h3, h4, h5, h6⟩ := h
  cases W; cases w'
  simp only [grow, World.drewN] at *
  subst h1 h2 h3
  congr 1
  · apply Array.ext_getElem?
    intro i
    rename_i hp _ _ _ _ hp' _
    rcases Nat.lt_or_ge i hp.size with hi | hi
    · rw [h5 i hi (by simp), Array.getElem?_append_left hi]
    · rw [Array.getElem?_append_right hi, Array.getElem?_extract]
      split
      · congr 1; omega
      · exact Array.getElem?_eq_none (by omega)
  · omega
section
variable {α : Type} [Inhabited α] (enc : α → List Value) (k : Nat)
theorem sortW_other (w : World) (blk off n : Nat) (d : Array α) (os : Array Obj) {b : Nat} (hb : b ≠ blk) (hl : b < w.heap.size) : (sortWorldK enc k w blk off n d os).heap[b]? = w.heap[b]? := by
  unfold sortWorldK putRowK putRow
  rw [heap_grow_old _ _ (by simpa [mapBlock] using hl)]
  unfold mapBlock
  rw [Array.getElem?_modify, if_neg (Ne.symm hb)]
  rfl
theorem sortW_at (w : World) (blk off n : Nat) (d : Array α) (os : Array Obj) {arr : Array Value} {t : TypeId} {fr : Nat × Nat} (hb : w.heap[blk]? = some (.cells arr t fr)) : (sortWorldK enc k w blk off n d os).heap[blk]? = some (.cells (putCells id off (flatK enc k d) arr) t fr) := by
  have hl : blk < w.heap.size := (Array.getElem?_eq_some_iff.1 hb).1
  unfold sortWorldK putRowK putRow
  rw [heap_grow_old _ _ (by simpa [mapBlock] using hl)]
  unfold mapBlock
  rw [Array.getElem?_modify, if_pos rfl, heap_ahead, hb]
  rfl
end
/-- What is asked of the order. -/
structure Order {α : Type} (cf : α → α → Int) : Prop where
  swo : SWO (ltOf cf)
  tot : ∀ x y, ltOf cf x y = false → ltOf cf y x = false → x = y
theorem cmp_lays {P : Program} {α : Type} [Inhabited α] {e : α → LV} {enc : α → List Value} {k : Nat} (he : ∀ x, e x = .agg ((enc x).map .imm)) (h1 : ∀ x, ∀ v ∈ enc x, v.oneCell' = true) {cf : α → α → Int} {g : FuncId} {q : List LV} (hg : ∀ a b, Ret P g (e a :: e b :: q) (e_int (cf a b)))
    {w : World} {ok : Nat → Prop} {caps : List Value} (hc : FroL w ok q caps) (hok : ∀ b, ok b → b < w.heap.size) {blk : Nat} (hb : ¬ ok blk) (off size : Nat) : CmpLays P g caps.toArray enc k cf blk off size w := by
  intro m os dk hs x y
  have hst : FroL (sortWorldK enc k w blk off m dk os) ok q caps := hc.stable (fun b hb' => sortW_other enc k w blk off m dk os (fun e => hb (e ▸ hb')) (hok b hb')) (fun _ h => h)
  have hx : ∀ z, Rep (sortWorldK enc k w blk off m dk os) ok (fun _ => none) (e z) (.agg (enc z).toArray) := fun z => by
    rw [he z]; exact .fro (.agg (fk_of (h1 z)))
  have hq : RepT (sortWorldK enc k w blk off m dk os) ok (fun _ => none) q caps := by
    have : ∀ {qs : List LV} {cs : List Value}, FroL (sortWorldK enc k w blk off m dk os) ok qs cs → RepT (sortWorldK enc k w blk off m dk os) ok (fun _ => none) qs cs := by
      intro qs
      induction qs with
      | nil => intro cs h; cases h; exact .nil
      | cons a qs ih => intro cs h; cases h with | cons h1 _ h2 => exact .cons (.fro h1) (ih h2)
    exact this hst
  have hle : w.heap.size ≤ (sortWorldK enc k w blk off m dk os).heap.size := size_sortWorldK_c enc k w blk off m dk os
  have hh := (hg x y).2 (sortWorldK enc k w blk off m dk os) (.agg (enc x).toArray :: .agg (enc y).toArray :: caps) ok (fun _ => none) (fun _ => []) (.cons (hx x) (.cons (hx y) hq)) ⟨by simp [hkeys], by simp, by simp [fpsOf], by simp [fpsOf]⟩ (fun b hb' => Nat.lt_of_lt_of_le (hok b hb') hle)
  have ea : #[Value.agg (enc x).toArray, Value.agg (enc y).toArray] ++ caps.toArray = (Value.agg (enc x).toArray :: Value.agg (enc y).toArray :: caps).toArray := by simp
  rw [ea]
  refine Calls.mono hh ?_
  rintro e' w' ⟨v, r, hl', ok', F', fr, rfl, ⟨rfl, rfl⟩, hext, hres, _⟩
  obtain ⟨n, os', hw⟩ := ext_grow (W := sortWorldK enc k w blk off m dk os) (w' := w') (by simpa [fpsOf, rwOf] using hext)
  refine ⟨?_, n, os', hw⟩
  cases hres with
  | fro h => cases h; rfl
theorem sortFunc_does {P : Program} {ρ : Ren} (L : SlLaysF0.n6 P ρ) {α : Type} [Inhabited α] (e : α → LV) (enc : α → List Value) (k : Nat) (hp : 0 < k) (he : ∀ x, e x = .agg ((enc x).map .imm)) (hk : ∀ x, (enc x).length = k) (h1 : ∀ x, ∀ v ∈ enc x, v.oneCell' = true)
    (aE : ∀ w, (isAgg (ρ.t 24)).run P w = .ok true w) (zE : ∀ w, (Go.sizeOf (ρ.t 24)).run P w = .ok k w) (cf : α → α → Int) (hO : Order cf) (g : FuncId) (q : List LV) (hq : LV.pure.pureL q = true) (hg : ∀ a b, Ret P g (e a :: e b :: q) (e_int (cf a b))) (l : List α) (hl : l.length < 4611686018427387904) :
    Does P (ρ.f 6) [.own 0 0 l.length, .clo g q] [(0, lob k e l)] (fun x hh => x = .tup [] ∧ hh = [(0, lob k e (l.mergeSort fun x y => !(ltOf cf) y x))]) := by
  refine ⟨L.f6.enters rfl, ?_⟩
  intro w vs ok ρ' F hv hH hok
  have hcells : ∀ l : List α, (l.map e).flatMap LV.cells = (l.flatMap enc).map .imm := fun l => by
    induction l with
    | nil => rfl
    | cons x l ih => rw [List.map_cons, List.flatMap_cons, ih, he x, List.flatMap_cons, List.map_append]; rfl
  cases hv with
  | cons hv0 hv =>
  cases hv with
  | cons hv1 hv =>
  cases hv
  rename_i v0 v1
  obtain ⟨caps, rfl, hcaps⟩ := hv1.clo_inv
  have hcapsF := RepL.pure hq hcaps
  have hobj := hH.objs (0, lob k e l) (by simp)
  rcases hv0.own_inv with ⟨p, c, hp0, hpc, hnc, rfl⟩ | ⟨hn, a, rfl⟩
  · rcases hobj with ⟨h2, _⟩ | ⟨p', arr, t, vs', fps, h2, hF, hat⟩
    · rw [hp0] at h2; cases h2
    · rw [hp0] at h2; cases h2
      have hF0 : F 0 = p.blk :: fps := hF
      have hcl : fps = [] ∧ FroL w ok ((l.map e).flatMap LV.cells) vs' := hat.cells
      obtain ⟨rfl, hfl⟩ := hcl
      rw [hcells] at hfl
      obtain rfl := fk_imm hfl
      have hapart := hH.apart p.blk (by simp [fpsOf, hF0])
      have hvl : (l.flatMap enc).length = l.length * k := fk_len hk l
      have hget : ∀ t, t < l.length * k → arr[t]? = some (flatK enc k l.toArray)[t]! := fun t ht => by
        have := flatK_get hk hp l.toArray (t := t) (by simpa using ht)
        exact hat.vals t _ (by simpa using this)
      have hHolds : HoldsK enc k w p.blk 0 l.toArray := by
        intro j hj
        have hj' : j < l.length * k := by simpa using hj
        have := hget j hj'
        refine ⟨?_, ?_⟩
        · simp only [World.cell?, hat.blk, Nat.zero_add]
          simpa using this
        · simp [World.frozen?, hat.blk]
      have hsl : (⟨p.blk, 0 * p.sz, none⟩ : Addr) = ⟨p.blk, 0, none⟩ := by rw [Nat.zero_mul]
      have hm := AnyQ.slices_SortFunc_total L k aE zE enc hk h1 cf hO.swo g caps.toArray p.blk 0 c l.toArray w ((hg default default).1) (cmp_lays he h1 hg hcapsF hok hapart.1 0 l.toArray.size) hHolds hapart.2 (by simpa using hl) hO.tot
      have ea : #[Value.slice (some ⟨p.blk, 0, none⟩) l.toArray.size c, .func (.func g) #[] caps.toArray] = [Value.slice (some ⟨p.blk, 0 * p.sz, none⟩) l.length c, .func (.func g) #[] caps.toArray].toArray := by simp
      rw [ea] at hm
      refine Calls.mono hm ?_
      rintro e' w' ⟨rfl, n, os, rfl⟩
      generalize hs : (l.toArray.toList.mergeSort fun x y => !(ltOf cf) y x) = l2
      have hs' : (l.mergeSort fun x y => !(ltOf cf) y x) = l2 := by simpa using hs
      have hlen : l2.length = l.length := by rw [← hs']; exact List.length_mergeSort l
      have hsz : w.heap.size ≤ (sortWorldK enc k w p.blk 0 n l2.toArray os).heap.size := size_sortWorldK_c enc k w p.blk 0 n l2.toArray os
      refine ⟨.tuple #[], .tup [], [(0, lob k e l2)], ok, F, [], rfl, ⟨rfl, rfl⟩, ?_, .tup .nil, by simp [hkeys], ?_, ?_, ?_, ?_⟩
      · refine ⟨rfl, rfl, rfl, hsz, fun b hb hn => ?_, ?_⟩
        · exact sortW_other enc k w p.blk 0 n l2.toArray os (fun e => hn (by simp [fpsOf, rwOf, lob, hF0, e])) hb
        · show w.drawn ≤ w.drawn + n
          omega
      · intro x hx
        obtain rfl := List.mem_singleton.1 hx
        refine ⟨rfl, by simp [rwOf, lob, hkeys], .inr ⟨p, putCells id 0 (flatK enc k l2.toArray) arr, t, l2.flatMap enc, [], hp0, hF0, ?_⟩⟩
        have hput : (putCells id 0 (flatK enc k l2.toArray) arr).size = arr.size := by simp [putCells]
        refine ⟨hat.sz, ?_, ?_, hat.cap, sortW_at enc k w p.blk 0 n l2.toArray os hat.blk, by rw [hput]; exact hat.room, ?_, rfl, ?_⟩
        · intro y hy
          obtain ⟨z, _, rfl⟩ := List.mem_map.1 hy
          rw [he z]; simp [hk, lob]
        · show (l2.map e).length ≤ p.cap
          have h5 : (l.map e).length ≤ p.cap := hat.len
          rw [List.length_map] at h5 ⊢
          omega
        · intro j v hj
          have hjl : j < l2.length * k := by
            have := (List.getElem?_eq_some_iff.1 hj).1
            rwa [fk_len hk] at this
          have hv : v = (flatK enc k l2.toArray)[j]! := by
            have h6 := flatK_get hk hp l2.toArray (t := j) (by simpa using hjl)
            rw [show l2.toArray.toList = l2 from rfl, hj] at h6
            exact Option.some.inj h6
          have harr : j < arr.size := by
            have := hget j (by rw [← hlen]; exact hjl)
            exact (Array.getElem?_eq_some_iff.1 this).1
          unfold putCells
          rw [Array.getElem?_mapIdx, Array.getElem?_eq_getElem harr, Option.map_some, if_pos ⟨Nat.zero_le _, by simpa using hjl⟩, hv]
          rfl
        · rw [show (lob k e l2).elems = l2.map e from rfl, hcells]
          refine fk_of fun v hv => ?_
          obtain ⟨x, _, hx⟩ := List.mem_flatMap.1 hv
          exact h1 x v hx
      · simp [fpsOf, hF0]
      · intro b hb
        have : b = p.blk := by simpa [fpsOf, hF0] using hb
        subst this
        exact ⟨hapart.1, Nat.lt_of_lt_of_le hapart.2 hsz, fun _ => by simp [fpsOf, rwOf, lob, hF0]⟩
      · exact fun b hb => ⟨Nat.lt_of_lt_of_le (hok b hb) hsz, fun _ => .inl hb⟩
  · obtain rfl : l = [] := by cases l with | nil => rfl | cons => simp at hn
    have hm := AnyF.slices_SortFunc_none L a 0 (.func (.func g) #[] caps.toArray) w
    refine Calls.mono hm ?_
    rintro e' w' ⟨rfl, rfl⟩
    refine ⟨.tuple #[], .tup [], [(0, lob k e [])], ok, F, [], rfl, ⟨rfl, by rw [List.mergeSort_nil]⟩, ⟨rfl, rfl, rfl, Nat.le_refl _, fun _ _ _ => rfl, Nat.le_refl _⟩, .tup .nil, by simp [hkeys], ?_, ?_, ?_, ?_⟩
    · intro x hx
      obtain rfl := List.mem_singleton.1 hx
      exact ⟨rfl, by simp [rwOf, lob, hkeys], hobj⟩
    · simpa using hH.nodup
    · intro b hb
      have hb' : b ∈ fpsOf F [(0, lob k e [])] := by simpa using hb
      have := hH.apart b hb'
      exact ⟨this.1, this.2, fun _ => by simpa [rwOf, lob] using hb'⟩
    · exact fun b hb => ⟨hok b hb, fun _ => .inl hb⟩
end Go.Lift
