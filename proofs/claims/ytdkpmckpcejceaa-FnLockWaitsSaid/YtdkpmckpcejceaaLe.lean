/- The logic, part five: lists that are sorted. -/
import Derived.Test.YtdkpmckpcejceaaLd
import Derived.Shelf.SlSortCmp.NoneTotal
import Derived.KernelRfl
import Derived.Shelf.Sort.Plain
import Derived.Shelf.Slices.In.SortNone
set_option linter.unusedVariables false
set_option linter.unusedSimpArgs false
set_option linter.unnecessarySimpa false
/- The lifted logic, part 44: slices.SortFunc at structs of flat cells, out of the shelf's contract. Own work. -/
namespace Go.Lift
open Go.RowKit Go.Proofs Go.Shelf Go.Sort
theorem fk_imm {w : World} {ok : Nat → Prop} : ∀ {xs vs : List Value}, FroL w ok (xs.map .imm) vs → vs = xs
  | [], _, h => by cases h; rfl
  | x :: xs, _, h => by
    cases h with
    | cons h1 _ h2 => cases h1; rw [fk_imm h2]
theorem fk_of {w : World} {ok : Nat → Prop} : ∀ {xs : List Value}, (∀ v ∈ xs, v.oneCell' = true) → FroL w ok (xs.map .imm) xs
  | [], _ => .nil
  | x :: xs, h => .cons (.imm x) (h x (by simp)) (fk_of fun v hv => h v (by simp [hv]))
section
variable {α : Type} [Inhabited α] (enc : α → List Value) (k : Nat)
end
structure Order {α : Type} (cf : α → α → Int) : Prop where
  swo : SWO (ltOf cf)
  tot : ∀ x y, ltOf cf x y = false → ltOf cf y x = false → x = y
end Go.Lift
/- The lifted logic, part 66: slices.Sort of numbers, out of the shelf's contract. Own work. -/
namespace Go.Lift
open Go.RowKit Go.Proofs Go.Shelf Go.Sort
section
theorem sortI_other (w : World) (blk off n : Nat) (d : Array Int) (os : Array Obj) {b : Nat} (hb : b ≠ blk) (hl : b < w.heap.size) : (grow (putRow (Value.int .i64) (Sort.ahead w n) blk off d) os).heap[b]? = w.heap[b]? := by
  unfold putRow; rw [heap_grow_old _ _ (by simpa [mapBlock] using hl)]; unfold mapBlock; rw [Array.getElem?_modify, if_neg (Ne.symm hb)]; rfl
theorem sortI_at (w : World) (blk off n : Nat) (d : Array Int) (os : Array Obj) {arr : Array Value} {t : TypeId} {fr : Nat × Nat} (hb : w.heap[blk]? = some (.cells arr t fr)) : (grow (putRow (Value.int .i64) (Sort.ahead w n) blk off d) os).heap[blk]? = some (.cells (putCells (Value.int .i64) off d arr) t fr) := by
  have hl : blk < w.heap.size := (Array.getElem?_eq_some_iff.1 hb).1; unfold putRow; rw [heap_grow_old _ _ (by simpa [mapBlock] using hl)]; unfold mapBlock; rw [Array.getElem?_modify, if_pos rfl, heap_ahead, hb]; rfl
theorem sortI_size (w : World) (blk off n : Nat) (d : Array Int) (os : Array Obj) : w.heap.size ≤ (grow (putRow (Value.int .i64) (Sort.ahead w n) blk off d) os).heap.size := by
  unfold putRow mapBlock grow; simp [Sort.ahead, World.drewN]
end
theorem sortInt_does {P : Program} {ρ : Ren} (L : Lays.n189 P ρ) (l : List Int) (hl : l.length < 4611686018427387904) :
    Does P (ρ.f 189) [.own 0 0 l.length] [(0, lob 1 e_int l)] (fun x hh => x = .tup [] ∧ hh = [(0, lob 1 e_int (l.mergeSort fun x y => decide (x ≤ y)))]) := by
  refine ⟨enters_of L.f189 (by kernel_rfl) rfl, ?_⟩; intro w vs ok ρ' F hv hH hok
  have hcells : ∀ l : List Int, (l.map e_int).flatMap LV.cells = (l.map fun x => Value.int .i64 x).map .imm := fun l => by
    induction l with
    | nil => rfl
    | cons x l ih => rw [List.map_cons, List.flatMap_cons, ih, List.map_cons, List.map_cons]; rfl
  cases hv with
  | cons hv0 hv =>
  cases hv; rename_i v0; have hobj := hH.objs (0, lob 1 e_int l) (by simp); rcases hv0.own_inv with ⟨p, c, hp0, hpc, hnc, rfl⟩ | ⟨hn, a, rfl⟩
  · rcases hobj with ⟨h2, _⟩ | ⟨p', arr, t, vs', fps, h2, hF, hat⟩
    · rw [hp0] at h2; cases h2
    · rw [hp0] at h2; cases h2
      have hF0 : F 0 = p.blk :: fps := hF; have hcl : fps = [] ∧ FroL w ok ((l.map e_int).flatMap LV.cells) vs' := hat.cells; obtain ⟨rfl, hfl⟩ := hcl; rw [hcells] at hfl; obtain rfl := fk_imm hfl; have hapart := hH.apart p.blk (by simp [fpsOf, hF0])
      have hget : ∀ t (ht : t < l.length), arr[t]? = some (.int .i64 l[t]) := fun t ht => by
        exact hat.vals t _ (by simp [ht])
      have hHolds : Holds (Value.int .i64) w p.blk 0 l.toArray := by
        intro j hj; have hj' : j < l.length := by simpa using hj
        have := hget j hj'; refine ⟨?_, ?_⟩
        · simp only [World.cell?, hat.blk, Nat.zero_add]
          rw [getElem!_pos l.toArray j hj]; simpa using this
        · simp [World.frozen?, hat.blk]
      have hm := Any.slices_Sort_int L p.blk 0 c l w hHolds hapart.2 hl; have ea : #[Value.slice (some ⟨p.blk, 0, none⟩) l.length c] = [Value.slice (some ⟨p.blk, 0 * p.sz, none⟩) l.length c].toArray := by simp
      rw [ea] at hm; refine Calls.mono hm ?_; rintro e' w' ⟨rfl, n, os, rfl⟩; generalize hs : (l.mergeSort fun x y => decide (x ≤ y)) = l2; have hlen : l2.length = l.length := by rw [← hs]; exact List.length_mergeSort l
      have hsz := sortI_size w p.blk 0 n l2.toArray os; refine ⟨.tuple #[], .tup [], [(0, lob 1 e_int l2)], ok, F, [], rfl, ⟨rfl, rfl⟩, ?_, .tup .nil, by simp [hkeys], ?_, ?_, ?_, ?_⟩
      · refine ⟨rfl, rfl, rfl, hsz, fun b hb hn => ?_, ?_⟩
        · exact sortI_other w p.blk 0 n l2.toArray os (fun e => hn (by simp [fpsOf, rwOf, lob, hF0, e])) hb
        · show w.drawn ≤ w.drawn + n
          omega
      · intro x hx
        obtain rfl := List.mem_singleton.1 hx; refine ⟨rfl, by simp [rwOf, lob, hkeys], .inr ⟨p, putCells (Value.int .i64) 0 l2.toArray arr, t, l2.map fun x => Value.int .i64 x, [], hp0, hF0, ?_⟩⟩; have hput : (putCells (Value.int .i64) 0 l2.toArray arr).size = arr.size := by simp [putCells]
        refine ⟨hat.sz, ?_, ?_, hat.cap, sortI_at w p.blk 0 n l2.toArray os hat.blk, by rw [hput]; exact hat.room, ?_, rfl, ?_⟩
        · intro y hy
          obtain ⟨z, _, rfl⟩ := List.mem_map.1 hy; rfl
        · show (l2.map e_int).length ≤ p.cap
          have h5 : (l.map e_int).length ≤ p.cap := hat.len; rw [List.length_map] at h5 ⊢; omega
        · intro j v hj
          have hjl : j < l2.length := by
            have := (List.getElem?_eq_some_iff.1 hj).1; simpa using this
          have hv : v = .int .i64 l2.toArray[j]! := by
            rw [getElem!_pos l2.toArray j (by simpa using hjl)]; simp [hjl] at hj; simpa using hj.symm
          have harr : j < arr.size := by
            have := hget j (by rw [← hlen]; exact hjl); exact (Array.getElem?_eq_some_iff.1 this).1
          unfold putCells; rw [Array.getElem?_mapIdx, Array.getElem?_eq_getElem harr, Option.map_some, if_pos ⟨Nat.zero_le _, by simpa using hjl⟩, hv]; rfl
        · rw [show (lob 1 e_int l2).elems = l2.map e_int from rfl, hcells]
          refine fk_of fun v hv => ?_; obtain ⟨x, _, rfl⟩ := List.mem_map.1 hv; rfl
      · simp [fpsOf, hF0]
      · intro b hb
        have : b = p.blk := by simpa [fpsOf, hF0] using hb
        subst this; exact ⟨hapart.1, Nat.lt_of_lt_of_le hapart.2 hsz, fun _ => by simp [fpsOf, rwOf, lob, hF0]⟩
      · exact fun b hb => ⟨Nat.lt_of_lt_of_le (hok b hb) hsz, fun _ => .inl hb⟩
  · obtain rfl : l = [] := by cases l with | nil => rfl | cons => simp at hn
    have hm := Any.slices_Sort_int_none L a 0 w; refine Calls.mono hm ?_; rintro e' w' ⟨rfl, rfl⟩; refine ⟨.tuple #[], .tup [], [(0, lob 1 e_int [])], ok, F, [], rfl, ⟨rfl, by rw [List.mergeSort_nil]⟩, ⟨rfl, rfl, rfl, Nat.le_refl _, fun _ _ _ => rfl, Nat.le_refl _⟩, .tup .nil, by simp [hkeys], ?_, ?_, ?_, ?_⟩
    · intro x hx
      obtain rfl := List.mem_singleton.1 hx; exact ⟨rfl, by simp [rwOf, lob, hkeys], hobj⟩
    · simpa using hH.nodup
    · intro b hb
      exact ⟨(hH.apart b hb).1, (hH.apart b hb).2, fun _ => by simpa [fpsOf, rwOf, lob, hkeys] using hb⟩
    · exact fun b hb => ⟨hok b hb, fun _ => .inl hb⟩
end Go.Lift
