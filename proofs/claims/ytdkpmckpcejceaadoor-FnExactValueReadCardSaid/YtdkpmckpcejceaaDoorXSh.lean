/- Itoa and Atoi of the shelf, in the form of the lifted logic. -/
import Derived.Shelf.Strconv.ErrVarAll
import Derived.Shelf.Strconv.Itoa3
import Derived.Shelf.Lay
import Derived.Ground.NamesProg
import Derived.Test.YtdkpmckpcejceaaDoorProg
import Derived.Test.YtdkpmckpcejceaaDoorLd
set_option linter.unusedVariables false
set_option linter.unusedSimpArgs false
set_option linter.unnecessarySimpa false
namespace Go.Proofs
open Go.Shelf
shelf_lay LaysC.n172 Nm 172 at Tryd as Tryd.laysAtoi
shelf_lay LaysM.n171 Nm 171 at Tryd as Tryd.laysItoa
end Go.Proofs
namespace Go.Lift
open Go.RowKit Go.Sort
theorem var_ext {P : Program} {w0 w : World} {l : List Nat} {name : String} {cs : Array Value} (h : w0.var? P name = some cs) (hx : Ext w0 [] w) : w.var? P name = some cs := by
  unfold World.var? at *; cases hg : P.globalNamed name with
  | none => rw [hg] at h; cases h
  | some g =>
    rw [hg] at h; simp only [Option.bind_some] at h ⊢; cases hb : w0.heap[g]? with
    | none => rw [hb] at h; cases h
    | some o =>
      have hlt : g < w0.heap.size := by
        rcases Nat.lt_or_ge g w0.heap.size with h1 | h1
        · exact h1
        · rw [Array.getElem?_eq_none h1] at hb; cases hb
      rw [hx.block g hlt (by simp), hb]; rw [hb] at h; exact h
def GWP (P : Program) (w : World) : Prop := Go.Lib.TabIs P w "internal/strconv.uint64pow10" .u64 Go.Lib.pow10Tab ∧ (∃ tp p, w.var? P "strconv.ErrSyntax" = some #[.iface tp p]) ∧ ∃ tp p, w.var? P "strconv.ErrRange" = some #[.iface tp p]
theorem GWP.st {P : Program} {w0 w : World} (h : GWP P w0) (hx : Ext w0 [] w) : GWP P w := by
  obtain ⟨h1, ⟨a, b, h2⟩, ⟨c, d, h3⟩⟩ := h; exact ⟨var_ext (l := []) h1 hx, ⟨a, b, var_ext (l := []) h2 hx⟩, ⟨c, d, var_ext (l := []) h3 hx⟩⟩
theorem DoesG.pure {P : Program} {G : World → Prop} {f : FuncId} {u : Value} {Post : LV → LHeap → Prop} (he : ∀ vs w, (callFunc f vs).run P w = .ok (.enter f vs) w)
    (h : ∀ w, G w → Calls P f #[u] w fun e w' => ∃ v r, e = .returned v ∧ Post r [] ∧ Ext w [] w' ∧ ∀ ok, Res w' ok r v []) : DoesG P G f [.imm u] Post := by
  refine ⟨he, fun w vs ok ρ F hG hT hH hok => ?_⟩; cases hT with
  | cons h1 h2 =>
    cases h2; rw [h1.imm_inv]; refine (h w hG).mono ?_; rintro e w' ⟨v, r, rfl, hp, hx, hr⟩; exact ⟨v, r, [], ok, F, [], rfl, hp, hx, hr ok, by simp [hkeys], by simp, by simp [fpsOf], by simp [fpsOf], fun k hk => ⟨Nat.lt_of_lt_of_le (hok k hk) hx.size, fun _ => .inl hk⟩⟩
theorem ext_of_grow {w : World} {k : Nat} {os : Array Obj} : Ext w [] (grow (w.drewN k) os) :=
  ⟨rfl, rfl, rfl, by simp [grow, World.drewN], fun j hj _ => heap_grow_old _ _ (by simpa [World.drewN] using hj), by simp [grow, World.drewN]⟩
theorem ext_bytes {w : World} {t : TypeId} {s : ByteArray} : Ext w [] (Go.Lib.bytesWorld w t s) :=
  ⟨rfl, rfl, rfl, by rw [Go.Lib.bytesWorld_size]; omega, fun j hj _ => Go.Lib.bytesWorld_at_old w t s j hj, by
    show w.drawn ≤ w.drawn + 1; omega⟩
theorem ext_of_grow0 {w : World} : Ext w [] w := ⟨rfl, rfl, rfl, Nat.le_refl _, fun _ _ _ => rfl, Nat.le_refl _⟩
abbrev GW : World → Prop := GWP Go.Proofs.Tryd.prog
theorem GW_st : ∀ w0 w, GW w0 → Ext w0 [] w → GW w := fun _ _ h hx => h.st hx
end Go.Lift
