/- A logic over the model: lifted values and states, the operations that compute, objects. -/
import Derived.Below
import Derived.Deep.Draws
import Derived.Tactics
import Derived.Laws.Cells
import Derived.WalkKit
import Derived.Laws.CopyRow
import Derived.Laws.Append
set_option linter.unusedVariables false
set_option linter.unusedSimpArgs false
set_option linter.unnecessarySimpa false
/- The lifted logic, part 1: lifted values, what they say of memory, and that this is stable. Own work. -/
namespace Go.Lift
open Go.RowKit
inductive LV where
  | junk
  | imm (v : Value)
  | agg (cs : List LV)
  | tup (vs : List LV)
  | sl (sz : Nat) (xs : List LV)
  | slx (sz : Nat) (xs : List LV)
  | mv (f : FuncId) (x : LV)
  | clo (f : FuncId) (caps : List LV)
  | fp (cs : List LV)
  | ptr (o i j : Nat)
  | own (o off n : Nat)
  | ownc (o off n c : Nat)
  | nw (sz : Nat) (xs : List LV) (deep : Bool)
  | nb (cs : List LV)
  | dv (cs : List LV)
  | mx (sz : Nat) (xs : List LV)
  | mp (o : Nat) (ks : List Int) (lim : Nat)
  | ms (cs : List LV)
def LV.cells : LV → List LV
  | .agg cs => cs
  | x => [x]
@[simp] theorem LV.cells_agg (cs : List LV) : (LV.agg cs).cells = cs := rfl
@[simp] theorem LV.cells_imm (v : Value) : (LV.imm v).cells = [.imm v] := rfl
@[simp] theorem LV.cells_sl (sz : Nat) (xs : List LV) : (LV.sl sz xs).cells = [.sl sz xs] := rfl
@[simp] theorem LV.cells_own (o off n : Nat) : (LV.own o off n).cells = [.own o off n] := rfl
@[simp] theorem LV.cells_ptr (o i j : Nat) : (LV.ptr o i j).cells = [.ptr o i j] := rfl
@[simp] theorem LV.cells_clo (f : FuncId) (c : List LV) : (LV.clo f c).cells = [.clo f c] := rfl
@[simp] theorem LV.cells_junk : (LV.junk).cells = [.junk] := rfl
def MapIs (es : Array MapEntry) (ks : List Int) : Prop := es.toList.map (fun e => (e.key, e.val)) = ks.map fun k => (Value.int .i64 k, Value.bool true)
def Cells (w : World) (ad : Addr) (vs : List Value) : Prop := ∀ k v, vs[k]? = some v → w.cell? (ad.add k) = some v
theorem add_block (a : Addr) (k : Nat) : (a.add k).block = a.block := by unfold Addr.add; split <;> rfl
theorem Cells.stable {w w' : World} {ad : Addr} {vs : List Value} (hb : w'.heap[ad.block]? = w.heap[ad.block]?) (h : Cells w ad vs) : Cells w' ad vs :=
  fun k v hk => by
    rw [World.cell?_of_block (w := w) (by rw [add_block]; exact hb)]; exact h k v hk
mutual
inductive Fro (w : World) (ok : Nat → Prop) : LV → Value → Prop
  | imm (v : Value) : Fro w ok (.imm v) v
  | agg {cs : List LV} {vs : List Value} : FroL w ok cs vs → Fro w ok (.agg cs) (.agg vs.toArray)
  | sl0 {sz c : Nat} {a : Option Addr} : c ≤ maxLen → Fro w ok (.sl sz []) (.slice a 0 c)
  | sl {sz c : Nat} {xs : List LV} {vs : List Value} {ad : Addr} : xs ≠ [] → (∀ x ∈ xs, x.cells.length = sz) → FroL w ok (xs.flatMap LV.cells) vs → Cells w ad vs → ok ad.block →
      xs.length ≤ c → c ≤ maxLen → Fro w ok (.sl sz xs) (.slice (some ad) xs.length c)
  | mv {f : FuncId} {x : LV} {v : Value} : Fro w ok x v → Fro w ok (.mv f x) (.func (.func f) #[v] #[])
  | slx0 {sz : Nat} {a : Option Addr} : Fro w ok (.slx sz []) (.slice a 0 0)
  | slx {sz : Nat} {xs : List LV} {vs : List Value} {ad : Addr} : xs ≠ [] → (∀ x ∈ xs, x.cells.length = sz) → FroL w ok (xs.flatMap LV.cells) vs → Cells w ad vs → ok ad.block →
      xs.length ≤ maxLen → Fro w ok (.slx sz xs) (.slice (some ad) xs.length xs.length)
  | clo {f : FuncId} {caps : List LV} {vs : List Value} : FroL w ok caps vs → Fro w ok (.clo f caps) (.func (.func f) #[] vs.toArray)
inductive FroL (w : World) (ok : Nat → Prop) : List LV → List Value → Prop
  | nil : FroL w ok [] []
  | cons {x : LV} {v : Value} {xs : List LV} {vs : List Value} : Fro w ok x v → v.oneCell' = true → FroL w ok xs vs → FroL w ok (x :: xs) (v :: vs)
end
structure Place where
  blk : Nat
  cap : Nat
  sz : Nat
abbrev Env := Nat → Option Place
mutual
inductive Rep (w : World) (ok : Nat → Prop) (ρ : Env) : LV → Value → Prop
  | junk (v : Value) : Rep w ok ρ .junk v
  | fro {x : LV} {v : Value} : Fro w ok x v → Rep w ok ρ x v
  | agg {cs : List LV} {vs : List Value} : RepL w ok ρ cs vs → Rep w ok ρ (.agg cs) (.agg vs.toArray)
  | tup {xs : List LV} {vs : List Value} : RepT w ok ρ xs vs → Rep w ok ρ (.tup xs) (.tuple vs.toArray)
  | clo {f : FuncId} {caps : List LV} {vs : List Value} : RepL w ok ρ caps vs → Rep w ok ρ (.clo f caps) (.func (.func f) #[] vs.toArray)
  | fp {cs : List LV} {vs : List Value} {ad : Addr} : FroL w ok cs vs → Cells w ad vs → ok ad.block → Rep w ok ρ (.fp cs) (.pointer (some ad))
  | ptr {o i j : Nat} {p : Place} : ρ o = some p → Rep w ok ρ (.ptr o i j) (.pointer (some ⟨p.blk, i * p.sz + j, none⟩))
  | own {o off n c : Nat} {p : Place} : ρ o = some p → off + c ≤ p.cap → n ≤ c → Rep w ok ρ (.own o off n) (.slice (some ⟨p.blk, off * p.sz, none⟩) n c)
  | own0 {o off : Nat} {a : Option Addr} : Rep w ok ρ (.own o off 0) (.slice a 0 0)
  | ownc {o off n c : Nat} {p : Place} : ρ o = some p → off + c ≤ p.cap → n ≤ c → Rep w ok ρ (.ownc o off n c) (.slice (some ⟨p.blk, off * p.sz, none⟩) n c)
  | ownc0 {o off : Nat} {a : Option Addr} : Rep w ok ρ (.ownc o off 0 0) (.slice a 0 0)
  | mp {o lim : Nat} {ks : List Int} {p : Place} {es : Array MapEntry} {clk : Nat} : ρ o = some p → w.heap[p.blk]? = some (.map es clk) → ok p.blk → MapIs es ks → lim ≤ p.blk → Rep w ok ρ (.mp o ks lim) (.map (some p.blk))
inductive RepL (w : World) (ok : Nat → Prop) (ρ : Env) : List LV → List Value → Prop
  | nil : RepL w ok ρ [] []
  | cons {x : LV} {v : Value} {xs : List LV} {vs : List Value} : Rep w ok ρ x v → v.oneCell' = true → RepL w ok ρ xs vs → RepL w ok ρ (x :: xs) (v :: vs)
inductive RepT (w : World) (ok : Nat → Prop) (ρ : Env) : List LV → List Value → Prop
  | nil : RepT w ok ρ [] []
  | cons {x : LV} {v : Value} {xs : List LV} {vs : List Value} : Rep w ok ρ x v → RepT w ok ρ xs vs → RepT w ok ρ (x :: xs) (v :: vs)
end
mutual
inductive Deep (w : World) : LV → Value → List Nat → Prop
  | imm (v : Value) : Deep w (.imm v) v []
  | sl0 {sz : Nat} {a : Option Addr} : Deep w (.sl sz []) (.slice a 0 0) []
  | sl {sz c B : Nat} {xs : List LV} {vs : List Value} {arr : Array Value} {t : TypeId} {fps : List Nat} : (∀ x ∈ xs, x.cells.length = sz) → DeepL w (xs.flatMap LV.cells) vs fps → w.heap[B]? = some (.cells arr t (0, 0)) → c * sz ≤ arr.size →
      (∀ (k : Nat) (v : Value), vs[k]? = some v → arr[k]? = some v) → xs.length ≤ c → c ≤ maxLen → Deep w (.sl sz xs) (.slice (some ⟨B, 0, none⟩) xs.length c) (B :: fps)
inductive DeepL (w : World) : List LV → List Value → List Nat → Prop
  | nil : DeepL w [] [] []
  | cons {x : LV} {v : Value} {xs : List LV} {vs : List Value} {f g : List Nat} : Deep w x v f → v.oneCell' = true → DeepL w xs vs g → DeepL w (x :: xs) (v :: vs) (f ++ g)
end
inductive DCells (w : World) (ρ : Env) : List LV → List Value → List Nat → Prop
  | nil : DCells w ρ [] [] []
  | deep {x : LV} {v : Value} {xs : List LV} {vs : List Value} {f g : List Nat} : Deep w x v f → v.oneCell' = true → DCells w ρ xs vs g → DCells w ρ (x :: xs) (v :: vs) (f ++ g)
  | own {o off n c : Nat} {p : Place} {xs : List LV} {vs : List Value} {g : List Nat} : ρ o = some p → off + c ≤ p.cap → n ≤ c → DCells w ρ xs vs g → DCells w ρ (.own o off n :: xs) (.slice (some ⟨p.blk, off * p.sz, none⟩) n c :: vs) g
  | own0 {o off : Nat} {a : Option Addr} {xs : List LV} {vs : List Value} {g : List Nat} : DCells w ρ xs vs g → DCells w ρ (.own o off 0 :: xs) (.slice a 0 0 :: vs) g
inductive MCell (w : World) (ok : Nat → Prop) (ρ : Env) : LV → Value → List Nat → Prop
  | imm (v : Value) : MCell w ok ρ (.imm v) v []
  | fz {x : LV} {v : Value} : Fro w ok x v → MCell w ok ρ (.tup [x]) v []
  | nw0 {sz : Nat} {a : Option Addr} : MCell w ok ρ (.nw sz [] false) (.slice a 0 0) []
  | nw {sz c B : Nat} {ys : List LV} {us : List Value} {arr : Array Value} {t : TypeId} : (∀ y ∈ ys, y.cells.length = sz) → FroL w ok (ys.flatMap LV.cells) us → w.heap[B]? = some (.cells arr t (0, 0)) → c * sz ≤ arr.size →
      (∀ (k : Nat) (v : Value), us[k]? = some v → arr[k]? = some v) → ys.length ≤ c → c ≤ maxLen → MCell w ok ρ (.nw sz ys false) (.slice (some ⟨B, 0, none⟩) ys.length c) [B]
  | own {o off n c : Nat} {p : Place} : ρ o = some p → off + c ≤ p.cap → n ≤ c → MCell w ok ρ (.own o off n) (.slice (some ⟨p.blk, off * p.sz, none⟩) n c) []
  | own0 {o off : Nat} {a : Option Addr} : MCell w ok ρ (.own o off 0) (.slice a 0 0) []
  | junk (v : Value) : MCell w ok ρ .junk v []
inductive MCells (w : World) (ok : Nat → Prop) (ρ : Env) : List LV → List Value → List Nat → Prop
  | nil : MCells w ok ρ [] [] []
  | cons {x : LV} {v : Value} {xs : List LV} {vs : List Value} {f g : List Nat} : MCell w ok ρ x v f → v.oneCell' = true → MCells w ok ρ xs vs g → MCells w ok ρ (x :: xs) (v :: vs) (f ++ g)
mutual
theorem Fro.stable {w w' : World} {ok ok' : Nat → Prop} (hb : ∀ k, ok k → w'.heap[k]? = w.heap[k]?) (hok : ∀ k, ok k → ok' k) : ∀ {x : LV} {v : Value}, Fro w ok x v → Fro w' ok' x v
  | _, _, .imm v => .imm v
  | _, _, .agg h => .agg (FroL.stable hb hok h)
  | _, _, .sl0 h => .sl0 h
  | _, _, .sl h0 h1 h2 h3 h4 h5 h6 => .sl h0 h1 (FroL.stable hb hok h2) (h3.stable (hb _ h4)) (hok _ h4) h5 h6
  | _, _, .mv h => .mv (Fro.stable hb hok h)
  | _, _, .slx0 => .slx0
  | _, _, .slx h0 h1 h2 h3 h4 h5 => .slx h0 h1 (FroL.stable hb hok h2) (h3.stable (hb _ h4)) (hok _ h4) h5
  | _, _, .clo h => .clo (FroL.stable hb hok h)
theorem FroL.stable {w w' : World} {ok ok' : Nat → Prop} (hb : ∀ k, ok k → w'.heap[k]? = w.heap[k]?) (hok : ∀ k, ok k → ok' k) : ∀ {x : List LV} {v : List Value}, FroL w ok x v → FroL w' ok' x v
  | _, _, .nil => .nil
  | _, _, .cons h h1 h2 => .cons (Fro.stable hb hok h) h1 (FroL.stable hb hok h2)
end
def LV.refs : LV → List Nat
  | .ptr o _ _ | .own o _ _ | .ownc o _ _ _ | .mp o _ _ => [o]
  | .agg cs => refsL cs
  | .tup cs => refsL cs
  | .clo _ cs => refsL cs
  | .sl _ _ | .slx _ _ | .mv _ _ | .junk | .imm _ | .fp _ | .nw .. | .nb _ | .dv _ | .mx .. | .ms _ => []
where refsL : List LV → List Nat
  | [] => []
  | x :: xs => x.refs ++ refsL xs
mutual
theorem Rep.stable {w w' : World} {ok ok' : Nat → Prop} {ρ ρ' : Env} (hb : ∀ k, ok k → w'.heap[k]? = w.heap[k]?) (hok : ∀ k, ok k → ok' k) :
    ∀ {x : LV} {v : Value}, (∀ o ∈ x.refs, ρ' o = ρ o) → Rep w ok ρ x v → Rep w' ok' ρ' x v
  | _, _, _, .junk v => .junk v
  | _, _, _, .fro h => .fro (h.stable hb hok)
  | _, _, hr, .agg h => .agg (RepL.stable hb hok (by simpa [LV.refs] using hr) h)
  | _, _, hr, .tup h => .tup (RepT.stable hb hok (by simpa [LV.refs] using hr) h)
  | _, _, hr, .clo h => .clo (RepL.stable hb hok (by simpa [LV.refs] using hr) h)
  | _, _, _, .fp h h1 h2 => .fp (h.stable hb hok) (h1.stable (hb _ h2)) (hok _ h2)
  | _, _, hr, .ptr h => .ptr ((hr _ (by simp [LV.refs])).trans h)
  | _, _, hr, .own h h1 h2 => .own ((hr _ (by simp [LV.refs])).trans h) h1 h2
  | _, _, _, .own0 => .own0
  | _, _, hr, .ownc h h1 h2 => .ownc ((hr _ (by simp [LV.refs])).trans h) h1 h2
  | _, _, _, .ownc0 => .ownc0
  | _, _, hr, .mp h h1 h2 h3 h4 => .mp ((hr _ (by simp [LV.refs])).trans h) ((hb _ h2).trans h1) (hok _ h2) h3 h4
theorem RepL.stable {w w' : World} {ok ok' : Nat → Prop} {ρ ρ' : Env} (hb : ∀ k, ok k → w'.heap[k]? = w.heap[k]?) (hok : ∀ k, ok k → ok' k) :
    ∀ {x : List LV} {v : List Value}, (∀ o ∈ LV.refs.refsL x, ρ' o = ρ o) → RepL w ok ρ x v → RepL w' ok' ρ' x v
  | _, _, _, .nil => .nil
  | _, _, hr, .cons h h1 h2 => .cons (Rep.stable hb hok (fun o ho => hr o (by simp [LV.refs.refsL, ho])) h) h1 (RepL.stable hb hok (fun o ho => hr o (by simp [LV.refs.refsL, ho])) h2)
theorem RepT.stable {w w' : World} {ok ok' : Nat → Prop} {ρ ρ' : Env} (hb : ∀ k, ok k → w'.heap[k]? = w.heap[k]?) (hok : ∀ k, ok k → ok' k) :
    ∀ {x : List LV} {v : List Value}, (∀ o ∈ LV.refs.refsL x, ρ' o = ρ o) → RepT w ok ρ x v → RepT w' ok' ρ' x v
  | _, _, _, .nil => .nil
  | _, _, hr, .cons h h2 => .cons (Rep.stable hb hok (fun o ho => hr o (by simp [LV.refs.refsL, ho])) h) (RepT.stable hb hok (fun o ho => hr o (by simp [LV.refs.refsL, ho])) h2)
end
mutual
theorem Deep.stable {w w' : World} : ∀ {x : LV} {v : Value} {fp : List Nat}, (∀ k ∈ fp, w'.heap[k]? = w.heap[k]?) → Deep w x v fp → Deep w' x v fp
  | _, _, _, _, .imm v => .imm v
  | _, _, _, _, .sl0 => .sl0
  | _, _, _, hb, .sl h1 h2 h3 h4 h5 h6 h7 => .sl h1 (DeepL.stable (fun k hk => hb k (by simp [hk])) h2) ((hb _ (by simp)).trans h3) h4 h5 h6 h7
theorem DeepL.stable {w w' : World} : ∀ {x : List LV} {v : List Value} {fp : List Nat}, (∀ k ∈ fp, w'.heap[k]? = w.heap[k]?) → DeepL w x v fp → DeepL w' x v fp
  | _, _, _, _, .nil => .nil
  | _, _, _, hb, .cons h h1 h2 => .cons (Deep.stable (fun k hk => hb k (by simp [hk])) h) h1 (DeepL.stable (fun k hk => hb k (by simp [hk])) h2)
end
theorem MCell.stable {w w' : World} {ok ok' : Nat → Prop} {ρ ρ' : Env} {x : LV} {v : Value} {fp : List Nat} (h : MCell w ok ρ x v fp) (hbo : ∀ k, ok k → w'.heap[k]? = w.heap[k]?) (hok : ∀ k, ok k → ok' k) (hb : ∀ k ∈ fp, w'.heap[k]? = w.heap[k]?) (hr : ∀ o ∈ x.refs, ρ' o = ρ o) : MCell w' ok' ρ' x v fp := by
  cases h with
  | imm v => exact .imm v
  | fz h => exact .fz (h.stable hbo hok)
  | nw0 => exact .nw0
  | nw h1 h2 h3 h4 h5 h6 h7 => exact .nw h1 (h2.stable hbo hok) ((hb _ (by simp)).trans h3) h4 h5 h6 h7
  | own h h1 h2 => exact .own ((hr _ (by simp [LV.refs])).trans h) h1 h2
  | own0 => exact .own0
  | junk v => exact .junk v
theorem MCells.stable {w w' : World} {ok ok' : Nat → Prop} {ρ ρ' : Env} {xs : List LV} {vs : List Value} {fp : List Nat} (h : MCells w ok ρ xs vs fp) (hbo : ∀ k, ok k → w'.heap[k]? = w.heap[k]?) (hok : ∀ k, ok k → ok' k) (hb : ∀ k ∈ fp, w'.heap[k]? = w.heap[k]?) (hr : ∀ o ∈ LV.refs.refsL xs, ρ' o = ρ o) : MCells w' ok' ρ' xs vs fp := by
  induction h with
  | nil => exact .nil
  | cons h h1 _ ih => exact .cons (h.stable hbo hok (fun k hk => hb k (by simp [hk])) (fun o ho => hr o (by simp [LV.refs.refsL, ho]))) h1 (ih (fun k hk => hb k (by simp [hk])) (fun o ho => hr o (by simp [LV.refs.refsL, ho])))
theorem cells_of {w : World} {B : Nat} {arr : Array Value} {t : TypeId} {vs : List Value} (hb : w.heap[B]? = some (.cells arr t (0, 0))) (hv : ∀ (k : Nat) (v : Value), vs[k]? = some v → arr[k]? = some v) : Cells w ⟨B, 0, none⟩ vs := fun k v hk => by
  have h := hv k v hk; have e : (⟨B, 0, none⟩ : Addr).add k = ⟨B, k, none⟩ := by unfold Addr.add; split <;> simp_all
  rw [e]; simpa [World.cell?, hb] using h
mutual
theorem Deep.fro {w : World} {ok : Nat → Prop} : ∀ {x : LV} {v : Value} {fp : List Nat}, (∀ k ∈ fp, ok k) → Deep w x v fp → Fro w ok x v
  | _, _, _, _, .imm v => .imm v
  | _, _, _, _, .sl0 => .sl0 (Nat.zero_le _)
  | .sl _ [], _, _, hb, .sl h1 h2 h3 h4 h5 h6 h7 => .sl0 h7
  | .sl _ (x :: xs), _, _, hb, .sl h1 h2 h3 h4 h5 h6 h7 => .sl (by simp) h1 (DeepL.fro (fun k hk => hb k (by simp [hk])) h2) (cells_of h3 h5) (hb _ (by simp)) h6 h7
theorem DeepL.fro {w : World} {ok : Nat → Prop} : ∀ {x : List LV} {v : List Value} {fp : List Nat}, (∀ k ∈ fp, ok k) → DeepL w x v fp → FroL w ok x v
  | _, _, _, _, .nil => .nil
  | _, _, _, hb, .cons h h1 h2 => .cons (Deep.fro (fun k hk => hb k (by simp [hk])) h) h1 (DeepL.fro (fun k hk => hb k (by simp [hk])) h2)
end
theorem DCells.stable {w w' : World} {ρ ρ' : Env} {xs : List LV} {vs : List Value} {fp : List Nat} (h : DCells w ρ xs vs fp) (hb : ∀ k ∈ fp, w'.heap[k]? = w.heap[k]?) (hr : ∀ o ∈ LV.refs.refsL xs, ρ' o = ρ o) : DCells w' ρ' xs vs fp := by
  induction h with
  | nil => exact .nil
  | deep h h1 _ ih => exact .deep (h.stable (fun k hk => hb k (by simp [hk]))) h1 (ih (fun k hk => hb k (by simp [hk])) (fun o ho => hr o (by simp [LV.refs.refsL, ho])))
  | own h h1 h2 _ ih => exact .own ((hr _ (by simp [LV.refs.refsL, LV.refs])).trans h) h1 h2 (ih hb (fun o ho => hr o (by simp [LV.refs.refsL, ho])))
  | own0 _ ih => exact .own0 (ih hb (fun o ho => hr o (by simp [LV.refs.refsL, ho])))
theorem FroL.length {w : World} {ok : Nat → Prop} : ∀ {xs : List LV} {vs : List Value}, FroL w ok xs vs → xs.length = vs.length
  | _, _, .nil => rfl
  | _, _, .cons _ _ h => by simp [h.length]
theorem RepL.length {w : World} {ok : Nat → Prop} {ρ : Env} : ∀ {xs : List LV} {vs : List Value}, RepL w ok ρ xs vs → xs.length = vs.length
  | _, _, .nil => rfl
  | _, _, .cons _ _ h => by simp [h.length]
theorem DeepL.length {w : World} : ∀ {xs : List LV} {vs : List Value} {fp : List Nat}, DeepL w xs vs fp → xs.length = vs.length
  | _, _, _, .nil => rfl
  | _, _, _, .cons _ _ h => by simp [h.length]
theorem RepT.length {w : World} {ok : Nat → Prop} {ρ : Env} : ∀ {xs : List LV} {vs : List Value}, RepT w ok ρ xs vs → xs.length = vs.length
  | _, _, .nil => rfl
  | _, _, .cons _ h => by simp [h.length]
theorem FroL.rep {w : World} {ok : Nat → Prop} {ρ : Env} : ∀ {xs : List LV} {vs : List Value}, FroL w ok xs vs → RepL w ok ρ xs vs
  | _, _, .nil => .nil
  | _, _, .cons h h1 h2 => .cons (.fro h) h1 h2.rep
theorem FroL.append {w : World} {ok : Nat → Prop} : ∀ {xs ys : List LV} {vs us : List Value}, FroL w ok xs vs → FroL w ok ys us → FroL w ok (xs ++ ys) (vs ++ us)
  | _, _, _, _, .nil, h => h
  | _, _, _, _, .cons h h1 h2, k => .cons h h1 (h2.append k)
theorem RepL.append {w : World} {ok : Nat → Prop} {ρ : Env} : ∀ {xs ys : List LV} {vs us : List Value}, RepL w ok ρ xs vs → RepL w ok ρ ys us → RepL w ok ρ (xs ++ ys) (vs ++ us)
  | _, _, _, _, .nil, h => h
  | _, _, _, _, .cons h h1 h2, k => .cons h h1 (h2.append k)
theorem DeepL.append {w : World} : ∀ {xs ys : List LV} {vs us : List Value} {f g : List Nat}, DeepL w xs vs f → DeepL w ys us g → DeepL w (xs ++ ys) (vs ++ us) (f ++ g)
  | _, _, _, _, _, _, .nil, h => h
  | _, _, _, _, _, _, .cons h h1 h2, k => by rw [List.append_assoc]; exact .cons h h1 (h2.append k)
theorem FroL.split {w : World} {ok : Nat → Prop} : ∀ {xs ys : List LV} {vs : List Value}, FroL w ok (xs ++ ys) vs → FroL w ok xs (vs.take xs.length) ∧ FroL w ok ys (vs.drop xs.length)
  | [], _, _, h => ⟨by simpa using FroL.nil, by simpa using h⟩
  | _ :: _, _, _, .cons h h1 h2 => ⟨by simpa using FroL.cons h h1 (FroL.split h2).1, by simpa using (FroL.split h2).2⟩
theorem RepL.split {w : World} {ok : Nat → Prop} {ρ : Env} : ∀ {xs ys : List LV} {vs : List Value}, RepL w ok ρ (xs ++ ys) vs → RepL w ok ρ xs (vs.take xs.length) ∧ RepL w ok ρ ys (vs.drop xs.length)
  | [], _, _, h => ⟨by simpa using RepL.nil, by simpa using h⟩
  | _ :: _, _, _, .cons h h1 h2 => ⟨by simpa using RepL.cons h h1 (RepL.split h2).1, by simpa using (RepL.split h2).2⟩
theorem FroL.take {w : World} {ok : Nat → Prop} {xs : List LV} {vs : List Value} (h : FroL w ok xs vs) (n : Nat) : FroL w ok (xs.take n) (vs.take n) := by
  have hl := h.length; rw [← List.take_append_drop n xs] at h; have := (FroL.split h).1; rw [List.length_take, hl, ← List.take_eq_take_min] at this; exact this
theorem FroL.drop {w : World} {ok : Nat → Prop} {xs : List LV} {vs : List Value} (h : FroL w ok xs vs) (n : Nat) : FroL w ok (xs.drop n) (vs.drop n) := by
  have hl := h.length; rw [← List.take_append_drop n xs] at h; have := (FroL.split h).2; rw [List.length_take, hl, ← List.drop_eq_drop_min] at this; exact this
theorem RepL.take {w : World} {ok : Nat → Prop} {ρ : Env} {xs : List LV} {vs : List Value} (h : RepL w ok ρ xs vs) (n : Nat) : RepL w ok ρ (xs.take n) (vs.take n) := by
  have hl := h.length; rw [← List.take_append_drop n xs] at h; have := (RepL.split h).1; rw [List.length_take, hl, ← List.take_eq_take_min] at this; exact this
theorem RepL.drop {w : World} {ok : Nat → Prop} {ρ : Env} {xs : List LV} {vs : List Value} (h : RepL w ok ρ xs vs) (n : Nat) : RepL w ok ρ (xs.drop n) (vs.drop n) := by
  have hl := h.length; rw [← List.take_append_drop n xs] at h; have := (RepL.split h).2; rw [List.length_take, hl, ← List.drop_eq_drop_min] at this; exact this
theorem FroL.get {w : World} {ok : Nat → Prop} : ∀ {xs : List LV} {vs : List Value} {k : Nat} {x : LV}, FroL w ok xs vs → xs[k]? = some x → ∃ v, vs[k]? = some v ∧ Fro w ok x v ∧ v.oneCell' = true
  | _, _, _, _, .nil, hk => by simp at hk
  | _, _, 0, _, .cons h h1 h2, hk => ⟨_, by simp, by simp at hk; exact hk ▸ h, h1⟩
  | _, _, k + 1, _, .cons h h1 h2, hk => by simpa using FroL.get h2 (by simpa using hk)
theorem RepL.get {w : World} {ok : Nat → Prop} {ρ : Env} : ∀ {xs : List LV} {vs : List Value} {k : Nat} {x : LV}, RepL w ok ρ xs vs → xs[k]? = some x → ∃ v, vs[k]? = some v ∧ Rep w ok ρ x v ∧ v.oneCell' = true
  | _, _, _, _, .nil, hk => by simp at hk
  | _, _, 0, _, .cons h h1 h2, hk => ⟨_, by simp, by simp at hk; exact hk ▸ h, h1⟩
  | _, _, k + 1, _, .cons h h1 h2, hk => by simpa using RepL.get h2 (by simpa using hk)
theorem RepT.get {w : World} {ok : Nat → Prop} {ρ : Env} : ∀ {xs : List LV} {vs : List Value} {k : Nat} {x : LV}, RepT w ok ρ xs vs → xs[k]? = some x → ∃ v, vs[k]? = some v ∧ Rep w ok ρ x v
  | _, _, _, _, .nil, hk => by simp at hk
  | _, _, 0, _, .cons h h2, hk => ⟨_, rfl, by simp at hk; exact hk ▸ h⟩
  | _, _, k + 1, _, .cons h h2, hk => by simpa using RepT.get h2 (by simpa using hk)
def LV.pure : LV → Bool
  | .imm _ | .sl _ _ | .slx _ _ | .mv _ _ => true
  | .agg cs => pureL cs
  | .clo _ cs => pureL cs
  | _ => false
where pureL : List LV → Bool
  | [] => true
  | x :: xs => x.pure && pureL xs
mutual
theorem Rep.pure {w : World} {ok : Nat → Prop} {ρ : Env} : ∀ {x : LV} {v : Value}, x.pure = true → Rep w ok ρ x v → Fro w ok x v
  | _, _, hp, .junk v => by simp [LV.pure] at hp
  | _, _, _, .fro h => h
  | _, _, hp, .agg h => .agg (RepL.pure (by simpa [LV.pure] using hp) h)
  | _, _, hp, .tup h => by simp [LV.pure] at hp
  | _, _, hp, .clo h => .clo (RepL.pure (by simpa [LV.pure] using hp) h)
  | _, _, hp, .fp .. => by simp [LV.pure] at hp
  | _, _, hp, .ptr .. => by simp [LV.pure] at hp
  | _, _, hp, .own .. => by simp [LV.pure] at hp
  | _, _, hp, .own0 .. => by simp [LV.pure] at hp
  | _, _, hp, .ownc .. => by simp [LV.pure] at hp
  | _, _, hp, .ownc0 .. => by simp [LV.pure] at hp
  | _, _, hp, .mp .. => by simp [LV.pure] at hp
theorem RepL.pure {w : World} {ok : Nat → Prop} {ρ : Env} : ∀ {x : List LV} {v : List Value}, LV.pure.pureL x = true → RepL w ok ρ x v → FroL w ok x v
  | _, _, _, .nil => .nil
  | _, _, hp, .cons h h1 h2 => by
    simp [LV.pure.pureL] at hp; exact .cons (Rep.pure hp.1 h) h1 (RepL.pure hp.2 h2)
end
theorem Rep.imm_inv {w : World} {ok : Nat → Prop} {ρ : Env} {u v : Value} (h : Rep w ok ρ (.imm u) v) : v = u := by
  cases h with | fro h => cases h; rfl
theorem Rep.agg_inv {w : World} {ok : Nat → Prop} {ρ : Env} {cs : List LV} {v : Value} (h : Rep w ok ρ (.agg cs) v) : ∃ vs : List Value, v = .agg vs.toArray ∧ RepL w ok ρ cs vs := by
  cases h with
  | fro h => cases h with | agg h => exact ⟨_, rfl, h.rep⟩
  | agg h => exact ⟨_, rfl, h⟩
theorem Rep.clo_inv {w : World} {ok : Nat → Prop} {ρ : Env} {f : FuncId} {cs : List LV} {v : Value} (h : Rep w ok ρ (.clo f cs) v) : ∃ vs : List Value, v = .func (.func f) #[] vs.toArray ∧ RepL w ok ρ cs vs := by
  cases h with
  | fro h => cases h with | clo h => exact ⟨_, rfl, h.rep⟩
  | clo h => exact ⟨_, rfl, h⟩
theorem Rep.tup_inv {w : World} {ok : Nat → Prop} {ρ : Env} {cs : List LV} {v : Value} (h : Rep w ok ρ (.tup cs) v) : ∃ vs : List Value, v = .tuple vs.toArray ∧ RepT w ok ρ cs vs := by
  cases h with
  | fro h => cases h
  | tup h => exact ⟨_, rfl, h⟩
theorem Rep.sl_inv {w : World} {ok : Nat → Prop} {ρ : Env} {sz : Nat} {xs : List LV} {v : Value} (h : Rep w ok ρ (.sl sz xs) v) : Fro w ok (.sl sz xs) v := by
  cases h with | fro h => exact h
theorem Rep.fp_inv {w : World} {ok : Nat → Prop} {ρ : Env} {cs : List LV} {v : Value} (h : Rep w ok ρ (.fp cs) v) : ∃ vs ad, v = .pointer (some ad) ∧ FroL w ok cs vs ∧ Cells w ad vs ∧ ok ad.block := by
  cases h with
  | fro h => cases h
  | fp h h1 h2 => exact ⟨_, _, rfl, h, h1, h2⟩
theorem Rep.ptr_inv {w : World} {ok : Nat → Prop} {ρ : Env} {o i j : Nat} {v : Value} (h : Rep w ok ρ (.ptr o i j) v) : ∃ p, ρ o = some p ∧ v = .pointer (some ⟨p.blk, i * p.sz + j, none⟩) := by
  cases h with
  | fro h => cases h
  | ptr h => exact ⟨_, h, rfl⟩
theorem Rep.own_inv {w : World} {ok : Nat → Prop} {ρ : Env} {o off n : Nat} {v : Value} (h : Rep w ok ρ (.own o off n) v) :
    (∃ p c, ρ o = some p ∧ off + c ≤ p.cap ∧ n ≤ c ∧ v = .slice (some ⟨p.blk, off * p.sz, none⟩) n c) ∨ (n = 0 ∧ ∃ a, v = .slice a 0 0) := by
  cases h with
  | fro h => cases h
  | own h h1 h2 => exact .inl ⟨_, _, h, h1, h2, rfl⟩
  | own0 => exact .inr ⟨rfl, _, rfl⟩
theorem Rep.ownc_inv {w : World} {ok : Nat → Prop} {ρ : Env} {o off n c : Nat} {v : Value} (h : Rep w ok ρ (.ownc o off n c) v) :
    (∃ p, ρ o = some p ∧ off + c ≤ p.cap ∧ n ≤ c ∧ v = .slice (some ⟨p.blk, off * p.sz, none⟩) n c) ∨ (n = 0 ∧ c = 0 ∧ ∃ a, v = .slice a 0 0) := by
  cases h with
  | fro h => cases h
  | ownc h h1 h2 => exact .inl ⟨_, h, h1, h2, rfl⟩
  | ownc0 => exact .inr ⟨rfl, rfl, _, rfl⟩
theorem Fro.sl_len {w : World} {ok : Nat → Prop} {sz : Nat} {xs : List LV} {v : Value} (h : Fro w ok (.sl sz xs) v) : ∃ a c, v = .slice a xs.length c ∧ xs.length ≤ c ∧ c ≤ maxLen := by
  cases h with
  | sl0 h => exact ⟨_, _, rfl, Nat.zero_le _, h⟩
  | sl _ _ _ _ _ h h1 => exact ⟨_, _, rfl, h, h1⟩
end Go.Lift
/- The lifted logic, part 2: the lifted state and what it says of the machine's. Own work. -/
namespace Go.Lift
open Go.RowKit
inductive Kind where
  | fro | deep | box | split | mix (out : List Nat)
  deriving DecidableEq
structure LObj where
  kind : Kind
  sz : Nat
  elems : List LV
  ro : Bool := false
def LObj.refs (o : LObj) : List Nat :=
  match o.kind with
  | .box | .split => LV.refs.refsL (o.elems.flatMap LV.cells)
  | .mix out => out
  | _ => []
abbrev LHeap := List (Nat × LObj)
def hget (k : Nat) : LHeap → Option LObj
  | [] => none
  | (j, o) :: r => if j = k then some o else hget k r
def hdel (k : Nat) : LHeap → LHeap
  | [] => []
  | (j, o) :: r => if j = k then hdel k r else (j, o) :: hdel k r
def hput (k : Nat) (x : LObj) : LHeap → LHeap
  | [] => []
  | (j, o) :: r => if j = k then (j, x) :: hput k x r else (j, o) :: hput k x r
theorem hget_mem {k : Nat} {o : LObj} : ∀ {h : LHeap}, hget k h = some o → (k, o) ∈ h
  | [], h => by simp [hget] at h
  | (j, z) :: r, h => by
    simp only [hget] at h
    split at h
    · rename_i hj; simp at h; subst hj; subst h; simp
    · simp [hget_mem h]
def hkeys (h : LHeap) : List Nat := h.map Prod.fst
abbrev Tm := List (Nat × LV)
def get (t : Nat) : Tm → LV
  | [] => .junk
  | (d, v) :: r => if d = t then v else get t r
structure LState where
  tm : Tm
  h : LHeap
def LState.eval (s : LState) : Operand → LV
  | .tmp t => get t s.tm
  | .const v => .imm v
  | .func f => .clo f []
  | .global _ => .junk
def LState.put (s : LState) (d : Option Nat) (x : LV) : LState :=
  match d with
  | some d => { s with tm := (d, x) :: s.tm }
  | none => s
def ObjCells (w : World) (ok : Nat → Prop) (ρ : Env) (k : Kind) (cells : List LV) (vs : List Value) (fps : List Nat) : Prop :=
  match k with
  | .fro => fps = [] ∧ FroL w ok cells vs
  | .deep => DeepL w cells vs fps
  | .box => fps = [] ∧ RepL w ok ρ cells vs
  | .split => DCells w ρ cells vs fps
  | .mix out => MCells w ok ρ cells vs fps ∧ ∀ o ∈ LV.refs.refsL cells, o ∈ out
structure ObjAt (w : World) (ok : Nat → Prop) (ρ : Env) (p : Place) (obj : LObj) (arr : Array Value) (t : TypeId) (vs : List Value) (fps : List Nat) : Prop where
  sz : p.sz = obj.sz
  unif : ∀ x ∈ obj.elems, x.cells.length = obj.sz
  len : obj.elems.length ≤ p.cap
  cap : p.cap ≤ maxLen
  blk : w.heap[p.blk]? = some (.cells arr t (0, 0))
  room : p.cap * p.sz ≤ arr.size
  vals : ∀ (k : Nat) (v : Value), vs[k]? = some v → arr[k]? = some v
  cells : ObjCells w ok ρ obj.kind (obj.elems.flatMap LV.cells) vs fps
def ObjRep (w : World) (ok : Nat → Prop) (ρ : Env) (o : Nat) (obj : LObj) (fp : List Nat) : Prop :=
  (ρ o = none ∧ obj.elems = [] ∧ fp = []) ∨ ∃ p arr t vs fps, ρ o = some p ∧ fp = p.blk :: fps ∧ ObjAt w ok ρ p obj arr t vs fps
theorem ObjCells.stable {w w' : World} {ok ok' : Nat → Prop} {ρ ρ' : Env} {k : Kind} {cells : List LV} {vs : List Value} {fps : List Nat}
    (hb : ∀ b, ok b → w'.heap[b]? = w.heap[b]?) (hok : ∀ b, ok b → ok' b) (hf : ∀ b ∈ fps, w'.heap[b]? = w.heap[b]?)
    (hr : ∀ o ∈ (match k with | .box | .split => LV.refs.refsL cells | .mix out => out | _ => []), ρ' o = ρ o) (h : ObjCells w ok ρ k cells vs fps) : ObjCells w' ok' ρ' k cells vs fps := by
  cases k with
  | fro => exact ⟨h.1, h.2.stable hb hok⟩
  | deep => exact DeepL.stable hf h
  | box => exact ⟨h.1, h.2.stable hb hok hr⟩
  | split => exact DCells.stable h hf hr
  | mix out => exact ⟨MCells.stable h.1 hb hok hf (fun o ho => hr o (h.2 o ho)), h.2⟩
theorem ObjRep.stable {w w' : World} {ok ok' : Nat → Prop} {ρ ρ' : Env} {o : Nat} {obj : LObj} {fp : List Nat}
    (hb : ∀ b, ok b → w'.heap[b]? = w.heap[b]?) (hok : ∀ b, ok b → ok' b) (hf : ∀ b ∈ fp, w'.heap[b]? = w.heap[b]?)
    (ho : ρ' o = ρ o) (hr : ∀ k ∈ obj.refs, ρ' k = ρ k) (h : ObjRep w ok ρ o obj fp) : ObjRep w' ok' ρ' o obj fp := by
  rcases h with ⟨h, h1, h2⟩ | ⟨p, arr, t, vs, fps, h, rfl, h2⟩
  · exact .inl ⟨ho.trans h, h1, h2⟩
  · refine .inr ⟨p, arr, t, vs, fps, ho.trans h, rfl, ?_⟩
    exact { h2 with
      blk := (hf _ (by simp)).trans h2.blk
      cells := h2.cells.stable hb hok (fun b hb' => hf b (by simp [hb'])) (by
        intro k hk; refine hr k ?_; unfold LObj.refs; cases hkk : obj.kind <;> simp_all) }
def fpsOf (F : Nat → List Nat) (h : LHeap) : List Nat := h.flatMap fun p => F p.1
structure HeapOK (w : World) (ok : Nat → Prop) (ρ : Env) (F : Nat → List Nat) (h : LHeap) : Prop where
  keys : (hkeys h).Nodup
  objs : ∀ p ∈ h, ObjRep w ok ρ p.1 p.2 (F p.1)
  nodup : (fpsOf F h).Nodup
  apart : ∀ b ∈ fpsOf F h, ¬ ok b ∧ b < w.heap.size
structure Ext (w0 : World) (lent : List Nat) (w : World) : Prop where
  os : w.os = w0.os
  tape : w.tape = w0.tape
  output : w.output = w0.output
  size : w0.heap.size ≤ w.heap.size
  block : ∀ k, k < w0.heap.size → k ∉ lent → w.heap[k]? = w0.heap[k]?
  drawn : w0.drawn ≤ w.drawn
structure Ent where
  w0 : World
  ok0 : Nat → Prop
  lent : List Nat
  n : Nat
  ρ0 : Env
  keep : List Nat
structure Inv' (E : Ent) (s : LState) (a : Act) (w : World) (ok : Nat → Prop) (ρ : Env) (F : Nat → List Nat) : Prop where
  defers : a.defers = []
  size : a.tmps.size = E.n
  ext : Ext E.w0 E.lent w
  okk : ∀ k, ok k → k < w.heap.size ∧ (k < E.w0.heap.size → E.ok0 k ∨ k ∈ E.lent)
  heap : HeapOK w ok ρ F s.h
  mine : ∀ p ∈ s.h, p.2.ro = false → ∀ b ∈ F p.1, b < E.w0.heap.size → b ∈ E.lent
  slots : ∀ t, Rep w ok ρ (get t s.tm) (a.tmps.getD t undef)
  keep : ∀ k ∈ E.keep, ρ k = E.ρ0 k
def Inv (E : Ent) (s : LState) (a : Act) (w : World) : Prop := ∃ ok ρ F, Inv' E s a w ok ρ F
theorem Inv'.eval {E : Ent} {s : LState} {a : Act} {w : World} {ok : Nat → Prop} {ρ : Env} {F : Nat → List Nat} (h : Inv' E s a w ok ρ F) (x : Operand) : Rep w ok ρ (s.eval x) (a.eval x) := by
  cases x with
  | tmp t => exact h.slots t
  | const v => exact .fro (.imm v)
  | global g => exact .junk _
  | func f => exact .clo .nil
theorem getD_set (xs : Array Value) (d t : Nat) (v u : Value) (hd : d < xs.size) : (xs.setIfInBounds d v).getD t u = if d = t then v else xs.getD t u := by
  rw [Array.getD_eq_getD_getElem?, Array.getD_eq_getD_getElem?, Array.getElem?_setIfInBounds]
  by_cases h : d = t
  · subst h; simp [hd]
  · simp [h]
theorem Inv'.put {E : Ent} {s : LState} {a : Act} {w : World} {ok : Nat → Prop} {ρ : Env} {F : Nat → List Nat} (h : Inv' E s a w ok ρ F) {d : Nat} (hd : Nat.blt d E.n = true) {x : LV} {v : Value} (hx : Rep w ok ρ x v) :
    Inv' E (s.put (some d) x) (a.put (some d) v) w ok ρ F :=
  { h with
    size := by simp [Act.put, h.size]
    slots := fun t => by
      show Rep w ok ρ (if d = t then x else get t s.tm) ((a.tmps.setIfInBounds d v).getD t undef); rw [getD_set _ _ _ _ _ (h.size ▸ Nat.le_of_ble_eq_true hd)]
      split
      · exact hx
      · exact h.slots t }
def QC (E : Ent) (Q : Exit → LState → Prop) : Exit → Act → World → Prop := fun e a w => ∃ s, Inv E s a w ∧ Q e s
def LWP (P : Program) (E : Ent) (c : Code) (Q : Exit → LState → Prop) (s : LState) : Prop := ∀ a w, Inv E s a w → c.wp P (QC E Q) a w
def LWo (P : Program) (E : Ent) (all : Array Oper) (ops : List Oper) (Q : Exit → LState → Prop) (s : LState) : Prop := ∀ a w, Inv E s a w → wpList P all (QC E Q) ops a w
section
variable {P : Program} {E : Ent} {Q Q' : Exit → LState → Prop} {s : LState}
theorem LWP.mono {c : Code} (h : LWP P E c Q s) (hq : ∀ e s, Q e s → Q' e s) : LWP P E c Q' s :=
  fun a w hi => wp_mono (h a w hi) fun e a w ⟨s', h1, h2⟩ => ⟨s', h1, hq _ _ h2⟩
theorem LWP.skip (h : Q .normal s) : LWP P E .skip Q s := fun a w hi => wp_skip ⟨s, hi, h⟩
theorem LWP.exit {id : Nat} (h : Q (.exit id) s) : LWP P E (.exit id) Q s := fun a w hi => wp_exit ⟨s, hi, h⟩
theorem LWP.ret (h : Q .ret s) : LWP P E .ret Q s := fun a w hi => wp_ret ⟨s, hi, h⟩
def LThen (N : LState → Prop) (Q : Exit → LState → Prop) : Exit → LState → Prop
  | .normal, s => N s
  | e, s => Q e s
theorem LWP.seq {x y : Code} (h : LWP P E x (LThen (LWP P E y Q) Q) s) : LWP P E (.seq x y) Q s := fun a w hi =>
  wp_seq (wp_mono (h a w hi) fun e a w ⟨s', h1, h2⟩ => by
    cases e <;> first | exact ⟨s', h1, h2⟩ | exact h2 a w h1)
theorem LWP.seq_k {x y : Code} (h : ∀ N : LState → Prop, (∀ s, LWP P E y Q s → N s) → LWP P E x (LThen N Q) s) : LWP P E (.seq x y) Q s := LWP.seq (h _ fun _ h => h)
theorem LWP.cond {c : Operand} {x y : Code} {t : Bool} (hc : s.eval c = .imm (.bool t)) (h : LWP P E (if t then x else y) Q s) : LWP P E (.cond c x y) Q s := fun a w hi => by
  obtain ⟨ok, ρ, F, hi'⟩ := hi; have he := hi'.eval c; rw [hc] at he; exact wp_cond he.imm_inv (h a w ⟨ok, ρ, F, hi'⟩)
theorem LWP.cond_split {c : Operand} {x y : Code} {t : Bool} (hc : s.eval c = .imm (.bool t)) (h1 : t = true → LWP P E x Q s) (h0 : t = false → LWP P E y Q s) : LWP P E (.cond c x y) Q s := by
  refine LWP.cond hc ?_; cases t
  · exact h0 rfl
  · exact h1 rfl
def LBlock (id : Nat) (Q : Exit → LState → Prop) : Exit → LState → Prop
  | .exit id', s => if id' = id then Q .normal s else Q (.exit id') s
  | e, s => Q e s
theorem LWP.block {id : Nat} {c : Code} (h : LWP P E c (LBlock id Q) s) : LWP P E (.block id c) Q s := fun a w hi =>
  wp_block (wp_mono (h a w hi) fun e a w ⟨s', h1, h2⟩ => by
    cases e with
    | exit id' =>
      show if id' = id then QC E Q .normal a w else QC E Q (.exit id') a w; simp only [LBlock] at h2
      split at h2 <;> rename_i hid
      · rw [if_pos hid]; exact ⟨s', h1, h2⟩
      · rw [if_neg hid]; exact ⟨s', h1, h2⟩
    | _ => exact ⟨s', h1, h2⟩)
theorem LWP.loop {c : Code} {α : Type} (m : α → Nat) (I : α → LState → Prop) (x0 : α) (h0 : I x0 s)
    (round : ∀ x s, I x s → LWP P E c (LThen (fun s' => ∃ y, I y s' ∧ m y < m x) Q) s) : LWP P E (.loop c) Q s := by
  intro a w hi; intro b k cs
  have key : ∀ n x s a w, m x = n → I x s → Inv E s a w →
      ∃ e a' w', QC E Q e a' w' ∧ Arrives P (lone (b.at a (.code c :: .inLoop c :: k)) cs w) b k cs e a' w' := by
    intro n
    induction n using Nat.strongRecOn with
    | _ n ih =>
      intro x s a w hn hI hi; obtain ⟨e, a₁, w₁, ⟨s', hi', hq⟩, harr⟩ := round x s hI a w hi b (.inLoop c :: k) cs; cases e with
      | normal =>
        obtain ⟨y, hy, hlt⟩ := hq; obtain ⟨e₂, a₂, w₂, hq₂, harr₂⟩ := ih (m y) (hn ▸ hlt) y s' a₁ w₁ rfl hy hi'; exact ⟨e₂, a₂, w₂, hq₂, .of_steps (Steps.trans harr (.one step_inLoop)) harr₂⟩
      | exit id => exact ⟨_, a₁, w₁, ⟨s', hi', hq⟩, .pass (x := .inLoop c) rfl (fun _ _ => .inl (by simp)) harr⟩
      | goto l => exact ⟨_, a₁, w₁, ⟨s', hi', hq⟩, .pass (x := .inLoop c) rfl (fun _ _ => .inl (by simp)) harr⟩
      | ret => exact ⟨_, a₁, w₁, ⟨s', hi', hq⟩, .pass (x := .inLoop c) rfl (fun _ _ => .inl (by simp)) harr⟩
      | panic ch => exact ⟨_, a₁, w₁, ⟨s', hi', hq⟩, .pass (x := .inLoop c) rfl (fun _ _ => .inl (by simp)) harr⟩
      | outgrown => exact ⟨_, a₁, w₁, ⟨s', hi', hq⟩, .pass (x := .inLoop c) rfl (fun _ _ => .inl (by simp)) harr⟩
  obtain ⟨e, a', w', hq, harr⟩ := key _ x0 s a w rfl h0 hi; exact ⟨e, a', w', hq, .of_steps (.one step_loop) harr⟩
theorem LWP.region {id : Nat} {l : List Oper} (h : LWo P E l.toArray l Q s) : LWP P E (.region id l.toArray false) Q s := fun a w hi => wp_region_lit (h a w hi)
theorem LWo.nil {all : Array Oper} (h : Q .normal s) : LWo P E all [] Q s := fun a w hi => wpList_nil ⟨s, hi, h⟩
theorem LWo.value {all : Array Oper} {o : Oper} {rest : List Oper} (s' : LState) (hg : o.guard = none)
    (h : ∀ a w ok ρ F, Inv' E s a w ok ρ F → ∃ n w', (execOp a.eval o).run P w = .ok n w' ∧ ((∃ v, n = .value v ∧ Inv E s' (a.put o.dst v) w') ∨ (n = .skip ∧ Inv E s' (a.put o.dst undef) w')))
    (hn : LWo P E all rest Q s') : LWo P E all (o :: rest) Q s := by
  intro a w ⟨ok, ρ, F, hi⟩; refine wpList_plain hg fun K hK => ?_; obtain ⟨n, w', hr, h'⟩ := h a w ok ρ F hi; unfold Oper.wp; rw [hr]; rcases h' with ⟨v, rfl, hi'⟩ | ⟨rfl, hi'⟩
  · exact hK _ _ (hn _ _ hi')
  · exact hK _ _ (hn _ _ hi')
theorem yielded_of {all : Array Oper} {a : Act} {w : World} {ok : Nat → Prop} {ρ : Env} {F : Nat → List Nat} (hi : Inv' E s a w ok ρ F) {j d : Nat} {b : Bool} (hd : (all[j]?).bind (·.dst) = some d) (hb : get d s.tm = .imm (.bool b)) :
    yielded all a.tmps j = some b := by
  have hs := hi.slots d; rw [hb] at hs; have hv := hs.imm_inv
  have : a.tmps[d]? = some (.bool b) := by
    rw [Array.getD_eq_getD_getElem?] at hv; cases h : a.tmps[d]? with
    | none => rw [h] at hv; simp [undef] at hv
    | some v => rw [h] at hv; simpa using hv
  simp [yielded, hd, this]
theorem LWo.guard {all : Array Oper} {o : Oper} {rest : List Oper} {j d : Nat} {b want : Bool} (hg : o.guard = some (j, want)) (hd : (all[j]?).bind (·.dst) = some d) (hb : get d s.tm = .imm (.bool b))
    (h1 : b = want → LWo P E all ({ o with guard := none } :: rest) Q s) (h0 : b ≠ want → (∀ t, o.dst = some t → Nat.blt t E.n = true) ∧ LWo P E all rest Q (s.put o.dst .junk)) : LWo P E all (o :: rest) Q s := by
  intro a w ⟨ok, ρ, F, hi⟩; have hy := yielded_of hi hd hb; unfold wpList
  by_cases e : b = want
  · have hw : Region.wanted o (yielded all a.tmps) = true := by simp [Region.wanted, hg, hy, e]
    rw [if_pos hw]; have := h1 e a w ⟨ok, ρ, F, hi⟩; unfold wpList at this; rw [if_pos (by simp [Region.wanted])] at this; exact this
  · have hw : ¬ Region.wanted o (yielded all a.tmps) = true := by simp [Region.wanted, hg, hy, e]
    rw [if_neg hw]; obtain ⟨hn, hk⟩ := h0 e; refine hk _ _ ⟨ok, ρ, F, ?_⟩; cases ho : o.dst with
    | none => exact hi
    | some t => exact hi.put (hn t ho) (.junk _)
end
end Go.Lift
/- The lifted logic, part 3: operations that only compute. Own work. -/
namespace Go.Lift
open Go.RowKit
section
variable {P : Program} {E : Ent} {Q : Exit → LState → Prop} {s : LState} {all : Array Oper} {rest : List Oper} {d : Nat} {ty : TypeId} {pos : String} {af : Array Edge}
theorem LWo.still {op : Op} (y : LV) (hd : Nat.blt d E.n = true := by exact rfl)
    (h : ∀ a w ok ρ F, Inv' E s a w ok ρ F → ∃ v, (execOp a.eval { dst := some d, op := op, type := ty, pos := pos, after := af, guard := none }).run P w = .ok (.value v) w ∧ Rep w ok ρ y v)
    (hn : LWo P E all rest Q (s.put (some d) y)) : LWo P E all ({ dst := some d, op := op, type := ty, pos := pos, after := af, guard := none } :: rest) Q s :=
  LWo.value _ rfl (fun a w ok ρ F hi => by
    obtain ⟨v, hr, hy⟩ := h a w ok ρ F hi; exact ⟨_, w, hr, .inl ⟨v, rfl, ok, ρ, F, hi.put hd hy⟩⟩) hn
theorem LWo.move {x : Operand} (y : LV) (hx : s.eval x = y) (hd : Nat.blt d E.n = true := by exact rfl) (hn : LWo P E all rest Q (s.put (some d) y)) :
    LWo P E all ({ dst := some d, op := .move x, type := ty, pos := pos, after := af, guard := none } :: rest) Q s :=
  LWo.still y hd (fun a w ok ρ F hi => ⟨a.eval x, by simp [execOp], hx ▸ hi.eval x⟩) hn
theorem LWo.assign {x : Operand} (y : LV) (hx : s.eval x = y) (hd : Nat.blt d E.n = true := by exact rfl) (hn : LWo P E all rest Q (s.put (some d) y)) :
    LWo P E all ({ dst := some d, op := .assign x, type := ty, pos := pos, after := af, guard := none } :: rest) Q s :=
  LWo.still y hd (fun a w ok ρ F hi => ⟨a.eval x, by simp [execOp], hx ▸ hi.eval x⟩) hn
theorem Inv'.imm {a : Act} {w : World} {ok : Nat → Prop} {ρ : Env} {F : Nat → List Nat} (h : Inv' E s a w ok ρ F) {x : Operand} {v : Value} (hx : s.eval x = .imm v) : a.eval x = v := by
  have := h.eval x; rw [hx] at this; exact this.imm_inv
theorem LWo.pick {c x y : Operand} {b : Bool} (z : LV) (hc : s.eval c = .imm (.bool b)) (hz : (if b then s.eval x else s.eval y) = z) (hd : Nat.blt d E.n = true := by exact rfl) (hn : LWo P E all rest Q (s.put (some d) z)) :
    LWo P E all ({ dst := some d, op := .pick c x y, type := ty, pos := pos, after := af, guard := none } :: rest) Q s :=
  LWo.still z hd (fun a w ok ρ F hi => ⟨if b then a.eval x else a.eval y, by simp [execOp, hi.imm hc, asBool], by
    subst hz; cases b
    · exact hi.eval y
    · exact hi.eval x⟩) hn
theorem LWo.bin {op : BinOp} {t t' : TypeId} {x y : Operand} {u v : Value} (r : Value) (hx : s.eval x = .imm u) (hy : s.eval y = .imm v)
    (hg : ∀ w, (eqGuard op t x y u v).run P w = .ok () w) (hr : ∀ w, (binOp op t u v).run P w = .ok r w) (hd : Nat.blt d E.n = true := by exact rfl) (hn : LWo P E all rest Q (s.put (some d) (.imm r))) :
    LWo P E all ({ dst := some d, op := .binOp op t x y t', type := ty, pos := pos, after := af, guard := none } :: rest) Q s :=
  LWo.still _ hd (fun a w ok ρ F hi => ⟨r, by
    simp [execOp, hi.imm hx, hi.imm hy, hg w, hr w], .fro (.imm r)⟩) hn
theorem guard_int {op : BinOp} {t : TypeId} {x y : Operand} {k k' : IntKind} {m n : Int} {w : World} : (eqGuard op t x y (.int k m) (.int k' n)).run P w = .ok () w := by
  unfold eqGuard; cases op <;> simp
theorem guard_str {op : BinOp} {t : TypeId} {x y : Operand} {m n : ByteArray} {w : World} : (eqGuard op t x y (.string m) (.string n)).run P w = .ok () w := by
  unfold eqGuard; cases op <;> simp
theorem guard_bool {op : BinOp} {t : TypeId} {x y : Operand} {m n : Bool} {w : World} : (eqGuard op t x y (.bool m) (.bool n)).run P w = .ok () w := by
  unfold eqGuard; cases op <;> simp
def intBin (op : BinOp) (k : IntKind) (m n : Int) : Option Value :=
  match op with
  | .add => some (.int k (k.wrap (m + n)))
  | .sub => some (.int k (k.wrap (m - n)))
  | .mul => some (.int k (k.wrap (m * n)))
  | .quo => if n = 0 then none else some (.int k (k.wrap (m.tdiv n)))
  | .rem => if n = 0 then none else some (.int k (m.tmod n))
  | .eql => some (.bool (m == n))
  | .neq => some (.bool (m != n))
  | .lss => some (.bool (m < n))
  | .leq => some (.bool (m ≤ n))
  | .gtr => some (.bool (m > n))
  | .geq => some (.bool (m ≥ n))
  | _ => none
theorem run_intBin {op : BinOp} {t : TypeId} {k : IntKind} {m n : Int} {r : Value} (h : intBin op k m n = some r) (w : World) : (binOp op t (.int k m) (.int k n)).run P w = .ok r w := by
  unfold intBin at h
  split at h <;> first
    | (simp at h; subst h; simp [binOp, Op.intArith, Op.intCmp]; done)
    | (split at h
       · simp at h
       · rename_i h0; simp at h; subst h; simp [binOp, Op.intDiv, h0])
    | simp at h
theorem LWo.int {op : BinOp} {t t' : TypeId} {x y : Operand} {m n : Int} {k : IntKind} (r : Value) (hx : s.eval x = .imm (.int k m)) (hy : s.eval y = .imm (.int k n)) (hr : intBin op k m n = some r) (hd : Nat.blt d E.n = true := by exact rfl)
    (hn : LWo P E all rest Q (s.put (some d) (.imm r))) : LWo P E all ({ dst := some d, op := .binOp op t x y t', type := ty, pos := pos, after := af, guard := none } :: rest) Q s :=
  LWo.bin r hx hy (fun _ => guard_int) (fun w => run_intBin hr w) hd hn
theorem wrap64_in {x : Int} (h0 : -9223372036854775808 ≤ x) (h1 : x ≤ 9223372036854775807) : IntKind.i64.wrap x = x := by
  simp [IntKind.wrap, IntKind.bits, IntKind.signed]; omega
theorem add_in {m n : Int} (h0 : -9223372036854775808 ≤ m + n) (h1 : m + n ≤ 9223372036854775807) : intBin .add .i64 m n = some (.int .i64 (m + n)) := by simp only [intBin]; rw [wrap64_in h0 h1]
theorem sub_in {m n : Int} (h0 : -9223372036854775808 ≤ m - n) (h1 : m - n ≤ 9223372036854775807) : intBin .sub .i64 m n = some (.int .i64 (m - n)) := by simp only [intBin]; rw [wrap64_in h0 h1]
theorem mul_in {m n : Int} (h0 : -9223372036854775808 ≤ m * n) (h1 : m * n ≤ 9223372036854775807) : intBin .mul .i64 m n = some (.int .i64 (m * n)) := by simp only [intBin]; rw [wrap64_in h0 h1]
def strBin (op : BinOp) (x y : ByteArray) : Option Value :=
  match op with
  | .add => if ((x.size + y.size : Nat) : Int) > IntKind.i64.max then none else some (.string (x ++ y))
  | .eql => some (.bool (x.toList == y.toList))
  | .neq => some (.bool !(x.toList == y.toList))
  | .lss => some (.bool (Op.bytesLess x.toList y.toList))
  | .gtr => some (.bool !(Op.bytesLess x.toList y.toList || x.toList == y.toList))
  | .leq => some (.bool (Op.bytesLess x.toList y.toList || x.toList == y.toList))
  | .geq => some (.bool !(Op.bytesLess x.toList y.toList))
  | _ => none
theorem LWo.str {op : BinOp} {t t' : TypeId} {x y : Operand} {m n : ByteArray} (r : Value) (hx : s.eval x = .imm (.string m)) (hy : s.eval y = .imm (.string n)) (hr : strBin op m n = some r) (hd : Nat.blt d E.n = true := by exact rfl)
    (hn : LWo P E all rest Q (s.put (some d) (.imm r))) : LWo P E all ({ dst := some d, op := .binOp op t x y t', type := ty, pos := pos, after := af, guard := none } :: rest) Q s :=
  LWo.bin r hx hy (fun _ => guard_str) (fun w => by
    unfold strBin at hr
    split at hr <;> first
      | (simp at hr; subst hr; simp [binOp, Op.stringOp]; done)
      | (split at hr
         · simp at hr
         · rename_i h0; simp at hr; subst hr; simp only [binOp, Op.stringOp]; rw [if_neg h0]; simp)
      | simp at hr) hd hn
theorem LWo.not {t : TypeId} {x : Operand} {b : Bool} (hx : s.eval x = .imm (.bool b)) (hd : Nat.blt d E.n = true := by exact rfl) (hn : LWo P E all rest Q (s.put (some d) (.imm (.bool !b)))) :
    LWo P E all ({ dst := some d, op := .unOp .not t x, type := ty, pos := pos, after := af, guard := none } :: rest) Q s :=
  LWo.still _ hd (fun a w ok ρ F hi => ⟨.bool !b, by simp [execOp, hi.imm hx, Op.unary], .fro (.imm _)⟩) hn
theorem LWo.neg {t : TypeId} {x : Operand} {k : IntKind} {n : Int} (r : Value) (hx : s.eval x = .imm (.int k n)) (hr : intBin .sub k 0 n = some r) (hd : Nat.blt d E.n = true := by exact rfl) (hn : LWo P E all rest Q (s.put (some d) (.imm r))) :
    LWo P E all ({ dst := some d, op := .unOp .neg t x, type := ty, pos := pos, after := af, guard := none } :: rest) Q s :=
  LWo.still _ hd (fun a w ok ρ F hi => ⟨r, by
    simp only [intBin, Option.some.injEq] at hr; simp [execOp, hi.imm hx, Op.unary, Op.intArith, ← hr], .fro (.imm _)⟩) hn
def LV.len : LV → Option Nat
  | .sl _ xs => some xs.length
  | .own _ _ n => some n
  | .imm (.slice _ n _) => some n
  | .imm (.string s) => some s.size
  | _ => none
def LV.isStr : LV → Bool
  | .imm (.string _) => true
  | _ => false
theorem Rep.len {w : World} {ok : Nat → Prop} {ρ : Env} {x : LV} {v : Value} {n : Nat} (h : Rep w ok ρ x v) (hl : x.len = some n) : (∃ a c, v = .slice a n c) ∨ ∃ s, v = .string s ∧ s.size = n ∧ x = .imm (.string s) := by
  unfold LV.len at hl
  split at hl <;> simp at hl
  · obtain ⟨a, c, rfl, _⟩ := h.sl_inv.sl_len
    subst hl; exact .inl ⟨a, c, rfl⟩
  · subst hl
    rcases h.own_inv with ⟨p, c, _, _, _, rfl⟩ | ⟨rfl, a, rfl⟩
    · exact .inl ⟨_, _, rfl⟩
    · exact .inl ⟨_, _, rfl⟩
  · subst hl; rw [h.imm_inv]; exact .inl ⟨_, _, rfl⟩
  · subst hl; rw [h.imm_inv]; exact .inr ⟨_, rfl, rfl, rfl⟩
theorem LWo.len {x : Operand} {T : TypeId} {e : TypeId} {n : Nat} (hu : P.underlying T = some (.slice e)) (hx : (s.eval x).len = some n) (hs : (s.eval x).isStr = false := by exact rfl) (hd : Nat.blt d E.n = true := by exact rfl)
    (hn : LWo P E all rest Q (s.put (some d) (.imm (.int .i64 n)))) :
    LWo P E all ({ dst := some d, op := .call { callee := .builtin .len, args := #[x], argTypes := #[T] }, type := ty, pos := pos, after := af, guard := none } :: rest) Q s :=
  LWo.still _ hd (fun a w ok ρ F hi => ⟨.int .i64 n, by
    rcases (hi.eval x).len hx with ⟨ad, c, hv⟩ | ⟨b, _, _, hb⟩
    · simp [execOp, resolve, invoke, builtin, Builtin.len_, underlying, hu, hv, program, goInt, Sem.run]
    · rw [hb] at hs; exact absurd hs (by intro h; cases h), .fro (.imm _)⟩) hn
theorem LWo.lenS {x : Operand} {T : TypeId} {b : ByteArray} (hu : P.underlying T = some .string) (hx : s.eval x = .imm (.string b)) (hd : Nat.blt d E.n = true := by exact rfl)
    (hn : LWo P E all rest Q (s.put (some d) (.imm (.int .i64 b.size)))) :
    LWo P E all ({ dst := some d, op := .call { callee := .builtin .len, args := #[x], argTypes := #[T] }, type := ty, pos := pos, after := af, guard := none } :: rest) Q s :=
  LWo.still _ hd (fun a w ok ρ F hi => ⟨.int .i64 b.size, by
    simp [execOp, resolve, invoke, builtin, Builtin.len_, underlying, hu, hi.imm hx, program, goInt, Sem.run], .fro (.imm _)⟩) hn
theorem LWo.max2 {x y : Operand} {T T' : TypeId} {k : IntKind} {m n : Int} (hx : s.eval x = .imm (.int k m)) (hy : s.eval y = .imm (.int k n)) (hd : Nat.blt d E.n = true := by exact rfl)
    (hn : LWo P E all rest Q (s.put (some d) (.imm (.int k (if n > m then n else m))))) :
    LWo P E all ({ dst := some d, op := .call { callee := .builtin .max, args := #[x, y], argTypes := #[T, T'] }, type := ty, pos := pos, after := af, guard := none } :: rest) Q s :=
  LWo.still _ hd (fun a w ok ρ F hi => ⟨.int k (if n > m then n else m), by
    simp [execOp, resolve, invoke, builtin, Builtin.max_, Builtin.max2, hi.imm hx, hi.imm hy], .fro (.imm _)⟩) hn
theorem LWo.convInt {src dst : TypeId} {x : Operand} {k k0 : IntKind} {n : Int} {u : TypeDesc} (hu : P.underlying src = some u) (hk : P.underlying dst = some (.int k)) (hx : s.eval x = .imm (.int k0 n)) (hd : Nat.blt d E.n = true := by exact rfl)
    (hn : LWo P E all rest Q (s.put (some d) (.imm (.int k (k.wrap n))))) :
    LWo P E all ({ dst := some d, op := .convert src dst x, type := ty, pos := pos, after := af, guard := none } :: rest) Q s :=
  LWo.still _ hd (fun a w ok ρ F hi => ⟨.int k (k.wrap n), by
    simp [execOp, convert, underlying, hu, hk, hi.imm hx, program, Sem.run, Conv.intToInt], .fro (.imm _)⟩) hn
theorem LWo.extract {x : Operand} {i : Nat} {vs : List LV} (y : LV) (hx : s.eval x = .tup vs) (hy : vs[i]? = some y) (hd : Nat.blt d E.n = true := by exact rfl) (hn : LWo P E all rest Q (s.put (some d) y)) :
    LWo P E all ({ dst := some d, op := .extract x i, type := ty, pos := pos, after := af, guard := none } :: rest) Q s :=
  LWo.still y hd (fun a w ok ρ F hi => by
    have h := hi.eval x; rw [hx] at h; obtain ⟨us, hv, hu⟩ := h.tup_inv; obtain ⟨v, hv', hr⟩ := hu.get hy; exact ⟨v, by simp [execOp, Instr.extract, hv, hv'], hr⟩) hn
theorem evalL (ops : List Operand) {a : Act} {w : World} {ok : Nat → Prop} {ρ : Env} {F : Nat → List Nat} (hi : Inv' E s a w ok ρ F) : RepT w ok ρ (ops.map s.eval) (ops.map a.eval) := by
  induction ops with
  | nil => exact .nil
  | cons x xs ih => exact .cons (hi.eval x) ih
end
end Go.Lift
/- The lifted logic, part 4: addresses, loads, cuts, struct values. Own work. -/
namespace Go.Lift
open Go.RowKit
theorem add_add (a : Addr) (i j : Nat) : (a.add i).add j = a.add (i + j) := by
  unfold Addr.add
  by_cases hi : i = 0 <;> by_cases hj : j = 0 <;> simp [hi, hj, Nat.add_assoc]
theorem add_plain (b o j : Nat) : (⟨b, o, none⟩ : Addr).add j = ⟨b, o + j, none⟩ := by unfold Addr.add; split <;> simp_all
theorem Cells.add {w : World} {ad : Addr} {vs : List Value} (h : Cells w ad vs) (n : Nat) : Cells w (ad.add n) (vs.drop n) := by
  intro k v hk; rw [add_add]; exact h _ _ (by simpa using hk)
theorem Cells.take {w : World} {ad : Addr} {vs : List Value} (h : Cells w ad vs) (n : Nat) : Cells w ad (vs.take n) := by
  intro k v hk; refine h k v ?_; rw [List.getElem?_take] at hk
  split at hk
  · exact hk
  · simp at hk
theorem flat_at : ∀ (xs : List LV) (sz i : Nat) (y : LV), (∀ x ∈ xs, x.cells.length = sz) → xs[i]? = some y → ((xs.flatMap LV.cells).drop (i * sz)).take sz = y.cells
  | [], sz, i, y, _, hi => by simp at hi
  | x :: xs, sz, 0, y, hu, hi => by
    simp at hi; subst hi; have := hu x (by simp); simp [List.take_append, this.symm]
  | x :: xs, sz, i + 1, y, hu, hi => by
    have hx := hu x (by simp); rw [List.flatMap_cons, Nat.add_mul, Nat.one_mul, Nat.add_comm, ← hx, ← List.drop_drop, List.drop_left, hx]; exact flat_at xs sz i y (fun z hz => hu z (by simp [hz])) (by simpa using hi)
theorem flat_len : ∀ (xs : List LV) (sz : Nat), (∀ x ∈ xs, x.cells.length = sz) → (xs.flatMap LV.cells).length = xs.length * sz
  | [], sz, _ => by simp
  | x :: xs, sz, hu => by
    rw [List.flatMap_cons, List.length_append, hu x (by simp), flat_len xs sz (fun z hz => hu z (by simp [hz])), List.length_cons, Nat.add_mul, Nat.one_mul, Nat.add_comm]
section
variable {P : Program} {E : Ent} {Q : Exit → LState → Prop} {s : LState} {all : Array Oper} {rest : List Oper} {d : Nat} {ty : TypeId} {pos : String} {af : Array Edge}
theorem LWo.indexAddr {T e : TypeId} {sz : Nat} {x ix : Operand} {xs : List LV} {k : IntKind} {i : Int} (y : LV) (hu : P.underlying T = some (.slice e)) (hz : ∀ w, (sizeOf e).run P w = .ok sz w)
    (hx : s.eval x = .sl sz xs) (hi : s.eval ix = .imm (.int k i)) (h0 : 0 ≤ i) (hy : xs[i.toNat]? = some y) (hd : Nat.blt d E.n = true := by exact rfl) (hn : LWo P E all rest Q (s.put (some d) (.fp y.cells))) :
    LWo P E all ({ dst := some d, op := .indexAddr T x ix, type := ty, pos := pos, after := af, guard := none } :: rest) Q s :=
  LWo.still _ hd (fun a w ok ρ F hinv => by
    have h := hinv.eval x; rw [hx] at h
    have hlt : i.toNat < xs.length := by
      rcases Nat.lt_or_ge i.toNat xs.length with h | h
      · exact h
      · rw [List.getElem?_eq_none h] at hy; cases hy
    have hf := h.sl_inv; cases hv : a.eval x with
    | slice ad n c =>
      rw [hv] at hf; cases hf with
      | sl0 _ => simp at hlt
      | sl h0' h1 h2 h3 h4 h5 h6 =>
        rename_i vs ad; refine ⟨.pointer (some (ad.add (i.toNat * sz))), ?_, ?_⟩
        · have : i < (xs.length : Int) := by omega
          simp [execOp, Instr.indexAt, hinv.imm hi, asIntOf, underlying, hu, program, Sem.run, hv, h0, this, hz w]
        · have hc := (h2.drop (i.toNat * sz)).take sz
          rw [flat_at xs sz _ y h1 hy] at hc; exact .fp hc ((h3.add _).take _) (by rw [add_block]; exact h4)
    | _ => rw [hv] at hf; cases hf) hn
theorem LWo.fieldAddr {T : TypeId} {fs : Array Field} {f : Field} {i fz : Nat} {x : Operand} {cs : List LV} (ys : List LV) (hu : P.underlying T = some (.struct fs)) (hf : fs[i]? = some f) (hz : ∀ w, (sizeOf f.type).run P w = .ok (fz + 1) w)
    (hx : s.eval x = .fp cs) (hy : cs.drop f.offset = ys) (hd : Nat.blt d E.n = true := by exact rfl) (hn : LWo P E all rest Q (s.put (some d) (.fp ys))) :
    LWo P E all ({ dst := some d, op := .fieldAddr T x i, type := ty, pos := pos, after := af, guard := none } :: rest) Q s :=
  LWo.still _ hd (fun a w ok ρ F hinv => by
    have h := hinv.eval x; rw [hx] at h; obtain ⟨vs, ad, hv, h1, h2, h3⟩ := h.fp_inv; subst hy; refine ⟨.pointer (some (ad.add f.offset)), ?_, .fp (h1.drop _) (h2.add _) (by rw [add_block]; exact h3)⟩; simp [execOp, Instr.fieldAt, underlying, hu, program, Sem.run, hf, hv, Instr.sureAddr, fieldPlace, hz w]) hn
theorem LWo.load1 {T : TypeId} {x : Operand} {c : LV} {cs : List LV} (hg : ∀ w, (isAgg T).run P w = .ok false w) (hx : s.eval x = .fp (c :: cs)) (hd : Nat.blt d E.n = true := by exact rfl) (hn : LWo P E all rest Q (s.put (some d) c)) :
    LWo P E all ({ dst := some d, op := .load T x, type := ty, pos := pos, after := af, guard := none } :: rest) Q s :=
  LWo.still _ hd (fun a w ok ρ F hinv => by
    have h := hinv.eval x; rw [hx] at h; obtain ⟨vs, ad, hv, h1, h2, h3⟩ := h.fp_inv; cases h1 with
    | cons h4 h5 h6 =>
      rename_i v vs; refine ⟨v, ?_, .fro h4⟩; have hc : w.cell? ad = some v := by simpa [Addr.add] using h2 0 v (by simp)
      simp [execOp, Instr.loadAt, hv, Instr.sureAddr, loadVar, hg w, load, Sem.run, hc]) hn
theorem LWo.loadN {T : TypeId} {x : Operand} {n : Nat} {cs : List LV} (ys : List LV) (hg : ∀ w, (isAgg T).run P w = .ok true w) (hz : ∀ w, (sizeOf T).run P w = .ok n w) (hx : s.eval x = .fp cs) (hl : n ≤ cs.length) (hy : cs.take n = ys) (hd : Nat.blt d E.n = true := by exact rfl)
    (hn : LWo P E all rest Q (s.put (some d) (.agg ys))) :
    LWo P E all ({ dst := some d, op := .load T x, type := ty, pos := pos, after := af, guard := none } :: rest) Q s :=
  LWo.still _ hd (fun a w ok ρ F hinv => by
    have h := hinv.eval x; rw [hx] at h; obtain ⟨vs, ad, hv, h1, h2, h3⟩ := h.fp_inv; subst hy; have hlen := h1.length; refine ⟨.agg (vs.take n).toArray, ?_, .fro (.agg (h1.take n))⟩; have hr := run_loadCells_list (P := P) (w := w) ad (vs.take n) (fun j v hj => h2.take n j v hj); rw [List.length_take, Nat.min_eq_left (by omega)] at hr; simp [execOp, Instr.loadAt, hv, Instr.sureAddr, loadVar, hg w, hz w, hr]) hn
def LObj.lets (o : LObj) (c : LV) : Bool :=
  match o.kind, c with
  | .fro, _ | .box, _ => true
  | .deep, .imm _ | .split, .imm _ | .mix _, .imm _ | .mix _, .own .. => true
  | _, _ => false
theorem DeepL.get_imm {w : World} : ∀ {xs : List LV} {vs : List Value} {f : List Nat} {k : Nat} {u : Value}, DeepL w xs vs f → xs[k]? = some (.imm u) → vs[k]? = some u ∧ u.oneCell' = true
  | _, _, _, _, _, .nil, hk => by simp at hk
  | _, _, _, 0, _, .cons h h1 h2, hk => by
    simp at hk; subst hk; cases h; exact ⟨rfl, h1⟩
  | _, _, _, k + 1, _, .cons h h1 h2, hk => by simpa using DeepL.get_imm h2 (by simpa using hk)
theorem DCells.get_imm {w : World} {ρ : Env} {xs : List LV} {vs : List Value} {f : List Nat} (h : DCells w ρ xs vs f) : ∀ {k : Nat} {u : Value}, xs[k]? = some (.imm u) → vs[k]? = some u ∧ u.oneCell' = true := by
  induction h with
  | nil => intro k u hk; simp at hk
  | deep h h1 _ ih =>
    intro k u hk; cases k with
    | zero => simp at hk; subst hk; cases h; exact ⟨rfl, h1⟩
    | succ k => simpa using ih (by simpa using hk)
  | own _ _ _ _ ih =>
    intro k u hk; cases k with
    | zero => simp at hk
    | succ k => simpa using ih (by simpa using hk)
  | own0 _ ih =>
    intro k u hk; cases k with
    | zero => simp at hk
    | succ k => simpa using ih (by simpa using hk)
theorem MCells.get {w : World} {ok : Nat → Prop} {ρ : Env} {xs : List LV} {vs : List Value} {f : List Nat} (h : MCells w ok ρ xs vs f) : ∀ {k : Nat} {x : LV}, xs[k]? = some x → ∃ v f, vs[k]? = some v ∧ v.oneCell' = true ∧ MCell w ok ρ x v f := by
  induction h with
  | nil => intro k x hk; simp at hk
  | cons h h1 _ ih =>
    intro k x hk; cases k with
    | zero => simp at hk; subst hk; exact ⟨_, _, rfl, h1, h⟩
    | succ k => simpa using ih (by simpa using hk)
theorem ObjCells.get {w : World} {ok : Nat → Prop} {ρ : Env} {o : LObj} {cells : List LV} {vs : List Value} {fps : List Nat} (h : ObjCells w ok ρ o.kind cells vs fps) {k : Nat} {c : LV} (hk : cells[k]? = some c) (hl : o.lets c = true) :
    ∃ v, vs[k]? = some v ∧ v.oneCell' = true ∧ Rep w ok ρ c v := by
  unfold LObj.lets at hl; cases hkk : o.kind <;> rw [hkk] at h hl
  · obtain ⟨v, h1, h2, h3⟩ := h.2.get hk
    exact ⟨v, h1, h3, .fro h2⟩
  · cases c <;> simp at hl
    have := DeepL.get_imm h hk; exact ⟨_, this.1, this.2, .fro (.imm _)⟩
  · obtain ⟨v, h1, h2, h3⟩ := h.2.get hk
    exact ⟨v, h1, h3, h2⟩
  · cases c <;> simp at hl
    have := DCells.get_imm h hk; exact ⟨_, this.1, this.2, .fro (.imm _)⟩
  · obtain ⟨v, f, h1, h2, h3⟩ := MCells.get h.1 hk
    refine ⟨v, h1, h2, ?_⟩; cases h3 with
    | imm v => exact .fro (.imm v)
    | own h4 h5 h6 => exact .own h4 h5 h6
    | own0 => exact .own0
    | junk v => exact .junk v
    | _ => simp at hl
theorem flat_get (xs : List LV) (sz i j : Nat) (y c : LV) (hu : ∀ x ∈ xs, x.cells.length = sz) (hi : xs[i]? = some y) (hj : y.cells[j]? = some c) : (xs.flatMap LV.cells)[i * sz + j]? = some c := by
  have h := flat_at xs sz i y hu hi
  have hlt : j < sz := by
    have := hu y (List.mem_of_getElem? hi); rcases Nat.lt_or_ge j y.cells.length with h | h
    · omega
    · rw [List.getElem?_eq_none h] at hj; cases hj
  rw [← h, List.getElem?_take, if_pos hlt, List.getElem?_drop] at hj; exact hj
theorem obj_cell {a : Act} {w : World} {ok : Nat → Prop} {ρ : Env} {F : Nat → List Nat} (hinv : Inv' E s a w ok ρ F) {o i j : Nat} {obj : LObj} {p : Place} {y c : LV} (ho : hget o s.h = some obj) (hp : ρ o = some p)
    (hy : obj.elems[i]? = some y) (hc : y.cells[j]? = some c) (hl : obj.lets c = true) : ∃ v, w.cell? ⟨p.blk, i * p.sz + j, none⟩ = some v ∧ v.oneCell' = true ∧ Rep w ok ρ c v := by
  rcases hinv.heap.objs _ (hget_mem ho) with ⟨h, _⟩ | ⟨p', arr, t, vs, fps, h, _, h'⟩
  · rw [hp] at h; cases h
  · rw [hp] at h; cases h
    have hg := flat_get obj.elems obj.sz i j y c h'.unif hy hc; obtain ⟨v, hv, h1, h2⟩ := h'.cells.get hg hl; refine ⟨v, ?_, h1, h2⟩; have := h'.vals _ _ hv; simp only [World.cell?, h'.blk]; rw [h'.sz]; simpa using this
theorem obj_cells {a : Act} {w : World} {ok : Nat → Prop} {ρ : Env} {F : Nat → List Nat} (hinv : Inv' E s a w ok ρ F) {o i : Nat} {obj : LObj} {p : Place} {y : LV} (ho : hget o s.h = some obj) (hp : ρ o = some p) (hy : obj.elems[i]? = some y) :
    ∀ (ys : List LV) (j : Nat), (∀ k c, ys[k]? = some c → y.cells[j + k]? = some c ∧ obj.lets c = true) → ∃ vs : List Value, RepL w ok ρ ys vs ∧ Cells w ⟨p.blk, i * p.sz + j, none⟩ vs
  | [], j, _ => ⟨[], .nil, fun k v hk => by simp at hk⟩
  | c :: ys, j, h => by
    obtain ⟨h0, hl⟩ := h 0 c (by simp); obtain ⟨v, hcell, h1, hr⟩ := obj_cell hinv ho hp hy h0 hl
    obtain ⟨vs, hvs, hcs⟩ := obj_cells hinv ho hp hy ys (j + 1) (fun k c hk => by
      have := h (k + 1) c (by simpa using hk)
      rwa [show j + (k + 1) = j + 1 + k from by omega] at this)
    refine ⟨v :: vs, .cons hr h1 hvs, fun k u hk => ?_⟩; cases k with
    | zero => simp at hk; subst hk; simpa [Addr.add] using hcell
    | succ k =>
      have := hcs k u (by simpa using hk); rw [add_plain] at this ⊢
      rwa [show i * p.sz + j + (k + 1) = i * p.sz + (j + 1) + k from by omega]
theorem LWo.loadPtrN {T : TypeId} {x : Operand} {o i j n : Nat} {obj : LObj} {y : LV} (ys : List LV) (hg : ∀ w, (isAgg T).run P w = .ok true w) (hz : ∀ w, (sizeOf T).run P w = .ok n w) (hx : s.eval x = .ptr o i j) (ho : hget o s.h = some obj) (hy : obj.elems[i]? = some y)
    (hc : (y.cells.drop j).take n = ys) (hlen : ys.length = n) (hl : ∀ c ∈ ys, obj.lets c = true) (hd : Nat.blt d E.n = true := by exact rfl) (hn : LWo P E all rest Q (s.put (some d) (.agg ys))) :
    LWo P E all ({ dst := some d, op := .load T x, type := ty, pos := pos, after := af, guard := none } :: rest) Q s :=
  LWo.still _ hd (fun a w ok ρ F hinv => by
    have h := hinv.eval x; rw [hx] at h; obtain ⟨p, hp, hv⟩ := h.ptr_inv
    obtain ⟨vs, hvs, hcs⟩ := obj_cells hinv ho hp hy ys j (fun k c hk => by
      refine ⟨?_, hl c (List.mem_of_getElem? hk)⟩; rw [← hc, List.getElem?_take] at hk
      split at hk
      · simpa using hk
      · cases hk)
    have hr := run_loadCells_list (P := P) (w := w) _ vs (fun j v hj => hcs j v hj); rw [← hvs.length, hlen] at hr; exact ⟨.agg vs.toArray, by simp [execOp, Instr.loadAt, hv, Instr.sureAddr, loadVar, hg w, hz w, hr], .agg hvs⟩) hn
theorem LWo.indexStr {T : TypeId} {x ix : Operand} {b : ByteArray} {k : IntKind} {i : Int} {c : UInt8} (hu : P.underlying T = some .string) (hx : s.eval x = .imm (.string b)) (hi : s.eval ix = .imm (.int k i)) (h0 : 0 ≤ i) (hc : b[i.toNat]? = some c) (hd : Nat.blt d E.n = true := by exact rfl)
    (hn : LWo P E all rest Q (s.put (some d) (.imm (.int .u8 c.toNat)))) :
    LWo P E all ({ dst := some d, op := .index T x ix, type := ty, pos := pos, after := af, guard := none } :: rest) Q s :=
  LWo.still _ hd (fun a w ok ρ F hinv => ⟨.int .u8 c.toNat, by
    simp [execOp, Instr.index, hinv.imm hi, hinv.imm hx, asIntOf, underlying, hu, program, Sem.run, h0, hc], .fro (.imm _)⟩) hn
end
end Go.Lift
/- The lifted logic, part 5: cuts, struct values and literals that are made. Own work. -/
namespace Go.Lift
open Go.RowKit
section
variable {P : Program} {E : Ent} {Q : Exit → LState → Prop} {s : LState} {all : Array Oper} {rest : List Oper} {d : Nat} {ty : TypeId} {pos : String} {af : Array Edge}
def Bound (s : LState) (o : Option Operand) (dflt n : Nat) : Prop :=
  match o with
  | none => n = dflt
  | some x => ∃ k, s.eval x = .imm (.int k (n : Int))
theorem Bound.run {o : Option Operand} {dflt n : Nat} {a : Act} {w : World} {ok : Nat → Prop} {ρ : Env} {F : Nat → List Nat} (h : Bound s o dflt n) (hi : Inv' E s a w ok ρ F) :
    (o = none ∧ n = dflt) ∨ ∃ k, o.map a.eval = some (.int k (n : Int)) := by
  cases o with
  | none => exact .inl ⟨rfl, h⟩
  | some x =>
    obtain ⟨k, hk⟩ := h; exact .inr ⟨k, by simp [hi.imm hk]⟩
def BoundM (s : LState) (o : Option Operand) (lo hi : Nat) : Prop :=
  match o with
  | none => True
  | some x => ∃ k m, s.eval x = .imm (.int k (m : Nat)) ∧ lo ≤ m ∧ m ≤ hi
theorem run_sliceBound (v n : Nat) (k : IntKind) (code : BoundsCode) (h : v ≤ n) (w : World) : (Instr.sliceBound (.int k (v : Int)) n code).run P w = .ok v w := by
  have : (v : Int) ≤ (n : Int) := by omega
  simp [Instr.sliceBound, asIntOf, this]
theorem run_sliceBounds {lo hi mx : Option Operand} {l h n c : Nat} {a : Act} {w : World} {ok : Nat → Prop} {ρ : Env} {F : Nat → List Nat} (hinv : Inv' E s a w ok ρ F)
    (hl : Bound s lo 0 l) (hh : Bound s hi n h) (hm : BoundM s mx h n) (h0 : l ≤ h) (h1 : h ≤ n) (h2 : n ≤ c) (hmh : mx = none ∨ hi ≠ none) :
    ∃ m, h ≤ m ∧ m ≤ c ∧ (mx = none → m = c) ∧ (Instr.sliceBounds true n c (lo.map a.eval) (hi.map a.eval) (mx.map a.eval)).run P w = .ok (l, h, m) w := by
  have hL := hl.run hinv; have hH := hh.run hinv; cases mx with
  | none =>
    refine ⟨c, by omega, Nat.le_refl _, fun _ => rfl, ?_⟩; rcases hH with ⟨rfl, rfl⟩ | ⟨kh, hH⟩ <;> rcases hL with ⟨rfl, rfl⟩ | ⟨kl, hL⟩ <;> simp [Instr.sliceBounds, *]
    · rw [run_sliceBound _ _ _ _ (by omega)]; simp
    · rw [run_sliceBound _ _ _ _ (by omega)]; simp
    · rw [run_sliceBound _ _ _ _ (by omega)]; simp; rw [run_sliceBound _ _ _ _ (by omega)]; simp
  | some x =>
    obtain ⟨k, m, hx, hm1, hm2⟩ := hm; have hx' := hinv.imm hx; refine ⟨m, hm1, by omega, (fun h => by cases h), ?_⟩; rcases hH with ⟨rfl, rfl⟩ | ⟨kh, hH⟩
    · simp at hmh
    · rcases hL with ⟨rfl, rfl⟩ | ⟨kl, hL⟩ <;> simp [Instr.sliceBounds, *]
      · rw [run_sliceBound _ _ _ _ (by omega)]; simp; rw [run_sliceBound _ _ _ _ (by omega)]; simp
      · rw [run_sliceBound _ _ _ _ (by omega)]; simp; rw [run_sliceBound _ _ _ _ (by omega)]; simp; rw [run_sliceBound _ _ _ _ (by omega)]; simp
theorem flat_take (xs : List LV) (sz n : Nat) (hu : ∀ x ∈ xs, x.cells.length = sz) : (xs.take n).flatMap LV.cells = (xs.flatMap LV.cells).take (n * sz) := by
  induction xs generalizing n with
  | nil => simp
  | cons x xs ih =>
    cases n with
    | zero => simp
    | succ n =>
      have hx := hu x (by simp); rw [List.take_succ_cons, List.flatMap_cons, ih n (fun z hz => hu z (by simp [hz])), List.flatMap_cons, Nat.add_mul, Nat.one_mul, Nat.add_comm, ← hx, List.take_length_add_append, hx]
theorem flat_drop (xs : List LV) (sz n : Nat) (hu : ∀ x ∈ xs, x.cells.length = sz) : (xs.drop n).flatMap LV.cells = (xs.flatMap LV.cells).drop (n * sz) := by
  induction xs generalizing n with
  | nil => simp
  | cons x xs ih =>
    cases n with
    | zero => simp
    | succ n =>
      have hx := hu x (by simp); rw [List.drop_succ_cons, ih n (fun z hz => hu z (by simp [hz])), List.flatMap_cons, Nat.add_mul, Nat.one_mul, Nat.add_comm, ← List.drop_drop, ← hx, List.drop_left, hx]
theorem LWo.cut {T e : TypeId} {sz l h : Nat} {x : Operand} {lo hi mx : Option Operand} {xs : List LV} (ys : List LV) (hu : P.underlying T = some (.slice e)) (hz : ∀ w, (sizeOf e).run P w = .ok sz w)
    (hx : s.eval x = .sl sz xs) (hl : Bound s lo 0 l) (hh : Bound s hi xs.length h) (hm : BoundM s mx h xs.length) (hmh : mx = none ∨ hi ≠ none) (h0 : l ≤ h) (h1 : h ≤ xs.length) (hy : (xs.take h).drop l = ys) (hd : Nat.blt d E.n = true := by exact rfl)
    (hn : LWo P E all rest Q (s.put (some d) (.sl sz ys))) :
    LWo P E all ({ dst := some d, op := .slice T x lo hi mx, type := ty, pos := pos, after := af, guard := none } :: rest) Q s :=
  LWo.still _ hd (fun a w ok ρ F hinv => by
    have hX := hinv.eval x; rw [hx] at hX; have hf := hX.sl_inv; subst hy; obtain ⟨ad0, c, hv, hc0, hc1⟩ := hf.sl_len; obtain ⟨m, hm1, hm2, hm3, hr⟩ := run_sliceBounds (P := P) hinv hl hh hm h0 h1 hc0 hmh; refine ⟨.slice (if m = l then ad0 else ad0.map (·.add (l * sz))) (h - l) (m - l), ?_, .fro ?_⟩
    · simp [execOp, Instr.sliceAt, Instr.slice, underlying, hu, program, Sem.run, hv, hr, hz w]
    · rw [hv] at hf
      have hlen : ((xs.take h).drop l).length = h - l := by simp; omega
      rcases Nat.eq_or_lt_of_le h0 with rfl | hlt
      · have : (xs.take l).drop l = [] := by simp
        rw [this, Nat.sub_self]; exact .sl0 (by omega)
      · have hml : m ≠ l := by omega
        rw [if_neg hml, ← hlen]; cases hf with
        | sl0 _ => simp at h1; omega
        | sl g0 g1 g2 g3 g4 g5 g6 =>
          rename_i vs ad
          have e : ((xs.take h).drop l).flatMap LV.cells = ((xs.flatMap LV.cells).take (h * sz)).drop (l * sz) := by
            rw [flat_drop _ sz _ (fun x hx => g1 x (List.mem_of_mem_take hx)), flat_take _ sz _ g1]
          refine Fro.sl (vs := (vs.take (h * sz)).drop (l * sz)) ?_ ?_ ?_ ((g3.take _).add _) (by rw [add_block]; exact g4) (by omega) (by omega)
          · intro e; rw [e] at hlen; simp at hlen; omega
          · intro x hx; exact g1 x (List.mem_of_mem_take (List.mem_of_mem_drop hx))
          · rw [e]; exact (g2.take _).drop _) hn
theorem LWo.cutStr {T : TypeId} {l h : Nat} {x : Operand} {lo hi : Option Operand} {b : ByteArray} (hu : P.underlying T = some .string)
    (hx : s.eval x = .imm (.string b)) (hl : Bound s lo 0 l) (hh : Bound s hi b.size h) (h0 : l ≤ h) (h1 : h ≤ b.size) (hd : Nat.blt d E.n = true := by exact rfl)
    (hn : LWo P E all rest Q (s.put (some d) (.imm (.string (b.extract l h))))) :
    LWo P E all ({ dst := some d, op := .slice T x lo hi none, type := ty, pos := pos, after := af, guard := none } :: rest) Q s :=
  LWo.still _ hd (fun a w ok ρ F hinv => ⟨.string (b.extract l h), by
    have hL := hl.run hinv; have hH := hh.run hinv; have hv := hinv.imm hx; rcases hH with ⟨rfl, rfl⟩ | ⟨kh, hH⟩ <;> rcases hL with ⟨rfl, rfl⟩ | ⟨kl, hL⟩ <;> simp [execOp, Instr.sliceAt, Instr.slice, underlying, hu, program, Sem.run, Instr.sliceBounds, *]
    · rw [run_sliceBound _ _ _ _ (by omega)]; simp
    · rw [run_sliceBound _ _ _ _ (by omega)]; simp
    · rw [run_sliceBound _ _ _ _ (by omega)]; simp; rw [run_sliceBound _ _ _ _ (by omega)]; simp, .fro (.imm _)⟩) hn
def setRange (cs : List LV) (off : Nat) (ys : List LV) : List LV := cs.take off ++ ys ++ cs.drop (off + ys.length)
def lfill (place : Nat → Option (Nat × Nat)) (cells : List LV) : List (Nat × LV) → Option (List LV)
  | [] => some cells
  | (i, x) :: rest =>
    match place i with
    | none => none
    | some (off, size) => if x.cells.length ≠ size ∨ off + x.cells.length > cells.length then none else lfill place (setRange cells off x.cells) rest
theorem Rep.cellsL {w : World} {ok : Nat → Prop} {ρ : Env} {x : LV} {v : Value} (h : Rep w ok ρ x v) (hx : x ≠ .junk) (ht : ∀ vs, x ≠ .tup vs) (h1 : (∀ cs, x ≠ .agg cs) → v.oneCell' = true) : RepL w ok ρ x.cells v.cells.toList := by
  by_cases ha : ∃ cs, x = .agg cs
  · obtain ⟨cs, rfl⟩ := ha
    obtain ⟨vs, rfl, h'⟩ := h.agg_inv; simpa [Value.cells] using h'
  · have ha' : ∀ cs, x ≠ .agg cs := fun cs e => ha ⟨cs, e⟩
    have hv := h1 ha'; have e1 : x.cells = [x] := by cases x <;> first | rfl | exact absurd rfl (ha' _)
    have e2 : v.cells = #[v] := by cases v <;> first | rfl | simp [Value.oneCell'] at hv
    rw [e1, e2]; exact .cons h hv .nil
theorem foldl_set (off : Nat) : ∀ (us : List Value) (k : Nat) (arr : Array Value), off + k + us.length ≤ arr.size →
    ((us.zipIdx k).foldl (fun cs (c, j) => cs.setIfInBounds (off + j) c) arr).toList = arr.toList.take (off + k) ++ us ++ arr.toList.drop (off + k + us.length)
  | [], k, arr, h => by simp
  | u :: us, k, arr, h => by
    rw [List.zipIdx_cons, List.foldl_cons, foldl_set off us (k + 1) _ (by simp at h ⊢; omega)]; simp only [Array.toList_setIfInBounds, List.length_cons] at h ⊢; have hlt : off + k < arr.toList.length := by simp; omega
    rw [show off + (k + 1) = off + k + 1 from by omega, List.take_succ_eq_append_getElem (by simpa using hlt), List.take_set_of_le (by omega), List.drop_set_of_lt (by omega)]; simp [Nat.add_assoc, Nat.add_comm, Nat.add_left_comm]
def LV.cellable : LV → Bool
  | .imm u => u.oneCell'
  | .sl .. | .slx .. | .mv .. | .own .. | .ptr .. | .fp .. | .clo .. | .agg _ => true
  | .junk | .tup _ | .nw .. | .ownc .. | .nb _ | .dv _ | .mx .. | .mp .. | .ms _ => false
theorem Rep.one {w : World} {ok : Nat → Prop} {ρ : Env} {x : LV} {v : Value} (h : Rep w ok ρ x v) (hc : x.cellable = true) (ha : ∀ cs, x ≠ .agg cs) : v.oneCell' = true := by
  cases x with
  | junk => simp [LV.cellable] at hc
  | imm u => rw [h.imm_inv]; exact hc
  | agg cs => exact absurd rfl (ha cs)
  | tup vs => simp [LV.cellable] at hc
  | sl sz xs => obtain ⟨_, _, rfl, _⟩ := h.sl_inv.sl_len; rfl
  | slx sz xs =>
    cases h with
    | fro h => cases h <;> rfl
  | mv f x =>
    cases h with
    | fro h => cases h; rfl
  | mp o ks lim => simp [LV.cellable] at hc
  | clo f cs => obtain ⟨_, rfl, _⟩ := h.clo_inv; rfl
  | fp cs => obtain ⟨_, _, rfl, _⟩ := h.fp_inv; rfl
  | ptr o i j => obtain ⟨_, _, rfl⟩ := h.ptr_inv; rfl
  | own o off n =>
    rcases h.own_inv with ⟨_, _, _, _, _, rfl⟩ | ⟨_, _, rfl⟩ <;> rfl
  | nw sz xs dp => simp [LV.cellable] at hc
  | ownc o off n c => simp [LV.cellable] at hc
  | nb cs => simp [LV.cellable] at hc
  | dv cs => simp [LV.cellable] at hc
  | mx sz xs => simp [LV.cellable] at hc
  | ms cs => simp [LV.cellable] at hc
theorem Rep.cells' {w : World} {ok : Nat → Prop} {ρ : Env} {x : LV} {v : Value} (h : Rep w ok ρ x v) (hc : x.cellable = true) : RepL w ok ρ x.cells v.cells.toList :=
  h.cellsL (by rintro rfl; simp [LV.cellable] at hc) (by rintro vs rfl; simp [LV.cellable] at hc) (h.one hc)
theorem RepL.setRange {w : World} {ok : Nat → Prop} {ρ : Env} {cs ys : List LV} {vs us : List Value} (h : RepL w ok ρ cs vs) (k : RepL w ok ρ ys us) (off : Nat) :
    RepL w ok ρ (setRange cs off ys) (vs.take off ++ us ++ vs.drop (off + ys.length)) :=
  ((h.take off).append k).append (h.drop _)
inductive PartsOK (w : World) (ok : Nat → Prop) (ρ : Env) : List (Nat × LV) → List (Nat × Value) → Prop
  | nil : PartsOK w ok ρ [] []
  | cons {i : Nat} {x : LV} {v : Value} {xs : List (Nat × LV)} {vs : List (Nat × Value)} : Rep w ok ρ x v → x.cellable = true → PartsOK w ok ρ xs vs → PartsOK w ok ρ ((i, x) :: xs) ((i, v) :: vs)
theorem run_fill {w : World} {ok : Nat → Prop} {ρ : Env} {place : Nat → Option (Nat × Nat)} {ps : List (Nat × LV)} {us : List (Nat × Value)} (hp : PartsOK w ok ρ ps us) :
    ∀ {cs ys : List LV} {vs : List Value}, RepL w ok ρ cs vs → lfill place cs ps = some ys → ∃ vs' : List Value, Instr.fill place vs.toArray us = some vs'.toArray ∧ RepL w ok ρ ys vs' := by
  induction hp with
  | nil => intro cs ys vs h hf; simp [lfill] at hf; subst hf; exact ⟨vs, by simp [Instr.fill], h⟩
  | cons hx hc _ ih =>
    rename_i i x v xs us' _; intro cs ys vs h hf; unfold lfill at hf; have hcells := hx.cells' hc; have hlen := hcells.length; have hlen2 := h.length; cases hpl : place i with
    | none => rw [hpl] at hf; cases hf
    | some q =>
      obtain ⟨off, size⟩ := q; rw [hpl] at hf; simp only at hf
      split at hf
      · cases hf
      · rename_i hno
        have h1 : v.cells.size = size := by
          have : x.cells.length = size := by omega
          rw [← this, hlen]; simp
        have h2 : off + v.cells.size ≤ vs.length := by omega
        have hset := h.setRange hcells off; obtain ⟨vs', hv', hr⟩ := ih hset hf; refine ⟨vs', ?_, hr⟩; unfold Instr.fill; rw [hpl]; simp only; rw [if_neg (by simp; omega)]; rw [← hv']
        congr 1
        have := foldl_set off v.cells.toList 0 vs.toArray (by simp; omega)
        apply Array.toList_inj.1
        rw [← Array.foldl_toList, Array.toList_zipIdx, this]; simp [hlen]
theorem LWo.build {T : TypeId} {fs : Array Field} {places : Array (Nat × Nat)} {zs : List Value} {parts : List (Nat × Operand)} (ps : List (Nat × LV)) (ys : List LV) (hu : P.underlying T = some (.struct fs))
    (hz : ∀ w, (zeroValue T).run P w = .ok (.agg zs.toArray) w) (hpl : ∀ w, (fs.mapM fun f => Prod.mk f.offset <$> sizeOf f.type : Sem (Array (Nat × Nat))).run P w = .ok places w)
    (h1 : ∀ z ∈ zs, z.oneCell' = true) (hps : parts.map (fun p => (p.1, s.eval p.2)) = ps) (hc : ∀ p ∈ ps, p.2.cellable = true) (hy : lfill (places[·]?) (zs.map LV.imm) ps = some ys) (hd : Nat.blt d E.n = true := by exact rfl)
    (hn : LWo P E all rest Q (s.put (some d) (.agg ys))) :
    LWo P E all ({ dst := some d, op := .build T parts.toArray, type := ty, pos := pos, after := af, guard := none } :: rest) Q s :=
  LWo.still _ hd (fun a w ok ρ F hinv => by
    have hparts : PartsOK w ok ρ ps (parts.map fun p => (p.1, a.eval p.2)) := by
      subst hps; clear hy hn
      induction parts with
      | nil => exact .nil
      | cons p r ih => exact .cons (hinv.eval p.2) (hc (p.1, s.eval p.2) (by simp)) (ih (fun q hq => hc q (by simp only [List.map_cons, List.mem_cons]; exact .inr hq)))
    have hzs : RepL w ok ρ (zs.map LV.imm) zs := by
      clear hy hz
      induction zs with
      | nil => exact .nil
      | cons z r ih => exact .cons (.fro (.imm z)) (h1 z (by simp)) (ih (fun y hy => h1 y (by simp [hy])))
    obtain ⟨vs', hf, hr⟩ := run_fill (place := (places[·]?)) hparts hzs hy; refine ⟨.agg vs'.toArray, ?_, .agg hr⟩; have e : (parts.toArray.map fun x => (x.1, a.eval x.2)).toList = parts.map fun p => (p.1, a.eval p.2) := by simp
    have hpl' := hpl w; simp [execOp, Instr.build, underlying, hz w, program, Sem.run, hu, Value.cells, hpl', hf]) hn
end
end Go.Lift
/- The lifted logic, part 6: objects: made, written. Own work. -/
namespace Go.Lift
open Go.RowKit
def LV.at? (k : Nat) : LV → Bool
  | .ptr o _ _ | .own o _ _ | .ownc o _ _ _ | .mp o _ _ => o == k
  | .agg cs => atL k cs
  | .tup cs => atL k cs
  | .clo _ cs => atL k cs
  | .sl _ _ | .slx _ _ | .mv _ _ | .junk | .imm _ | .fp _ | .nw .. | .nb _ | .dv _ | .mx .. | .ms _ => false
where atL (k : Nat) : List LV → Bool
  | [] => false
  | x :: xs => x.at? k || atL k xs
mutual
theorem LV.at?_refs (k : Nat) : ∀ x : LV, x.at? k = false → k ∉ x.refs
  | .ptr o _ _, h => by simp [LV.at?] at h; simp [LV.refs]; exact fun e => h e.symm
  | .own o _ _, h => by simp [LV.at?] at h; simp [LV.refs]; exact fun e => h e.symm
  | .ownc o _ _ _, h => by simp [LV.at?] at h; simp [LV.refs]; exact fun e => h e.symm
  | .agg cs, h => by simpa [LV.refs] using LV.atL_refs k cs (by simpa [LV.at?] using h)
  | .tup cs, h => by simpa [LV.refs] using LV.atL_refs k cs (by simpa [LV.at?] using h)
  | .clo _ cs, h => by simpa [LV.refs] using LV.atL_refs k cs (by simpa [LV.at?] using h)
  | .sl _ _, _ => by simp [LV.refs]
  | .slx _ _, _ => by simp [LV.refs]
  | .mv _ _, _ => by simp [LV.refs]
  | .mp o _ _, h => by simp [LV.at?] at h; simp [LV.refs]; exact fun e => h e.symm
  | .junk, _ => by simp [LV.refs]
  | .imm _, _ => by simp [LV.refs]
  | .fp _, _ => by simp [LV.refs]
  | .nw .., _ => by simp [LV.refs]
  | .nb _, _ => by simp [LV.refs]
  | .dv _, _ => by simp [LV.refs]
  | .mx .., _ => by simp [LV.refs]
  | .ms .., _ => by simp [LV.refs]
theorem LV.atL_refs (k : Nat) : ∀ xs : List LV, LV.at?.atL k xs = false → k ∉ LV.refs.refsL xs
  | [], _ => by simp [LV.refs.refsL]
  | x :: xs, h => by
    simp [LV.at?.atL] at h; simp [LV.refs.refsL]; exact ⟨LV.at?_refs k x h.1, LV.atL_refs k xs h.2⟩
end
def kill (k : Nat) : Tm → Tm
  | [] => []
  | (d, v) :: r => (d, if v.at? k then .junk else v) :: kill k r
theorem get_kill (k t : Nat) : ∀ tm : Tm, get t (kill k tm) = if (get t tm).at? k then .junk else get t tm
  | [] => by simp [kill, get, LV.at?]
  | (d, v) :: r => by
    simp only [kill, get]
    split
    · rfl
    · exact get_kill k t r
theorem kill_refs (k t : Nat) (tm : Tm) : k ∉ (get t (kill k tm)).refs := by
  rw [get_kill]
  split
  · simp [LV.refs]
  · rename_i h
    exact LV.at?_refs k _ (by simpa using h)
def LObj.at? (k : Nat) (o : LObj) : Bool :=
  match o.kind with
  | .box | .split => LV.at?.atL k (o.elems.flatMap LV.cells)
  | .mix out => out.contains k
  | _ => false
theorem LObj.at?_refs (k : Nat) (o : LObj) (h : o.at? k = false) : k ∉ o.refs := by
  unfold LObj.at? at h; unfold LObj.refs; cases hk : o.kind <;> rw [hk] at h <;> first | simp; done | exact LV.atL_refs _ _ h | simpa using h
def lone (k : Nat) : LHeap → Bool
  | [] => true
  | (j, o) :: r => !o.at? k && lone k r
theorem lone_refs {k : Nat} : ∀ {h : LHeap}, lone k h = true → ∀ p ∈ h, k ∉ p.2.refs
  | [], _, p, hp => by simp at hp
  | (j, o) :: r, h, p, hp => by
    simp [lone] at h; rcases List.mem_cons.1 hp with rfl | hp
    · exact LObj.at?_refs k _ h.1
    · exact lone_refs h.2 p hp
def upd {α : Type} (f : Nat → α) (k : Nat) (x : α) : Nat → α := fun j => if j = k then x else f j
@[simp] theorem upd_same {α : Type} (f : Nat → α) (k : Nat) (x : α) : upd f k x k = x := by simp [upd]
theorem upd_other {α : Type} (f : Nat → α) {k j : Nat} (x : α) (h : j ≠ k) : upd f k x j = f j := by simp [upd, h]
theorem fpsOf_congr {F F' : Nat → List Nat} : ∀ {h : LHeap}, (∀ p ∈ h, F p.1 = F' p.1) → fpsOf F h = fpsOf F' h
  | [], _ => rfl
  | p :: r, hh => by
    simp only [fpsOf, List.flatMap_cons]; rw [hh p (by simp)]
    congr 1
    exact fpsOf_congr (fun q hq => hh q (by simp [hq]))
theorem mem_fpsOf {F : Nat → List Nat} {h : LHeap} {b : Nat} : b ∈ fpsOf F h ↔ ∃ p ∈ h, b ∈ F p.1 := by simp [fpsOf, List.mem_flatMap]
theorem not_key {k : Nat} {h : LHeap} (hk : k ∉ hkeys h) : ∀ p ∈ h, p.1 ≠ k := fun p hp e => hk (by simp [hkeys]; exact ⟨p.2, by rw [← e]; exact hp⟩)
theorem heap_alloc_lt (w : World) (o : Obj) (b : Nat) (h : b < w.heap.size) : (w.alloc o).heap[b]? = w.heap[b]? := Below.heap_alloc w o b h
theorem heap_alloc_at (w : World) (o : Obj) : (w.alloc o).heap[w.heap.size]? = some o := by show (w.heap.push o)[w.heap.size]? = _; simp
theorem Ext.alloc {w0 w : World} {lent : List Nat} (h : Ext w0 lent w) (o : Obj) : Ext w0 lent (w.alloc o) :=
  ⟨h.os, h.tape, h.output, by simp; have := h.size; omega, fun k hk hl => (heap_alloc_lt w o k (by have := h.size; omega)).trans (h.block k hk hl), h.drawn⟩
theorem Ext.drew {w0 w : World} {lent : List Nat} (h : Ext w0 lent w) : Ext w0 lent w.drew := ⟨h.os, h.tape, h.output, h.size, h.block, Nat.le_trans h.drawn (Nat.le_succ _)⟩
section
variable {P : Program} {E : Ent} {Q : Exit → LState → Prop} {s : LState} {all : Array Oper} {rest : List Oper} {d : Nat} {ty : TypeId} {pos : String} {af : Array Edge}
theorem Inv'.drew {a : Act} {w : World} {ok : Nat → Prop} {ρ : Env} {F : Nat → List Nat} (h : Inv' E s a w ok ρ F) : Inv' E s a w.drew ok ρ F where
  defers := h.defers
  size := h.size
  ext := h.ext.drew
  okk := h.okk
  heap := ⟨h.heap.keys, fun p hp => ObjRep.stable (w := w) (w' := w.drew) (fun _ _ => rfl) (fun _ hb => hb) (fun _ _ => rfl) rfl (fun _ _ => rfl) (h.heap.objs p hp), h.heap.nodup, h.heap.apart⟩
  mine := h.mine
  slots := fun t => Rep.stable (w := w) (w' := w.drew) (fun _ _ => rfl) (fun _ hb => hb) (fun _ _ => rfl) (h.slots t)
  keep := h.keep
theorem Inv'.newObj {a : Act} {w : World} {ok : Nat → Prop} {ρ : Env} {F : Nat → List Nat} (h : Inv' E s a w ok ρ F) (k : Nat) (hkp : E.keep.contains k = false) (hk : k ∉ hkeys s.h) (hl : Lift.lone k s.h = true) (obj : LObj) (arr : Array Value) (t : TypeId) (vs : List Value) (cap : Nat)
    (unif : ∀ x ∈ obj.elems, x.cells.length = obj.sz) (len : obj.elems.length ≤ cap) (hcap : cap ≤ maxLen) (room : cap * obj.sz ≤ arr.size) (vals : ∀ (k : Nat) (v : Value), vs[k]? = some v → arr[k]? = some v)
    (hkind : obj.kind = .fro ∨ obj.kind = .box ∧ LV.at?.atL k (obj.elems.flatMap LV.cells) = false) (cells : ObjCells w ok ρ obj.kind (obj.elems.flatMap LV.cells) vs []) :
    Inv' E { tm := kill k s.tm, h := (k, obj) :: s.h } a (w.alloc (.cells arr t)) ok (upd ρ k (some ⟨w.heap.size, cap, obj.sz⟩)) (upd F k [w.heap.size]) := by
  have hob : ∀ b, ok b → (w.alloc (.cells arr t)).heap[b]? = w.heap[b]? := fun b hb => heap_alloc_lt w _ b (h.okk b hb).1; have hne := not_key hk; have hF : ∀ p ∈ s.h, upd F k [w.heap.size] p.1 = F p.1 := fun p hp => upd_other _ _ (hne p hp); have hfps : fpsOf (upd F k [w.heap.size]) s.h = fpsOf F s.h := fpsOf_congr hF; refine { defers := h.defers, size := h.size, ext := h.ext.alloc _, okk := fun b hb => ⟨by simp; have := (h.okk b hb).1; omega, (h.okk b hb).2⟩, heap := ⟨?_, ?_, ?_, ?_⟩, mine := ?_, slots := ?_, keep := fun j hj => (upd_other ρ _ (show j ≠ k from fun e => by subst e; simp [hj] at hkp)).trans (h.keep j hj) }
  · simp only [hkeys, List.map_cons, List.nodup_cons]
    exact ⟨hk, h.heap.keys⟩
  · intro p hp
    rcases List.mem_cons.1 hp with rfl | hp
    · refine .inr ⟨⟨w.heap.size, cap, obj.sz⟩, arr, t, vs, [], by simp, by simp, { sz := rfl, unif := unif, len := len, cap := hcap, blk := heap_alloc_at w _, room := room, vals := vals, cells := ?_ }⟩
      refine cells.stable hob (fun _ hb => hb) (by simp) ?_; intro o ho; rcases hkind with e | ⟨e, hr⟩
      · rw [e] at ho; simp at ho
      · rw [e] at ho
        exact upd_other _ _ (fun e' => LV.atL_refs k _ hr (e' ▸ ho))
    · have hr := lone_refs hl p hp
      show ObjRep _ _ _ p.1 p.2 (upd F k [w.heap.size] p.1); rw [hF p hp]; refine (h.heap.objs p hp).stable hob (fun _ hb => hb) (fun b hb => heap_alloc_lt w _ b (h.heap.apart b (mem_fpsOf.2 ⟨p, hp, hb⟩)).2) (upd_other _ _ (hne p hp)) (fun j hj => upd_other _ _ (fun e => hr (e ▸ hj)))
  · show (fpsOf (upd F k [w.heap.size]) ((k, obj) :: s.h)).Nodup
    have : fpsOf (upd F k [w.heap.size]) ((k, obj) :: s.h) = w.heap.size :: fpsOf F s.h := by
      rw [← hfps]; simp [fpsOf]
    rw [this, List.nodup_cons]; exact ⟨fun hm => by have := (h.heap.apart _ hm).2; omega, h.heap.nodup⟩
  · intro b hb
    rw [mem_fpsOf] at hb; obtain ⟨p, hp, hb⟩ := hb; rcases List.mem_cons.1 hp with rfl | hp
    · simp at hb; subst hb
      exact ⟨fun ho => by have := (h.okk _ ho).1; omega, by simp⟩
    · rw [hF p hp] at hb
      have := h.heap.apart b (mem_fpsOf.2 ⟨p, hp, hb⟩); exact ⟨this.1, by simp; omega⟩
  · intro p hp hro b hb hlt
    rcases List.mem_cons.1 hp with rfl | hp
    · simp at hb; subst hb
      have := h.ext.size; omega
    · rw [hF p hp] at hb
      exact h.mine p hp hro b hb hlt
  · intro t'
    have hs := h.slots t'; rw [show ({ tm := kill k s.tm, h := (k, obj) :: s.h } : LState).tm = kill k s.tm from rfl]; have hr := kill_refs k t' s.tm
    have hs' : Rep w ok ρ (get t' (kill k s.tm)) (a.tmps.getD t' undef) := by
      rw [get_kill]
      split
      · exact .junk _
      · exact hs
    exact hs'.stable hob (fun _ hb => hb) (fun o ho => upd_other _ _ (fun e => hr (e ▸ ho)))
theorem Inv'.newFro {a : Act} {w : World} {ok : Nat → Prop} {ρ : Env} {F : Nat → List Nat} (h : Inv' E s a w ok ρ F) (o : Obj) :
    Inv' E s a (w.alloc o) (fun b => ok b ∨ b = w.heap.size) ρ F := by
  have hob : ∀ b, ok b → (w.alloc o).heap[b]? = w.heap[b]? := fun b hb => heap_alloc_lt w _ b (h.okk b hb).1; refine { defers := h.defers, size := h.size, ext := h.ext.alloc _, okk := ?_, heap := ⟨h.heap.keys, ?_, h.heap.nodup, ?_⟩, mine := h.mine, slots := ?_, keep := h.keep }
  · rintro b (hb | rfl)
    · exact ⟨by simp; have := (h.okk b hb).1; omega, (h.okk b hb).2⟩
    · exact ⟨by simp, fun hlt => by have := h.ext.size; omega⟩
  · intro p hp
    exact (h.heap.objs p hp).stable hob (fun _ hb => .inl hb) (fun b hb => heap_alloc_lt w _ b (h.heap.apart b (mem_fpsOf.2 ⟨p, hp, hb⟩)).2) rfl (fun _ _ => rfl)
  · intro b hb
    have := h.heap.apart b hb; exact ⟨by rintro (ho | rfl); exact this.1 ho; omega, by simp; omega⟩
  · intro t
    exact (h.slots t).stable hob (fun _ hb => .inl hb) (fun _ _ => rfl)
end
end Go.Lift
/- The lifted logic, part 7: operations that make objects. Own work. -/
namespace Go.Lift
open Go.RowKit
theorem hdel_sub (k : Nat) : ∀ h : LHeap, (hdel k h).Sublist h
  | [] => .slnil
  | (j, o) :: r => by
    simp only [hdel]
    split
    · exact (hdel_sub k r).cons _
    · exact (hdel_sub k r).cons_cons _
theorem hdel_key (k : Nat) : ∀ h : LHeap, k ∉ hkeys (hdel k h)
  | [] => by simp [hdel, hkeys]
  | (j, o) :: r => by
    simp only [hdel]
    split
    · exact hdel_key k r
    · rename_i hj
      have := hdel_key k r; simp [hkeys] at this ⊢; exact ⟨fun e => hj e.symm, this⟩
theorem fpsOf_sub {F : Nat → List Nat} {h h' : LHeap} (hs : h'.Sublist h) : (fpsOf F h').Sublist (fpsOf F h) := by
  unfold fpsOf
  induction hs with
  | slnil => simp
  | cons a _ ih => simp only [List.flatMap_cons]; exact ih.trans (List.sublist_append_right _ _)
  | cons_cons a _ ih => simp only [List.flatMap_cons]; exact (List.Sublist.refl _).append ih
theorem atL_imm (k : Nat) : ∀ zs : List Value, LV.at?.atL k (zs.map LV.imm) = false
  | [] => rfl
  | z :: r => by simp [LV.at?.atL, LV.at?, atL_imm k r]
theorem froL_imm {w : World} {ok : Nat → Prop} : ∀ (zs : List Value), (∀ u ∈ zs, u.oneCell' = true) → FroL w ok (zs.map LV.imm) zs
  | [], _ => .nil
  | z :: r, h => .cons (.imm z) (h z (by simp)) (froL_imm r (fun u hu => h u (by simp [hu])))
section
variable {P : Program} {E : Ent} {Q : Exit → LState → Prop} {s : LState} {all : Array Oper} {rest : List Oper} {d : Nat} {ty : TypeId} {pos : String} {af : Array Edge}
theorem Inv'.sub {a : Act} {w : World} {ok : Nat → Prop} {ρ : Env} {F : Nat → List Nat} (h : Inv' E s a w ok ρ F) {h' : LHeap} (hs : h'.Sublist s.h) : Inv' E { s with h := h' } a w ok ρ F :=
  { h with
    heap := ⟨(hs.map _).nodup h.heap.keys, fun p hp => h.heap.objs p (hs.mem hp), (fpsOf_sub hs).nodup h.heap.nodup, fun b hb => h.heap.apart b ((fpsOf_sub hs).mem hb)⟩
    mine := fun p hp => h.mine p (hs.mem hp) }
theorem LWo.make {op : Op} (k : Nat) (obj : LObj) (y : LV) (hd : Nat.blt d E.n = true := by exact rfl) (hkp : E.keep.contains k = false := by exact rfl) (hl : lone k (hdel k s.h) = true) (hro : obj.kind = .fro ∨ obj.kind = .box ∧ LV.at?.atL k (obj.elems.flatMap LV.cells) = false)
    (unif : ∀ x ∈ obj.elems, x.cells.length = obj.sz)
    (h : ∀ a w ok ρ F, Inv' E s a w ok ρ F → ∃ v arr t vs cap w1, (execOp a.eval { dst := some d, op := op, type := ty, pos := pos, after := af, guard := none }).run P w = .ok (.value v) (w1.alloc (.cells arr t)) ∧ (w1 = w ∨ w1 = w.drew) ∧
      obj.elems.length ≤ cap ∧ cap ≤ maxLen ∧ cap * obj.sz ≤ arr.size ∧ (∀ (k : Nat) (v : Value), vs[k]? = some v → arr[k]? = some v) ∧ ObjCells w ok ρ obj.kind (obj.elems.flatMap LV.cells) vs [] ∧
      ∀ W ok' ρ', ρ' k = some ⟨w.heap.size, cap, obj.sz⟩ → Rep W ok' ρ' y v)
    (hn : LWo P E all rest Q { tm := (d, y) :: kill k s.tm, h := (k, obj) :: hdel k s.h }) : LWo P E all ({ dst := some d, op := op, type := ty, pos := pos, after := af, guard := none } :: rest) Q s :=
  LWo.value _ rfl (fun a w ok ρ F hi => by
    obtain ⟨v, arr, t, vs, cap, w1, hr, hw1, h1, h2, h3, h4, h5, h6⟩ := h a w ok ρ F hi; refine ⟨_, _, hr, .inl ⟨v, rfl, ?_⟩⟩
    have key : ∀ w1 : World, w1.heap = w.heap → Inv' E s a w1 ok ρ F → ObjCells w1 ok ρ obj.kind (obj.elems.flatMap LV.cells) vs [] → Inv E { tm := (d, y) :: kill k s.tm, h := (k, obj) :: hdel k s.h } (a.put (some d) v) (w1.alloc (.cells arr t)) := by
      intro w1 hw hi hc; have hi' := (hi.sub (hdel_sub k s.h)).newObj k hkp (hdel_key k s.h) hl obj arr t vs cap unif h1 h2 h3 h4 hro hc; exact ⟨_, _, _, hi'.put hd (h6 _ _ _ (by rw [hw]; simp))⟩
    rcases hw1 with rfl | rfl
    · exact key w1 rfl hi h5
    · exact key w.drew rfl hi.drew (ObjCells.stable (w := w) (w' := w.drew) (fun _ _ => rfl) (fun _ hb => hb) (fun _ _ => rfl) (fun _ _ => rfl) h5)) hn
theorem LWo.box {T : TypeId} {x : Operand} (k : Nat) (y : LV) (hx : s.eval x = y) (hc : y.cellable = true) (hkp : E.keep.contains k = false := by exact rfl) (hl : lone k (hdel k s.h) = true) (hy : LV.at?.atL k y.cells = false) (hd : Nat.blt d E.n = true := by exact rfl) (hm : y.cells.length ≤ 1000000)
    (hn : LWo P E all rest Q { tm := (d, .ptr k 0 0) :: kill k s.tm, h := (k, { kind := .box, sz := y.cells.length, elems := [y] }) :: hdel k s.h }) :
    LWo P E all ({ dst := some d, op := .box T x, type := ty, pos := pos, after := af, guard := none } :: rest) Q s :=
  LWo.make k { kind := .box, sz := y.cells.length, elems := [y] } (.ptr k 0 0) hd hkp hl (.inr ⟨rfl, by simpa using hy⟩) (by simp) (fun a w ok ρ F hinv => by
    have h := hinv.eval x; rw [hx] at h; have hcl := h.cells' hc; refine ⟨.pointer (some ⟨w.heap.size, 0, none⟩), (a.eval x).cells, T, (a.eval x).cells.toList, 1, w, ?_, .inl rfl, by simp, by decide, ?_, fun k v hk => by simpa using hk, ?_, fun W ok' ρ' hρ => ?_⟩
    · simp [execOp, Instr.box, newVar, newRow]
    · have := hcl.length; simp at this ⊢; omega
    · exact ⟨rfl, by simpa using hcl⟩
    · have := Rep.ptr (w := W) (ok := ok') (ρ := ρ') (i := 0) (j := 0) hρ
      simpa using this) hn
theorem LWo.alloc {T : TypeId} {z : Value} (k : Nat) (y : LV) (hz : ∀ w, (zeroValue T).run P w = .ok z w) (hy : (∃ zs : List Value, z = .agg zs.toArray ∧ y = .agg (zs.map LV.imm) ∧ ∀ u ∈ zs, u.oneCell' = true) ∨ (z.oneCell' = true ∧ y = .imm z)) (hkp : E.keep.contains k = false := by exact rfl) (hl : lone k (hdel k s.h) = true) (hd : Nat.blt d E.n = true := by exact rfl)
    (hn : LWo P E all rest Q { tm := (d, .ptr k 0 0) :: kill k s.tm, h := (k, { kind := .box, sz := y.cells.length, elems := [y] }) :: hdel k s.h }) :
    LWo P E all ({ dst := some d, op := .alloc T, type := ty, pos := pos, after := af, guard := none } :: rest) Q s :=
  have hat : LV.at?.atL k y.cells = false := by
    rcases hy with ⟨zs, _, rfl, _⟩ | ⟨_, rfl⟩
    · exact atL_imm k zs
    · simp [LV.at?.atL, LV.at?]
  LWo.make k { kind := .box, sz := y.cells.length, elems := [y] } (.ptr k 0 0) hd hkp hl (.inr ⟨rfl, by simpa using hat⟩) (by simp) (fun a w ok ρ F hinv => by
    have hrep : ∃ vs : List Value, z.cells = vs.toArray ∧ RepL w ok ρ y.cells vs := by
      rcases hy with ⟨zs, rfl, rfl, h1⟩ | ⟨h1, rfl⟩
      · refine ⟨zs, rfl, ?_⟩
        simp only [LV.cells_agg]; exact (froL_imm zs h1).rep
      · refine ⟨[z], ?_, .cons (.fro (.imm z)) h1 .nil⟩
        cases z <;> first | rfl | simp [Value.oneCell'] at h1
    obtain ⟨vs, hcells, hvs⟩ := hrep; refine ⟨.pointer (some ⟨w.heap.size, 0, none⟩), z.cells, T, vs, 1, w, ?_, .inl rfl, by simp, by decide, ?_, fun k v hk => by rw [hcells]; simpa using hk, ?_, fun W ok' ρ' hρ => ?_⟩
    · simp [execOp, Instr.alloc, newVar, newRow, hz w]
    · have := hvs.length; rw [hcells]; simp; omega
    · exact ⟨rfl, by simpa using hvs⟩
    · have := Rep.ptr (w := W) (ok := ok') (ρ := ρ') (i := 0) (j := 0) hρ
      simpa using this) hn
def flatV (us : List Value) : List Value := us.flatMap fun u => u.cells.toList
theorem fill_all (sz : Nat) : ∀ (us : List Value) (k : Nat) (arr : Array Value), (∀ u ∈ us, u.cells.size = sz) → arr.size = (k + us.length) * sz →
    Instr.fill (fun i => some (i * sz, sz)) arr ((us.zipIdx k).map fun p => (p.2, p.1)) = some (arr.toList.take (k * sz) ++ flatV us).toArray
  | [], k, arr, _, h => by
    simp [Instr.fill, flatV]
    apply Array.toList_inj.1
    simp at h; rw [← h]; exact (List.take_of_length_le (by simp)).symm
  | u :: us, k, arr, hu, h => by
    have h1 := hu u (by simp); simp only [List.zipIdx_cons, List.map_cons, Instr.fill, List.length_cons] at h ⊢
    have hle : k * sz + sz ≤ arr.size := by
      rw [h, ← Nat.succ_mul]; exact Nat.mul_le_mul_right _ (by omega)
    rw [if_neg (by simp [h1]; omega)]; have hset := foldl_set (k * sz) u.cells.toList 0 arr (by simp [h1]; omega); rw [fill_all sz us (k + 1) _ (fun z hz => hu z (by simp [hz]))]
    · congr 2
      rw [← Array.foldl_toList, Array.toList_zipIdx, hset]; simp only [Nat.add_zero, flatV, List.flatMap_cons, Array.length_toList, h1]; rw [List.take_append, List.take_of_length_le (by simp [h1]; rw [Nat.succ_mul]; omega)]; simp [h1, Nat.succ_mul]; have : k * sz + sz - (min (k * sz) arr.size + sz) = 0 := by omega
      simp [this]
    · have e : (Array.foldl (fun cs (x : Value × Nat) => cs.setIfInBounds (k * sz + x.2) x.1) arr u.cells.zipIdx).toList.length = arr.size := by
        rw [← Array.foldl_toList, Array.toList_zipIdx, hset]; simp [h1]; omega
      rw [Array.length_toList] at e; exact e.trans (by rw [h]; congr 1; omega)
theorem RepT.flat {w : World} {ok : Nat → Prop} {ρ : Env} : ∀ {xs : List LV} {vs : List Value}, RepT w ok ρ xs vs → (∀ x ∈ xs, x.cellable = true) → RepL w ok ρ (xs.flatMap LV.cells) (flatV vs)
  | _, _, .nil, _ => by simpa [flatV] using RepL.nil
  | _, _, .cons h h2, hc => by
    simp only [List.flatMap_cons, flatV]; exact (h.cells' (hc _ (by simp))).append (RepT.flat h2 (fun x hx => hc x (by simp [hx])))
theorem RepT.sizes {w : World} {ok : Nat → Prop} {ρ : Env} {sz : Nat} : ∀ {xs : List LV} {vs : List Value}, RepT w ok ρ xs vs → (∀ x ∈ xs, x.cellable = true ∧ x.cells.length = sz) → ∀ u ∈ vs, u.cells.size = sz
  | _, _, .nil, _ => by simp
  | _, _, .cons h h2, hc => by
    intro u hu; rcases List.mem_cons.1 hu with rfl | hu
    · have := (h.cells' (hc _ (by simp)).1).length
      simp at this; rw [← this, (hc _ (by simp)).2]
    · exact RepT.sizes h2 (fun x hx => hc x (by simp [hx])) u hu
theorem run_buildSlice {T e : TypeId} {sz n : Nat} {z : Value} {us : List Value} (hu : P.underlying T = some (.slice e)) (hz : ∀ w, (sizeOf e).run P w = .ok sz w) (hzv : ∀ w, (zeroValue e).run P w = .ok z w) (hs : ∀ u ∈ us, u.cells.size = sz) (hn : us.length = n) (hm : n * sz ≤ 16777216) (w : World) :
    (Instr.buildSlice T n ((us.zipIdx).map fun p => (p.2, p.1)).toArray).run P w = .ok (.slice (some ⟨w.heap.size, 0, none⟩) n n) (w.alloc (.cells (flatV us).toArray e)) := by
  have hm' : ¬ (16777216 < n * sz) := by omega
  have hfill : ∀ arr : Array Value, arr.size = n * sz → Instr.fill (fun i => some (i * sz, sz)) arr ((us.zipIdx).map fun p => (p.2, p.1)) = some (flatV us).toArray := fun arr ha => by
    have := fill_all sz us 0 arr hs (by rw [ha, hn]; simp); simpa using this
  by_cases h0 : n * sz = 0
  · simp [Instr.buildSlice, underlying, hu, program, Sem.run, hz w, hm', h0, newRow]
    rw [hfill _ (by simp [h0])]; simp
  · simp [Instr.buildSlice, underlying, hu, program, Sem.run, hz w, hm', h0, newRow, hzv w]
    rw [hfill _ (by simp)]; simp
theorem LWo.literal {T e : TypeId} {sz n : Nat} {z : Value} {ops : List Operand} (xs : List LV) (hu : P.underlying T = some (.slice e)) (hz : ∀ w, (sizeOf e).run P w = .ok sz w) (hzv : ∀ w, (zeroValue e).run P w = .ok z w)
    (hx : ops.map s.eval = xs) (hc : ∀ x ∈ xs, x.cellable = true ∧ x.cells.length = sz ∧ x.pure = true) (hl : ops.length = n) (hm : n * sz ≤ 16777216) (h0 : n ≠ 0) (hsz : sz ≠ 0) (hd : Nat.blt d E.n = true := by exact rfl)
    (hn : LWo P E all rest Q (s.put (some d) (.sl sz xs))) :
    LWo P E all ({ dst := some d, op := .buildSlice T n ((ops.zipIdx).map fun p => (p.2, p.1)).toArray, type := ty, pos := pos, after := af, guard := none } :: rest) Q s :=
  LWo.value _ rfl (fun a w ok ρ F hi => by
    have ht := evalL ops hi; rw [hx] at ht; have hs := ht.sizes (fun x hx => ⟨(hc x hx).1, (hc x hx).2.1⟩); have hlen := ht.length; have hxl : xs.length = n := by rw [← hx]; simpa using hl
    have hr := run_buildSlice hu hz hzv hs (by rw [← hlen, hxl]) hm w; refine ⟨.value (.slice (some ⟨w.heap.size, 0, none⟩) n n), w.alloc (.cells (flatV (ops.map a.eval)).toArray e), ?_, .inl ⟨_, rfl, _, _, _, (hi.newFro (.cells (flatV (ops.map a.eval)).toArray e)).put hd ?_⟩⟩
    · have e1 : (((ops.zipIdx).map fun p => (p.2, p.1)).toArray.map fun x => (x.1, a.eval x.2)) = (((ops.map a.eval).zipIdx).map fun p => (p.2, p.1)).toArray := by
        simp [List.zipIdx_map]
      simp only [execOp]; rw [e1, Sem.run_bind, hr]; simp
    · have hflat := ht.flat (fun x hx => (hc x hx).1)
      have hp : LV.pure.pureL (xs.flatMap LV.cells) = true := by
        have : ∀ ys : List LV, (∀ x ∈ ys, x.pure = true) → LV.pure.pureL (ys.flatMap LV.cells) = true := by
          intro ys hy
          have app : ∀ a b : List LV, LV.pure.pureL (a ++ b) = (LV.pure.pureL a && LV.pure.pureL b) := by
            intro a b; induction a with
            | nil => simp [LV.pure.pureL]
            | cons x a ih => simp [LV.pure.pureL, ih, Bool.and_assoc]
          induction ys with
          | nil => rfl
          | cons x ys ih =>
            rw [List.flatMap_cons, app, ih (fun z hz => hy z (by simp [hz]))]; have hx := hy x (by simp); cases x <;> simp_all [LV.cells, LV.pure, LV.pure.pureL]
        exact this xs (fun x hx => (hc x hx).2.2)
      have hfro := hflat.pure hp; have hne : xs ≠ [] := by rintro rfl; simp at hxl; omega
      have hfro' := FroL.stable (w := w) (w' := w.alloc (.cells (flatV (ops.map a.eval)).toArray e)) (ok' := fun b => ok b ∨ b = w.heap.size) (fun b hb => heap_alloc_lt w _ b (hi.okk b hb).1) (fun b hb => Or.inl hb) hfro; rw [← hxl]; refine .fro (.sl hne (fun x hx => (hc x hx).2.1) hfro' ?_ (.inr rfl) (Nat.le_refl _) ?_)
      · intro k v hk
        rw [add_plain]; have := World.cell?_alloc_new w (flatV (ops.map a.eval)).toArray e (0 + k); rw [this]; simpa using hk
      · rw [hxl]
        have : n ≤ n * sz := Nat.le_mul_of_pos_right _ (by omega); unfold maxLen; omega) hn
end
end Go.Lift
/- The lifted logic, part 8: stores and appends. Own work. -/
namespace Go.Lift
open Go.RowKit
theorem hput_keys (k : Nat) (x : LObj) : ∀ h : LHeap, hkeys (hput k x h) = hkeys h
  | [] => rfl
  | (j, o) :: r => by
    have := hput_keys k x r; simp only [hput]
    split <;> simp_all [hkeys]
theorem mem_hput {k : Nat} {x : LObj} : ∀ {h : LHeap} {p : Nat × LObj}, p ∈ hput k x h → (p.1 = k ∧ p.2 = x) ∨ (p.1 ≠ k ∧ p ∈ h)
  | [], p, hp => by simp [hput] at hp
  | (j, o) :: r, p, hp => by
    simp only [hput] at hp
    split at hp
    · rename_i hj
      rcases List.mem_cons.1 hp with rfl | hp
      · exact .inl ⟨hj, rfl⟩
      · rcases mem_hput hp with h | ⟨h1, h2⟩
        · exact .inl h
        · exact .inr ⟨h1, by simp [h2]⟩
    · rename_i hj
      rcases List.mem_cons.1 hp with rfl | hp
      · exact .inr ⟨hj, by simp⟩
      · rcases mem_hput hp with h | ⟨h1, h2⟩
        · exact .inl h
        · exact .inr ⟨h1, by simp [h2]⟩
theorem fpsOf_keys (F : Nat → List Nat) (h : LHeap) : fpsOf F h = (hkeys h).flatMap F := by
  unfold fpsOf hkeys; rw [List.flatMap_map]
theorem nodup_apart {F : Nat → List Nat} : ∀ {h : LHeap}, (hkeys h).Nodup → (fpsOf F h).Nodup → ∀ {p q : Nat × LObj}, p ∈ h → q ∈ h → p.1 ≠ q.1 → ∀ b ∈ F p.1, b ∉ F q.1
  | [], _, _, p, q, hp, _, _, b, _ => by simp at hp
  | z :: r, hk, hn, p, q, hp, hq, hne, b, hb => by
    simp only [hkeys, List.map_cons, List.nodup_cons] at hk; simp only [fpsOf, List.flatMap_cons, List.nodup_append] at hn; obtain ⟨n1, n2, n3⟩ := hn; intro hb'; rcases List.mem_cons.1 hp with hp' | hp' <;> rcases List.mem_cons.1 hq with hq' | hq'
    · rw [hp', hq'] at hne; exact hne rfl
    · rw [hp'] at hb; exact n3 b hb b (List.mem_flatMap.2 ⟨q, hq', hb'⟩) rfl
    · rw [hq'] at hb'; exact n3 b hb' b (List.mem_flatMap.2 ⟨p, hp', hb⟩) rfl
    · exact nodup_apart hk.2 n2 hp' hq' hne b hb hb'
theorem RepL.ones {w : World} {ok : Nat → Prop} {ρ : Env} : ∀ {xs : List LV} {us : List Value}, RepL w ok ρ xs us → ∀ u ∈ us, u.oneCell' = true
  | _, _, .nil => by simp
  | _, _, .cons _ h1 h2 => by
    intro u hu; rcases List.mem_cons.1 hu with rfl | hu
    · exact h1
    · exact RepL.ones h2 u hu
theorem hput_perm {k : Nat} {x o : LObj} : ∀ {h : LHeap}, (hkeys h).Nodup → hget k h = some o → (hput k x h).Perm ((k, x) :: hdel k h)
  | [], _, hg => by simp [hget] at hg
  | (j, z) :: r, hn, hg => by
    simp only [hkeys, List.map_cons, List.nodup_cons] at hn; simp only [hget] at hg; simp only [hput, hdel]
    split at hg
    · rename_i hj
      subst hj; rw [if_pos rfl, if_pos rfl]
      have : ∀ r : LHeap, j ∉ hkeys r → hput j x r = r ∧ hdel j r = r := by
        intro r hr
        induction r with
        | nil => exact ⟨rfl, rfl⟩
        | cons q r ih =>
          obtain ⟨i, u⟩ := q; simp only [hkeys, List.map_cons, List.mem_cons, not_or] at hr; have := ih hr.2; simp only [hput, hdel]; rw [if_neg (fun e => hr.1 e.symm), if_neg (fun e => hr.1 e.symm), this.1, this.2]; exact ⟨rfl, rfl⟩
      rw [(this r hn.1).1, (this r hn.1).2]
    · rename_i hj
      rw [if_neg hj, if_neg hj]; exact ((hput_perm hn.2 hg).cons _).trans (List.Perm.swap _ _ _)
section
variable {P : Program} {E : Ent} {Q : Exit → LState → Prop} {s : LState} {all : Array Oper} {rest : List Oper} {d : Nat} {ty : TypeId} {pos : String} {af : Array Edge}
theorem Inv'.write {a : Act} {w : World} {ok : Nat → Prop} {ρ : Env} {F : Nat → List Nat} (h : Inv' E s a w ok ρ F) {o : Nat} {obj obj' : LObj} {p : Place} (ho : hget o s.h = some obj) (hro : obj.ro = false) (hro' : obj'.ro = false) (hp : ρ o = some p)
    {arr' : Array Value} {vs' : List Value} {t : TypeId} {fps : List Nat} (hF : F o = p.blk :: fps) (hobj : ObjAt (w.setRow p.blk arr') ok ρ p obj' arr' t vs' fps) :
    Inv' E { s with h := hput o obj' s.h } a (w.setRow p.blk arr') ok ρ F := by
  have hmem := hget_mem ho; have hblk : p.blk ∈ fpsOf F s.h := mem_fpsOf.2 ⟨_, hmem, by rw [hF]; simp⟩; have hap := h.heap.apart _ hblk; have hob : ∀ b, ok b → (w.setRow p.blk arr').heap[b]? = w.heap[b]? := fun b hb => setRow_other w p.blk b arr' (fun e => hap.1 (e ▸ hb)); refine { defers := h.defers, size := h.size, ext := ?_, okk := fun b hb => ⟨by simpa using (h.okk b hb).1, (h.okk b hb).2⟩, heap := ⟨by rw [show ({ s with h := hput o obj' s.h } : LState).h = hput o obj' s.h from rfl, hput_keys]; exact h.heap.keys, ?_, ?_, ?_⟩, mine := ?_, slots := ?_, keep := h.keep }
  · refine ⟨h.ext.os, h.ext.tape, h.ext.output, by simpa using h.ext.size, fun k hk hl => ?_, h.ext.drawn⟩
    rw [setRow_other w p.blk k arr' (fun e => hl (e ▸ h.mine _ hmem hro _ (by rw [hF]; simp) (e ▸ hk)))]; exact h.ext.block k hk hl
  · intro q hq
    rcases mem_hput hq with ⟨e1, e2⟩ | ⟨hne, hq⟩
    · rw [e1, e2]
      exact .inr ⟨p, arr', t, vs', fps, hp, hF, hobj⟩
    · refine ObjRep.stable hob (fun _ hb => hb) (fun b hb => setRow_other w p.blk b arr' ?_) rfl (fun _ _ => rfl) (h.heap.objs q hq)
      rintro rfl; exact nodup_apart h.heap.keys h.heap.nodup hq hmem hne _ hb (by rw [hF]; simp)
  · show (fpsOf F (hput o obj' s.h)).Nodup
    rw [fpsOf_keys, hput_keys, ← fpsOf_keys]; exact h.heap.nodup
  · intro b hb
    rw [show ({ s with h := hput o obj' s.h } : LState).h = hput o obj' s.h from rfl, fpsOf_keys, hput_keys, ← fpsOf_keys] at hb; have := h.heap.apart b hb; exact ⟨this.1, by simpa using this.2⟩
  · intro q hq hr b hb hlt
    rcases mem_hput hq with ⟨e1, e2⟩ | ⟨hne, hq⟩
    · rw [e1] at hb; exact h.mine _ hmem hro b hb hlt
    · exact h.mine q hq hr b hb hlt
  · intro t'
    exact (h.slots t').stable hob (fun _ hb => hb) (fun _ _ => rfl)
theorem Inv'.perm {a : Act} {w : World} {ok : Nat → Prop} {ρ : Env} {F : Nat → List Nat} (h : Inv' E s a w ok ρ F) {h' : LHeap} (hp : s.h.Perm h') : Inv' E { s with h := h' } a w ok ρ F :=
  { h with
    heap := ⟨(hp.map _).nodup_iff.1 h.heap.keys, fun p hp' => h.heap.objs p (hp.mem_iff.2 hp'), (hp.flatMap_right _).nodup_iff.1 h.heap.nodup, fun b hb => h.heap.apart b ((hp.flatMap_right _).mem_iff.2 hb)⟩
    mine := fun p hp' => h.mine p (hp.mem_iff.2 hp') }
theorem flat_set : ∀ (xs : List LV) (sz i j : Nat) (y y' : LV) (us : List LV), (∀ x ∈ xs, x.cells.length = sz) → xs[i]? = some y → j + us.length ≤ y.cells.length → y'.cells = setRange y.cells j us →
    (xs.set i y').flatMap LV.cells = setRange (xs.flatMap LV.cells) (i * sz + j) us
  | [], sz, i, j, y, y', us, _, hi, _, _ => by simp at hi
  | x :: xs, sz, 0, j, y, y', us, hu, hi, hj, hy => by
    simp at hi; subst hi; simp only [List.set_cons_zero, List.flatMap_cons, hy, setRange, Nat.zero_mul, Nat.zero_add]; rw [List.take_append_of_le_length (by omega), List.drop_append_of_le_length (by omega)]; simp
  | x :: xs, sz, i + 1, j, y, y', us, hu, hi, hj, hy => by
    have hx := hu x (by simp); have ih := flat_set xs sz i j y y' us (fun z hz => hu z (by simp [hz])) (by simpa using hi) hj hy; simp only [List.set_cons_succ, List.flatMap_cons, ih, setRange]; have e : (i + 1) * sz + j = x.cells.length + (i * sz + j) := by rw [hx, Nat.succ_mul]; omega
    rw [e, List.take_length_add_append, Nat.add_assoc, Nat.add_assoc, List.drop_length_add_append]; simp [Nat.add_assoc]
theorem FroL.setRange {w : World} {ok : Nat → Prop} {cs ys : List LV} {vs us : List Value} (h : FroL w ok cs vs) (k : FroL w ok ys us) (off : Nat) :
    FroL w ok (setRange cs off ys) (vs.take off ++ us ++ vs.drop (off + ys.length)) := ((h.take off).append k).append (h.drop _)
theorem setRange_unif {xs : List LV} {sz i : Nat} {y' : LV} (hu : ∀ x ∈ xs, x.cells.length = sz) (hy : y'.cells.length = sz) : ∀ x ∈ xs.set i y', x.cells.length = sz := by
  intro x hx; rcases List.mem_or_eq_of_mem_set hx with h | rfl
  · exact hu x h
  · exact hy
theorem LWo.store {T : TypeId} {x v : Operand} {o i j n : Nat} {obj : LObj} {y z : LV} (y' : LV) (hz : ∀ w, (sizeOf T).run P w = .ok n w) (hx : s.eval x = .ptr o i j) (hv : s.eval v = z) (hc : z.cellable = true) (hzn : z.cells.length = n)
    (ho : hget o s.h = some obj) (hro : obj.ro = false) (hk : obj.kind = .fro ∧ z.pure = true ∨ obj.kind = .box) (hy : obj.elems[i]? = some y) (hj : j + n ≤ y.cells.length) (hy' : y'.cells = setRange y.cells j z.cells)
    (hn : LWo P E all rest Q { s with h := (o, { obj with elems := obj.elems.set i y' }) :: hdel o s.h }) :
    LWo P E all ({ dst := none, op := .store T x v, type := ty, pos := pos, after := af, guard := none } :: rest) Q s :=
  LWo.value _ rfl (fun a w ok ρ F hi => by
    have hX := hi.eval x; rw [hx] at hX; obtain ⟨p, hp, hxv⟩ := hX.ptr_inv; have hV := hi.eval v; rw [hv] at hV; have hcl := hV.cells' hc; have hlen := hcl.length; rcases hi.heap.objs _ (hget_mem ho) with ⟨h, _⟩ | ⟨p', arr, t, vs, fps, h, hF, hobj⟩
    · rw [hp] at h; cases h
    · rw [hp] at h; cases h
      have hylen : y.cells.length = obj.sz := hobj.unif y (List.mem_of_getElem? hy)
      have hilt : i < obj.elems.length := by
        rcases Nat.lt_or_ge i obj.elems.length with h | h
        · exact h
        · rw [List.getElem?_eq_none h] at hy; cases hy
      have hcl1 := hcl.ones; have hsz : p.sz = obj.sz := hobj.sz; have hlen2 : obj.elems.length ≤ p.cap := hobj.len
      have hfit : i * p.sz + j + n ≤ arr.size := by
        have h1 : p.cap * p.sz ≤ arr.size := hobj.room; have h3 : (i + 1) * p.sz ≤ p.cap * p.sz := Nat.mul_le_mul_right _ (by omega); rw [Nat.succ_mul] at h3; omega
      have hst := run_storeCells_at P p.blk (i * p.sz + j) t (a.eval v).cells.toList 0 arr w hobj.blk (by rw [← hlen, hzn]; omega) hcl1; simp only [Nat.add_zero] at hst; refine ⟨.skip, w.setRow p.blk (arr.toList.take (i * p.sz + j) ++ (a.eval v).cells.toList ++ arr.toList.drop (i * p.sz + j + (a.eval v).cells.toList.length)).toArray, ?_, .inr ⟨rfl, ok, ρ, F, ?_⟩⟩
      · have : (a.eval v).cells.size = n := by rw [← Array.length_toList, ← hlen, hzn]
        simp [execOp, Instr.storeAt, Instr.sureAddr, hxv, storeVar, hz w, this]; rw [hst]; simp [this]
      · have hvl : (obj.elems.flatMap LV.cells).length ≤ vs.length := by
          have hcells := hobj.cells; rcases hk with ⟨e, _⟩ | e
          · rw [e] at hcells; exact Nat.le_of_eq hcells.2.length
          · rw [e] at hcells; exact Nat.le_of_eq hcells.2.length
        have hfl := flat_len obj.elems obj.sz hobj.unif
        have hvfit : i * p.sz + j + n ≤ vs.length := by
          have h3 : (i + 1) * obj.sz ≤ obj.elems.length * obj.sz := Nat.mul_le_mul_right _ (by omega); rw [Nat.succ_mul] at h3; rw [hsz]; have hfl' : (obj.elems.flatMap LV.cells).length = obj.elems.length * obj.sz := hfl; omega
        have hpm := hput_perm (x := { obj with elems := obj.elems.set i y' }) hi.heap.keys ho
        refine (Inv'.write hi ho hro (obj' := { obj with elems := obj.elems.set i y' }) hro hp hF
          (t := t) (vs' := vs.take (i * p.sz + j) ++ (a.eval v).cells.toList ++ vs.drop (i * p.sz + j + z.cells.length)) ?_).perm hpm
        have hapart := hi.heap.apart p.blk (mem_fpsOf.2 ⟨_, hget_mem ho, by rw [hF]; simp⟩); have hob : ∀ (b : Nat) (arr' : Array Value), ok b → (w.setRow p.blk arr').heap[b]? = w.heap[b]? := fun b arr' hb => setRow_other w p.blk b arr' (fun e => hapart.1 (e ▸ hb)); have hset := flat_set obj.elems obj.sz i j y y' z.cells hobj.unif hy (by omega) hy'; rw [← hobj.sz] at hset; refine { sz := hobj.sz, unif := setRange_unif hobj.unif (by rw [hy', ← hylen]; simp [Lift.setRange]; omega), len := by simpa using hobj.len, cap := hobj.cap, blk := setRow_heap w _ _ _ _ _ hobj.blk, room := by have := hobj.room; simp; omega, vals := ?_, cells := ?_ }
        · intro k u hk
          have e : z.cells.length = (a.eval v).cells.toList.length := hlen; rw [e] at hk; simp only [List.getElem?_toArray]; rw [List.append_assoc] at hk ⊢; have hl1 : (vs.take (i * p.sz + j)).length = i * p.sz + j := by simp; omega
          have hl2 : (arr.toList.take (i * p.sz + j)).length = i * p.sz + j := by simp; omega
          rcases Nat.lt_or_ge k (i * p.sz + j) with hlt | hge
          · rw [List.getElem?_append_left (by omega)] at hk ⊢
            rw [List.getElem?_take, if_pos hlt] at hk ⊢; simpa using hobj.vals k u hk
          · rw [List.getElem?_append_right (by omega), hl1] at hk
            rw [List.getElem?_append_right (by omega), hl2]; rcases Nat.lt_or_ge (k - (i * p.sz + j)) (a.eval v).cells.toList.length with h1 | h1
            · rw [List.getElem?_append_left h1] at hk ⊢; exact hk
            · rw [List.getElem?_append_right h1, List.getElem?_drop] at hk ⊢
              simpa using hobj.vals _ u hk
        · have hcells := hobj.cells
          show ObjCells _ _ _ obj.kind ((obj.elems.set i y').flatMap LV.cells) _ _; rw [hset]; rcases hk with ⟨e, hpure⟩ | e
          · rw [e] at hcells ⊢
            have hzp : LV.pure.pureL z.cells = true := by cases z <;> simp_all [LV.cells, LV.pure, LV.pure.pureL]
            exact ⟨hcells.1, FroL.stable (fun b hb => hob b _ hb) (fun _ hb => hb) (hcells.2.setRange (hcl.pure hzp) _)⟩
          · rw [e] at hcells ⊢
            exact ⟨hcells.1, RepL.stable (fun b hb => hob b _ hb) (fun _ hb => hb) (fun _ _ => rfl) (hcells.2.setRange hcl _)⟩) hn
end
end Go.Lift
/- The lifted logic, part 9: append. Own work. -/
namespace Go.Lift
open Go.RowKit
section
variable {P : Program} {E : Ent} {Q : Exit → LState → Prop} {s : LState} {all : Array Oper} {rest : List Oper} {d : Nat} {ty : TypeId} {pos : String} {af : Array Edge}
theorem Inv'.killed {a : Act} {w : World} {ok : Nat → Prop} {ρ : Env} {F : Nat → List Nat} (h : Inv' E s a w ok ρ F) (k : Nat) : Inv' E { s with tm := kill k s.tm } a w ok ρ F :=
  { h with
    slots := fun t => by
      show Rep w ok ρ (get t (kill k s.tm)) _; rw [get_kill]
      split
      · exact .junk _
      · exact h.slots t }
def SrcIs (s : LState) (y : Operand) (sz : Nat) (ys : List LV) : Prop :=
  s.eval y = .sl sz ys ∨ (s.eval y = .imm (.slice none 0 0) ∧ ys = []) ∨
    (∃ o off obj, s.eval y = .own o off ys.length ∧ hget o s.h = some obj ∧ obj.kind = .fro ∧ obj.sz = sz ∧ off + ys.length ≤ obj.elems.length ∧ (obj.elems.drop off).take ys.length = ys) ∨
    ∃ b : ByteArray, s.eval y = .imm (.string b) ∧ sz = 1 ∧ ys = b.data.toList.map fun b => LV.imm (.int .u8 (b.toNat : Int))
theorem run_lenSlice {A : Option Addr} {n c : Nat} (w1 : World) : (Builtin.lenOf (.slice A n c)).run P w1 = .ok n w1 := rfl
theorem SrcIs.run {y : Operand} {sz : Nat} {ys : List LV} {a : Act} {w : World} {ok : Nat → Prop} {ρ : Env} {F : Nat → List Nat} (h : SrcIs s y sz ys) (hi : Inv' E s a w ok ρ F) :
    ∃ V vs, a.eval y = V ∧ (∀ w1 : World, (Builtin.lenOf V).run P w1 = .ok ys.length w1) ∧ FroL w ok (ys.flatMap LV.cells) vs ∧ (∀ x ∈ ys, x.cells.length = sz) ∧ ∀ w1 : World, w1.heap = w.heap → (Builtin.firstCells sz ys.length V).run P w1 = .ok vs.toArray w1 := by
  have hv := hi.eval y; rcases h with h | ⟨h, rfl⟩ | ⟨o, off, obj, h, ho, hk, hs, hl, hy⟩ | ⟨b, h, rfl, rfl⟩
  · rw [h] at hv
    have hf := hv.sl_inv; cases hx : a.eval y with
    | slice A n c =>
      rw [hx] at hf; cases hf with
      | sl0 hc => exact ⟨.slice A 0 c, [], rfl, run_lenSlice, .nil, by simp, fun w1 _ => by cases A <;> simp [Builtin.firstCells, loadCells, loadCellsFrom, Sem.run]⟩
      | sl h0 h1 h2 h3 h4 h5 h6 =>
        rename_i vs ad; refine ⟨.slice (some ad) ys.length c, vs, rfl, run_lenSlice, h2, h1, fun w1 hw => ?_⟩; have hlen := h2.length; rw [flat_len _ _ h1] at hlen
        exact run_firstCells_some w1 sz ys.length ad ys.length c vs hlen.symm (fun j v hj => by
          have := h3 j v hj; simpa [World.cell?, hw] using this)
    | _ => rw [hx] at hf; cases hf
  · rw [h] at hv
    rw [hv.imm_inv]; exact ⟨.slice none 0 0, [], rfl, run_lenSlice, .nil, by simp, fun w1 _ => by simp [Builtin.firstCells]⟩
  · rw [h] at hv
    rcases hv.own_inv with ⟨p, c, hp, h2, h3, hx⟩ | ⟨h0, A, hx⟩
    · rcases hi.heap.objs _ (hget_mem ho) with ⟨h', _⟩ | ⟨p', arr, t, vs, fps, h', hF, hobj⟩
      · rw [hp] at h'; cases h'
      · rw [hp] at h'; cases h'
        have hsz : p.sz = obj.sz := hobj.sz; have hcells := hobj.cells; rw [hk] at hcells; have hfr := (hcells.2.drop (off * sz)).take (ys.length * sz); have hunif : ∀ x ∈ obj.elems, x.cells.length = sz := fun x hx => hs ▸ hobj.unif x hx; rw [← flat_drop _ sz _ hunif, ← flat_take _ sz _ (fun x hx => hunif x (List.mem_of_mem_drop hx)), hy] at hfr; have hu : ∀ x ∈ ys, x.cells.length = sz := fun x hx => hunif x (by rw [← hy] at hx; exact List.mem_of_mem_drop (List.mem_of_mem_take hx)); refine ⟨_, _, hx, run_lenSlice, hfr, hu, fun w1 hw => ?_⟩; have hlen := hfr.length; rw [flat_len _ _ hu] at hlen; refine run_firstCells_some w1 sz ys.length _ ys.length c _ hlen.symm (fun j v hj => ?_); rw [add_plain]; rw [List.getElem?_take] at hj
        split at hj
        · have := hobj.vals (off * sz + j) v (by simpa using hj)
          have hb := hobj.blk; rw [← hw] at hb; simp only [World.cell?, hb, hsz, hs]; simpa using this
        · cases hj
    · have : ys = [] := List.eq_nil_of_length_eq_zero h0
      subst this; exact ⟨.slice A 0 0, [], hx, run_lenSlice, .nil, by simp, fun w1 _ => by cases A <;> simp [Builtin.firstCells, loadCells, loadCellsFrom, Sem.run]⟩
  · rw [h] at hv
    have hx := hv.imm_inv
    have e1 : (b.data.toList.map fun b => LV.imm (.int .u8 (b.toNat : Int))).flatMap LV.cells = (b.data.toList.map fun b => Value.int .u8 (b.toNat : Int)).map LV.imm := by
      generalize b.data.toList = l
      induction l with
      | nil => rfl
      | cons x l ih => simp only [List.map_cons, List.flatMap_cons, LV.cells_imm, List.singleton_append, ih]
    refine ⟨.string b, b.data.toList.map fun b => Value.int .u8 (b.toNat : Int), hx, fun w1 => ?_, ?_, ?_, fun w1 _ => ?_⟩
    · rw [List.length_map]; rfl
    · rw [e1]
      generalize b.data.toList = l
      induction l with
      | nil => exact .nil
      | cons x l ih => exact .cons (.imm _) rfl ih
    · intro x hx
      obtain ⟨y, _, rfl⟩ := List.mem_map.1 hx; rfl
    · have : b.extract 0 b.data.size = b := by
        have := ByteArray.extract_zero_size (b := b); exact this
      simp [Builtin.firstCells, Sem.run, this]
      apply Array.ext'
      simp
theorem run_append_in {T T' ty e : TypeId} {u' : TypeDesc} {sz n m c : Nat} {A : Option Addr} {V : Value} {w : World} {vs : List Value} (hlv : ∀ w1 : World, (Builtin.lenOf V).run P w1 = .ok m w1) (hu : P.underlying T = some (.slice e)) (hu' : P.underlying T' = some u') (hni : ∀ k, u' ≠ .int k) (hz : ∀ w, (sizeOf e).run P w = .ok sz w)
    (hsrc : (Builtin.firstCells sz m V).run P w = .ok vs.toArray w) (hfit : n + m ≤ c) :
    (Builtin.append_ #[T, T'] ty #[.slice A n c, V]).run P w = ((match A with | some a => storeCells (a.add (n * sz)) vs | none => pure () : Sem Unit).run P w).andThen fun _ w' => .ok (.slice A (n + m) c) w' := by
  have hno : (u' matches .int _) = false := by cases u' <;> first | rfl | exact absurd rfl (hni _)
  cases A <;> simp [Builtin.append_, underlying, hu, hu', program, Sem.run, hz w, hlv, hno, hfit, hsrc]
theorem zero_size (z : Array Value) (n : Nat) : (Builtin.zeroCells z n).size = n * z.size := by simp [Builtin.zeroCells]
theorem run_append_out {T T' ty e : TypeId} {u' : TypeDesc} {sz n m c bytes : Nat} {z : Value} {A : Option Addr} {V : Value} {w : World} {olds vs : List Value} (hlv : ∀ w1 : World, (Builtin.lenOf V).run P w1 = .ok m w1) (hu : P.underlying T = some (.slice e)) (hu' : P.underlying T' = some u') (hni : ∀ k, u' ≠ .int k)
    (hinfo : (P.info? e).map (fun i => (i.size, i.bytes, i.zero)) = some (sz, bytes, some z))
    (hsrc : ∀ w1 : World, w1.heap = w.heap → (Builtin.firstCells sz m V).run P w1 = .ok vs.toArray w1) (hold : ∀ w1 : World, w1.heap = w.heap → (Builtin.firstCells sz n (.slice A n c)).run P w1 = .ok olds.toArray w1)
    (hgrow : c < n + m) (hb : (n + m) * bytes ≤ 140737488355328) (h63 : n + m ≤ 140737488355328) :
    ∃ cap, n + m ≤ cap ∧ cap ≤ 9223372036854775807 ∧ (Builtin.append_ #[T, T'] ty #[.slice A n c, V]).run P w =
      .ok (.slice (some ⟨w.heap.size, 0, none⟩) (n + m) cap) (w.drew.alloc (.cells (olds.toArray ++ vs.toArray ++ Builtin.zeroCells z.cells (cap - (n + m))) e)) := by
  have hno : (u' matches .int _) = false := by cases u' <;> first | rfl | exact absurd rfl (hni _)
  obtain ⟨i, hi, hi2⟩ := Option.map_eq_some_iff.1 hinfo; simp only [Prod.mk.injEq] at hi2; obtain ⟨h1, h2, h3⟩ := hi2; have h48 := growslice_fits (bytes := bytes) hgrow hb; have hnf : ¬ (n + m ≤ c) := by omega
  have h63' : ¬ (9223372036854775807 < ((n : Int) + (m : Int))) := by omega
  have h48' : ¬ (281474976710656 < Builtin.nextslicecap (n + m) c * bytes) := by omega
  have hs1 := hsrc w.drew rfl; have ho1 := hold w.drew rfl; have hg : grownCap w (n + m) c e = (n + m) + (w.tape w.drawn (.appendCap (n + m) c e)) % (2 ^ 63 - (n + m)) := rfl; have hlt := Nat.mod_lt (w.tape w.drawn (.appendCap (n + m) c e)) (show 0 < 2 ^ 63 - (n + m) by omega); refine ⟨grownCap w (n + m) c e, by omega, by omega, ?_⟩; simp [Builtin.append_, underlying, hu, hu', program, Sem.run, sizeOf, typeInfo, hi, h1, h2, h3, zeroValue, hlv, hno, hnf, h63', h48', Question.forced, newRow, grownCap, hs1, ho1]
  congr 2
  apply Array.ext'
  simp [List.append_assoc]
theorem cellQ {w : World} {p : Place} {arr : Array Value} {t : TypeId} {o : Nat} (hb : w.heap[p.blk]? = some (.cells arr t (0, 0))) : w.cell? ⟨p.blk, o, none⟩ = arr[o]? := by simp [World.cell?, hb]
theorem run_firstOwn {w w1 : World} {p : Place} {arr : Array Value} {t : TypeId} {n c : Nat} {vs : List Value} (hb : w.heap[p.blk]? = some (.cells arr t (0, 0))) (hw : w1.heap = w.heap) (hl : vs.length = n * p.sz) (hv : ∀ (k : Nat) (v : Value), vs[k]? = some v → arr[k]? = some v) :
    (Builtin.firstCells p.sz n (.slice (some ⟨p.blk, 0, none⟩) n c)).run P w1 = .ok vs.toArray w1 :=
  run_firstCells_some w1 p.sz n _ n c vs hl (fun j v hj => by
    rw [add_plain]; rw [← hw] at hb; rw [cellQ hb]; simpa using hv j v hj)
theorem LWo.append {T T' e : TypeId} {u' : TypeDesc} {sz n o bytes : Nat} {z : Value} {x y : Operand} {obj : LObj} (ys : List LV) (hu : P.underlying T = some (.slice e)) (hu' : P.underlying T' = some u') (hni : ∀ k, u' ≠ .int k)
    (hz : ∀ w, (sizeOf e).run P w = .ok sz w) (hinfo : (P.info? e).map (fun i => (i.size, i.bytes, i.zero)) = some (sz, bytes, some z)) (hzz : z.cells.size = sz)
    (hx : s.eval x = .own o 0 n) (ho : hget o s.h = some obj) (hk : obj.kind = .fro) (hos : obj.sz = sz) (hro : obj.ro = false) (hn0 : n ≤ obj.elems.length) (hsrc : SrcIs s y sz ys) (hkp : E.keep.contains o = false := by exact rfl) (hl : lone o (hdel o s.h) = true)
    (hb : (n + ys.length) * bytes ≤ 140737488355328) (h63 : n + ys.length ≤ 140737488355328) (hd : Nat.blt d E.n = true := by exact rfl)
    (hn : LWo P E all rest Q { tm := (d, .own o 0 (n + ys.length)) :: kill o s.tm, h := (o, { kind := .fro, sz := sz, elems := obj.elems.take n ++ ys }) :: hdel o s.h }) :
    LWo P E all ({ dst := some d, op := .call { callee := .builtin .append, args := #[x, y], argTypes := #[T, T'] }, type := ty, pos := pos, after := af, guard := none } :: rest) Q s :=
  LWo.value _ rfl (fun a w ok ρ F hi => by
    obtain ⟨V, vs, hyv, hlv, hfr, hu1, hread⟩ := hsrc.run (P := P) hi; have hX := hi.eval x; rw [hx] at hX; have hvlen := hfr.length; rw [flat_len _ _ hu1] at hvlen
    have hop : ∀ (v1 v2 : Value) (r : Value) (w' : World), a.eval x = v1 → a.eval y = v2 → (Builtin.append_ #[T, T'] ty #[v1, v2]).run P w = .ok r w' →
        (execOp a.eval { dst := some d, op := .call { callee := .builtin .append, args := #[x, y], argTypes := #[T, T'] }, type := ty, pos := pos, after := af, guard := none }).run P w = .ok (.value r) w' := by
      intro v1 v2 r w' e1 e2 hr; simp [execOp, resolve, invoke, builtin, e1, e2, hr]
    have hfresh : ∀ (w' : World) (olds : List Value) (xs : List LV) (cap : Nat), FroL w ok (xs.flatMap LV.cells) olds → (∀ x ∈ xs, x.cells.length = sz) → xs.length = n → obj.elems.take n = xs → n + ys.length ≤ cap → cap ≤ 9223372036854775807 →
        Inv E { tm := (d, .own o 0 (n + ys.length)) :: kill o s.tm, h := (o, { kind := .fro, sz := sz, elems := obj.elems.take n ++ ys }) :: hdel o s.h }
          (a.put (some d) (.slice (some ⟨w.heap.size, 0, none⟩) (n + ys.length) cap)) (w.drew.alloc (.cells (olds.toArray ++ vs.toArray ++ Builtin.zeroCells z.cells (cap - (n + ys.length))) e)) := by
      intro w' olds xs cap h1 h2 h3 h4 h5 h6; have ho1 := h1.length; rw [flat_len _ _ h2] at ho1
      have hi' := ((hi.sub (hdel_sub o s.h)).drew).newObj o hkp (hdel_key o s.h) hl { kind := .fro, sz := sz, elems := obj.elems.take n ++ ys } (olds.toArray ++ vs.toArray ++ Builtin.zeroCells z.cells (cap - (n + ys.length))) e (olds ++ vs) cap
        (by
          intro x hx; rw [h4] at hx; rcases List.mem_append.1 hx with hx | hx
          · exact h2 x hx
          · exact hu1 x hx)
        (by rw [h4, List.length_append, h3]; exact h5) (by unfold maxLen; omega)
        (by
          have e1 : (olds.toArray ++ vs.toArray ++ Builtin.zeroCells z.cells (cap - (n + ys.length))).size = (n + ys.length + (cap - (n + ys.length))) * sz := by
            simp only [Array.size_append, List.size_toArray, zero_size, hzz]; rw [← ho1, h3, ← hvlen, Nat.add_mul, Nat.add_mul]
          rw [e1]; exact Nat.mul_le_mul_right _ (by omega))
        (by
          intro k v hk
          have hlt : k < (olds ++ vs).length := by
            rcases Nat.lt_or_ge k (olds ++ vs).length with h | h
            · exact h
            · rw [List.getElem?_eq_none h] at hk; cases hk
          rw [Array.getElem?_append_left (by simpa using hlt)]; simpa using hk)
        (.inl rfl)
        (by
          refine ⟨rfl, ?_⟩; rw [h4, List.flatMap_append]; exact FroL.stable (w := w) (w' := w.drew) (fun _ _ => rfl) (fun _ hb => hb) (h1.append hfr))
      refine ⟨_, _, _, hi'.put hd ?_⟩; have := Rep.own (w := w.drew.alloc (.cells (olds.toArray ++ vs.toArray ++ Builtin.zeroCells z.cells (cap - (n + ys.length))) e)) (ok := ok) (ρ := upd ρ o (some ⟨w.drew.heap.size, cap, sz⟩)) (o := o) (off := 0) (n := n + ys.length) (c := cap) (by simp; rfl) (by simp) h5; simpa using this
    rcases hX.own_inv with ⟨p, cp, hp, hcap, hncp, hxv⟩ | ⟨rfl, A0, hxv⟩
    · rcases hi.heap.objs _ (hget_mem ho) with ⟨h', _⟩ | ⟨p', arr, t, us, fps, h', hF, hobj⟩
      · rw [hp] at h'; cases h'
      · rw [hp] at h'; cases h'
        have hsz : p.sz = sz := Eq.trans hobj.sz hos; have hunif : ∀ x ∈ obj.elems, x.cells.length = sz := fun x hx => hos ▸ hobj.unif x hx; have hcells := hobj.cells; rw [hk] at hcells; have hfo := hcells.2.take (n * sz); rw [← flat_take _ sz _ hunif] at hfo; have hut : ∀ x ∈ obj.elems.take n, x.cells.length = sz := fun x hx => hunif x (List.mem_of_mem_take hx); have hol := hfo.length; rw [flat_len _ _ hut, List.length_take, Nat.min_eq_left hn0] at hol; have hxv' : a.eval x = .slice (some ⟨p.blk, 0, none⟩) n cp := by simpa using hxv
        have hvals : ∀ (k : Nat) (v : Value), (us.take (n * sz))[k]? = some v → arr[k]? = some v := fun k v hk => by
          rw [List.getElem?_take] at hk
          split at hk
          · exact hobj.vals k v hk
          · cases hk
        have hold : ∀ w1 : World, w1.heap = w.heap → (Builtin.firstCells sz n (.slice (some ⟨p.blk, 0, none⟩) n cp)).run P w1 = .ok (us.take (n * sz)).toArray w1 := fun w1 hw => by
          have := run_firstOwn (P := P) (c := cp) hobj.blk hw (n := n) (vs := us.take (n * sz)) (by rw [← hol, hsz]) hvals
          rwa [hsz] at this
        rcases Nat.lt_or_ge cp (n + ys.length) with hgrow | hfit
        · obtain ⟨cap, hc1, hc2, hr⟩ := run_append_out (P := P) (T := T) (T' := T') (ty := ty) (z := z) hlv hu hu' hni hinfo hread hold hgrow hb h63
          exact ⟨_, _, hop _ _ _ _ hxv' hyv hr, .inl ⟨_, rfl, hfresh w (us.take (n * sz)) (obj.elems.take n) cap hfo hut (by simp; omega) rfl hc1 hc2⟩⟩
        · have hin := run_append_in (P := P) (T := T) (T' := T') (ty := ty) (A := some ⟨p.blk, 0, none⟩) hlv hu hu' hni hz (hread w rfl) hfit
          have hroom : p.cap * p.sz ≤ arr.size := hobj.room; have h3 : (n + ys.length) * sz ≤ p.cap * p.sz := by rw [hsz]; exact Nat.mul_le_mul_right _ (by omega)
          rw [Nat.add_mul] at h3; have hst := run_storeCells_at P p.blk (n * sz) t vs 0 arr w hobj.blk (by omega) (hfr.rep (ρ := ρ)).ones; simp only [Nat.add_zero] at hst; simp only [add_plain, Nat.zero_add, hst, Result.andThen_ok] at hin; refine ⟨_, _, hop _ _ _ _ hxv' hyv hin, .inl ⟨_, rfl, ?_⟩⟩; have hapart := hi.heap.apart p.blk (mem_fpsOf.2 ⟨_, hget_mem ho, by rw [hF]; simp⟩); have hob : ∀ b, ok b → (w.setRow p.blk (arr.toList.take (n * sz) ++ vs ++ arr.toList.drop (n * sz + vs.length)).toArray).heap[b]? = w.heap[b]? := fun b hb => setRow_other w p.blk b _ (fun e => hapart.1 (e ▸ hb))
          have hw := Inv'.write (obj' := { kind := .fro, sz := sz, elems := obj.elems.take n ++ ys }) hi ho hro rfl hp hF (arr' := (arr.toList.take (n * sz) ++ vs ++ arr.toList.drop (n * sz + vs.length)).toArray) (vs' := us.take (n * sz) ++ vs) (t := t)
            { sz := hsz
              unif := by
                intro x hx; rcases List.mem_append.1 hx with hx | hx
                · exact hut x hx
                · exact hu1 x hx
              len := by simp; omega
              cap := hobj.cap
              blk := setRow_heap w _ _ _ _ _ hobj.blk
              room := by simp; omega
              vals := by
                intro k v hk'; simp only [List.getElem?_toArray]; have hl1 : (us.take (n * sz)).length = n * sz := hol.symm; have hl2 : (arr.toList.take (n * sz)).length = n * sz := by simp; omega
                rcases Nat.lt_or_ge k (n * sz) with hlt | hge
                · rw [List.getElem?_append_left (by omega)] at hk'
                  rw [List.append_assoc, List.getElem?_append_left (by omega), List.getElem?_take, if_pos hlt]; simpa using hvals k v hk'
                · rw [List.getElem?_append_right (by omega), hl1] at hk'
                  rw [List.append_assoc, List.getElem?_append_right (by omega), hl2]
                  have : k - n * sz < vs.length := by
                    rcases Nat.lt_or_ge (k - n * sz) vs.length with h | h
                    · exact h
                    · rw [List.getElem?_eq_none h] at hk'; cases hk'
                  rw [List.getElem?_append_left this]; exact hk'
              cells := by
                have hf0 : fps = [] := hcells.1; refine ⟨hf0, ?_⟩; rw [List.flatMap_append]; exact FroL.stable hob (fun _ hb => hb) (hfo.append hfr) }
          have hpm := hput_perm (x := { kind := .fro, sz := sz, elems := obj.elems.take n ++ ys }) hi.heap.keys ho; refine ⟨_, _, _, ((hw.perm hpm).killed o).put hd ?_⟩; have := Rep.own (w := w.setRow p.blk (arr.toList.take (n * sz) ++ vs ++ arr.toList.drop (n * sz + vs.length)).toArray) (ok := ok) (ρ := ρ) (o := o) (off := 0) (n := n + ys.length) (c := cp) hp (by omega) hfit; simpa using this
    · have hf0 : FroL w ok (([] : List LV).flatMap LV.cells) [] := .nil
      rcases Nat.eq_zero_or_pos ys.length with h0 | h0
      · have hys : ys = [] := List.eq_nil_of_length_eq_zero h0
        subst hys; have hvs : vs = [] := List.eq_nil_of_length_eq_zero (by simpa using hvlen.symm); subst hvs; have hin := run_append_in (P := P) (T := T) (T' := T') (ty := ty) (A := A0) (n := 0) (c := 0) hlv hu hu' hni hz (hread w rfl) (by simp)
        have hin' : (Builtin.append_ #[T, T'] ty #[.slice A0 0 0, V]).run P w = .ok (.slice A0 0 0) w := by
          rw [hin]; cases A0 <;> simp [storeCells]
        refine ⟨_, _, hop _ _ _ _ hxv hyv hin', .inl ⟨_, rfl, ?_⟩⟩
        -- the object is as it was, but for what it says: nothing
        rcases hi.heap.objs _ (hget_mem ho) with ⟨h1, h2, h3⟩ | ⟨p', arr, t, us, fps, h', hF, hobj⟩
        · have e : ({ kind := .fro, sz := sz, elems := obj.elems.take 0 ++ [] } : LObj) = obj := by
            cases obj; simp_all
          rw [e]; have hpm := hput_perm (x := obj) hi.heap.keys ho
          have hself : ∀ h : LHeap, (hkeys h).Nodup → hget o h = some obj → hput o obj h = h := by
            intro h hnd hgt
            induction h with
            | nil => rfl
            | cons q r ih =>
              obtain ⟨j, u⟩ := q; simp only [hkeys, List.map_cons, List.nodup_cons] at hnd; simp only [hget] at hgt; simp only [hput]
              split at hgt
              · rename_i hj; simp at hgt; subst hgt hj
                rw [if_pos rfl]
                have : ∀ r : LHeap, j ∉ hkeys r → hput j u r = r := by
                  intro r hr
                  induction r with
                  | nil => rfl
                  | cons q r ih =>
                    obtain ⟨i, v⟩ := q; simp only [hkeys, List.map_cons, List.mem_cons, not_or] at hr; simp only [hput]; rw [if_neg (fun e => hr.1 e.symm), ih hr.2]
                rw [this r hnd.1]
              · rename_i hj
                rw [if_neg hj, ih hnd.2 hgt]
          rw [hself _ hi.heap.keys ho] at hpm; exact ⟨_, _, _, ((hi.perm hpm).killed o).put hd .own0⟩
        · have hcells := hobj.cells
          rw [hk] at hcells; have hsz : p'.sz = sz := Eq.trans hobj.sz hos
          have hw := Inv'.write (obj' := { kind := .fro, sz := sz, elems := obj.elems.take 0 ++ [] }) hi ho hro rfl h' hF (arr' := arr) (vs' := []) (t := t)
            { sz := hsz, unif := by simp, len := by simp, cap := hobj.cap, blk := setRow_heap w _ _ _ _ _ hobj.blk, room := hobj.room, vals := by simp, cells := ⟨hcells.1, by simpa using FroL.nil⟩ }
          rw [setRow_self w _ _ _ _ hobj.blk] at hw; have hpm := hput_perm (x := { kind := .fro, sz := sz, elems := obj.elems.take 0 ++ [] }) hi.heap.keys ho; exact ⟨_, _, _, ((hw.perm hpm).killed o).put hd .own0⟩
      · have hold : ∀ w1 : World, w1.heap = w.heap → (Builtin.firstCells sz 0 (.slice A0 0 0)).run P w1 = .ok ([] : List Value).toArray w1 := fun w1 _ => by cases A0 <;> simp [Builtin.firstCells, loadCells, loadCellsFrom, Sem.run]
        obtain ⟨cap, hc1, hc2, hr⟩ := run_append_out (P := P) (T := T) (T' := T') (ty := ty) (z := z) hlv hu hu' hni hinfo hread hold (by omega) hb h63; exact ⟨_, _, hop _ _ _ _ hxv hyv hr, .inl ⟨_, rfl, hfresh w [] [] cap hf0 (by simp) rfl (by simp) hc1 hc2⟩⟩) hn
end
end Go.Lift
