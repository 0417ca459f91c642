/- The logic, part four: texts, regions that write, laws over bytes, guards. -/
import Derived.Test.YtkgmomocjkmipaaLc
import Derived.Laws.BytesArg
import Derived.Laws.Cover3
import Derived.OpenShut
import Derived.Laws.MakeOwn
import Derived.Laws.Bits64
import Derived.ChangeArms
import Derived.DataReads
import Derived.WideShapes
import Derived.ChangeShapes
set_option linter.unusedVariables false
set_option linter.unusedSimpArgs false
set_option linter.unnecessarySimpa false
/- The lifted logic, part 31: bytes as a text; literals that are one's own. Own work. -/
namespace Go.Lift
open Go.RowKit
def bStr (l : List UInt8) : ByteArray := ⟨l.toArray⟩
section
variable {P : Program} {E : Ent} {Q : Exit → LState → Prop} {s : LState} {all : Array Oper} {rest : List Oper} {d : Nat} {ty : TypeId} {pos : String} {af : Array Edge}
theorem LWo.litO {α : Type} {T e : TypeId} {sz n : Nat} {z : Value} {ops : List Operand} {f : α → LV} {l : List α} (k : Nat) (hu : P.underlying T = some (.slice e)) (hz : ∀ w, (sizeOf e).run P w = .ok sz w) (hzv : ∀ w, (zeroValue e).run P w = .ok z w)
    (hx : ops.map s.eval = l.map f) (hc : (l.map f).all (fun x => x.cellable && x.cells.length == sz && x.pure) = true) (hlen : ops.length = n) (hm : Nat.ble (n * sz) 16777216 = true) (hsz : Nat.blt 0 sz = true) (hl : lone k (hdel k s.h) = true) (hkp : E.keep.contains k = false := by exact rfl) (hd : Nat.blt d E.n = true := by exact rfl)
    (hn : LWo P E all rest Q { tm := (d, .own k 0 l.length) :: kill k s.tm, h := (k, lob sz f l) :: hdel k s.h }) :
    LWo P E all ({ dst := some d, op := .buildSlice T n ((ops.zipIdx).map fun p => (p.2, p.1)).toArray, type := ty, pos := pos, after := af, guard := none } :: rest) Q s :=
  LWo.make k (lob sz f l) (.own k 0 l.length) hd hkp hl (.inl rfl) (by
      intro x hx'
      have := List.all_eq_true.1 hc x hx'
      simp at this; exact this.1.2) (fun a w ok ρ F hi => by
    have hall : ∀ x ∈ l.map f, x.cellable = true ∧ x.cells.length = sz ∧ x.pure = true := by
      intro x hx'
      have := List.all_eq_true.1 hc x hx'
      simp at this; exact ⟨this.1.1, this.1.2, this.2⟩
    have ht := evalL ops hi
    rw [hx] at ht
    have hs := ht.sizes (fun x hx => ⟨(hall x hx).1, (hall x hx).2.1⟩)
    have hlen' := ht.length
    have hln : l.length = n := by
      have := congrArg List.length hx
      simp at this; omega
    have hmul := Nat.le_of_ble_eq_true hm
    have hsz' : 0 < sz := by simpa using hsz
    have hr := run_buildSlice hu hz hzv hs (by rw [← hlen', List.length_map]; exact hln) hmul w
    have hflat := ht.flat (fun x hx => (hall x hx).1)
    refine ⟨.slice (some ⟨w.heap.size, 0, none⟩) n n, (flatV (ops.map a.eval)).toArray, e, flatV (ops.map a.eval), n, w, ?_, .inl rfl, by simp [lob, hln], ?_, ?_, fun k v hk => by simpa using hk, ?_, fun W ok' ρ' hρ => ?_⟩
    · have e1 : (((ops.zipIdx).map fun p => (p.2, p.1)).toArray.map fun x => (x.1, a.eval x.2)) = (((ops.map a.eval).zipIdx).map fun p => (p.2, p.1)).toArray := by
        simp [List.zipIdx_map]
      simp only [execOp]
      rw [e1, Sem.run_bind, hr]; simp
    · have : n ≤ n * sz := Nat.le_mul_of_pos_right _ hsz'
      unfold maxLen; omega
    · have := flatV_len (ops.map a.eval) sz hs
      simp only [lob]
      rw [List.size_toArray, this, List.length_map, hlen]
      exact Nat.le_refl _
    · refine ⟨rfl, ?_⟩
      have hp : LV.pure.pureL ((l.map f).flatMap LV.cells) = true := by
        have : ∀ ys : List LV, (∀ x ∈ ys, x.pure = true) → LV.pure.pureL (ys.flatMap LV.cells) = true := by
          intro ys hy
          have app : ∀ a b : List LV, LV.pure.pureL (a ++ b) = (LV.pure.pureL a && LV.pure.pureL b) := by
            intro a b; induction a with
            | nil => simp [LV.pure.pureL]
            | cons x a ih => simp [LV.pure.pureL, ih, Bool.and_assoc]
          induction ys with
          | nil => rfl
          | cons x ys ih =>
            rw [List.flatMap_cons, app, ih (fun z hz => hy z (by simp [hz]))]
            have hx := hy x (by simp)
            cases x <;> simp_all [LV.cells, LV.pure, LV.pure.pureL]
        exact this _ (fun x hx => (hall x hx).2.2)
      exact hflat.pure hp
    · have hw := Rep.own (w := W) (ok := ok') (ρ := ρ') (off := 0) (n := n) (c := n) hρ (by simp) (Nat.le_refl _)
      simp only [Nat.zero_mul] at hw
      rw [hln]
      exact hw) hn
theorem LWo.pickTM {c x y : Operand} {b : Bool} (z : LV) (hc : s.eval c = .imm (.bool b)) (h : b = true) (hz : s.eval x = z) (hd : Nat.blt d E.n = true := by exact rfl) (hn : LWo P E all rest Q (s.put (some d) z)) :
    LWo P E all ({ dst := some d, op := .pick c x y, type := ty, pos := pos, after := af, guard := none } :: rest) Q s := LWo.pickT hc h hd (by rw [hz]; exact hn)
theorem LWo.pickFM {c x y : Operand} {b : Bool} (z : LV) (hc : s.eval c = .imm (.bool b)) (h : b = false) (hz : s.eval y = z) (hd : Nat.blt d E.n = true := by exact rfl) (hn : LWo P E all rest Q (s.put (some d) z)) :
    LWo P E all ({ dst := some d, op := .pick c x y, type := ty, pos := pos, after := af, guard := none } :: rest) Q s := LWo.pickF hc h hd (by rw [hz]; exact hn)
end
end Go.Lift

/- The lifted logic, part 32: regions of open order whose operations may write. Own work. -/
namespace Go.Lift
open Go.RowKit
def lookH (k : Nat) : List HF → HF
  | [] => ⟨k, { kind := .fro, sz := 0, elems := [] }, none⟩
  | f :: r => if f.k = k then f else lookH k r
def hasH (k : Nat) (l : List HF) : Bool := l.any (·.k == k)
def AllH (h : LHeap) : List HF → Prop
  | [] => True
  | f :: r => hget f.k h = some f.obj ∧ AllH h r
theorem AllH.of {h : LHeap} : ∀ {l : List HF}, (∀ f ∈ l, hget f.k h = some f.obj) → AllH h l
  | [], _ => trivial
  | f :: r, hh => ⟨hh f (by simp), AllH.of fun g hg => hh g (by simp [hg])⟩
theorem lookH_k (k : Nat) : ∀ l, (lookH k l).k = k
  | [] => rfl
  | f :: r => by
    simp only [lookH]
    split
    · assumption
    · exact lookH_k k r
theorem lookH_mem {k : Nat} : ∀ {l}, hasH k l = true → lookH k l ∈ l
  | f :: r, h => by
    simp only [lookH]
    split
    · simp
    · rename_i e
      simp [hasH, e] at h
      exact List.mem_cons_of_mem _ (lookH_mem (l := r) (by simpa [hasH] using h))
def Ef.accS (i : Nat) (acc : List SF) : Ef → List SF
  | .put d y => ⟨d, y, some i, y.refs⟩ :: acc
  | .upd (some d) y _ _ => ⟨d, y, some i, y.refs⟩ :: acc
  | .upd none _ _ _ => acc
  | .make d y _ _ => ⟨d, y, some i, y.refs⟩ :: acc
def Ef.accH (i : Nat) (ah : List HF) : Ef → List HF
  | .put _ _ => ah
  | .upd _ _ k obj => ⟨k, obj, some i⟩ :: ah
  | .make _ _ k obj => ⟨k, obj, some i⟩ :: ah

section
variable {P : Program} {E : Ent} {Q : Exit → LState → Prop}
/-- The operations one after the other, each from what it reads. -/
def DSE (P : Program) (E : Ent) (KS : List (Nat × Nat)) (all : Array Oper) : List Oper → List (List Nat × List Nat) → Nat → List SF → List HF → (List SF → List HF → List Rec → Prop) → Prop
  | o :: os, (rd, hk) :: ps, i, acc, ah, k => (rd.all (hasT · acc) && hk.all (hasH · ah)) = true ∧ ∃ ef : Ef, ef.good KS ∧ (∀ u : LState, Good KS u → AllF u.tm (rd.map (look · acc)) → AllH u.h (hk.map (lookH · ah)) → LWo P E all [o] (fun e t => e = .normal ∧ (t = ef.run u ∨ t.le (ef.run u)) ∧ Good KS t) u) ∧
      DSE P E KS all os ps (i + 1) (ef.accS i acc) (ef.accH i ah) (fun a b r => k a b (⟨ef, rd.map (look · acc), hk.map (lookH · ah)⟩ :: r))
  | [], [], _, acc, ah, k => k acc ah []
  | _, _, _, _, _, _ => False

theorem DSE.out {KS : List (Nat × Nat)} {all : Array Oper} : ∀ {os : List Oper} {ps : List (List Nat × List Nat)} {i : Nat} {acc : List SF} {ah : List HF} {k : List SF → List HF → List Rec → Prop}, DSE P E KS all os ps i acc ah k →
    ∃ (acc' : List SF) (ah' : List HF) (recs : List Rec), k acc' ah' recs ∧ recs.length = os.length ∧ (∀ (j : Nat) (o : Oper) (r : Rec), os[j]? = some o → recs[j]? = some r → r.ok P E KS all o) ∧
      (∀ f ∈ acc, f ∈ acc') ∧ (∀ f ∈ ah, f ∈ ah') ∧
      (∀ f ∈ acc', f ∈ acc ∨ ∃ j r, f.est = some (i + j) ∧ recs[j]? = some r ∧ r.ef.dst = some f.t ∧ (∀ s, get f.t (r.ef.run s).tm = f.v) ∧ f.rf = f.v.refs) ∧
      (∀ f ∈ ah', f ∈ ah ∨ ∃ j r, f.est = some (i + j) ∧ recs[j]? = some r ∧ (∀ s, hget f.k (r.ef.run s).h = some f.obj)) ∧
      (∀ r ∈ recs, (∀ f ∈ r.rs, f ∈ acc') ∧ ∀ f ∈ r.rk, f ∈ ah')
  | o :: os, (rd, hk) :: ps, i, acc, ah, k, ⟨hin, ef, hgood, h1, h2⟩ => by
    obtain ⟨acc', ah', recs, hk', hlen, hok, hsub, hsubH, hnew, hnewH, hreq⟩ := DSE.out h2
    simp only [Bool.and_eq_true] at hin
    have hs1 : ∀ f ∈ acc, f ∈ ef.accS i acc := by
      intro f hf
      cases ef with
      | put d y => simp [Ef.accS, hf]
      | upd d y k o => cases d <;> simp [Ef.accS, hf]
      | make d y k o => simp [Ef.accS, hf]
    have hs2 : ∀ f ∈ ah, f ∈ ef.accH i ah := by
      intro f hf; cases ef <;> simp [Ef.accH, hf]
    refine ⟨acc', ah', _, hk', by simp [hlen], ?_, fun f hf => hsub f (hs1 f hf), fun f hf => hsubH f (hs2 f hf), ?_, ?_, ?_⟩
    · intro j o' r ho hr
      cases j with
      | zero =>
        simp at ho hr; subst ho; subst hr
        refine ⟨hgood, fun u hu hrs hrk => ?_⟩
        exact h1 u hu (AllF.of hrs) (AllH.of hrk)
      | succ j => simp at ho hr; exact hok j o' r ho hr
    · intro f hf
      rcases hnew f hf with h | ⟨j, r, he, hr, h⟩
      · cases ef with
        | put d y =>
          rcases List.mem_cons.1 h with rfl | h
          · exact .inr ⟨0, _, by simp, rfl, rfl, fun s => by simp [Ef.run, LState.put, get], rfl⟩
          · exact .inl h
        | upd d y kk obj =>
          cases d with
          | none => exact .inl h
          | some d =>
            rcases List.mem_cons.1 h with rfl | h
            · exact .inr ⟨0, _, by simp, rfl, rfl, fun s => by simp [Ef.run, LState.put, get], rfl⟩
            · exact .inl h
        | make d y kk obj =>
          rcases List.mem_cons.1 h with rfl | h
          · exact .inr ⟨0, _, by simp, rfl, rfl, fun s => by simp [Ef.run, get], rfl⟩
          · exact .inl h
      · exact .inr ⟨j + 1, r, by rw [he]; congr 1; omega, by simpa using hr, h⟩
    · intro f hf
      rcases hnewH f hf with h | ⟨j, r, he, hr, h⟩
      · cases ef with
        | put d y => exact .inl h
        | upd d y kk obj =>
          rcases List.mem_cons.1 h with rfl | h
          · refine .inr ⟨0, _, by simp, rfl, fun s => ?_⟩
            cases d <;> simp [Ef.run, LState.put, hget]
          · exact .inl h
        | make d y kk obj =>
          rcases List.mem_cons.1 h with rfl | h
          · exact .inr ⟨0, _, by simp, rfl, fun s => by simp [Ef.run, hget]⟩
          · exact .inl h
      · exact .inr ⟨j + 1, r, by rw [he]; congr 1; omega, by simpa using hr, h⟩
    · intro r hr
      rcases List.mem_cons.1 hr with rfl | hr
      · refine ⟨fun f hf => ?_, fun f hf => ?_⟩
        · obtain ⟨t, ht, rfl⟩ := List.mem_map.1 hf
          exact hsub _ (hs1 _ (look_mem (List.all_eq_true.1 hin.1 t ht)))
        · obtain ⟨t, ht, rfl⟩ := List.mem_map.1 hf
          exact hsubH _ (hs2 _ (lookH_mem (List.all_eq_true.1 hin.2 t ht)))
      · exact hreq r hr
  | [], [], i, acc, ah, k, h => ⟨acc, ah, [], h, rfl, by simp, by simp, by simp, fun f hf => .inl hf, fun f hf => .inl hf, by simp⟩

theorem LWP.drawE {id : Nat} {l : List Oper} {s : LState} (KS : List (Nat × Nat)) (U : List Nat) (plan : List (List Nat × List Nat)) (out outH : List Nat) (hm : P.follows .mixedOrders = true)
    (hedge : (l.zipIdx.all fun (o, i) => (edgesOf o).all fun j => decide (j < i)) = true) (hgood : KS.all (fun p => lone p.1 (hdel p.2 s.h)) = true) (hnd : outH.Nodup)
    (h : DSE P E KS l.toArray l plan 0 (base s U) (heapF s.h) (fun acc ah recs => (out.all (hasT · acc) && outH.all (hasH · ah)) = true ∧ drawOK (preAll l []) (recs.map Rec.info) ((out.map (look · acc)).map fun f => (f.t, f.est, f.rf)) ((outH.map (lookH · ah)).map fun f => (f.k, f.est)) = true ∧ Q .normal ⟨out.map fun t => (t, (look t acc).v), outH.map fun k => (k, (lookH k ah).obj)⟩)) :
    LWP P E (.region id l.toArray true) Q s := by
  intro a w hi
  have hnk : (hkeys s.h).Nodup := by obtain ⟨ok, ρ, F, h⟩ := hi; exact h.heap.keys
  obtain ⟨acc, ah, recs, ⟨hout, hc, hq⟩, hlen, hok, hsub, hsubH, hnew, hnewH, hreq⟩ := h.out
  simp only [Bool.and_eq_true] at hout
  refine LWP.draw (Q := Q) KS recs acc ah _ hm hlen hedge (fun k hk => List.all_eq_true.1 hgood k hk) (fun i o r ho hr => hok i o r ho hr) ?_ ?_ hreq (out.map (look · acc)) (outH.map (lookH · ah)) ?_ ?_ ?_ rfl hc ?_ a w hi
  · intro f hf
    rcases hnew f hf with h | ⟨j, r, he, hr, h1, h2, h3⟩
    · obtain ⟨t, ht, rfl⟩ := List.mem_map.1 h
      exact ⟨fun k hk => LV.refs_at? k _ hk, rfl⟩
    · refine ⟨fun k hk => LV.refs_at? k _ (h3 ▸ hk), ?_⟩
      rw [he]
      simp only [Nat.zero_add]
      exact ⟨r, hr, h1, h2⟩
  · intro f hf
    rcases hnewH f hf with h | ⟨j, r, he, hr, h1⟩
    · obtain ⟨p, hp, rfl⟩ := List.mem_map.1 h
      exact hget_of_mem hnk hp
    · rw [he]
      simp only [Nat.zero_add]
      exact ⟨r, hr, h1⟩
  · intro f hf
    obtain ⟨t, ht, rfl⟩ := List.mem_map.1 hf
    exact look_mem (List.all_eq_true.1 hout.1 t ht)
  · intro f hf
    obtain ⟨t, ht, rfl⟩ := List.mem_map.1 hf
    exact lookH_mem (List.all_eq_true.1 hout.2 t ht)
  · rw [List.map_map]
    simpa [Function.comp_def, lookH_k] using hnd
  · have e1 : List.map (fun f : SF => (f.t, f.v)) (List.map (fun x => look x acc) out) = out.map fun t => (t, (look t acc).v) := by
      rw [List.map_map]
      exact List.map_congr_left fun t _ => by simp [look_t]
    have e2 : List.map (fun f : HF => (f.k, f.obj)) (List.map (fun x => lookH x ah) outH) = outH.map fun k => (k, (lookH k ah).obj) := by
      rw [List.map_map]
      exact List.map_congr_left fun t _ => by simp [lookH_k]
    rw [e1, e2]
    exact hq
theorem lone_of {k : Nat} {KS : List (Nat × Nat)} {u : LState} (h : Good KS u) (hk : KS.contains (k, k) = true) : lone k (hdel k u.h) = true := h (k, k) (by simpa using hk)
theorem goodN {j : Nat} {obj : LObj} : ∀ k ∈ ([] : List (Nat × Nat)), (j == k.2 || !obj.at? k.1) = true := fun _ h => by cases h
theorem goodC {j : Nat} {obj : LObj} {a : Nat × Nat} {l : List (Nat × Nat)} (h : (j == a.2 || !obj.at? a.1) = true) (h2 : ∀ k ∈ l, (j == k.2 || !obj.at? k.1) = true) : ∀ k ∈ a :: l, (j == k.2 || !obj.at? k.1) = true := fun k hk => by
  rcases List.mem_cons.1 hk with rfl | hk
  · exact h
  · exact h2 k hk
theorem LWo.rekey {all : Array Oper} {ops : List Oper} {s : LState} (t o k : Nat) {off n : Nat} {obj : LObj} (hg : get t s.tm = .own o off n) (ho : hget o s.h = some obj) (hk : obj.kind = .fro) (hne : (o == k) = false) (hkp : E.keep.contains k = false) (hl : lone k (hdel k (hdel o s.h)) = true)
    (hn : LWo P E all ops Q (Lift.rekey s t o k off n obj)) : LWo P E all ops Q s := LWo.ghost (fun _ _ hi => hi.rekey hg ho hk hne hkp hl) hn
/-- A list held against nil: of one that has elements it is known. -/
def nilM {α R : Type} [DecidableEq R] (l : List α) (f : Bool → Option R) : Option R :=
  match l with
  | [] => match f true, f false with
    | some a, some b => if a = b then some a else none
    | _, _ => none
  | _ :: _ => f false
theorem LWo.nilEq {α : Type} {T e t' : TypeId} {x y : Operand} {sz : Nat} {f : α → LV} {l : List α} {all : Array Oper} {rest : List Oper} {d : Nat} {ty : TypeId} {pos : String} {af : Array Edge} {s : LState} (hu : P.underlying T = some (.slice e)) (hx : s.eval x = .sl sz (l.map f)) (hy : s.eval y = .imm (.slice none 0 0)) (hd : Nat.blt d E.n = true := by exact rfl)
    (hn : ∀ b : Bool, (b = true → l = []) → LWo P E all rest Q (s.put (some d) (.imm (.bool b)))) :
    LWo P E all ({ dst := some d, op := .binOp .eql T x y t', type := ty, pos := pos, after := af, guard := none } :: rest) Q s := by
  intro a w hi
  obtain ⟨ok, ρ, F, hi'⟩ := hi
  have h := hi'.eval x
  rw [hx] at h
  have hy' : a.eval y = .slice none 0 0 := hi'.imm hy
  have hv : ∃ A n c, a.eval x = .slice A n c ∧ (A.isNone = true → l = []) := by
    have hf := h.sl_inv
    generalize a.eval x = v at hf
    generalize hM : l.map f = M at hf
    cases hf with
    | sl0 h0 => exact ⟨_, _, _, rfl, fun _ => by simpa using hM⟩
    | sl h0 => exact ⟨_, _, _, rfl, fun h => by simp at h⟩
  obtain ⟨A, n, c, hv, hA⟩ := hv
  have hr : (execOp a.eval { dst := some d, op := .binOp .eql T x y t', type := ty, pos := pos, after := af, guard := none }).run P w = .ok (.value (.bool A.isNone)) w := by
    simp [execOp, hv, hy', guard_sl, binOp, run_equal_slice_nil w T e A n c hu]
  refine wpList_plain rfl fun K hK => ?_
  unfold Oper.wp
  rw [hr]
  exact hK _ _ (hn A.isNone hA _ _ ⟨ok, ρ, F, hi'.put hd (.fro (.imm _))⟩)
/-- A cut with three bounds of a list that is read. -/
def cut3? {α : Type} (l : List α) (lo hi mx : Int) : Option (List α) := if 0 ≤ lo ∧ lo ≤ hi ∧ hi ≤ mx ∧ mx ≤ l.length then some ((l.take hi.toNat).drop lo.toNat) else none
theorem LWo.cutM3 {α : Type} {T e : TypeId} {sz : Nat} {f : α → LV} {l r : List α} {lo hi mx : Int} {x : Operand} {lx : Option Operand} {hx' mx' : Operand} {all : Array Oper} {rest : List Oper} {d : Nat} {ty : TypeId} {pos : String} {af : Array Edge} {s : LState} (he : cut3? l lo hi mx = some r) (hu : P.underlying T = some (.slice e)) (hz : ∀ w, (sizeOf e).run P w = .ok sz w)
    (hx : s.eval x = .sl sz (l.map f)) (hl : match lx with | none => lo = 0 | some o => ∃ k, s.eval o = .imm (.int k lo)) (hh : ∃ k, s.eval hx' = .imm (.int k hi)) (hm : ∃ k, s.eval mx' = .imm (.int k mx)) (hd : Nat.blt d E.n = true := by exact rfl)
    (hn : LWo P E all rest Q (s.put (some d) (.sl sz (r.map f)))) :
    LWo P E all ({ dst := some d, op := .slice T x lx (some hx') (some mx'), type := ty, pos := pos, after := af, guard := none } :: rest) Q s := by
  unfold cut3? at he
  split at he
  · rename_i h1
    cases he
    refine LWo.cut (l := lo.toNat) (h := hi.toNat) _ hu hz hx ?_ ?_ ?_ (.inr (by simp)) (by omega) (by rw [List.length_map]; omega) ?_ hd hn
    · cases lx with
      | none => simp only at hl; subst hl; rfl
      | some o => obtain ⟨k, hk⟩ := hl; exact ⟨k, by rw [hk, Int.toNat_of_nonneg h1.1]⟩
    · obtain ⟨k, hk⟩ := hh; exact ⟨k, by rw [hk, Int.toNat_of_nonneg (by omega)]⟩
    · obtain ⟨k, hk⟩ := hm
      exact ⟨k, mx.toNat, by rw [hk, Int.toNat_of_nonneg (by omega)], by omega, by rw [List.length_map]; omega⟩
    · rw [List.map_drop, List.map_take]
  · cases he
end
end Go.Lift

/- The lifted logic, part 33: a law over bytes, out of its contract. Own work. -/
namespace Go.Lift
open Go.RowKit
end Go.Lift

/- The lifted logic, part 34: guards whose own guard is not wanted; lists made at once; one's own list lent under any name. Own work. -/
namespace Go.Lift
open Go.RowKit
section
variable {P : Program} {E : Ent} {Q : Exit → LState → Prop} {s : LState} {all : Array Oper} {rest : List Oper} {d : Nat} {ty : TypeId} {pos : String} {af : Array Edge}
/-- An operation that is not wanted; its slot is told. -/
theorem LWo.skip {o : Oper} (d : Nat) (ho : o.dst = some d) (hlt : Nat.blt d E.n = true) (hw : ∀ a w ok ρ F, Inv' E s a w ok ρ F → Region.wanted o (yielded all a.tmps) = false)
    (hn : LWo P E all rest Q (s.put (some d) (.imm undef))) : LWo P E all (o :: rest) Q s := by
  intro a w ⟨ok, ρ, F, hi⟩
  unfold wpList
  rw [if_neg (by rw [hw a w ok ρ F hi]; simp)]
  refine hn _ _ ⟨ok, ρ, F, ?_⟩
  rw [ho]
  exact hi.put hlt (.fro (.imm _))
theorem LWo.guardNU {o : Oper} {j t d : Nat} {b nw want : Bool} (hb : get t s.tm = .imm (.bool b)) (h : b = nw) (hg : o.guard = some (j, want)) (hd : (all[j]?).bind (·.dst) = some t) (ho : o.dst = some d) (hlt : Nat.blt d E.n = true) (hne : nw = !want)
    (hn : LWo P E all rest Q (s.put (some d) (.imm undef))) : LWo P E all (o :: rest) Q s :=
  LWo.skip d ho hlt (fun a w ok ρ F hi => by
    have hy := yielded_of hi hd hb
    subst h hne
    simp only [Region.wanted, hg, hy]
    cases want <;> rfl) hn
theorem LWo.guardU {o : Oper} {j t d : Nat} {want : Bool} (hb : get t s.tm = .imm undef) (hg : o.guard = some (j, want)) (hd : (all[j]?).bind (·.dst) = some t) (ho : o.dst = some d) (hlt : Nat.blt d E.n = true)
    (hn : LWo P E all rest Q (s.put (some d) (.imm undef))) : LWo P E all (o :: rest) Q s :=
  LWo.skip d ho hlt (fun a w ok ρ F hi => by
    have hs := hi.slots t
    rw [hb] at hs
    have hv := hs.imm_inv
    have hy : yielded all a.tmps j = none := by
      rw [Array.getD_eq_getD_getElem?] at hv
      cases h : a.tmps[t]? with
      | none => simp [yielded, hd, h]
      | some v =>
        rw [h] at hv
        simp only [Option.getD_some] at hv
        subst hv
        simp [yielded, hd, h, undef]
    simp [Region.wanted, hg, hy]) hn
/-- One's own list lent under the name 0, and given back: so under any name. -/
theorem Does.nameL {f : FuncId} {n : Nat} {obj : LObj} {xs : List LV} {R : LV → LObj → Prop} (hk : obj.kind = .fro) (hro : obj.ro = false) (hR : ∀ r o, R r o → o.kind = .fro) (hxs : ∀ k, LV.at?.atL k xs = false) (h : Does P f (.own 0 0 n :: xs) [(0, obj)] (fun r h => ∃ o, R r o ∧ h = [(0, o)])) (k : Nat) :
    Does P f (.own k 0 n :: xs) [(k, obj)] (fun r h => ∃ o, R r o ∧ h = [(k, o)]) := by
  refine ⟨h.1, fun w vs ok ρ F hT hH hok => ?_⟩
  have hFe : fpsOf (fun _ => F k) (rwOf [(0, obj)]) = fpsOf F (rwOf [(k, obj)]) := by simp [rwOf, hro, fpsOf]
  have cells : ∀ {w : World} {ok : Nat → Prop} {ρ ρ' : Env} {o : LObj} {vs : List Value} {fps : List Nat}, o.kind = .fro → ObjCells w ok ρ o.kind (o.elems.flatMap LV.cells) vs fps → ObjCells w ok ρ' o.kind (o.elems.flatMap LV.cells) vs fps := by
    intro w ok ρ ρ' o vs fps hb hc
    simp only [hb] at hc ⊢
    exact hc
  have hT' : RepT w ok (fun _ => ρ k) (.own 0 0 n :: xs) vs := by
    cases hT with
    | cons h1 h2 =>
      refine .cons ?_ ?_
      · rcases h1.own_inv with ⟨p, c, hp, h2, h3, hv⟩ | ⟨rfl, A, hv⟩
        · rw [hv]; exact .own hp h2 h3
        · rw [hv]; exact .own0
      · exact RepT.stable (fun _ _ => rfl) (fun _ hb => hb) (fun o ho => absurd ho (LV.atL_refs o _ (hxs o))) h2
  have hH' : HeapOK w ok (fun _ => ρ k) (fun _ => F k) [(0, obj)] := by
    refine ⟨by simp [hkeys], fun p hp => ?_, ?_, ?_⟩
    · simp at hp; subst hp
      rcases hH.objs (k, obj) (by simp) with ⟨h1, h2, h3⟩ | ⟨p, arr, t, us, fps, h1, h2, h3⟩
      · exact .inl ⟨h1, h2, h3⟩
      · exact .inr ⟨p, arr, t, us, fps, h1, h2, { h3 with cells := cells hk h3.cells }⟩
    · have := hH.nodup; simpa [fpsOf] using this
    · intro b hb
      exact hH.apart b (by simpa [fpsOf] using hb)
  refine (h.2 w vs ok (fun _ => ρ k) (fun _ => F k) hT' hH' hok).mono fun e w' => ?_
  rintro ⟨v, r, hl', ok', F', fr, he, ⟨o, hRo, rfl⟩, hext, hres, hk', ho', hn', hb', hok'⟩
  have hr2 := hR r o hRo
  have hF1 : fpsOf (fun _ => F' 0) [(k, o)] = fpsOf F' [(0, o)] := by simp [fpsOf]
  refine ⟨v, r, [(k, o)], ok', fun _ => F' 0, fr, he, ⟨o, hRo, rfl⟩, hFe ▸ hext, hres, by simp [hkeys], ?_, hF1 ▸ hn', ?_, ?_⟩
  · intro p hp
    simp at hp; subst hp
    obtain ⟨g1, g2, g3⟩ := ho' (0, o) (by simp)
    refine ⟨g1, by simp [rwOf, hro, hkeys], ?_⟩
    rcases g3 with ⟨h1, h2, h3⟩ | ⟨p, arr, t, us, fps, h1, h2, h3⟩
    · exact .inl ⟨h1, h2, h3⟩
    · exact .inr ⟨p, arr, t, us, fps, h1, h2, { h3 with cells := cells hr2 h3.cells }⟩
  · rw [← hFe, hF1]; exact hb'
  · rw [← hFe]; exact hok'
theorem Does.nameO {α : Type} {f : FuncId} {n sz sz' : Nat} {e : α → LV} {l l' : List α} {xs : List LV} {v : LV} (h : Does P f (.own 0 0 n :: xs) [(0, lob sz e l)] (fun r h => r = v ∧ h = [(0, lob sz' e l')])) (hxs : ∀ k, LV.at?.atL k xs = false) (k : Nat) :
    Does P f (.own k 0 n :: xs) [(k, lob sz e l)] (fun r h => r = v ∧ h = [(k, lob sz' e l')]) :=
  (Does.nameL (R := fun r o => r = v ∧ o = lob sz' e l') rfl rfl (by rintro r o ⟨_, rfl⟩; rfl) hxs (h.mono fun r h ⟨h1, h2⟩ => ⟨_, ⟨h1, rfl⟩, h2⟩) k).mono fun r h ⟨o, ⟨h1, h2⟩, h3⟩ => ⟨h1, by rw [h3, h2]⟩
def mk2? {α : Type} (m n : Int) (y : α) : Option (List α) := if 0 ≤ m ∧ m ≤ n ∧ n ≤ 1000000000000 then some (List.replicate m.toNat y) else none
theorem mk2_b {α : Type} {m n : Int} {y : α} {r : List α} (h : mk2? m n y = some r) : 0 ≤ m ∧ m ≤ n ∧ n ≤ 1000000000000 ∧ r = List.replicate m.toNat y := by
  unfold mk2? at h
  split at h
  · rename_i e; cases h; exact ⟨e.1, e.2.1, e.2.2, rfl⟩
  · cases h
/-- Numbers without a sign. -/
def e_uint64 (n : Int) : LV := .imm (.int .u64 n)
def uI (n : Int) : Option Int := if 0 ≤ n ∧ n ≤ 9223372036854775807 then some n else none
def ckU (x : Int) : Option Int := if 0 ≤ x ∧ x ≤ 18446744073709551615 then some x else none
/-- A list of one's own lent under the name 0, and taken in: so under any name; closures may be among the arguments. -/
theorem Does.nameT {f : FuncId} {n : Nat} {obj : LObj} {xs : List LV} {R : LV → Prop} (hk : obj.kind = .fro) (hro : obj.ro = false) (hxs : ∀ k, LV.at?.atL k xs = false) (h : Does P f (.own 0 0 n :: xs) [(0, obj)] (fun r h => R r ∧ h = [])) (k : Nat) :
    Does P f (.own k 0 n :: xs) [(k, obj)] (fun r h => R r ∧ h = []) := by
  refine ⟨h.1, fun w vs ok ρ F hT hH hok => ?_⟩
  have hFe : fpsOf (fun _ => F k) (rwOf [(0, obj)]) = fpsOf F (rwOf [(k, obj)]) := by simp [rwOf, hro, fpsOf]
  have hT' : RepT w ok (fun _ => ρ k) (.own 0 0 n :: xs) vs := by
    cases hT with
    | cons h1 h2 =>
      refine .cons ?_ ?_
      · rcases h1.own_inv with ⟨p, c, hp, h2, h3, hv⟩ | ⟨rfl, A, hv⟩
        · rw [hv]; exact .own hp h2 h3
        · rw [hv]; exact .own0
      · exact RepT.stable (fun _ _ => rfl) (fun _ hb => hb) (fun o ho => absurd ho (LV.atL_refs o _ (hxs o))) h2
  have hH' : HeapOK w ok (fun _ => ρ k) (fun _ => F k) [(0, obj)] := by
    refine ⟨by simp [hkeys], fun p hp => ?_, ?_, ?_⟩
    · simp at hp; subst hp
      rcases hH.objs (k, obj) (by simp) with ⟨h1, h2, h3⟩ | ⟨p, arr, t, us, fps, h1, h2, h3⟩
      · exact .inl ⟨h1, h2, h3⟩
      · refine .inr ⟨p, arr, t, us, fps, h1, h2, { h3 with cells := ?_ }⟩
        have hc := h3.cells
        simp only [hk] at hc ⊢
        exact hc
    · have := hH.nodup; simpa [fpsOf] using this
    · intro b hb
      exact hH.apart b (by simpa [fpsOf] using hb)
  refine (h.2 w vs ok (fun _ => ρ k) (fun _ => F k) hT' hH' hok).mono fun e w' => ?_
  rintro ⟨v, r, hl', ok', F', fr, he, ⟨hR, rfl⟩, hext, hres, hk', ho', hn', hb', hok'⟩
  refine ⟨v, r, [], ok', F', fr, he, ⟨hR, rfl⟩, hFe ▸ hext, hres, hk', ?_, hn', ?_, ?_⟩
  · simp
  · rw [← hFe]; exact hb'
  · rw [← hFe]; exact hok'
theorem LWo.tcallN {α β : Type} {f : Operand} {ops : List Operand} {ts : Array TypeId} {g : FuncId} {caps vals xs : List LV} {o n sz sz' : Nat} {e : α → LV} {e' : β → LV} {l : List α} {r : List β} (k : Nat) (hf : s.eval f = .clo g caps) (hv : ops.map s.eval ++ caps = vals)
    (hfn : Does P g (.own 0 0 l.length :: xs) [(0, lob sz e l)] (fun x h => x = .nw sz' (r.map e') false ∧ h = [])) (hxs : ∀ k, LV.at?.atL k xs = false) (hA : vals = .own o 0 n :: xs) (hnl : n = l.length) (ho : hget o s.h = some (lob sz e l)) (hl : Lift.lone k (hdel k (hdel o s.h)) = true) (hkp : E.keep.contains k = false := by exact rfl) (hd : Nat.blt d E.n = true := by exact rfl)
    (hn : LWo P E all rest Q { tm := (d, .own k 0 r.length) :: kill k s.tm, h := (k, lob sz' e' r) :: hdel k (hdel o s.h) }) :
    LWo P E all ({ dst := some d, op := .call { callee := .value f, args := ops.toArray, argTypes := ts }, type := ty, pos := pos, after := af, guard := none } :: rest) Q s := by
  subst hnl
  exact LWo.tcallO k hf hv (Does.nameT rfl rfl hxs hfn o) hA ho rfl hkp hl hd (by rw [List.length_map]; exact hn)
theorem nkb {α R : Type} [DecidableEq R] {l : List α} {f : Bool → Option R} {r : R} {p : Prop} (h : nilM l f = some r) (b : Bool) (hb : b = true → l = []) (k : f b = some r → p) : p := by
  refine k ?_
  cases l with
  | cons x l =>
    cases b with
    | true => exact absurd (hb rfl) (by simp)
    | false => exact h
  | nil =>
    simp only [nilM] at h
    cases h1 : f true with
    | none => rw [h1] at h; simp at h
    | some a =>
      cases h2 : f false with
      | none => rw [h1, h2] at h; simp at h
      | some c =>
        rw [h1, h2] at h
        simp only at h
        split at h
        · rename_i e
          cases h
          cases b
          · rw [h2, e]
          · exact h1
        · cases h
theorem LWo.ucallM {α : Type} {f : Operand} {ops : List Operand} {ts : Array TypeId} {g : FuncId} {caps vals xs : List LV} {k sz : Nat} {e : α → LV} {l l' : List α} {v : LV} (hf : s.eval f = .clo g caps) (hv : ops.map s.eval ++ caps = vals)
    (hfn : Does P g xs [(k, lob sz e l)] (fun r h => r = v ∧ h = [(k, lob sz e l')])) (hA : vals = xs) (ho : hget k s.h = some (lob sz e l)) (dst : Option Nat) (hd : (match dst with | some t => Nat.blt t E.n | none => true) = true)
    (hn : LWo P E all rest Q (({ tm := s.tm, h := (k, lob sz e l') :: hdel k s.h } : LState).put dst (settle none v))) :
    LWo P E all ({ dst := dst, op := .call { callee := .value f, args := ops.toArray, argTypes := ts }, type := ty, pos := pos, after := af, guard := none } :: rest) Q s := LWo.ucall (n := 0) hf hv hfn hA ho dst hd hn
/-- As long as before. -/
def lenQ {β : Type} (n m : Nat) (x : β) : Option β := if n = m then some x else none
theorem lenQ_some {β : Type} {n m : Nat} {x y : β} (h : lenQ n m x = some y) : n = m ∧ x = y := by
  unfold lenQ at h
  split at h
  · rename_i e; cases h; exact ⟨e, rfl⟩
  · cases h
/-- A list made at once. -/
theorem getMade (zs : List Value) : ∀ (n k : Nat) (v : Value), (List.replicate n zs).flatten[k]? = some v → zs[k % zs.length]? = some v ∧ k < n * zs.length
  | 0, k, v, h => by simp at h
  | n + 1, k, v, h => by
    rw [List.replicate_succ, List.flatten_cons, List.getElem?_append] at h
    split at h
    · rename_i hlt
      rw [Nat.mod_eq_of_lt hlt]
      exact ⟨h, Nat.lt_of_lt_of_le hlt (by rw [Nat.succ_mul]; omega)⟩
    · rename_i hlt
      obtain ⟨h1, h2⟩ := getMade zs n _ v h
      refine ⟨?_, by rw [Nat.succ_mul]; omega⟩
      rw [Nat.mod_eq_sub_mod (by omega)]; exact h1
theorem froRep {w : World} {ok : Nat → Prop} {cs : List LV} {vs : List Value} (h : FroL w ok cs vs) : ∀ n : Nat, FroL w ok ((List.replicate n cs).flatten) ((List.replicate n vs).flatten)
  | 0 => .nil
  | n + 1 => by
    rw [List.replicate_succ, List.flatten_cons, List.replicate_succ, List.flatten_cons]
    have app : ∀ {a : List LV} {b : List Value} {c : List LV} {d : List Value}, FroL w ok a b → FroL w ok c d → FroL w ok (a ++ c) (b ++ d) := by
      intro a b c d h1 h2
      induction a generalizing b with
      | nil => cases h1; exact h2
      | cons x a ih => cases h1 with | cons h h' h'' => exact .cons h h' (ih h'')
    exact app h (froRep h n)
theorem LWo.makeW {α : Type} {T e : TypeId} {z : Value} {zs : List Value} {sz bytes : Nat} {f : α → LV} {y : α} {x c : Operand} {kl kc : IntKind} {m n : Int} (k : Nat) (hm0 : 0 ≤ m) (hmn : m ≤ n) (hn' : n ≤ 1000000000000) (hu : P.underlying T = some (.slice e))
    (hinfo : (P.info? e).map (fun i => (i.size, i.bytes, i.zero)) = some (sz, bytes, some z)) (hzs : z.cells = zs.toArray) (h1 : zs.all Value.oneCell' = true) (hlen : zs.length = sz) (hw : WkL (zs.map LV.imm) (f y).cells) (hx : s.eval x = .imm (.int kl m)) (hc : s.eval c = .imm (.int kc n)) (hl : lone k (hdel k s.h) = true) (hby : Nat.ble bytes 140 = true) (hkp : E.keep.contains k = false := by exact rfl) (hd : Nat.blt d E.n = true := by exact rfl)
    (hn : LWo P E all rest Q { tm := (d, .own k 0 (List.replicate m.toNat y).length) :: kill k s.tm, h := (k, lob sz f (List.replicate m.toNat y)) :: hdel k s.h }) :
    LWo P E all ({ dst := some d, op := .makeSlice T x c, type := ty, pos := pos, after := af, guard := none } :: rest) Q s :=
  have hcl : (f y).cells.length = sz := by rw [← hw.length, List.length_map, hlen]
  LWo.make k (lob sz f (List.replicate m.toNat y)) (.own k 0 (List.replicate m.toNat y).length) hd hkp hl (.inl rfl) (by
      intro z hz
      simp only [lob, List.map_replicate, List.mem_replicate] at hz
      rw [hz.2, hcl]; rfl) (fun a w ok ρ F hi => by
    have hvx := hi.eval x
    rw [hx] at hvx
    have hvc := hi.eval c
    rw [hc] at hvc
    have e1 := hvx.imm_inv
    have e2 := hvc.imm_inv
    obtain ⟨i, hi1, hi2, hi3, hi4⟩ : ∃ i, P.info? e = some i ∧ i.size = sz ∧ i.bytes = bytes ∧ i.zero = some z := by
      cases h : P.info? e with
      | none => rw [h] at hinfo; cases hinfo
      | some i => rw [h] at hinfo; simp at hinfo; exact ⟨i, rfl, hinfo.1, hinfo.2.1, hinfo.2.2⟩
    have hby' := Nat.le_of_ble_eq_true hby
    have hr := run_make (P := P) w T e i z hu hi1 hi4 kl kc m n hm0 hmn (by rw [hi3]; exact Int.le_trans (Int.mul_le_mul (c := 140) (d := 1000000000000) (by omega) hn' (by omega) (by decide)) (by decide)) (by omega)
    refine ⟨.slice (some ⟨w.heap.size, 0, none⟩) m.toNat n.toNat, madeCells z.cells (n.toNat * i.size), e, (List.replicate m.toNat zs).flatten, n.toNat, w, ?_, .inl rfl, by simp [lob]; omega, by unfold maxLen; omega, ?_, ?_, ?_, fun W ok' ρ' hρ => ?_⟩
    · simp only [execOp, e1, e2]
      rw [Sem.run_bind, hr]; rfl
    · rw [size_madeCells, hi2]; exact Nat.le_refl _
    · intro j v hj
      obtain ⟨g1, g2⟩ := getMade zs _ j v hj
      have hlt : j < n.toNat * i.size := by
        rw [hi2, ← hlen]
        exact Nat.lt_of_lt_of_le g2 (Nat.mul_le_mul_right _ (by omega))
      have hpos : j % zs.length < zs.length := by
        rcases Nat.lt_or_ge (j % zs.length) zs.length with h | h
        · exact h
        · rw [List.getElem?_eq_none h] at g1; cases g1
      rw [madeCells, Array.getElem?_map, Array.getElem?_range]
      rw [if_pos hlt, hzs]
      simp only [Option.map_some, List.size_toArray, Option.some.injEq]
      rw [List.getElem?_eq_getElem hpos] at g1
      simp only [Option.some.injEq] at g1
      rw [getElem!_pos (List.toArray zs) _ (by simpa using hpos)]
      simpa using g1
    · refine ⟨rfl, ?_⟩
      have := froRep ((froL_imm (w := w) (ok := ok) zs (by simpa using h1)).weak hw) m.toNat
      have e3 : (lob sz f (List.replicate m.toNat y)).elems.flatMap LV.cells = (List.replicate m.toNat (f y).cells).flatten := by
        simp [lob, List.flatMap_def]
      rw [e3]; exact this
    · have hw := Rep.own (w := W) (ok := ok') (ρ := ρ') (off := 0) (n := m.toNat) (c := n.toNat) hρ (by simp) (by omega)
      simp only [Nat.zero_mul] at hw
      rw [List.length_replicate]; exact hw) hn
end
end Go.Lift

/- The lifted logic, part 35: a call with a variable lent whose list is one's own. Own work. -/
namespace Go.Lift
open Go.RowKit
section
variable {P : Program} {E : Ent} {Q : Exit → LState → Prop} {s : LState} {all : Array Oper} {rest : List Oper} {d : Nat} {ty : TypeId} {pos : String} {af : Array Edge}
end
end Go.Lift

/- The lifted logic, part 36: cuts of one's own list that stay one's own; clear. Own work. -/
namespace Go.Lift
open Go.RowKit
section
variable {P : Program} {E : Ent} {Q : Exit → LState → Prop} {s : LState} {all : Array Oper} {rest : List Oper} {d : Nat} {ty : TypeId} {pos : String} {af : Array Edge}
def rng? (lo hi : Int) (n : Nat) : Option Unit := if 0 ≤ lo ∧ lo ≤ hi ∧ hi ≤ n then some () else none
theorem rng_b {lo hi : Int} {n : Nat} {u : Unit} (h : rng? lo hi n = some u) : 0 ≤ lo ∧ lo ≤ hi ∧ hi ≤ n := by
  unfold rng? at h
  split at h
  · assumption
  · cases h
theorem rng_of {lo hi : Int} {n : Nat} (h : 0 ≤ lo ∧ lo ≤ hi ∧ hi ≤ n) : rng? lo hi n = some () := by unfold rng?; rw [if_pos h]
def appT? {α : Type} (l : List α) (n : Nat) (r : List α) : Option (List α) := if n ≤ l.length ∧ n + r.length ≤ 1000000000000 then some (l.take n ++ r) else none
def leN (n m : Nat) : Option Unit := if n ≤ m then some () else none
theorem leN_b {n m : Nat} {u : Unit} (h : leN n m = some u) : n ≤ m := by
  unfold leN at h
  split at h
  · assumption
  · cases h
theorem leN_of {n m : Nat} (h : n ≤ m) : leN n m = some () := by unfold leN; rw [if_pos h]
def atc? {α : Type} (l : List α) (off n : Nat) (i : Int) : Option α := if 0 ≤ i ∧ i < n then l[off + i.toNat]? else none
theorem atc_b {α : Type} {l : List α} {off n : Nat} {i : Int} {y : α} (h : atc? l off n i = some y) : 0 ≤ i ∧ i < n ∧ l[off + i.toNat]? = some y := by
  unfold atc? at h
  split at h
  · rename_i e; exact ⟨e.1, e.2, h⟩
  · cases h
/-- A cut of one's own list. -/
theorem LWo.cutOM {α : Type} {T e : TypeId} {sz o off n : Nat} {f : α → LV} {l : List α} {lo hi : Int} {u : Unit} {x : Operand} {lx hx' : Option Operand} (he : rng? lo hi n = some u) (hu : P.underlying T = some (.slice e)) (hz : ∀ w, (sizeOf e).run P w = .ok sz w)
    (hx : s.eval x = .own o off n) (ho : hget o s.h = some (lob sz f l)) (hl : match lx with | none => lo = 0 | some o => ∃ k, s.eval o = .imm (.int k lo)) (hh : match hx' with | none => hi = n | some o => ∃ k, s.eval o = .imm (.int k hi)) (hd : Nat.blt d E.n = true := by exact rfl)
    (hn : LWo P E all rest Q (s.put (some d) (.own o (off + lo.toNat) (hi.toNat - lo.toNat)))) :
    LWo P E all ({ dst := some d, op := .slice T x lx hx' none, type := ty, pos := pos, after := af, guard := none } :: rest) Q s := by
  obtain ⟨h0, h1, h2⟩ := rng_b he
  refine LWo.cutOwn (l := lo.toNat) (h := hi.toNat) hu hz hx ho rfl ?_ ?_ trivial (.inl rfl) (by omega) (by omega) rfl rfl hd hn
  · cases lx with
    | none => simp only at hl; subst hl; rfl
    | some o => obtain ⟨k, hk⟩ := hl; exact ⟨k, by rw [hk, Int.toNat_of_nonneg h0]⟩
  · cases hx' with
    | none => simp only at hh; subst hh; simp [Bound]
    | some o => obtain ⟨k, hk⟩ := hh; exact ⟨k, by rw [hk, Int.toNat_of_nonneg (by omega)]⟩
/-- The place of an element of a cut. -/
theorem LWo.indexOC {α : Type} {T e : TypeId} {sz o off n : Nat} {f : α → LV} {l : List α} {y : α} {x ix : Operand} {k : IntKind} {i : Int} (he : atc? l off n i = some y) (hu : P.underlying T = some (.slice e)) (hz : ∀ w, (sizeOf e).run P w = .ok sz w)
    (hx : s.eval x = .own o off n) (hi : s.eval ix = .imm (.int k i)) (ho : hget o s.h = some (lob sz f l)) (hd : Nat.blt d E.n = true := by exact rfl) (hn : LWo P E all rest Q (s.put (some d) (.ptr o (off + i.toNat) 0))) :
    LWo P E all ({ dst := some d, op := .indexAddr T x ix, type := ty, pos := pos, after := af, guard := none } :: rest) Q s :=
  LWo.indexOwn hu hz hx hi ho rfl (atc_b he).1 (atc_b he).2.1 hd hn
/-- What is appended is read: a cut of one's own, too. -/
inductive SrcT {α : Type} (s : LState) (y : Operand) (sz : Nat) (f : α → LV) (l : List α) : Prop
  | m : SrcM s y sz f l → SrcT s y sz f l
  | cut {o off n : Nat} {L : List α} : s.eval y = .own o off n → off + n ≤ L.length → hget o s.h = some (lob sz f L) → (L.drop off).take n = l → SrcT s y sz f l
theorem SrcT.is {α : Type} {y : Operand} {sz : Nat} {f : α → LV} {l : List α} (h : SrcT s y sz f l) : SrcIs s y sz (l.map f) := by
  cases h with
  | m h => exact h.is
  | cut h h1 h2 h3 =>
    subst h3
    rename_i o off n L
    refine .inr (.inr (.inl ⟨_, off, _, by rw [List.length_map, List.length_take, List.length_drop, show min n (L.length - off) = n by omega]; exact h, h2, rfl, rfl, by simp [lob]; omega, by
      simp [lob, show min n (L.length - off) = n by omega, List.map_take, List.map_drop]⟩))
/-- One's own list is read as less than it is. -/
theorem Inv.trunc {k m : Nat} {obj : LObj} (ho : hget k s.h = some obj) (hk : obj.kind = .fro) (hro : obj.ro = false) {a : Act} {w : World} (hi : Inv E s a w) : Inv E { tm := s.tm, h := (k, { obj with elems := obj.elems.take m }) :: hdel k s.h } a w := by
  obtain ⟨ok, ρ, F, hi⟩ := hi
  have hp := hput_perm (x := { obj with elems := obj.elems.take m }) hi.heap.keys ho
  have key : Inv' E { tm := s.tm, h := hput k { obj with elems := obj.elems.take m } s.h } a w ok ρ F := by
    refine { hi with heap := ⟨by rw [hput_keys]; exact hi.heap.keys, ?_, ?_, ?_⟩, mine := ?_ }
    · intro p hp
      rcases mem_hput hp with ⟨e1, e2⟩ | ⟨_, hm⟩
      · obtain ⟨pk, po⟩ := p
        simp only at e1 e2; subst e1; subst e2
        rcases hi.heap.objs _ (hget_mem ho) with ⟨h1, h2, h3⟩ | ⟨p, arr, t, vs, fps, h1, h2, h3⟩
        · exact .inl ⟨h1, by simp only at h2 ⊢; rw [h2]; simp, h3⟩
        · have hun : ∀ x ∈ obj.elems, x.cells.length = obj.sz := h3.unif
          have hc := h3.cells
          simp only [hk] at hc
          refine .inr ⟨p, arr, t, vs.take (m * obj.sz), fps, h1, h2, ⟨h3.sz, fun x hx => hun x (List.mem_of_mem_take hx), ?_, h3.cap, h3.blk, h3.room, ?_, ?_⟩⟩
          · have : obj.elems.length ≤ p.cap := h3.len
            simp; omega
          · intro j v hj
            rw [List.getElem?_take] at hj
            split at hj
            · exact h3.vals j v hj
            · cases hj
          · show ObjCells _ _ _ obj.kind _ _ _
            rw [hk]
            refine ⟨hc.1, ?_⟩
            show FroL _ _ ((obj.elems.take m).flatMap LV.cells) _
            rw [flat_take _ obj.sz _ hun]
            exact hc.2.take _
      · exact hi.heap.objs p hm
    · rw [fpsOf_keys, hput_keys, ← fpsOf_keys]; exact hi.heap.nodup
    · intro b hb
      rw [fpsOf_keys, hput_keys, ← fpsOf_keys] at hb; exact hi.heap.apart b hb
    · intro p hp hro' b hb hlt
      rcases mem_hput hp with ⟨e1, e2⟩ | ⟨_, hm⟩
      · obtain ⟨pk, po⟩ := p
        simp only at e1 e2; subst e1; subst e2
        exact hi.mine _ (hget_mem ho) hro b hb hlt
      · exact hi.mine p hm hro' b hb hlt
  exact ⟨ok, ρ, F, key.perm hp⟩
/-- clear, of the end of one's own list: the list is read as its beginning from now on. -/
theorem LWo.clearO {α : Type} {T e : TypeId} {sz o off n : Nat} {z : Value} {f : α → LV} {l : List α} {x : Operand} (dst : Option Nat) (hu : P.underlying T = some (.slice e)) (hz : ∀ w, (zeroValue e).run P w = .ok z w) (hzs : z.cells.size = sz) (hz1 : z.cells.toList.all Value.oneCell' = true)
    (hx : s.eval x = .own o off n) (ho : hget o s.h = some (lob sz f l)) (hd : (match dst with | some t => Nat.blt t E.n | none => true) = true)
    (hn : LWo P E all rest Q (({ tm := s.tm, h := (o, lob sz f (l.take off)) :: hdel o s.h } : LState).put dst .junk)) :
    LWo P E all ({ dst := dst, op := .call { callee := .builtin .clear, args := #[x], argTypes := #[T] }, type := ty, pos := pos, after := af, guard := none } :: rest) Q s :=
  LWo.value _ rfl (fun a w ok ρ F hi => by
    have htr : Inv E { tm := s.tm, h := (o, lob sz f (l.take off)) :: hdel o s.h } a w := by
      have := Inv.trunc (m := off) ho rfl rfl ⟨ok, ρ, F, hi⟩
      have e1 : ({ (lob sz f l) with elems := (lob sz f l).elems.take off } : LObj) = lob sz f (l.take off) := by simp [lob, List.map_take]
      rw [e1] at this; exact this
    have fin : ∀ w', Inv E { tm := s.tm, h := (o, lob sz f (l.take off)) :: hdel o s.h } a w' → ∀ v, Inv E (({ tm := s.tm, h := (o, lob sz f (l.take off)) :: hdel o s.h } : LState).put dst .junk) (a.put dst v) w' := by
      rintro w' ⟨ok', ρ', F', h⟩ v
      cases dst with
      | none => exact ⟨_, _, _, h⟩
      | some t => exact ⟨_, _, _, h.put hd (.junk _)⟩
    have hX := hi.eval x
    rw [hx] at hX
    have none0 : ∀ (A : Option Addr) (c : Nat), a.eval x = .slice A 0 c → ∃ n w', (execOp a.eval { dst := dst, op := .call { callee := .builtin .clear, args := #[x], argTypes := #[T] }, type := ty, pos := pos, after := af, guard := none }).run P w = .ok n w' ∧ ((∃ v, n = .value v ∧ Inv E (({ tm := s.tm, h := (o, lob sz f (l.take off)) :: hdel o s.h } : LState).put dst .junk) (a.put dst v) w') ∨ (n = .skip ∧ Inv E (({ tm := s.tm, h := (o, lob sz f (l.take off)) :: hdel o s.h } : LState).put dst .junk) (a.put dst undef) w')) := by
      intro A c hv
      refine ⟨.value (.tuple #[]), w, ?_, .inl ⟨_, rfl, fin w htr _⟩⟩
      cases A <;> simp [execOp, resolve, invoke, builtin, Builtin.clear_, underlying, hu, program, Sem.run, hv]
    rcases hX.own_inv with ⟨p, cp, hp, hcap, hncp, hxv⟩ | ⟨h0, A, hxv⟩
    · rcases Nat.eq_zero_or_pos n with h0 | hpos
      · subst h0
        exact none0 _ _ hxv
      · rcases hi.heap.objs _ (hget_mem ho) with ⟨h', _⟩ | ⟨p', arr, t, us, fps, h', hF, hobj⟩
        · rw [hp] at h'; cases h'
        · rw [hp] at h'; cases h'
          have hsz : p.sz = sz := hobj.sz
          have hunif : ∀ x ∈ (lob sz f l).elems, x.cells.length = sz := hobj.unif
          have hcells := hobj.cells
          have huslen := hcells.2.length
          have hroom : p.cap * p.sz ≤ arr.size := hobj.room
          let vs := (Builtin.zeroCells z.cells n).toList
          have hvl : vs.length = n * sz := by simp [vs, Builtin.zeroCells, hzs]
          have hvo : ∀ v ∈ vs, v.oneCell' = true := by
            intro v hv
            simp only [vs, Builtin.zeroCells, Array.toList_map, List.mem_map, Array.toList_range, List.mem_range] at hv
            obtain ⟨i, hi', rfl⟩ := hv
            have hs0 : 0 < z.cells.size := by
              rcases Nat.eq_zero_or_pos z.cells.size with h | h
              · rw [h] at hi'; simp at hi'
              · exact h
            have hlt := Nat.mod_lt i hs0
            rw [getElem!_pos z.cells _ hlt]
            exact List.all_eq_true.1 hz1 _ (by simp)
          have h3 : (off + n) * sz ≤ p.cap * p.sz := by rw [hsz]; exact Nat.mul_le_mul_right _ (by omega)
          rw [Nat.add_mul] at h3
          have hst := run_storeCells_at P p.blk (off * sz) t vs 0 arr w hobj.blk (by omega) hvo
          simp only [Nat.add_zero] at hst
          refine ⟨.value (.tuple #[]), w.setRow p.blk (arr.toList.take (off * sz) ++ vs ++ arr.toList.drop (off * sz + vs.length)).toArray, ?_, .inl ⟨_, rfl, fin _ ?_ _⟩⟩
          · obtain ⟨n', rfl⟩ : ∃ q, n = q + 1 := ⟨n - 1, by omega⟩
            rw [hsz] at hxv
            simp [execOp, resolve, invoke, builtin, Builtin.clear_, underlying, hu, program, Sem.run, hz w, hxv]
            simp [vs, Sem.run] at hst
            rw [hst]; rfl
          have hapart := hi.heap.apart p.blk (mem_fpsOf.2 ⟨_, hget_mem ho, by rw [hF]; simp⟩)
          have hob : ∀ b, ok b → (w.setRow p.blk (arr.toList.take (off * sz) ++ vs ++ arr.toList.drop (off * sz + vs.length)).toArray).heap[b]? = w.heap[b]? := fun b hb => setRow_other w p.blk b _ (fun e => hapart.1 (e ▸ hb))
          have hw := Inv'.write (obj' := lob sz f (l.take off)) hi ho rfl rfl hp hF (arr' := (arr.toList.take (off * sz) ++ vs ++ arr.toList.drop (off * sz + vs.length)).toArray) (vs' := us.take (off * sz)) (t := t)
            { sz := hobj.sz
              unif := by
                intro x hx
                simp only [lob, List.map_take] at hx
                exact hunif x (List.mem_of_mem_take hx)
              len := by have hl : (lob sz f l).elems.length ≤ p.cap := hobj.len; simp [lob] at hl ⊢; omega
              cap := hobj.cap
              blk := setRow_heap w _ _ _ _ _ hobj.blk
              room := by simp; omega
              vals := by
                intro k v hk'
                simp only [List.getElem?_toArray]
                rw [List.getElem?_take] at hk'
                split at hk'
                · rename_i hlt
                  have hl2 : (arr.toList.take (off * sz)).length = off * sz := by simp; omega
                  rw [List.append_assoc, List.getElem?_append_left (by omega), List.getElem?_take, if_pos hlt]
                  simpa using hobj.vals k v hk'
                · cases hk'
              cells := by
                refine ⟨hcells.1, ?_⟩
                have e1 : (lob sz f (l.take off)).elems = (lob sz f l).elems.take off := by simp [lob, List.map_take]
                rw [e1, flat_take _ sz _ hunif]
                exact FroL.stable hob (fun _ hb => hb) (hcells.2.take _) }
          have hpm := hput_perm (x := lob sz f (l.take off)) hi.heap.keys ho
          exact ⟨ok, ρ, F, hw.perm hpm⟩
    · subst h0
      exact none0 _ _ hxv) hn
theorem ResOf.nwT {α : Type} {h : LHeap} {k n sz : Nat} {e : α → LV} {l : List α} (hle : n ≤ l.length) (ho : hget k h = some (lob sz e l)) : ResOf h (.own k 0 n) (.nw sz ((l.take n).map e) false) [k] [] := by
  have := ResOf.own (n := n) (dp := false) ho rfl (.inl ⟨rfl, .inl rfl⟩) (by simpa [lob] using hle)
  have e1 : (lob sz e l).elems.take n = (l.take n).map e := by simp [lob, List.map_take]
  rwa [e1] at this
theorem ResOf.slT {α : Type} {h : LHeap} {k off n sz : Nat} {e : α → LV} {l : List α} (hle : off + n ≤ l.length) (ho : hget k h = some (lob sz e l)) : ResOf h (.own k off n) (.sl sz (((l.drop off).take n).map e)) [] [k] := by
  have := ResOf.ownF (off := off) (n := n) ho rfl (.inl rfl) (by simpa [lob] using hle)
  have e1 : ((lob sz e l).elems.drop off).take n = ((l.drop off).take n).map e := by simp [lob, List.map_take, List.map_drop]
  rwa [e1] at this
end
end Go.Lift
namespace Go.Lift
open Go.RowKit
section
variable {P : Program} {E : Ent} {Q : Exit → LState → Prop} {s : LState} {all : Array Oper}
end
end Go.Lift

/- The lifted logic, part 37: append in place, where the room is known. Own work. -/
namespace Go.Lift
open Go.RowKit
section
variable {P : Program} {E : Ent} {Q : Exit → LState → Prop} {s : LState} {all : Array Oper} {rest : List Oper} {d : Nat} {ty : TypeId} {pos : String} {af : Array Edge}
end
end Go.Lift

/- The lifted logic, part 38: a call that hands back a list of its own and something beside it. Own work. -/
namespace Go.Lift
open Go.RowKit
section
variable {P : Program} {E : Ent} {Q : Exit → LState → Prop} {s : LState} {all : Array Oper} {rest : List Oper} {d : Nat} {ty : TypeId} {pos : String} {af : Array Edge}
end
end Go.Lift

/- The lifted logic, part 39: a call whose list that comes back is not wanted. Own work. -/
namespace Go.Lift
open Go.RowKit
section
variable {P : Program} {E : Ent} {Q : Exit → LState → Prop} {s s' : LState} {all : Array Oper} {rest : List Oper} {d : Nat} {ty : TypeId} {pos : String} {af : Array Edge}
end
end Go.Lift

/- The lifted logic, part 40: short forms of the steps of a region of open order. Own work. -/
namespace Go.Lift
theorem zn {α β : Type} {a : α} {c : β} {R G : Prop} (hg : G) : a = a ∧ (c = c ∨ R) ∧ G := ⟨rfl, .inl rfl, hg⟩
section
variable {P : Program} {E : Ent}
theorem dq {KS : List (Nat × Nat)} {all : Array Oper} {o : Oper} {os : List Oper} {rd hk : List Nat} {ps : List (List Nat × List Nat)} {i : Nat} {acc : List SF} {ah : List HF} {k : List SF → List HF → List Rec → Prop} (d : Nat) {y : LV} (hin : (rd.all (hasT · acc) && hk.all (hasH · ah)) = true)
    (h1 : ∀ u : LState, Good KS u → AllF u.tm (rd.map (look · acc)) → AllH u.h (hk.map (lookH · ah)) → LWo P E all [o] (fun e t => e = .normal ∧ (t = (Ef.put d y).run u ∨ t.le ((Ef.put d y).run u)) ∧ Good KS t) u)
    (h2 : DSE P E KS all os ps (i + 1) ((Ef.put d y).accS i acc) ((Ef.put d y).accH i ah) (fun a b r => k a b (⟨.put d y, rd.map (look · acc), hk.map (lookH · ah)⟩ :: r))) : DSE P E KS all (o :: os) ((rd, hk) :: ps) i acc ah k := ⟨hin, .put d y, trivial, h1, h2⟩
end
/-- The same, each one once. -/
def ins1 (x : Nat) (l : List Nat) : List Nat := bif l.contains x then l else x :: l
def preD : List Oper → List (List Nat) → List (List Nat)
  | [], acc => acc
  | o :: r, acc => preD r (acc ++ [(edgesOf o).foldl (fun l j => ins1 j ((acc.getD j []).foldl (fun l x => ins1 x l) l)) []])
theorem mem_ins1 {x y : Nat} {l : List Nat} : y ∈ ins1 x l ↔ y = x ∨ y ∈ l := by
  unfold ins1
  cases h : l.contains x with
  | true =>
    have : x ∈ l := by simpa using h
    rw [cond_true]
    exact ⟨.inr, fun h => h.elim (fun e => e ▸ this) id⟩
  | false => rw [cond_false, List.mem_cons]
theorem mem_foldI {y : Nat} : ∀ (xs l : List Nat), y ∈ xs.foldl (fun l x => ins1 x l) l ↔ y ∈ xs ∨ y ∈ l
  | [], l => by simp
  | x :: xs, l => by rw [List.foldl_cons, mem_foldI xs, mem_ins1, List.mem_cons]; grind
theorem preD_mem : ∀ (ops : List Oper) (a b : List (List Nat)), a.length = b.length → (∀ j x, x ∈ a.getD j [] ↔ x ∈ b.getD j []) → ∀ j x, x ∈ (preD ops a).getD j [] ↔ x ∈ (preAll ops b).getD j []
  | [], a, b, _, h => h
  | o :: r, a, b, hl, h => by
    rw [preD, preAll]
    have hx : ∀ x, x ∈ (edgesOf o).foldl (fun l j => ins1 j ((a.getD j []).foldl (fun l x => ins1 x l) l)) [] ↔ x ∈ (edgesOf o).flatMap fun j => j :: b.getD j [] := by
      intro x
      have key : ∀ (es l : List Nat), x ∈ es.foldl (fun l j => ins1 j ((a.getD j []).foldl (fun l x => ins1 x l) l)) l ↔ (x ∈ es.flatMap fun j => j :: b.getD j []) ∨ x ∈ l := by
        intro es
        induction es with
        | nil => intro l; simp
        | cons e es ih =>
          intro l
          rw [List.foldl_cons, ih, mem_ins1, mem_foldI, h e x, List.flatMap_cons, List.mem_append, List.mem_cons]
          grind
      rw [key]; simp
    refine preD_mem r _ _ (by simp [hl]) ?_
    intro j x
    rcases Nat.lt_trichotomy j a.length with h1 | h1 | h1
    · rw [List.getD_eq_getElem?_getD, List.getElem?_append_left h1, List.getD_eq_getElem?_getD, List.getElem?_append_left (hl ▸ h1), ← List.getD_eq_getElem?_getD, ← List.getD_eq_getElem?_getD]
      exact h j x
    · subst h1
      rw [List.getD_eq_getElem?_getD, List.getElem?_append_right (Nat.le_refl _), List.getD_eq_getElem?_getD, hl, List.getElem?_append_right (Nat.le_refl _)]
      simpa using hx x
    · rw [List.getD_eq_getElem?_getD, List.getElem?_eq_none (by simp; omega), List.getD_eq_getElem?_getD, List.getElem?_eq_none (by simp; omega)]
theorem ahead_D (l : List Oper) (i j : Nat) : ahead (preD l []) i j = ahead (preAll l []) i j := by
  unfold ahead
  rw [Bool.eq_iff_iff, List.contains_iff_mem, List.contains_iff_mem]
  exact preD_mem l [] [] rfl (fun _ _ => Iff.rfl) j i
theorem drawOK_D {l : List Oper} {T : List OI} {FS : List (Nat × Option Nat × List Nat)} {FH : List (Nat × Option Nat)} (h : drawOK (preD l []) T FS FH = true) : drawOK (preAll l []) T FS FH = true := by
  unfold drawOK harmless at *
  simp only [ahead_D] at h
  exact h
theorem DSE.mono {P : Program} {E : Ent} {KS : List (Nat × Nat)} {all : Array Oper} : ∀ {os : List Oper} {ps : List (List Nat × List Nat)} {i : Nat} {acc : List SF} {ah : List HF} {k k' : List SF → List HF → List Rec → Prop}, (∀ a b r, k a b r → k' a b r) → DSE P E KS all os ps i acc ah k → DSE P E KS all os ps i acc ah k'
  | [], [], _, _, _, _, _, hk, h => hk _ _ _ h
  | o :: os, (rd, hkk) :: ps, i, acc, ah, k, k', hk, ⟨h0, ef, h1, h2, h3⟩ => ⟨h0, ef, h1, h2, DSE.mono (fun a b r h => hk a b _ h) h3⟩
  | [], _ :: _, _, _, _, _, _, _, h => h
  | _ :: _, [], _, _, _, _, _, _, h => h
section
variable {P : Program} {E : Ent} {Q : Exit → LState → Prop}
theorem LWP.drawF {id : Nat} {l : List Oper} {s : LState} (KS : List (Nat × Nat)) (U : List Nat) (plan : List (List Nat × List Nat)) (out outH : List Nat) (hm : P.follows .mixedOrders = true)
    (hedge : (l.zipIdx.all fun (o, i) => (edgesOf o).all fun j => decide (j < i)) = true) (hgood : KS.all (fun p => lone p.1 (hdel p.2 s.h)) = true) (hnd : outH.Nodup)
    (h : DSE P E KS l.toArray l plan 0 (base s U) (heapF s.h) (fun acc ah recs => (out.all (hasT · acc) && outH.all (hasH · ah)) = true ∧ drawOK (preD l []) (recs.map Rec.info) ((out.map (look · acc)).map fun f => (f.t, f.est, f.rf)) ((outH.map (lookH · ah)).map fun f => (f.k, f.est)) = true ∧ Q .normal ⟨out.map fun t => (t, (look t acc).v), outH.map fun k => (k, (lookH k ah).obj)⟩)) :
    LWP P E (.region id l.toArray true) Q s := LWP.drawE KS U plan out outH hm hedge hgood hnd (DSE.mono (fun a b r ⟨h1, h2, h3⟩ => ⟨h1, drawOK_D h2, h3⟩) h)
end
end Go.Lift

/- The lifted logic, part 41: variables in memory whose fields hold lists of one's own. Own work. -/
namespace Go.Lift
open Go.RowKit
def ovr (cs : List LV) (os : List (Nat × LV)) : List LV := os.foldl (fun cs p => cs.set p.1 p.2) cs
/-- A variable with the cells of y, but for those that are told apart. -/
def xob {α : Type} (sz : Nat) (f : α → LV) (y : α) (os : List (Nat × LV)) : LObj := { kind := .box, sz := sz, elems := [.agg (ovr (f y).cells os)] }

section
variable {P : Program} {E : Ent} {Q : Exit → LState → Prop} {s : LState} {all : Array Oper} {rest : List Oper} {d : Nat} {ty : TypeId} {pos : String} {af : Array Edge}
/-- No name twice. -/
theorem LWo.nd {ops : List Oper} (h : (hkeys s.h).Nodup → LWo P E all ops Q s) : LWo P E all ops Q s := fun a w hi => by
  have hk : (hkeys s.h).Nodup := by obtain ⟨ok, ρ, F, h⟩ := hi; exact h.heap.keys
  exact h hk a w hi
/-- `<<’ that stays small. -/
def shlI (m n : Int) : Option Int := if 0 ≤ n ∧ n < 63 then ckI (m * 2 ^ n.toNat) else none
end
end Go.Lift

/- The lifted logic, part 42: a list of one's own lent at any place, and a tuple that comes back. Own work. -/
namespace Go.Lift
open Go.RowKit
section
variable {P : Program} {E : Ent} {Q : Exit → LState → Prop} {s : LState} {all : Array Oper} {rest : List Oper} {d : Nat} {ty : TypeId} {pos : String} {af : Array Edge}
end
end Go.Lift

/- The lifted logic, part 43: arguments of any type, as values that are read. Own work. -/
namespace Go.Lift
open Go.RowKit Go.ChangeShapes Go.WideShapes

def okB (W : World) : Nat → Prop := fun k => k < W.heap.size
/-- The cells of a type read as values of a Lean type. -/
structure Opn (P : Program) (T : TypeId) (n : Nat) {α : Type} (e : α → LV) (B : α → Prop) : Prop where
  size : P.cellsOf T = n
  len : ∀ x, (e x).cells.length = n
  read : ∀ {H : Type} (enc : TypeId × Value → H) (W : World) (fuel : Nat) (cs : List Value) (x : DataW H × List MemPlace), DataW.trod enc P W 0 (fun _ => true) true fuel T cs = some x → ∃ a, B a ∧ FroL W (okB W) (e a).cells cs

def B_int (n : Int) : Prop := -9223372036854775808 ≤ n ∧ n ≤ 9223372036854775807
def B_bool (b : Bool) : Prop := True
def B_string (b : ByteArray) : Prop := b.size ≤ maxLen
def B_list {α : Type} (B : α → Prop) (l : List α) : Prop := l.length ≤ maxLen ∧ ∀ x ∈ l, B x

theorem opn_int {P : Program} {T : TypeId} (h : P.underlying T = some (.int .i64)) (hc : P.cellsOf T = 1) : Opn P T 1 e_int B_int where
  size := hc
  len := fun _ => rfl
  read := fun enc W fuel cs x ht => by
    obtain ⟨n, rfl, _, hw⟩ := DataW.trod_int h ht
    exact ⟨n, bounds_i64 hw, .cons (.imm _) rfl .nil⟩
theorem opn_slice {P : Program} {T E : TypeId} {n : Nat} {α : Type} {e : α → LV} {B : α → Prop} (h : P.underlying T = some (.slice E)) (hc : P.cellsOf T = 1) (hn : 0 < n) (hE : Opn P E n e B) : Opn P T 1 (fun l : List α => .sl n (l.map e)) (B_list B) where
  size := hc
  len := fun _ => rfl
  read := fun enc W fuel cs x ht => by
    rcases DataW.trod_slice h ht with ⟨rfl, _⟩ | ⟨a, len, cap, elems, rest, m, _, rfl, _, _, hl, hm, hlen, hel, _, _⟩
    · exact ⟨[], ⟨Nat.zero_le _, by simp⟩, .cons (.sl0 (Nat.zero_le _)) rfl .nil⟩
    · rcases Nat.eq_zero_or_pos len with rfl | hpos
      · exact ⟨[], ⟨Nat.zero_le _, by simp⟩, .cons (.sl0 hm) rfl .nil⟩
      · have hget : ∀ k, k < len → ∃ cs' y, W.cells? 0 (a.add (k * n)) n = some cs' ∧ DataW.trod enc P W 0 (fun _ => true) true m E cs' = some y := fun k hk => by
          have he := hel k hk
          have hy : elems[k]? = some (elems[k]'(by omega)) := List.getElem?_eq_getElem _
          rw [hy, Option.bind_eq_some_iff, hE.size] at he
          obtain ⟨cs', h1, h2⟩ := he
          exact ⟨cs', _, h1, h2⟩
        obtain ⟨blk, off, spot⟩ := a
        have hspot : spot = none ∧ blk < W.heap.size := by
          obtain ⟨cs', y, h1, h2⟩ := hget 0 hpos
          obtain ⟨_, hcl, hcell⟩ := World.cells?_some h1
          obtain ⟨c0, hc0⟩ : ∃ c0, cs'[0]? = some c0 := by
            cases cs' with
            | nil => simp at hcl; omega
            | cons c _ => exact ⟨c, rfl⟩
          have g0 := hcell 0 hn
          rw [hc0] at g0
          have hs : spot = none := by simpa [Addr.add] using World.cell?_spot g0
          subst hs
          refine ⟨rfl, ?_⟩
          rcases Nat.lt_or_ge blk W.heap.size with h | h
          · exact h
          · simp [World.cell?, Array.getElem?_eq_none h, Addr.add] at g0
        obtain ⟨rfl, hblk⟩ := hspot
        have key : ∀ k, k ≤ len → ∃ l : List α, l.length = k ∧ (∀ x ∈ l, B x) ∧ ∃ vs, FroL W (okB W) ((l.map e).flatMap LV.cells) vs ∧ Cells W ⟨blk, off, none⟩ vs ∧ vs.length = k * n := by
          intro k
          induction k with
          | zero => intro _; exact ⟨[], rfl, by simp, [], .nil, by intro k v h; simp at h, by simp⟩
          | succ k ih =>
            intro hk
            obtain ⟨l, h1, h2, vs, h3, h4, h5⟩ := ih (by omega)
            obtain ⟨cs', y, hcs, hy⟩ := hget k (by omega)
            obtain ⟨x, hx, hf⟩ := hE.read enc W m cs' y hy
            obtain ⟨_, hcl, hcell⟩ := World.cells?_some hcs
            refine ⟨l ++ [x], by simp [h1], ?_, vs ++ cs', ?_, ?_, by rw [List.length_append, h5, hcl, Nat.succ_mul]⟩
            · intro z hz
              rcases List.mem_append.1 hz with hz | hz
              · exact h2 z hz
              · rw [List.mem_singleton.1 hz]; exact hx
            · rw [List.map_append, List.flatMap_append]
              refine h3.append ?_
              simpa using hf
            · intro j v hj
              rcases Nat.lt_or_ge j vs.length with hlt | hge
              · exact h4 j v (by rwa [List.getElem?_append_left hlt] at hj)
              · rw [List.getElem?_append_right hge] at hj
                have := hcell (j - vs.length) (by have := (List.getElem?_eq_some_iff.1 hj).1; omega)
                rw [hj] at this
                have e1 : ((⟨blk, off, none⟩ : Addr).add (k * n)).add (j - vs.length) = (⟨blk, off, none⟩ : Addr).add j := by
                  have e2 : off + k * n + (j - vs.length) = off + j := by omega
                  rw [add_plain, add_plain, add_plain, e2]
                rw [e1] at this
                exact this
        obtain ⟨l, h1, h2, vs, h3, h4, h5⟩ := key len (Nat.le_refl _)
        refine ⟨l, ⟨by omega, h2⟩, ?_⟩
        have := Fro.sl (w := W) (ok := okB W) (sz := n) (c := cap) (xs := l.map e) (ad := ⟨blk, off, none⟩) (by intro e0; have := congrArg List.length e0; rw [List.length_map, h1, List.length_nil] at this; omega) (by intro y hy; obtain ⟨b, _, rfl⟩ := List.mem_map.1 hy; exact hE.len b) h3 h4 hblk (by simp; omega) hm
        rw [List.length_map, h1] at this
        exact .cons this rfl .nil

structure OpnF (P : Program) (fs : List Field) (off tot : Nat) {α : Type} (e : α → List LV) (B : α → Prop) : Prop where
  len : ∀ x, off + (e x).length = tot
  read : ∀ {H : Type} (enc : TypeId × Value → H) (W : World) (fuel : Nat) (cs : List Value), cs.length = tot → (∀ (i : Nat) (f : Field), fs[i]? = some f → ∃ y, DataW.trod enc P W 0 (fun _ => true) true fuel f.type ((cs.drop f.offset).take (P.cellsOf f.type)) = some y) → ∃ a, B a ∧ FroL W (okB W) (e a) (cs.drop off)
theorem opnF_nil {P : Program} {tot : Nat} : OpnF P [] tot tot (fun _ : Unit => []) (fun _ => True) where
  len := fun _ => rfl
  read := fun enc W fuel cs hl _ => ⟨(), trivial, by rw [List.drop_of_length_le (by omega)]; exact .nil⟩
theorem opnF_cons {P : Program} {f : Field} {fs : List Field} {off n tot : Nat} {α β : Type} {e : α → LV} {B : α → Prop} {e' : β → List LV} {B' : β → Prop} (hE : Opn P f.type n e B) (ho : f.offset = off) (hr : OpnF P fs (off + n) tot e' B') :
    OpnF P (f :: fs) off tot (fun p : α × β => (e p.1).cells ++ e' p.2) (fun p => B p.1 ∧ B' p.2) where
  len := fun x => by have := hr.len x.2; have := hE.len x.1; simp; omega
  read := fun enc W fuel cs hl hf => by
    obtain ⟨y, hy⟩ := hf 0 f rfl
    rw [hE.size, ho] at hy
    obtain ⟨a, ha, h1⟩ := hE.read enc W fuel _ y hy
    obtain ⟨b, hb, h2⟩ := hr.read enc W fuel cs hl (fun i g hg => hf (i + 1) g (by simpa using hg))
    refine ⟨(a, b), ⟨ha, hb⟩, ?_⟩
    have e1 : cs.drop off = (cs.drop off).take n ++ cs.drop (off + n) := by
      rw [← List.drop_drop]; exact (List.take_append_drop n _).symm
    rw [e1]
    exact h1.append h2
theorem opn_struct {P : Program} {T : TypeId} {fs : Array Field} {tot : Nat} {α σ : Type} {e : α → List LV} {B : α → Prop} {eS : σ → LV} {BS : σ → Prop} (g : α → σ) (h : P.underlying T = some (.struct fs)) (hc : P.cellsOf T = tot) (hF : OpnF P fs.toList 0 tot e B)
    (hg : ∀ a, eS (g a) = .agg (e a)) (hl : ∀ s, (eS s).cells.length = tot) (hB : ∀ a, B a → BS (g a)) : Opn P T tot eS BS where
  size := hc
  len := hl
  read := fun enc W fuel cs x ht => by
    obtain ⟨xs, n, _, _, hcl, hxl, hf⟩ := DataW.trod_struct h ht
    obtain ⟨a, ha, hr⟩ := hF.read enc W n cs (hcl.trans hc) (fun i f hi => by
      have hi' : fs[i]? = some f := by rw [← Array.getElem?_toList]; exact hi
      have := hf i f hi'
      have hlt : i < xs.length := by
        have := (List.getElem?_eq_some_iff.1 hi).1
        simp at this; omega
      rw [this, List.getElem?_eq_getElem hlt]
      exact ⟨_, rfl⟩)
    rw [List.drop_zero] at hr
    exact ⟨g a, hB a ha, by rw [hg a]; exact hr⟩

/-- An argument of one cell. -/
theorem Opn.one {P : Program} {T : TypeId} {α : Type} {e : α → LV} {B : α → Prop} (h : Opn P T 1 e B) (he : ∀ a, (e a).cells = [e a]) {H : Type} {enc : TypeId × Value → H} {W : World} {v : Value} {d : DataW H} {p : List MemPlace} (hd : DataW.Trod enc P W 0 (fun _ => true) true T v d p) (hv : v.cells.toList = [v]) : ∃ a, B a ∧ Fro W (okB W) (e a) v := by
  obtain ⟨fuel, hf⟩ := hd
  rw [hv] at hf
  obtain ⟨a, ha, h1⟩ := h.read enc W fuel _ _ hf
  rw [he a] at h1
  cases h1 with
  | cons h2 _ _ => exact ⟨a, ha, h2⟩
/-- An argument that is a struct. -/
theorem Opn.agg {P : Program} {T : TypeId} {n : Nat} {α : Type} {e : α → LV} {B : α → Prop} (h : Opn P T n e B) (he : ∀ a, e a = .agg (e a).cells) {H : Type} {enc : TypeId × Value → H} {W : World} {cs : Array Value} {d : DataW H} {p : List MemPlace} (hd : DataW.Trod enc P W 0 (fun _ => true) true T (.agg cs) d p) : ∃ a, B a ∧ Fro W (okB W) (e a) (.agg cs) := by
  obtain ⟨fuel, hf⟩ := hd
  have e1 : (Value.agg cs).cells.toList = cs.toList := rfl
  rw [e1] at hf
  obtain ⟨a, ha, h1⟩ := h.read enc W fuel _ _ hf
  refine ⟨a, ha, ?_⟩
  rw [he a]
  have := Fro.agg h1
  simpa using this
theorem okW_agg {P : Program} {T : TypeId} {fs : Array Field} (h : P.underlying T = some (.struct fs)) {W : World} {r : Reach} {b : Nat} {v : Value} (hv : Value.okWide P W r b T v) : ∃ cs, v = .agg cs := by
  unfold Value.okWide at hv
  rw [h] at hv
  obtain ⟨cs, rfl, _⟩ := hv
  exact ⟨cs, rfl⟩
/-- A law over any arguments. -/
theorem law_any {P : Program} {f : FuncId} {xs : List LV} (h : Ret P f xs (e_bool true)) (W : World) (vs : List Value) (hv : RepT W (okB W) (fun _ => none) xs vs) :
    Calls P f vs.toArray W fun e w' => e = .returned (.bool true) ∧ Below W.heap.size W w' := by
  have hc := h.2 W vs (okB W) (fun _ => none) (fun _ => []) hv ⟨by simp [hkeys], by simp, by simp [fpsOf], by simp [fpsOf]⟩ (fun _ h => h)
  refine Calls.mono hc ?_
  rintro e w' ⟨v, r, hl', ok', F', fr, rfl, ⟨rfl, rfl⟩, hext, hres, _⟩
  refine ⟨?_, ⟨hext.os, hext.tape, hext.output, hext.size, fun k hk => hext.block k hk (by simp [fpsOf, rwOf])⟩⟩
  cases hres with
  | fro h => cases h; rfl
end Go.Lift

/- The lifted logic, part 45: calls that read lists of one's own and hand back a list of flat elements. Own work. -/
namespace Go.Lift
open Go.RowKit
theorem immL_append : ∀ {a b : List LV}, LV.noFro.immL a = true → LV.noFro.immL b = true → LV.noFro.immL (a ++ b) = true
  | [], _, _, h => h
  | x :: a, b, h, k => by
    cases x <;> simp [LV.noFro.immL] at h
    exact immL_append (a := a) h k
theorem immL_map {α : Type} {e : α → LV} (h : ∀ x, LV.noFro.immL (e x).cells = true) : ∀ l : List α, LV.noFro.immL ((l.map e).flatMap LV.cells) = true
  | [] => rfl
  | x :: l => by rw [List.map_cons, List.flatMap_cons]; exact immL_append (h x) (immL_map h l)
section
variable {P : Program} {E : Ent} {Q : Exit → LState → Prop} {s : LState} {all : Array Oper} {rest : List Oper} {d : Nat} {ty : TypeId} {pos : String} {af : Array Edge}
/-- A call that reads lists of one's own, and whose result stays one's own. -/
theorem LWo.ncallV {α : Type} {f : Operand} {ops : List Operand} {ts : Array TypeId} {g : FuncId} {caps vals xs : List LV} {vw : List Nat} {sz : Nat} {e : α → LV} {l : List α} (k : Nat) (hf : s.eval f = .clo g caps) (hv : ops.map s.eval ++ caps = vals)
    (hfn : Ret P g xs (.nw sz (l.map e) false)) (hA : ArgsOK s [] vals xs vw) (he : ∀ x, LV.noFro.immL (e x).cells = true) (hl : Lift.lone k (hdel k s.h) = true) (hkp : E.keep.contains k = false := by exact rfl) (hd : Nat.blt d E.n = true := by exact rfl)
    (hn : LWo P E all rest Q { tm := (d, .own k 0 l.length) :: kill k s.tm, h := (k, lob sz e l) :: hdel k s.h }) :
    LWo P E all ({ dst := some d, op := .call { callee := .value f, args := ops.toArray, argTypes := ts }, type := ty, pos := pos, after := af, guard := none } :: rest) Q s :=
  LWo.ocall (R := fun ys => ys = l.map e) k hf hv (hfn.mono fun r h ⟨h1, h2⟩ => ⟨⟨_, h1, rfl⟩, h2⟩) hA (.inr (by
    rintro ys rfl
    show (false || LV.noFro.immL ((l.map e).flatMap LV.cells)) = true
    rw [immL_map he]; rfl)) hkp hl hd (by
    rintro ys rfl
    rw [List.length_map]
    exact hn)
end
end Go.Lift

/- Plain lemmas on mirrors: loops over lists, total functions. Own work. -/
namespace Go.Lift

/-! ### loops over a list -/
def foldC {α S R : Type} (step : α → S → (S → Option R) → Option R) (J : S → Option R) : List α → S → Option R
  | [], s => J s
  | x :: xs, s => step x s (foldC step J xs)
theorem at_of {α : Type} {l : List α} {k : Nat} {x : α} (h : l[k]? = some x) : at? l (k : Int) = some x := by
  unfold at?; rw [if_pos (by omega)]; simpa using h
theorem lt_of_at {α : Type} {l : List α} {k : Nat} {x : α} (h : l[k]? = some x) : k < l.length := (List.getElem?_eq_some_iff.1 h).1
theorem scanC {α S R : Type} (xs : List α) (L : Nat → Int → S → Option R) (step : α → S → (S → Option R) → Option R) (J : S → Option R)
    (hs : ∀ n (k : Nat) x s, xs[k]? = some x → L (n + 1) (k : Int) s = step x s (fun s' => L n ((k : Int) + 1) s')) (he : ∀ n s, L (n + 1) (xs.length : Int) s = J s)
    (n : Nat) (hn : xs.length < n) (s : S) : L n 0 s = foldC step J xs s := by
  have key : ∀ (ys : List α) (k : Nat) (n : Nat) (s : S), xs.drop k = ys → k ≤ xs.length → ys.length < n → L n (k : Int) s = foldC step J ys s := by
    intro ys
    induction ys with
    | nil =>
      intro k n s hd hk hn
      have : k = xs.length := by
        have := congrArg List.length hd
        simp at this; omega
      subst this
      obtain ⟨m, rfl⟩ : ∃ m, n = m + 1 := ⟨n - 1, by simp at hn; omega⟩
      exact he m s
    | cons y ys ih =>
      intro k n s hd hk hn
      have hlt : k < xs.length := by
        have := congrArg List.length hd
        simp at this; omega
      have hy : xs[k]? = some y := by
        have := List.drop_eq_getElem_cons hlt
        rw [hd] at this
        simp only [List.cons.injEq] at this
        rw [List.getElem?_eq_getElem hlt, this.1]
      have hd' : xs.drop (k + 1) = ys := by
        have := List.drop_eq_getElem_cons hlt
        rw [hd] at this
        simp only [List.cons.injEq] at this
        exact this.2.symm
      obtain ⟨m, rfl⟩ : ∃ m, n = m + 1 := ⟨n - 1, by simp at hn; omega⟩
      rw [hs m k y s hy]
      simp only [foldC]
      congr 1
      funext s'
      have := ih (k + 1) m s' hd' (by omega) (by simp at hn; omega)
      simpa using this
  have := key xs 0 n s rfl (by omega) hn
  simpa using this
theorem foldC_all {α R : Type} {p : α → Bool} {r0 r1 : R} : ∀ {l : List α}, foldC (S := Unit) (fun x s k => bif p x then some r0 else k s) (fun _ => some r1) l () = some (bif l.any p then r0 else r1)
  | [] => rfl
  | x :: l => by
    simp only [foldC, List.any_cons]
    cases hp : p x
    · simpa using foldC_all (l := l)
    · simp
/-- A loop that stops at the first element of a kind. -/
theorem scanA {α R : Type} {p : α → Bool} {r0 r1 : R} (xs : List α) (L : Nat → Int → Option R)
    (hs : ∀ n (k : Nat) x, xs[k]? = some x → L (n + 1) (k : Int) = bif p x then some r0 else L n ((k : Int) + 1)) (he : ∀ n, L (n + 1) (xs.length : Int) = some r1)
    (n : Nat) (hn : xs.length < n) : L n 0 = some (bif xs.any p then r0 else r1) := by
  have := scanC xs (fun n k (_ : Unit) => L n k) (fun x s k => bif p x then some r0 else k s) (fun _ => some r1) (fun n k x s hx => hs n k x hx) (fun n s => he n) n hn ()
  rw [this]; exact foldC_all
def all2 {α β : Type} (q : α → β → Bool) (a : List α) (b : List β) : Bool := (a.zip b).all fun p => q p.1 p.2
theorem scan2 {α β : Type} {q : α → β → Bool} (a : List α) (b : List β) (hl : a.length = b.length) (L : Nat → Int → Option Bool)
    (hs : ∀ n (k : Nat) x y, a[k]? = some x → b[k]? = some y → L (n + 1) (k : Int) = bif q x y then L n ((k : Int) + 1) else some false) (he : ∀ n, L (n + 1) (a.length : Int) = some true)
    (n : Nat) (hn : a.length < n) : L n 0 = some (all2 q a b) := by
  have hz : (a.zip b).length = a.length := by simp [hl]
  have := scanA (p := fun p : α × β => !(q p.1 p.2)) (r0 := false) (r1 := true) (a.zip b) L (by
    intro n k x hx
    rw [List.getElem?_zip_eq_some] at hx
    rw [hs n k x.1 x.2 hx.1 hx.2]
    cases q x.1 x.2 <;> rfl) (by intro n; rw [hz]; exact he n) n (by rw [hz]; exact hn)
  rw [this]
  unfold all2
  congr 1
  rw [List.all_eq_not_any_not]
  cases (a.zip b).any fun p => !(q p.1 p.2) <;> rfl
theorem all2_eq {α : Type} [DecidableEq α] : ∀ {a b : List α}, a.length = b.length → all2 (fun x y => decide (x = y)) a b = decide (a = b)
  | [], [], _ => rfl
  | x :: a, y :: b, h => by
    have ih := all2_eq (a := a) (b := b) (by simpa using h)
    unfold all2 at ih ⊢
    simp only [List.zip_cons_cons, List.all_cons, ih, List.cons.injEq]
    rw [Bool.eq_iff_iff]; simp
/-- A loop that folds, with what holds of its state. -/
theorem scanF {α S R : Type} {f : S → α → S} {J : S → Option R} (I : Nat → S → Prop) (xs : List α) (L : Nat → Int → S → Option R)
    (hs : ∀ n (k : Nat) x s, xs[k]? = some x → I k s → L (n + 1) (k : Int) s = L n ((k : Int) + 1) (f s x) ∧ I (k + 1) (f s x)) (he : ∀ n s, I xs.length s → L (n + 1) (xs.length : Int) s = J s)
    (n : Nat) (hn : xs.length < n) (s : S) (h0 : I 0 s) : L n 0 s = J (xs.foldl f s) ∧ I xs.length (xs.foldl f s) := by
  have key : ∀ (ys : List α) (k n : Nat) (s : S), xs.drop k = ys → k ≤ xs.length → ys.length < n → I k s → L n (k : Int) s = J (ys.foldl f s) ∧ I xs.length (ys.foldl f s) := by
    intro ys
    induction ys with
    | nil =>
      intro k n s hd hk hn hI
      have : k = xs.length := by
        have := congrArg List.length hd
        simp at this; omega
      subst this
      obtain ⟨m, rfl⟩ : ∃ m, n = m + 1 := ⟨n - 1, by simp at hn; omega⟩
      exact ⟨he m s hI, hI⟩
    | cons y ys ih =>
      intro k n s hd hk hn hI
      have hlt : k < xs.length := by
        have := congrArg List.length hd
        simp at this; omega
      have hc := List.drop_eq_getElem_cons hlt
      rw [hd] at hc
      simp only [List.cons.injEq] at hc
      obtain ⟨m, rfl⟩ : ∃ m, n = m + 1 := ⟨n - 1, by simp at hn; omega⟩
      obtain ⟨h1, h2⟩ := hs m k y s (by rw [List.getElem?_eq_getElem hlt, hc.1]) hI
      rw [h1, show ((k : Int) + 1) = ((k + 1 : Nat) : Int) by omega]
      exact ih (k + 1) m (f s y) hc.2.symm (by omega) (by simp at hn; omega) h2
  have := key xs 0 n s rfl (by omega) hn h0
  simpa using this
theorem dlt {k : Nat} {n : Nat} (h : k < n) : decide ((k : Int) < (n : Int)) = true := by simp; omega
theorem dnlt {n : Nat} : decide ((n : Int) < (n : Int)) = false := by simp
theorem ck1 {k : Nat} (h : k < 1000000000000) : ckI ((k : Int) + 1) = some ((k : Int) + 1) := ckI_of (by omega) (by omega)
theorem fuel0 {n : Nat} : n < (((n : Int) - 0).toNat + 1) := by omega

/-! ### total functions -/
/-- The function comes to a value, of which P holds. -/
def Tot {α : Type} (o : Option α) (Q : α → Prop) : Prop := ∃ x, o = some x ∧ Q x
theorem Tot.ret {α : Type} {x : α} {Q : α → Prop} (h : Q x) : Tot (some x) Q := ⟨x, rfl, h⟩
theorem Tot.bind {α β : Type} {o : Option α} {f : α → Option β} {P : α → Prop} {Q : β → Prop} (h : Tot o P) (k : ∀ x, P x → Tot (f x) Q) : Tot (o.bind f) Q := by
  obtain ⟨x, rfl, hx⟩ := h; exact k x hx
theorem Tot.eq {α β : Type} {o : Option α} {x : α} {f : α → Option β} {Q : β → Prop} (h : o = some x) (k : Tot (f x) Q) : Tot (o.bind f) Q := by subst h; exact k
theorem Tot.bif {α : Type} {b : Bool} {x y : Option α} {Q : α → Prop} (h1 : b = true → Tot x Q) (h0 : b = false → Tot y Q) : Tot (bif b then x else y) Q := by cases b; exact h0 rfl; exact h1 rfl
theorem Tot.lt {α β : Type} {x : α} {f : α → Option β} {Q : β → Prop} (h : Tot (f x) Q) : Tot (lt x f) Q := h
theorem Tot.mono {α : Type} {o : Option α} {P Q : α → Prop} (h : Tot o P) (k : ∀ x, P x → Q x) : Tot o Q := by obtain ⟨x, h1, h2⟩ := h; exact ⟨x, h1, k x h2⟩
theorem Tot.of {α : Type} {o : Option α} {x : α} {Q : α → Prop} (h : o = some x) (hq : Q x) : Tot o Q := ⟨x, h, hq⟩
theorem Tot.app {α β : Type} {l r : List α} {f : List α → Option β} {Q : β → Prop} (h : l.length + r.length ≤ 1000000000000) (k : Tot (f (l ++ r)) Q) : Tot ((app? l r).bind f) Q := Tot.eq (app_of h) k
theorem Tot.at {α β : Type} {l : List α} {i : Int} {f : α → Option β} {Q : β → Prop} (h0 : 0 ≤ i) (h1 : i < l.length) (k : ∀ x ∈ l, Tot (f x) Q) : Tot ((at? l i).bind f) Q :=
  Tot.eq (at_someI h0 (by omega)) (k _ (List.getElem_mem _))
theorem Tot.cut {α β : Type} {l : List α} {lo hi : Int} {f : List α → Option β} {Q : β → Prop} (h : 0 ≤ lo ∧ lo ≤ hi ∧ hi ≤ l.length) (k : Tot (f ((l.take hi.toNat).drop lo.toNat)) Q) : Tot ((cut? l lo hi).bind f) Q :=
  Tot.eq (by unfold cut?; rw [if_pos h]) k
theorem Tot.rem {β : Type} {m n : Int} {f : Int → Option β} {Q : β → Prop} (h : n ≠ 0) (k : Tot (f (m.tmod n)) Q) : Tot ((remI m n).bind f) Q := Tot.eq (by unfold remI; rw [if_neg h]) k
theorem Tot.quo {β : Type} {m n : Int} {f : Int → Option β} {Q : β → Prop} (h : n ≠ 0) (h0 : -9223372036854775808 ≤ m.tdiv n) (h1 : m.tdiv n ≤ 9223372036854775807) (k : Tot (f (m.tdiv n)) Q) : Tot ((quoI m n).bind f) Q := Tot.eq (by unfold quoI; rw [if_neg h, ckI_of h0 h1]) k
/-- A loop that goes up to a number. -/
theorem Tot.up {R : Type} {Q : R → Prop} {S : Type} (m : Int) (L : Nat → Int → S → Option R) (I : Int → S → Prop)
    (h0 : ∀ n s, I m s → Tot (L (n + 1) m s) Q) (h : ∀ n t s, 0 ≤ t → t < m → I t s → (∀ s', I (t + 1) s' → Tot (L n (t + 1) s') Q) → Tot (L (n + 1) t s) Q) : ∀ (n : Nat) (t : Int) s, 0 ≤ t → t ≤ m → m - t < n → I t s → Tot (L n t s) Q := by
  intro n
  induction n with
  | zero => intro t s h1 h2; omega
  | succ n ih =>
    intro t s h1 h2 h3 hI
    rcases Int.lt_or_le t m with hp | hp
    · exact h n t s h1 hp hI fun s' hs' => ih (t + 1) s' (by omega) (by omega) (by omega) hs'
    · have : t = m := by omega
      subst this
      exact h0 n s hI
end Go.Lift

/- Plain Lean: putting in order by insertion, from the end; what holds of it. Own work. -/
namespace Go.Lift
/-- An element put in behind the last one that is not beyond it. -/
def insE {α : Type} (gt : α → α → Bool) (out : List α) (r : α) : List α :=
  (out.reverse.dropWhile (gt · r)).reverse ++ r :: (out.reverse.takeWhile (gt · r)).reverse
def isort {α : Type} (gt : α → α → Bool) (l : List α) : List α := l.foldl (insE gt) []
/-- Nobody is beyond one that stands behind. -/
def OrdB {α : Type} (gt : α → α → Bool) (l : List α) : Prop := l.Pairwise fun a b => gt a b = false
/-- Neighbours that are not bad. -/
def Adj {α : Type} (bad : α → α → Bool) (l : List α) : Prop := ∀ i x y, l[i]? = some x → l[i + 1]? = some y → bad x y = false
def adjB {α : Type} (bad : α → α → Bool) : List α → Bool
  | [] => true
  | [_] => true
  | x :: y :: l => !bad x y && adjB bad (y :: l)
/-- Where the first of a kind stands; -1 if there is none. -/
def idxI {α : Type} (q : α → Bool) : List α → Int
  | [] => -1
  | x :: l => if q x then 0 else if idxI q l < 0 then -1 else idxI q l + 1
theorem ckdd {j : Nat} (h : j < 1000000000000) : ckI (((j + 1 : Nat) : Int) - 1) = some (j : Int) := by
  rw [ckI_of (by omega) (by omega)]; congr 1; omega
theorem lenQ_ok {n m : Nat} {β : Type} {x : β} (h : n = m) : lenQ n m x = some x := by unfold lenQ; rw [if_pos h]
/-- Neighbours once. -/
def goC {α : Type} (q : α → α → Bool) : α → List α → List α
  | _, [] => []
  | p, y :: l => if q y p then goC q y l else y :: goC q y l
def compactE {α : Type} (q : α → α → Bool) : List α → List α
  | [] => []
  | x :: l => x :: goC q x l
theorem compactE_take {α : Type} {q : α → α → Bool} : ∀ (l : List α) (k : Nat), k < l.length → (∀ i x y, 0 < i → i ≤ k → l[i]? = some x → l[i - 1]? = some y → q x y = false) → ∀ x, l[k]? = some x → compactE q l = l.take (k + 1) ++ goC q x (l.drop (k + 1))
  | [], k, h, _ => by simp at h
  | x :: l, k, h, hq => by
    intro z hz
    have key : ∀ (l : List α) (p : α) (k : Nat), k < l.length → (∀ i a b, i ≤ k → l[i]? = some a → (p :: l)[i]? = some b → q a b = false) → ∀ z, l[k]? = some z → goC q p l = l.take (k + 1) ++ goC q z (l.drop (k + 1)) := by
      intro l
      induction l with
      | nil => intro p k h; simp at h
      | cons y l ih =>
        intro p k h hq z hz
        have h0 := hq 0 y p (by omega) rfl rfl
        rw [goC, if_neg (by simp [h0])]
        cases k with
        | zero => simp at hz; subst hz; simp
        | succ k =>
          rw [ih y k (by simpa using h) (fun i a b hi ha hb => hq (i + 1) a b (by omega) (by simpa using ha) (by simpa using hb)) z (by simpa using hz)]
          simp
    cases k with
    | zero => simp at hz; subst hz; simp [compactE]
    | succ k =>
      rw [compactE, key l x k (by simpa using h) (fun i a b hi ha hb => hq (i + 1) a b (by omega) (by omega) (by simpa using ha) (by simpa using hb)) z (by simpa using hz)]
      simp
theorem atc_of {α : Type} {l : List α} {off n i r : Nat} {x : α} (h : off + i = r) (hi : i < n) (hx : l[r]? = some x) : atc? l off n (i : Int) = some x := by
  unfold atc?
  rw [if_pos (by omega), Int.toNat_natCast, h]; exact hx
theorem at_off {α : Type} {l : List α} {off i r : Nat} {x : α} (h : off + i = r) (hx : l[r]? = some x) : at? l ((off + ((i : Nat) : Int).toNat : Nat) : Int) = some x := by
  subst h; rw [Int.toNat_natCast]; exact at_of hx
end Go.Lift
namespace Go.Lift
theorem ltE {α β : Type} (x : α) (f : α → β) : lt x f = f x := rfl
end Go.Lift

/- Plain Lean: putting in order by blocks that are merged. Own work. -/
namespace Go.Lift
/-- Blocks of a size, each in order. -/
inductive Chk {α : Type} (gt : α → α → Bool) (bs : Nat) : List α → Prop
  | last {X : List α} : X.length ≤ bs → OrdB gt X → Chk gt bs X
  | cons {X R : List α} : X.length = bs → OrdB gt X → Chk gt bs R → Chk gt bs (X ++ R)
end Go.Lift

/- Plain Lean: loops that look at neighbours, that copy, that leave out. Own work. -/
namespace Go.Lift
def chkN {α : Type} (p : α → Bool) (bad : α → α → Bool) : α → List α → Bool
  | _, [] => true
  | y, x :: l => p x && !bad y x && chkN p bad x l
end Go.Lift

/- Sizes, conversions and comparisons of arguments: the loops. Own work. -/
namespace Go.Lift
/-- What is left of a bound. -/
def szR (left : Int) (w : Nat) : Int := if (w : Int) ≤ left then left - w else -1
theorem szR_pos {left : Int} {w : Nat} (h : (w : Int) ≤ left) : szR left w = left - w := if_pos h
theorem szR_neg {left : Int} {w : Nat} (h : ¬ (w : Int) ≤ left) : szR left w = -1 := if_neg h
theorem szR_lt {left : Int} {w : Nat} (h : (w : Int) ≤ left) : decide (szR left w < 0) = false := by rw [szR_pos h]; exact decide_eq_false (by omega)
theorem szR_lt' {left : Int} {w : Nat} (h : ¬ (w : Int) ≤ left) : decide (szR left w < 0) = true := by rw [szR_neg h]; rfl
theorem szE {left : Int} {w : Nat} (h0 : 0 ≤ left) : (bif decide (szR left w < 0) then some (-1) else some (szR left w)) = some (szR left w) := by
  by_cases e : (w : Int) ≤ left
  · rw [szR_lt e, cond_false]
  · rw [szR_lt' e, cond_true, szR_neg e]
theorem ckSz {left : Int} {w : Nat} (h0 : 0 ≤ left) (h1 : left ≤ 1048576) (hw : w ≤ maxLen) {k : Int → Option Int} (hk : ∀ x, (decide (x < 0) = decide (szR left w < 0)) → ((w : Int) ≤ left → x = szR left w) → k x = k (szR left w)) : (ckI (left - (w : Int))).bind k = k (szR left w) := by
  unfold maxLen at hw
  rw [ckI_of (by omega) (by omega), Option.bind_some]
  refine hk _ ?_ (fun e => (szR_pos e).symm)
  by_cases e : (w : Int) ≤ left
  · rw [szR_pos e]
  · rw [szR_neg e]; rw [decide_eq_decide]; omega
theorem ckSz' {left : Int} {w : Nat} (h0 : 0 ≤ left) (h1 : left ≤ 1048576) (hw : w ≤ maxLen) {g : Int → Option Int} : ((ckI (left - (w : Int))).bind fun x => bif decide (x < 0) then some (-1) else g x) = (bif decide (szR left w < 0) then some (-1) else g (szR left w)) :=
  ckSz (k := fun x => bif decide (x < 0) then some (-1) else g x) h0 h1 hw (fun x h2 h3 => by
    show (bif decide (x < 0) then some (-1) else g x) = _
    rw [h2]
    by_cases e : (w : Int) ≤ left
    · rw [h3 e]
    · rw [szR_lt' e]; rfl)
/-- A list made new, place by place. -/
theorem toLoop {α β : Type} (cv : α → β) (l : List α) (L : Nat → Int → List β → Option (List β)) (hs : ∀ (f k : Nat) (o : List β) (x : α), l[k]? = some x → k < 1000000000 → o.length = l.length → L (f + 1) k o = L f ((k + 1 : Nat) : Int) (o.set k (cv x))) (he : ∀ (f : Nat) (o : List β), L (f + 1) l.length o = some o) (hl : l.length ≤ 1000000000) : ∀ (n k f : Nat) (o : List β), k + n = l.length → n < f → o.length = l.length → L f k o = some (o.take k ++ (l.drop k).map cv) := by
  intro n
  induction n with
  | zero =>
    intro k f o hk hf ho
    obtain ⟨f, rfl⟩ : ∃ q, f = q + 1 := ⟨f - 1, by omega⟩
    obtain rfl : k = l.length := by omega
    rw [he, List.drop_length, List.map_nil, List.append_nil, List.take_of_length_le (by omega)]
  | succ n ih =>
    intro k f o hk hf ho
    obtain ⟨f, rfl⟩ : ∃ q, f = q + 1 := ⟨f - 1, by omega⟩
    have hx : l[k]? = some l[k] := List.getElem?_eq_getElem (by omega)
    have e1 : (o.set k (cv l[k])).take (k + 1) = o.take k ++ [cv l[k]] := by
      rw [List.set_eq_take_append_cons_drop, if_pos (by omega)]
      have e2 : (o.take k).length = k := by rw [List.length_take]; omega
      rw [List.take_append, e2, List.take_of_length_le (by omega), Nat.add_sub_cancel_left]
      rfl
    have e3 : l.drop k = l[k] :: l.drop (k + 1) := List.drop_eq_getElem_cons (by omega)
    rw [hs f k o _ hx (by omega) ho, ih (k + 1) f _ (by omega) (by omega) (by rw [List.length_set, ho]), e1, e3, List.map_cons, List.append_assoc]
    rfl
theorem toLoop0 {α β : Type} (cv : α → β) (l : List α) (z : β) (L : Nat → Int → List β → Option (List β)) (hs : ∀ (f k : Nat) (o : List β) (x : α), l[k]? = some x → k < 1000000000 → o.length = l.length → L (f + 1) k o = L f ((k + 1 : Nat) : Int) (o.set k (cv x))) (he : ∀ (f : Nat) (o : List β), L (f + 1) l.length o = some o) (hl : l.length ≤ 1000000000) : ((mk2? (l.length : Int) (l.length : Int) z).bind fun o => L (((l.length : Int) - (0 : Int)).toNat + 1) 0 o) = some (l.map cv) := by
  unfold mk2?
  rw [if_pos (by omega), Option.bind_some]
  have := toLoop cv l L hs he hl l.length 0 (((l.length : Int) - (0 : Int)).toNat + 1) (List.replicate (l.length : Int).toNat z) (by omega) (by omega) (by simp)
  rw [List.take_zero, List.nil_append, List.drop_zero] at this
  exact this
/-- Two lists compared, place by place. -/
theorem eqLoop {α : Type} [DecidableEq α] (a b : List α) (L : Nat → Int → Option Bool) (hs : ∀ (f k : Nat) (x y : α), a[k]? = some x → b[k]? = some y → k < 1000000000 → L (f + 1) k = (bif !(decide (x = y)) then some false else L f ((k + 1 : Nat) : Int))) (he : ∀ f : Nat, L (f + 1) a.length = some true) (hl : a.length ≤ 1000000000) :
    (bif ((a.length : Int) != (b.length : Int)) then some false else L (((a.length : Int) - (0 : Int)).toNat + 1) 0) = some (decide (a = b)) := by
  by_cases e : a.length = b.length
  · rw [show ((a.length : Int) != (b.length : Int)) = false by simp [e], cond_false, ← all2_eq e]
    refine scan2 (q := fun x y => decide (x = y)) a b e L (fun n k x y hx hy => ?_) he _ (by omega)
    rw [hs n k x y hx hy (by have := lt_of_at hx; omega)]
    cases decide (x = y) <;> rfl
  · rw [show ((a.length : Int) != (b.length : Int)) = true by simp; omega, cond_true, decide_eq_false (fun h => e (by rw [h]))]
/-- A loop over numbers that stops at the first one that is bad. -/
theorem scanK {R : Type} {p : Nat → Bool} {r0 : R} {J : Option R} (m : Nat) (L : Nat → Int → Option R) (hs : ∀ (n k : Nat), k < m → L (n + 1) (k : Int) = bif p k then some r0 else L n ((k + 1 : Nat) : Int)) (he : ∀ n : Nat, L (n + 1) (m : Int) = J) : ∀ n, m < n → L n 0 = bif (List.range m).any p then some r0 else J := by
  have key : ∀ (j k n : Nat), k + j = m → j < n → L n (k : Int) = bif (List.range' k j).any p then some r0 else J := by
    intro j
    induction j with
    | zero =>
      intro k n hk hn
      obtain ⟨n, rfl⟩ : ∃ q, n = q + 1 := ⟨n - 1, by omega⟩
      obtain rfl : k = m := by omega
      rw [he]; rfl
    | succ j ih =>
      intro k n hk hn
      obtain ⟨n, rfl⟩ : ∃ q, n = q + 1 := ⟨n - 1, by omega⟩
      rw [hs n k (by omega), ih (k + 1) n (by omega) (by omega), List.range'_succ, List.any_cons]
      cases p k <;> rfl
  intro n hn
  have := key m 0 n (by omega) hn
  rwa [← List.range_eq_range'] at this
end Go.Lift
