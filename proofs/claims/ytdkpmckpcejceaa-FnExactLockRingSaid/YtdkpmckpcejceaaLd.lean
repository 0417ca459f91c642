/- The logic, part four: texts, regions that write, laws over bytes, guards. -/
import Derived.Test.YtdkpmckpcejceaaLc
import Derived.Laws.BytesArg
import Derived.Laws.Cover3
import Derived.OpenShut
import Derived.Laws.MakeOwn
import Derived.Laws.Bits64
import Derived.ChangeArms
import Derived.DataReads
import Derived.WideShapes
import Derived.ChangeShapes
set_option linter.unusedVariables false
set_option linter.unusedSimpArgs false
set_option linter.unnecessarySimpa false
/- The lifted logic, part 31: bytes as a text; literals that are one's own. Own work. -/
namespace Go.Lift
open Go.RowKit
section
variable {P : Program} {E : Ent} {Q : Exit → LState → Prop} {s : LState} {all : Array Oper} {rest : List Oper} {d : Nat} {ty : TypeId} {pos : String} {af : Array Edge}
theorem LWo.pickTM {c x y : Operand} {b : Bool} (z : LV) (hc : s.eval c = .imm (.bool b)) (h : b = true) (hz : s.eval x = z) (hd : Nat.blt d E.n = true := by exact rfl) (hn : LWo P E all rest Q (s.put (some d) z)) :
    LWo P E all ({ dst := some d, op := .pick c x y, type := ty, pos := pos, after := af, guard := none } :: rest) Q s := LWo.pickT hc h hd (by rw [hz]; exact hn)
theorem LWo.pickFM {c x y : Operand} {b : Bool} (z : LV) (hc : s.eval c = .imm (.bool b)) (h : b = false) (hz : s.eval y = z) (hd : Nat.blt d E.n = true := by exact rfl) (hn : LWo P E all rest Q (s.put (some d) z)) :
    LWo P E all ({ dst := some d, op := .pick c x y, type := ty, pos := pos, after := af, guard := none } :: rest) Q s := LWo.pickF hc h hd (by rw [hz]; exact hn)
end
end Go.Lift
/- The lifted logic, part 32: regions of open order whose operations may write. Own work. -/
namespace Go.Lift
open Go.RowKit
def lookH (k : Nat) : List HF → HF
  | [] => ⟨k, { kind := .fro, sz := 0, elems := [] }, none⟩
  | f :: r => if f.k = k then f else lookH k r
def hasH (k : Nat) (l : List HF) : Bool := l.any (·.k == k)
def AllH (h : LHeap) : List HF → Prop
  | [] => True
  | f :: r => hget f.k h = some f.obj ∧ AllH h r
theorem AllH.of {h : LHeap} : ∀ {l : List HF}, (∀ f ∈ l, hget f.k h = some f.obj) → AllH h l
  | [], _ => trivial
  | f :: r, hh => ⟨hh f (by simp), AllH.of fun g hg => hh g (by simp [hg])⟩
theorem lookH_k (k : Nat) : ∀ l, (lookH k l).k = k
  | [] => rfl
  | f :: r => by
    simp only [lookH]
    split
    · assumption
    · exact lookH_k k r
theorem lookH_mem {k : Nat} : ∀ {l}, hasH k l = true → lookH k l ∈ l
  | f :: r, h => by
    simp only [lookH]
    split
    · simp
    · rename_i e
      simp [hasH, e] at h; exact List.mem_cons_of_mem _ (lookH_mem (l := r) (by simpa [hasH] using h))
def Ef.accS (i : Nat) (acc : List SF) : Ef → List SF
  | .put d y => ⟨d, y, some i, y.refs⟩ :: acc
  | .upd (some d) y _ _ => ⟨d, y, some i, y.refs⟩ :: acc
  | .upd none _ _ _ => acc
  | .make d y _ _ => ⟨d, y, some i, y.refs⟩ :: acc
def Ef.accH (i : Nat) (ah : List HF) : Ef → List HF
  | .put _ _ => ah
  | .upd _ _ k obj => ⟨k, obj, some i⟩ :: ah
  | .make _ _ k obj => ⟨k, obj, some i⟩ :: ah
section
variable {P : Program} {E : Ent} {Q : Exit → LState → Prop}
def DSE (P : Program) (E : Ent) (KS : List (Nat × Nat)) (all : Array Oper) : List Oper → List (List Nat × List Nat) → Nat → List SF → List HF → (List SF → List HF → List Rec → Prop) → Prop
  | o :: os, (rd, hk) :: ps, i, acc, ah, k => (rd.all (hasT · acc) && hk.all (hasH · ah)) = true ∧ ∃ ef : Ef, ef.good KS ∧ (∀ u : LState, Good KS u → AllF u.tm (rd.map (look · acc)) → AllH u.h (hk.map (lookH · ah)) → LWo P E all [o] (fun e t => e = .normal ∧ (t = ef.run u ∨ t.le (ef.run u)) ∧ Good KS t) u) ∧
      DSE P E KS all os ps (i + 1) (ef.accS i acc) (ef.accH i ah) (fun a b r => k a b (⟨ef, rd.map (look · acc), hk.map (lookH · ah)⟩ :: r))
  | [], [], _, acc, ah, k => k acc ah []
  | _, _, _, _, _, _ => False
theorem DSE.out {KS : List (Nat × Nat)} {all : Array Oper} : ∀ {os : List Oper} {ps : List (List Nat × List Nat)} {i : Nat} {acc : List SF} {ah : List HF} {k : List SF → List HF → List Rec → Prop}, DSE P E KS all os ps i acc ah k →
    ∃ (acc' : List SF) (ah' : List HF) (recs : List Rec), k acc' ah' recs ∧ recs.length = os.length ∧ (∀ (j : Nat) (o : Oper) (r : Rec), os[j]? = some o → recs[j]? = some r → r.ok P E KS all o) ∧
      (∀ f ∈ acc, f ∈ acc') ∧ (∀ f ∈ ah, f ∈ ah') ∧
      (∀ f ∈ acc', f ∈ acc ∨ ∃ j r, f.est = some (i + j) ∧ recs[j]? = some r ∧ r.ef.dst = some f.t ∧ (∀ s, get f.t (r.ef.run s).tm = f.v) ∧ f.rf = f.v.refs) ∧
      (∀ f ∈ ah', f ∈ ah ∨ ∃ j r, f.est = some (i + j) ∧ recs[j]? = some r ∧ (∀ s, hget f.k (r.ef.run s).h = some f.obj)) ∧
      (∀ r ∈ recs, (∀ f ∈ r.rs, f ∈ acc') ∧ ∀ f ∈ r.rk, f ∈ ah')
  | o :: os, (rd, hk) :: ps, i, acc, ah, k, ⟨hin, ef, hgood, h1, h2⟩ => by
    obtain ⟨acc', ah', recs, hk', hlen, hok, hsub, hsubH, hnew, hnewH, hreq⟩ := DSE.out h2; simp only [Bool.and_eq_true] at hin
    have hs1 : ∀ f ∈ acc, f ∈ ef.accS i acc := by
      intro f hf; cases ef with
      | put d y => simp [Ef.accS, hf]
      | upd d y k o => cases d <;> simp [Ef.accS, hf]
      | make d y k o => simp [Ef.accS, hf]
    have hs2 : ∀ f ∈ ah, f ∈ ef.accH i ah := by
      intro f hf; cases ef <;> simp [Ef.accH, hf]
    refine ⟨acc', ah', _, hk', by simp [hlen], ?_, fun f hf => hsub f (hs1 f hf), fun f hf => hsubH f (hs2 f hf), ?_, ?_, ?_⟩
    · intro j o' r ho hr
      cases j with
      | zero =>
        simp at ho hr; subst ho; subst hr; refine ⟨hgood, fun u hu hrs hrk => ?_⟩; exact h1 u hu (AllF.of hrs) (AllH.of hrk)
      | succ j => simp at ho hr; exact hok j o' r ho hr
    · intro f hf
      rcases hnew f hf with h | ⟨j, r, he, hr, h⟩
      · cases ef with
        | put d y =>
          rcases List.mem_cons.1 h with rfl | h
          · exact .inr ⟨0, _, by simp, rfl, rfl, fun s => by simp [Ef.run, LState.put, get], rfl⟩
          · exact .inl h
        | upd d y kk obj =>
          cases d with
          | none => exact .inl h
          | some d =>
            rcases List.mem_cons.1 h with rfl | h
            · exact .inr ⟨0, _, by simp, rfl, rfl, fun s => by simp [Ef.run, LState.put, get], rfl⟩
            · exact .inl h
        | make d y kk obj =>
          rcases List.mem_cons.1 h with rfl | h
          · exact .inr ⟨0, _, by simp, rfl, rfl, fun s => by simp [Ef.run, get], rfl⟩
          · exact .inl h
      · exact .inr ⟨j + 1, r, by rw [he]; congr 1; omega, by simpa using hr, h⟩
    · intro f hf
      rcases hnewH f hf with h | ⟨j, r, he, hr, h⟩
      · cases ef with
        | put d y => exact .inl h
        | upd d y kk obj =>
          rcases List.mem_cons.1 h with rfl | h
          · refine .inr ⟨0, _, by simp, rfl, fun s => ?_⟩
            cases d <;> simp [Ef.run, LState.put, hget]
          · exact .inl h
        | make d y kk obj =>
          rcases List.mem_cons.1 h with rfl | h
          · exact .inr ⟨0, _, by simp, rfl, fun s => by simp [Ef.run, hget]⟩
          · exact .inl h
      · exact .inr ⟨j + 1, r, by rw [he]; congr 1; omega, by simpa using hr, h⟩
    · intro r hr
      rcases List.mem_cons.1 hr with rfl | hr
      · refine ⟨fun f hf => ?_, fun f hf => ?_⟩
        · obtain ⟨t, ht, rfl⟩ := List.mem_map.1 hf
          exact hsub _ (hs1 _ (look_mem (List.all_eq_true.1 hin.1 t ht)))
        · obtain ⟨t, ht, rfl⟩ := List.mem_map.1 hf
          exact hsubH _ (hs2 _ (lookH_mem (List.all_eq_true.1 hin.2 t ht)))
      · exact hreq r hr
  | [], [], i, acc, ah, k, h => ⟨acc, ah, [], h, rfl, by simp, by simp, by simp, fun f hf => .inl hf, fun f hf => .inl hf, by simp⟩
theorem LWP.drawE {id : Nat} {l : List Oper} {s : LState} (KS : List (Nat × Nat)) (U : List Nat) (plan : List (List Nat × List Nat)) (out outH : List Nat) (hm : P.follows .mixedOrders = true)
    (hedge : (l.zipIdx.all fun (o, i) => (edgesOf o).all fun j => decide (j < i)) = true) (hgood : KS.all (fun p => lone p.1 (hdel p.2 s.h)) = true) (hnd : outH.Nodup)
    (h : DSE P E KS l.toArray l plan 0 (base s U) (heapF s.h) (fun acc ah recs => (out.all (hasT · acc) && outH.all (hasH · ah)) = true ∧ drawOK (preAll l []) (recs.map Rec.info) ((out.map (look · acc)).map fun f => (f.t, f.est, f.rf)) ((outH.map (lookH · ah)).map fun f => (f.k, f.est)) = true ∧ Q .normal ⟨out.map fun t => (t, (look t acc).v), outH.map fun k => (k, (lookH k ah).obj)⟩)) :
    LWP P E (.region id l.toArray true) Q s := by
  intro a w hi; have hnk : (hkeys s.h).Nodup := by obtain ⟨ok, ρ, F, h⟩ := hi; exact h.heap.keys
  obtain ⟨acc, ah, recs, ⟨hout, hc, hq⟩, hlen, hok, hsub, hsubH, hnew, hnewH, hreq⟩ := h.out; simp only [Bool.and_eq_true] at hout; refine LWP.draw (Q := Q) KS recs acc ah _ hm hlen hedge (fun k hk => List.all_eq_true.1 hgood k hk) (fun i o r ho hr => hok i o r ho hr) ?_ ?_ hreq (out.map (look · acc)) (outH.map (lookH · ah)) ?_ ?_ ?_ rfl hc ?_ a w hi
  · intro f hf
    rcases hnew f hf with h | ⟨j, r, he, hr, h1, h2, h3⟩
    · obtain ⟨t, ht, rfl⟩ := List.mem_map.1 h
      exact ⟨fun k hk => LV.refs_at? k _ hk, rfl⟩
    · refine ⟨fun k hk => LV.refs_at? k _ (h3 ▸ hk), ?_⟩
      rw [he]; simp only [Nat.zero_add]; exact ⟨r, hr, h1, h2⟩
  · intro f hf
    rcases hnewH f hf with h | ⟨j, r, he, hr, h1⟩
    · obtain ⟨p, hp, rfl⟩ := List.mem_map.1 h
      exact hget_of_mem hnk hp
    · rw [he]
      simp only [Nat.zero_add]; exact ⟨r, hr, h1⟩
  · intro f hf
    obtain ⟨t, ht, rfl⟩ := List.mem_map.1 hf; exact look_mem (List.all_eq_true.1 hout.1 t ht)
  · intro f hf
    obtain ⟨t, ht, rfl⟩ := List.mem_map.1 hf; exact lookH_mem (List.all_eq_true.1 hout.2 t ht)
  · rw [List.map_map]
    simpa [Function.comp_def, lookH_k] using hnd
  · have e1 : List.map (fun f : SF => (f.t, f.v)) (List.map (fun x => look x acc) out) = out.map fun t => (t, (look t acc).v) := by
      rw [List.map_map]; exact List.map_congr_left fun t _ => by simp [look_t]
    have e2 : List.map (fun f : HF => (f.k, f.obj)) (List.map (fun x => lookH x ah) outH) = outH.map fun k => (k, (lookH k ah).obj) := by
      rw [List.map_map]; exact List.map_congr_left fun t _ => by simp [lookH_k]
    rw [e1, e2]; exact hq
theorem LWo.rekey {all : Array Oper} {ops : List Oper} {s : LState} (t o k : Nat) {off n : Nat} {obj : LObj} (hg : get t s.tm = .own o off n) (ho : hget o s.h = some obj) (hk : obj.kind = .fro) (hne : (o == k) = false) (hkp : E.keep.contains k = false) (hl : lone k (hdel k (hdel o s.h)) = true)
    (hn : LWo P E all ops Q (Lift.rekey s t o k off n obj)) : LWo P E all ops Q s := LWo.ghost (fun _ _ hi => hi.rekey hg ho hk hne hkp hl) hn
def cut3? {α : Type} (l : List α) (lo hi mx : Int) : Option (List α) := if 0 ≤ lo ∧ lo ≤ hi ∧ hi ≤ mx ∧ mx ≤ l.length then some ((l.take hi.toNat).drop lo.toNat) else none
theorem LWo.cutM3 {α : Type} {T e : TypeId} {sz : Nat} {f : α → LV} {l r : List α} {lo hi mx : Int} {x : Operand} {lx : Option Operand} {hx' mx' : Operand} {all : Array Oper} {rest : List Oper} {d : Nat} {ty : TypeId} {pos : String} {af : Array Edge} {s : LState} (he : cut3? l lo hi mx = some r) (hu : P.underlying T = some (.slice e)) (hz : ∀ w, (sizeOf e).run P w = .ok sz w)
    (hx : s.eval x = .sl sz (l.map f)) (hl : match lx with | none => lo = 0 | some o => ∃ k, s.eval o = .imm (.int k lo)) (hh : ∃ k, s.eval hx' = .imm (.int k hi)) (hm : ∃ k, s.eval mx' = .imm (.int k mx)) (hd : Nat.blt d E.n = true := by exact rfl)
    (hn : LWo P E all rest Q (s.put (some d) (.sl sz (r.map f)))) :
    LWo P E all ({ dst := some d, op := .slice T x lx (some hx') (some mx'), type := ty, pos := pos, after := af, guard := none } :: rest) Q s := by
  unfold cut3? at he
  split at he
  · rename_i h1
    cases he; refine LWo.cut (l := lo.toNat) (h := hi.toNat) _ hu hz hx ?_ ?_ ?_ (.inr (by simp)) (by omega) (by rw [List.length_map]; omega) ?_ hd hn
    · cases lx with
      | none => simp only at hl; subst hl; rfl
      | some o => obtain ⟨k, hk⟩ := hl; exact ⟨k, by rw [hk, Int.toNat_of_nonneg h1.1]⟩
    · obtain ⟨k, hk⟩ := hh; exact ⟨k, by rw [hk, Int.toNat_of_nonneg (by omega)]⟩
    · obtain ⟨k, hk⟩ := hm
      exact ⟨k, mx.toNat, by rw [hk, Int.toNat_of_nonneg (by omega)], by omega, by rw [List.length_map]; omega⟩
    · rw [List.map_drop, List.map_take]
  · cases he
end
end Go.Lift
/- The lifted logic, part 33: a law over bytes, out of its contract. Own work. -/
namespace Go.Lift
open Go.RowKit
end Go.Lift
/- The lifted logic, part 34: guards whose own guard is not wanted; lists made at once; one's own list lent under any name. Own work. -/
namespace Go.Lift
open Go.RowKit
section
variable {P : Program} {E : Ent} {Q : Exit → LState → Prop} {s : LState} {all : Array Oper} {rest : List Oper} {d : Nat} {ty : TypeId} {pos : String} {af : Array Edge}
theorem LWo.skip {o : Oper} (d : Nat) (ho : o.dst = some d) (hlt : Nat.blt d E.n = true) (hw : ∀ a w ok ρ F, Inv' E s a w ok ρ F → Region.wanted o (yielded all a.tmps) = false)
    (hn : LWo P E all rest Q (s.put (some d) (.imm undef))) : LWo P E all (o :: rest) Q s := by
  intro a w ⟨ok, ρ, F, hi⟩; unfold wpList; rw [if_neg (by rw [hw a w ok ρ F hi]; simp)]; refine hn _ _ ⟨ok, ρ, F, ?_⟩; rw [ho]; exact hi.put hlt (.fro (.imm _))
theorem LWo.guardNU {o : Oper} {j t d : Nat} {b nw want : Bool} (hb : get t s.tm = .imm (.bool b)) (h : b = nw) (hg : o.guard = some (j, want)) (hd : (all[j]?).bind (·.dst) = some t) (ho : o.dst = some d) (hlt : Nat.blt d E.n = true) (hne : nw = !want)
    (hn : LWo P E all rest Q (s.put (some d) (.imm undef))) : LWo P E all (o :: rest) Q s :=
  LWo.skip d ho hlt (fun a w ok ρ F hi => by
    have hy := yielded_of hi hd hb; subst h hne; simp only [Region.wanted, hg, hy]; cases want <;> rfl) hn
theorem LWo.guardU {o : Oper} {j t d : Nat} {want : Bool} (hb : get t s.tm = .imm undef) (hg : o.guard = some (j, want)) (hd : (all[j]?).bind (·.dst) = some t) (ho : o.dst = some d) (hlt : Nat.blt d E.n = true)
    (hn : LWo P E all rest Q (s.put (some d) (.imm undef))) : LWo P E all (o :: rest) Q s :=
  LWo.skip d ho hlt (fun a w ok ρ F hi => by
    have hs := hi.slots t; rw [hb] at hs; have hv := hs.imm_inv
    have hy : yielded all a.tmps j = none := by
      rw [Array.getD_eq_getD_getElem?] at hv; cases h : a.tmps[t]? with
      | none => simp [yielded, hd, h]
      | some v =>
        rw [h] at hv; simp only [Option.getD_some] at hv; subst hv; simp [yielded, hd, h, undef]
    simp [Region.wanted, hg, hy]) hn
theorem Does.nameL {f : FuncId} {n : Nat} {obj : LObj} {xs : List LV} {R : LV → LObj → Prop} (hk : obj.kind = .fro) (hro : obj.ro = false) (hR : ∀ r o, R r o → o.kind = .fro) (hxs : ∀ k, LV.at?.atL k xs = false) (h : Does P f (.own 0 0 n :: xs) [(0, obj)] (fun r h => ∃ o, R r o ∧ h = [(0, o)])) (k : Nat) :
    Does P f (.own k 0 n :: xs) [(k, obj)] (fun r h => ∃ o, R r o ∧ h = [(k, o)]) := by
  refine ⟨h.1, fun w vs ok ρ F hT hH hok => ?_⟩; have hFe : fpsOf (fun _ => F k) (rwOf [(0, obj)]) = fpsOf F (rwOf [(k, obj)]) := by simp [rwOf, hro, fpsOf]
  have cells : ∀ {w : World} {ok : Nat → Prop} {ρ ρ' : Env} {o : LObj} {vs : List Value} {fps : List Nat}, o.kind = .fro → ObjCells w ok ρ o.kind (o.elems.flatMap LV.cells) vs fps → ObjCells w ok ρ' o.kind (o.elems.flatMap LV.cells) vs fps := by
    intro w ok ρ ρ' o vs fps hb hc; simp only [hb] at hc ⊢; exact hc
  have hT' : RepT w ok (fun _ => ρ k) (.own 0 0 n :: xs) vs := by
    cases hT with
    | cons h1 h2 =>
      refine .cons ?_ ?_
      · rcases h1.own_inv with ⟨p, c, hp, h2, h3, hv⟩ | ⟨rfl, A, hv⟩
        · rw [hv]; exact .own hp h2 h3
        · rw [hv]; exact .own0
      · exact RepT.stable (fun _ _ => rfl) (fun _ hb => hb) (fun o ho => absurd ho (LV.atL_refs o _ (hxs o))) h2
  have hH' : HeapOK w ok (fun _ => ρ k) (fun _ => F k) [(0, obj)] := by
    refine ⟨by simp [hkeys], fun p hp => ?_, ?_, ?_⟩
    · simp at hp; subst hp
      rcases hH.objs (k, obj) (by simp) with ⟨h1, h2, h3⟩ | ⟨p, arr, t, us, fps, h1, h2, h3⟩
      · exact .inl ⟨h1, h2, h3⟩
      · exact .inr ⟨p, arr, t, us, fps, h1, h2, { h3 with cells := cells hk h3.cells }⟩
    · have := hH.nodup; simpa [fpsOf] using this
    · intro b hb
      exact hH.apart b (by simpa [fpsOf] using hb)
  refine (h.2 w vs ok (fun _ => ρ k) (fun _ => F k) hT' hH' hok).mono fun e w' => ?_; rintro ⟨v, r, hl', ok', F', fr, he, ⟨o, hRo, rfl⟩, hext, hres, hk', ho', hn', hb', hok'⟩; have hr2 := hR r o hRo; have hF1 : fpsOf (fun _ => F' 0) [(k, o)] = fpsOf F' [(0, o)] := by simp [fpsOf]
  refine ⟨v, r, [(k, o)], ok', fun _ => F' 0, fr, he, ⟨o, hRo, rfl⟩, hFe ▸ hext, hres, by simp [hkeys], ?_, hF1 ▸ hn', ?_, ?_⟩
  · intro p hp
    simp at hp; subst hp; obtain ⟨g1, g2, g3⟩ := ho' (0, o) (by simp); refine ⟨g1, by simp [rwOf, hro, hkeys], ?_⟩; rcases g3 with ⟨h1, h2, h3⟩ | ⟨p, arr, t, us, fps, h1, h2, h3⟩
    · exact .inl ⟨h1, h2, h3⟩
    · exact .inr ⟨p, arr, t, us, fps, h1, h2, { h3 with cells := cells hr2 h3.cells }⟩
  · rw [← hFe, hF1]; exact hb'
  · rw [← hFe]; exact hok'
theorem Does.nameO {α : Type} {f : FuncId} {n sz sz' : Nat} {e : α → LV} {l l' : List α} {xs : List LV} {v : LV} (h : Does P f (.own 0 0 n :: xs) [(0, lob sz e l)] (fun r h => r = v ∧ h = [(0, lob sz' e l')])) (hxs : ∀ k, LV.at?.atL k xs = false) (k : Nat) :
    Does P f (.own k 0 n :: xs) [(k, lob sz e l)] (fun r h => r = v ∧ h = [(k, lob sz' e l')]) :=
  (Does.nameL (R := fun r o => r = v ∧ o = lob sz' e l') rfl rfl (by rintro r o ⟨_, rfl⟩; rfl) hxs (h.mono fun r h ⟨h1, h2⟩ => ⟨_, ⟨h1, rfl⟩, h2⟩) k).mono fun r h ⟨o, ⟨h1, h2⟩, h3⟩ => ⟨h1, by rw [h3, h2]⟩
def mk2? {α : Type} (m n : Int) (y : α) : Option (List α) := if 0 ≤ m ∧ m ≤ n ∧ n ≤ 1000000000000 then some (List.replicate m.toNat y) else none
theorem mk2_b {α : Type} {m n : Int} {y : α} {r : List α} (h : mk2? m n y = some r) : 0 ≤ m ∧ m ≤ n ∧ n ≤ 1000000000000 ∧ r = List.replicate m.toNat y := by
  unfold mk2? at h
  split at h
  · rename_i e; cases h; exact ⟨e.1, e.2.1, e.2.2, rfl⟩
  · cases h
theorem Does.nameT {f : FuncId} {n : Nat} {obj : LObj} {xs : List LV} {R : LV → Prop} (hk : obj.kind = .fro) (hro : obj.ro = false) (hxs : ∀ k, LV.at?.atL k xs = false) (h : Does P f (.own 0 0 n :: xs) [(0, obj)] (fun r h => R r ∧ h = [])) (k : Nat) :
    Does P f (.own k 0 n :: xs) [(k, obj)] (fun r h => R r ∧ h = []) := by
  refine ⟨h.1, fun w vs ok ρ F hT hH hok => ?_⟩; have hFe : fpsOf (fun _ => F k) (rwOf [(0, obj)]) = fpsOf F (rwOf [(k, obj)]) := by simp [rwOf, hro, fpsOf]
  have hT' : RepT w ok (fun _ => ρ k) (.own 0 0 n :: xs) vs := by
    cases hT with
    | cons h1 h2 =>
      refine .cons ?_ ?_
      · rcases h1.own_inv with ⟨p, c, hp, h2, h3, hv⟩ | ⟨rfl, A, hv⟩
        · rw [hv]; exact .own hp h2 h3
        · rw [hv]; exact .own0
      · exact RepT.stable (fun _ _ => rfl) (fun _ hb => hb) (fun o ho => absurd ho (LV.atL_refs o _ (hxs o))) h2
  have hH' : HeapOK w ok (fun _ => ρ k) (fun _ => F k) [(0, obj)] := by
    refine ⟨by simp [hkeys], fun p hp => ?_, ?_, ?_⟩
    · simp at hp; subst hp
      rcases hH.objs (k, obj) (by simp) with ⟨h1, h2, h3⟩ | ⟨p, arr, t, us, fps, h1, h2, h3⟩
      · exact .inl ⟨h1, h2, h3⟩
      · refine .inr ⟨p, arr, t, us, fps, h1, h2, { h3 with cells := ?_ }⟩
        have hc := h3.cells; simp only [hk] at hc ⊢; exact hc
    · have := hH.nodup; simpa [fpsOf] using this
    · intro b hb
      exact hH.apart b (by simpa [fpsOf] using hb)
  refine (h.2 w vs ok (fun _ => ρ k) (fun _ => F k) hT' hH' hok).mono fun e w' => ?_; rintro ⟨v, r, hl', ok', F', fr, he, ⟨hR, rfl⟩, hext, hres, hk', ho', hn', hb', hok'⟩; refine ⟨v, r, [], ok', F', fr, he, ⟨hR, rfl⟩, hFe ▸ hext, hres, hk', ?_, hn', ?_, ?_⟩
  · simp
  · rw [← hFe]; exact hb'
  · rw [← hFe]; exact hok'
theorem LWo.tcallN {α β : Type} {f : Operand} {ops : List Operand} {ts : Array TypeId} {g : FuncId} {caps vals xs : List LV} {o n sz sz' : Nat} {e : α → LV} {e' : β → LV} {l : List α} {r : List β} (k : Nat) (hf : s.eval f = .clo g caps) (hv : ops.map s.eval ++ caps = vals)
    (hfn : Does P g (.own 0 0 l.length :: xs) [(0, lob sz e l)] (fun x h => x = .nw sz' (r.map e') false ∧ h = [])) (hxs : ∀ k, LV.at?.atL k xs = false) (hA : vals = .own o 0 n :: xs) (hnl : n = l.length) (ho : hget o s.h = some (lob sz e l)) (hl : Lift.lone k (hdel k (hdel o s.h)) = true) (hkp : E.keep.contains k = false := by exact rfl) (hd : Nat.blt d E.n = true := by exact rfl)
    (hn : LWo P E all rest Q { tm := (d, .own k 0 r.length) :: kill k s.tm, h := (k, lob sz' e' r) :: hdel k (hdel o s.h) }) :
    LWo P E all ({ dst := some d, op := .call { callee := .value f, args := ops.toArray, argTypes := ts }, type := ty, pos := pos, after := af, guard := none } :: rest) Q s := by
  subst hnl; exact LWo.tcallO k hf hv (Does.nameT rfl rfl hxs hfn o) hA ho rfl hkp hl hd (by rw [List.length_map]; exact hn)
theorem LWo.ucallM {α : Type} {f : Operand} {ops : List Operand} {ts : Array TypeId} {g : FuncId} {caps vals xs : List LV} {k sz : Nat} {e : α → LV} {l l' : List α} {v : LV} (hf : s.eval f = .clo g caps) (hv : ops.map s.eval ++ caps = vals)
    (hfn : Does P g xs [(k, lob sz e l)] (fun r h => r = v ∧ h = [(k, lob sz e l')])) (hA : vals = xs) (ho : hget k s.h = some (lob sz e l)) (dst : Option Nat) (hd : (match dst with | some t => Nat.blt t E.n | none => true) = true)
    (hn : LWo P E all rest Q (({ tm := s.tm, h := (k, lob sz e l') :: hdel k s.h } : LState).put dst (settle none v))) :
    LWo P E all ({ dst := dst, op := .call { callee := .value f, args := ops.toArray, argTypes := ts }, type := ty, pos := pos, after := af, guard := none } :: rest) Q s := LWo.ucall (n := 0) hf hv hfn hA ho dst hd hn
def lenQ {β : Type} (n m : Nat) (x : β) : Option β := if n = m then some x else none
theorem lenQ_some {β : Type} {n m : Nat} {x y : β} (h : lenQ n m x = some y) : n = m ∧ x = y := by
  unfold lenQ at h
  split at h
  · rename_i e; cases h; exact ⟨e, rfl⟩
  · cases h
theorem getMade (zs : List Value) : ∀ (n k : Nat) (v : Value), (List.replicate n zs).flatten[k]? = some v → zs[k % zs.length]? = some v ∧ k < n * zs.length
  | 0, k, v, h => by simp at h
  | n + 1, k, v, h => by
    rw [List.replicate_succ, List.flatten_cons, List.getElem?_append] at h
    split at h
    · rename_i hlt
      rw [Nat.mod_eq_of_lt hlt]; exact ⟨h, Nat.lt_of_lt_of_le hlt (by rw [Nat.succ_mul]; omega)⟩
    · rename_i hlt
      obtain ⟨h1, h2⟩ := getMade zs n _ v h; refine ⟨?_, by rw [Nat.succ_mul]; omega⟩; rw [Nat.mod_eq_sub_mod (by omega)]; exact h1
theorem froRep {w : World} {ok : Nat → Prop} {cs : List LV} {vs : List Value} (h : FroL w ok cs vs) : ∀ n : Nat, FroL w ok ((List.replicate n cs).flatten) ((List.replicate n vs).flatten)
  | 0 => .nil
  | n + 1 => by
    rw [List.replicate_succ, List.flatten_cons, List.replicate_succ, List.flatten_cons]
    have app : ∀ {a : List LV} {b : List Value} {c : List LV} {d : List Value}, FroL w ok a b → FroL w ok c d → FroL w ok (a ++ c) (b ++ d) := by
      intro a b c d h1 h2
      induction a generalizing b with
      | nil => cases h1; exact h2
      | cons x a ih => cases h1 with | cons h h' h'' => exact .cons h h' (ih h'')
    exact app h (froRep h n)
theorem LWo.makeW {α : Type} {T e : TypeId} {z : Value} {zs : List Value} {sz bytes : Nat} {f : α → LV} {y : α} {x c : Operand} {kl kc : IntKind} {m n : Int} (k : Nat) (hm0 : 0 ≤ m) (hmn : m ≤ n) (hn' : n ≤ 1000000000000) (hu : P.underlying T = some (.slice e))
    (hinfo : (P.info? e).map (fun i => (i.size, i.bytes, i.zero)) = some (sz, bytes, some z)) (hzs : z.cells = zs.toArray) (h1 : zs.all Value.oneCell' = true) (hlen : zs.length = sz) (hw : WkL (zs.map LV.imm) (f y).cells) (hx : s.eval x = .imm (.int kl m)) (hc : s.eval c = .imm (.int kc n)) (hl : lone k (hdel k s.h) = true) (hby : Nat.ble bytes 140 = true) (hkp : E.keep.contains k = false := by exact rfl) (hd : Nat.blt d E.n = true := by exact rfl)
    (hn : LWo P E all rest Q { tm := (d, .own k 0 (List.replicate m.toNat y).length) :: kill k s.tm, h := (k, lob sz f (List.replicate m.toNat y)) :: hdel k s.h }) :
    LWo P E all ({ dst := some d, op := .makeSlice T x c, type := ty, pos := pos, after := af, guard := none } :: rest) Q s :=
  have hcl : (f y).cells.length = sz := by rw [← hw.length, List.length_map, hlen]
  LWo.make k (lob sz f (List.replicate m.toNat y)) (.own k 0 (List.replicate m.toNat y).length) hd hkp hl (.inl rfl) (by
      intro z hz; simp only [lob, List.map_replicate, List.mem_replicate] at hz; rw [hz.2, hcl]; rfl) (fun a w ok ρ F hi => by
    have hvx := hi.eval x; rw [hx] at hvx; have hvc := hi.eval c; rw [hc] at hvc; have e1 := hvx.imm_inv; have e2 := hvc.imm_inv
    obtain ⟨i, hi1, hi2, hi3, hi4⟩ : ∃ i, P.info? e = some i ∧ i.size = sz ∧ i.bytes = bytes ∧ i.zero = some z := by
      cases h : P.info? e with
      | none => rw [h] at hinfo; cases hinfo
      | some i => rw [h] at hinfo; simp at hinfo; exact ⟨i, rfl, hinfo.1, hinfo.2.1, hinfo.2.2⟩
    have hby' := Nat.le_of_ble_eq_true hby; have hr := run_make (P := P) w T e i z hu hi1 hi4 kl kc m n hm0 hmn (by rw [hi3]; exact Int.le_trans (Int.mul_le_mul (c := 140) (d := 1000000000000) (by omega) hn' (by omega) (by decide)) (by decide)) (by omega); refine ⟨.slice (some ⟨w.heap.size, 0, none⟩) m.toNat n.toNat, madeCells z.cells (n.toNat * i.size), e, (List.replicate m.toNat zs).flatten, n.toNat, w, ?_, .inl rfl, by simp [lob]; omega, by unfold maxLen; omega, ?_, ?_, ?_, fun W ok' ρ' hρ => ?_⟩
    · simp only [execOp, e1, e2]
      rw [Sem.run_bind, hr]; rfl
    · rw [size_madeCells, hi2]; exact Nat.le_refl _
    · intro j v hj
      obtain ⟨g1, g2⟩ := getMade zs _ j v hj
      have hlt : j < n.toNat * i.size := by
        rw [hi2, ← hlen]; exact Nat.lt_of_lt_of_le g2 (Nat.mul_le_mul_right _ (by omega))
      have hpos : j % zs.length < zs.length := by
        rcases Nat.lt_or_ge (j % zs.length) zs.length with h | h
        · exact h
        · rw [List.getElem?_eq_none h] at g1; cases g1
      rw [madeCells, Array.getElem?_map, Array.getElem?_range]; rw [if_pos hlt, hzs]; simp only [Option.map_some, List.size_toArray, Option.some.injEq]; rw [List.getElem?_eq_getElem hpos] at g1; simp only [Option.some.injEq] at g1; rw [getElem!_pos (List.toArray zs) _ (by simpa using hpos)]; simpa using g1
    · refine ⟨rfl, ?_⟩
      have := froRep ((froL_imm (w := w) (ok := ok) zs (by simpa using h1)).weak hw) m.toNat
      have e3 : (lob sz f (List.replicate m.toNat y)).elems.flatMap LV.cells = (List.replicate m.toNat (f y).cells).flatten := by
        simp [lob, List.flatMap_def]
      rw [e3]; exact this
    · have hw := Rep.own (w := W) (ok := ok') (ρ := ρ') (off := 0) (n := m.toNat) (c := n.toNat) hρ (by simp) (by omega)
      simp only [Nat.zero_mul] at hw; rw [List.length_replicate]; exact hw) hn
end
end Go.Lift
/- The lifted logic, part 35: a call with a variable lent whose list is one's own. Own work. -/
namespace Go.Lift
open Go.RowKit
section
variable {P : Program} {E : Ent} {Q : Exit → LState → Prop} {s : LState} {all : Array Oper} {rest : List Oper} {d : Nat} {ty : TypeId} {pos : String} {af : Array Edge}
end
end Go.Lift
/- The lifted logic, part 36: cuts of one's own list that stay one's own; clear. Own work. -/
namespace Go.Lift
open Go.RowKit
section
variable {P : Program} {E : Ent} {Q : Exit → LState → Prop} {s : LState} {all : Array Oper} {rest : List Oper} {d : Nat} {ty : TypeId} {pos : String} {af : Array Edge}
def rng? (lo hi : Int) (n : Nat) : Option Unit := if 0 ≤ lo ∧ lo ≤ hi ∧ hi ≤ n then some () else none
theorem rng_b {lo hi : Int} {n : Nat} {u : Unit} (h : rng? lo hi n = some u) : 0 ≤ lo ∧ lo ≤ hi ∧ hi ≤ n := by
  unfold rng? at h
  split at h
  · assumption
  · cases h
theorem rng_of {lo hi : Int} {n : Nat} (h : 0 ≤ lo ∧ lo ≤ hi ∧ hi ≤ n) : rng? lo hi n = some () := by unfold rng?; rw [if_pos h]
def leN (n m : Nat) : Option Unit := if n ≤ m then some () else none
theorem leN_b {n m : Nat} {u : Unit} (h : leN n m = some u) : n ≤ m := by
  unfold leN at h
  split at h
  · assumption
  · cases h
theorem leN_of {n m : Nat} (h : n ≤ m) : leN n m = some () := by unfold leN; rw [if_pos h]
def atc? {α : Type} (l : List α) (off n : Nat) (i : Int) : Option α := if 0 ≤ i ∧ i < n then l[off + i.toNat]? else none
theorem atc_b {α : Type} {l : List α} {off n : Nat} {i : Int} {y : α} (h : atc? l off n i = some y) : 0 ≤ i ∧ i < n ∧ l[off + i.toNat]? = some y := by
  unfold atc? at h
  split at h
  · rename_i e; exact ⟨e.1, e.2, h⟩
  · cases h
theorem LWo.cutOM {α : Type} {T e : TypeId} {sz o off n : Nat} {f : α → LV} {l : List α} {lo hi : Int} {u : Unit} {x : Operand} {lx hx' : Option Operand} (he : rng? lo hi n = some u) (hu : P.underlying T = some (.slice e)) (hz : ∀ w, (sizeOf e).run P w = .ok sz w)
    (hx : s.eval x = .own o off n) (ho : hget o s.h = some (lob sz f l)) (hl : match lx with | none => lo = 0 | some o => ∃ k, s.eval o = .imm (.int k lo)) (hh : match hx' with | none => hi = n | some o => ∃ k, s.eval o = .imm (.int k hi)) (hd : Nat.blt d E.n = true := by exact rfl)
    (hn : LWo P E all rest Q (s.put (some d) (.own o (off + lo.toNat) (hi.toNat - lo.toNat)))) :
    LWo P E all ({ dst := some d, op := .slice T x lx hx' none, type := ty, pos := pos, after := af, guard := none } :: rest) Q s := by
  obtain ⟨h0, h1, h2⟩ := rng_b he; refine LWo.cutOwn (l := lo.toNat) (h := hi.toNat) hu hz hx ho rfl ?_ ?_ trivial (.inl rfl) (by omega) (by omega) rfl rfl hd hn
  · cases lx with
    | none => simp only at hl; subst hl; rfl
    | some o => obtain ⟨k, hk⟩ := hl; exact ⟨k, by rw [hk, Int.toNat_of_nonneg h0]⟩
  · cases hx' with
    | none => simp only at hh; subst hh; simp [Bound]
    | some o => obtain ⟨k, hk⟩ := hh; exact ⟨k, by rw [hk, Int.toNat_of_nonneg (by omega)]⟩
theorem LWo.indexOC {α : Type} {T e : TypeId} {sz o off n : Nat} {f : α → LV} {l : List α} {y : α} {x ix : Operand} {k : IntKind} {i : Int} (he : atc? l off n i = some y) (hu : P.underlying T = some (.slice e)) (hz : ∀ w, (sizeOf e).run P w = .ok sz w)
    (hx : s.eval x = .own o off n) (hi : s.eval ix = .imm (.int k i)) (ho : hget o s.h = some (lob sz f l)) (hd : Nat.blt d E.n = true := by exact rfl) (hn : LWo P E all rest Q (s.put (some d) (.ptr o (off + i.toNat) 0))) :
    LWo P E all ({ dst := some d, op := .indexAddr T x ix, type := ty, pos := pos, after := af, guard := none } :: rest) Q s :=
  LWo.indexOwn hu hz hx hi ho rfl (atc_b he).1 (atc_b he).2.1 hd hn
inductive SrcT {α : Type} (s : LState) (y : Operand) (sz : Nat) (f : α → LV) (l : List α) : Prop
  | m : SrcM s y sz f l → SrcT s y sz f l
  | cut {o off n : Nat} {L : List α} : s.eval y = .own o off n → off + n ≤ L.length → hget o s.h = some (lob sz f L) → (L.drop off).take n = l → SrcT s y sz f l
theorem SrcT.is {α : Type} {y : Operand} {sz : Nat} {f : α → LV} {l : List α} (h : SrcT s y sz f l) : SrcIs s y sz (l.map f) := by
  cases h with
  | m h => exact h.is
  | cut h h1 h2 h3 =>
    subst h3; rename_i o off n L
    refine .inr (.inr (.inl ⟨_, off, _, by rw [List.length_map, List.length_take, List.length_drop, show min n (L.length - off) = n by omega]; exact h, h2, rfl, rfl, by simp [lob]; omega, by
      simp [lob, show min n (L.length - off) = n by omega, List.map_take, List.map_drop]⟩))
theorem Inv.trunc {k m : Nat} {obj : LObj} (ho : hget k s.h = some obj) (hk : obj.kind = .fro) (hro : obj.ro = false) {a : Act} {w : World} (hi : Inv E s a w) : Inv E { tm := s.tm, h := (k, { obj with elems := obj.elems.take m }) :: hdel k s.h } a w := by
  obtain ⟨ok, ρ, F, hi⟩ := hi; have hp := hput_perm (x := { obj with elems := obj.elems.take m }) hi.heap.keys ho
  have key : Inv' E { tm := s.tm, h := hput k { obj with elems := obj.elems.take m } s.h } a w ok ρ F := by
    refine { hi with heap := ⟨by rw [hput_keys]; exact hi.heap.keys, ?_, ?_, ?_⟩, mine := ?_ }
    · intro p hp
      rcases mem_hput hp with ⟨e1, e2⟩ | ⟨_, hm⟩
      · obtain ⟨pk, po⟩ := p
        simp only at e1 e2; subst e1; subst e2; rcases hi.heap.objs _ (hget_mem ho) with ⟨h1, h2, h3⟩ | ⟨p, arr, t, vs, fps, h1, h2, h3⟩
        · exact .inl ⟨h1, by simp only at h2 ⊢; rw [h2]; simp, h3⟩
        · have hun : ∀ x ∈ obj.elems, x.cells.length = obj.sz := h3.unif
          have hc := h3.cells; simp only [hk] at hc; refine .inr ⟨p, arr, t, vs.take (m * obj.sz), fps, h1, h2, ⟨h3.sz, fun x hx => hun x (List.mem_of_mem_take hx), ?_, h3.cap, h3.blk, h3.room, ?_, ?_⟩⟩
          · have : obj.elems.length ≤ p.cap := h3.len
            simp; omega
          · intro j v hj
            rw [List.getElem?_take] at hj
            split at hj
            · exact h3.vals j v hj
            · cases hj
          · show ObjCells _ _ _ obj.kind _ _ _
            rw [hk]; refine ⟨hc.1, ?_⟩; show FroL _ _ ((obj.elems.take m).flatMap LV.cells) _; rw [flat_take _ obj.sz _ hun]; exact hc.2.take _
      · exact hi.heap.objs p hm
    · rw [fpsOf_keys, hput_keys, ← fpsOf_keys]; exact hi.heap.nodup
    · intro b hb
      rw [fpsOf_keys, hput_keys, ← fpsOf_keys] at hb; exact hi.heap.apart b hb
    · intro p hp hro' b hb hlt
      rcases mem_hput hp with ⟨e1, e2⟩ | ⟨_, hm⟩
      · obtain ⟨pk, po⟩ := p
        simp only at e1 e2; subst e1; subst e2; exact hi.mine _ (hget_mem ho) hro b hb hlt
      · exact hi.mine p hm hro' b hb hlt
  exact ⟨ok, ρ, F, key.perm hp⟩
theorem LWo.clearO {α : Type} {T e : TypeId} {sz o off n : Nat} {z : Value} {f : α → LV} {l : List α} {x : Operand} (dst : Option Nat) (hu : P.underlying T = some (.slice e)) (hz : ∀ w, (zeroValue e).run P w = .ok z w) (hzs : z.cells.size = sz) (hz1 : z.cells.toList.all Value.oneCell' = true)
    (hx : s.eval x = .own o off n) (ho : hget o s.h = some (lob sz f l)) (hd : (match dst with | some t => Nat.blt t E.n | none => true) = true)
    (hn : LWo P E all rest Q (({ tm := s.tm, h := (o, lob sz f (l.take off)) :: hdel o s.h } : LState).put dst .junk)) :
    LWo P E all ({ dst := dst, op := .call { callee := .builtin .clear, args := #[x], argTypes := #[T] }, type := ty, pos := pos, after := af, guard := none } :: rest) Q s :=
  LWo.value _ rfl (fun a w ok ρ F hi => by
    have htr : Inv E { tm := s.tm, h := (o, lob sz f (l.take off)) :: hdel o s.h } a w := by
      have := Inv.trunc (m := off) ho rfl rfl ⟨ok, ρ, F, hi⟩; have e1 : ({ (lob sz f l) with elems := (lob sz f l).elems.take off } : LObj) = lob sz f (l.take off) := by simp [lob, List.map_take]
      rw [e1] at this; exact this
    have fin : ∀ w', Inv E { tm := s.tm, h := (o, lob sz f (l.take off)) :: hdel o s.h } a w' → ∀ v, Inv E (({ tm := s.tm, h := (o, lob sz f (l.take off)) :: hdel o s.h } : LState).put dst .junk) (a.put dst v) w' := by
      rintro w' ⟨ok', ρ', F', h⟩ v; cases dst with
      | none => exact ⟨_, _, _, h⟩
      | some t => exact ⟨_, _, _, h.put hd (.junk _)⟩
    have hX := hi.eval x; rw [hx] at hX
    have none0 : ∀ (A : Option Addr) (c : Nat), a.eval x = .slice A 0 c → ∃ n w', (execOp a.eval { dst := dst, op := .call { callee := .builtin .clear, args := #[x], argTypes := #[T] }, type := ty, pos := pos, after := af, guard := none }).run P w = .ok n w' ∧ ((∃ v, n = .value v ∧ Inv E (({ tm := s.tm, h := (o, lob sz f (l.take off)) :: hdel o s.h } : LState).put dst .junk) (a.put dst v) w') ∨ (n = .skip ∧ Inv E (({ tm := s.tm, h := (o, lob sz f (l.take off)) :: hdel o s.h } : LState).put dst .junk) (a.put dst undef) w')) := by
      intro A c hv; refine ⟨.value (.tuple #[]), w, ?_, .inl ⟨_, rfl, fin w htr _⟩⟩; cases A <;> simp [execOp, resolve, invoke, builtin, Builtin.clear_, underlying, hu, program, Sem.run, hv]
    rcases hX.own_inv with ⟨p, cp, hp, hcap, hncp, hxv⟩ | ⟨h0, A, hxv⟩
    · rcases Nat.eq_zero_or_pos n with h0 | hpos
      · subst h0
        exact none0 _ _ hxv
      · rcases hi.heap.objs _ (hget_mem ho) with ⟨h', _⟩ | ⟨p', arr, t, us, fps, h', hF, hobj⟩
        · rw [hp] at h'; cases h'
        · rw [hp] at h'; cases h'
          have hsz : p.sz = sz := hobj.sz; have hunif : ∀ x ∈ (lob sz f l).elems, x.cells.length = sz := hobj.unif; have hcells := hobj.cells; have huslen := hcells.2.length; have hroom : p.cap * p.sz ≤ arr.size := hobj.room
          let vs := (Builtin.zeroCells z.cells n).toList
          have hvl : vs.length = n * sz := by simp [vs, Builtin.zeroCells, hzs]
          have hvo : ∀ v ∈ vs, v.oneCell' = true := by
            intro v hv; simp only [vs, Builtin.zeroCells, Array.toList_map, List.mem_map, Array.toList_range, List.mem_range] at hv; obtain ⟨i, hi', rfl⟩ := hv
            have hs0 : 0 < z.cells.size := by
              rcases Nat.eq_zero_or_pos z.cells.size with h | h
              · rw [h] at hi'; simp at hi'
              · exact h
            have hlt := Nat.mod_lt i hs0; rw [getElem!_pos z.cells _ hlt]; exact List.all_eq_true.1 hz1 _ (by simp)
          have h3 : (off + n) * sz ≤ p.cap * p.sz := by rw [hsz]; exact Nat.mul_le_mul_right _ (by omega)
          rw [Nat.add_mul] at h3; have hst := run_storeCells_at P p.blk (off * sz) t vs 0 arr w hobj.blk (by omega) hvo; simp only [Nat.add_zero] at hst; refine ⟨.value (.tuple #[]), w.setRow p.blk (arr.toList.take (off * sz) ++ vs ++ arr.toList.drop (off * sz + vs.length)).toArray, ?_, .inl ⟨_, rfl, fin _ ?_ _⟩⟩
          · obtain ⟨n', rfl⟩ : ∃ q, n = q + 1 := ⟨n - 1, by omega⟩
            rw [hsz] at hxv; simp [execOp, resolve, invoke, builtin, Builtin.clear_, underlying, hu, program, Sem.run, hz w, hxv]; simp [vs, Sem.run] at hst; rw [hst]; rfl
          have hapart := hi.heap.apart p.blk (mem_fpsOf.2 ⟨_, hget_mem ho, by rw [hF]; simp⟩); have hob : ∀ b, ok b → (w.setRow p.blk (arr.toList.take (off * sz) ++ vs ++ arr.toList.drop (off * sz + vs.length)).toArray).heap[b]? = w.heap[b]? := fun b hb => setRow_other w p.blk b _ (fun e => hapart.1 (e ▸ hb))
          have hw := Inv'.write (obj' := lob sz f (l.take off)) hi ho rfl rfl hp hF (arr' := (arr.toList.take (off * sz) ++ vs ++ arr.toList.drop (off * sz + vs.length)).toArray) (vs' := us.take (off * sz)) (t := t)
            { sz := hobj.sz
              unif := by
                intro x hx; simp only [lob, List.map_take] at hx; exact hunif x (List.mem_of_mem_take hx)
              len := by have hl : (lob sz f l).elems.length ≤ p.cap := hobj.len; simp [lob] at hl ⊢; omega
              cap := hobj.cap
              blk := setRow_heap w _ _ _ _ _ hobj.blk
              room := by simp; omega
              vals := by
                intro k v hk'; simp only [List.getElem?_toArray]; rw [List.getElem?_take] at hk'
                split at hk'
                · rename_i hlt
                  have hl2 : (arr.toList.take (off * sz)).length = off * sz := by simp; omega
                  rw [List.append_assoc, List.getElem?_append_left (by omega), List.getElem?_take, if_pos hlt]; simpa using hobj.vals k v hk'
                · cases hk'
              cells := by
                refine ⟨hcells.1, ?_⟩; have e1 : (lob sz f (l.take off)).elems = (lob sz f l).elems.take off := by simp [lob, List.map_take]
                rw [e1, flat_take _ sz _ hunif]; exact FroL.stable hob (fun _ hb => hb) (hcells.2.take _) }
          have hpm := hput_perm (x := lob sz f (l.take off)) hi.heap.keys ho; exact ⟨ok, ρ, F, hw.perm hpm⟩
    · subst h0
      exact none0 _ _ hxv) hn
theorem ResOf.nwT {α : Type} {h : LHeap} {k n sz : Nat} {e : α → LV} {l : List α} (hle : n ≤ l.length) (ho : hget k h = some (lob sz e l)) : ResOf h (.own k 0 n) (.nw sz ((l.take n).map e) false) [k] [] := by
  have := ResOf.own (n := n) (dp := false) ho rfl (.inl ⟨rfl, .inl rfl⟩) (by simpa [lob] using hle); have e1 : (lob sz e l).elems.take n = (l.take n).map e := by simp [lob, List.map_take]
  rwa [e1] at this
end
end Go.Lift
namespace Go.Lift
open Go.RowKit
section
variable {P : Program} {E : Ent} {Q : Exit → LState → Prop} {s : LState} {all : Array Oper}
end
end Go.Lift
/- The lifted logic, part 37: append in place, where the room is known. Own work. -/
namespace Go.Lift
open Go.RowKit
section
variable {P : Program} {E : Ent} {Q : Exit → LState → Prop} {s : LState} {all : Array Oper} {rest : List Oper} {d : Nat} {ty : TypeId} {pos : String} {af : Array Edge}
end
end Go.Lift
/- The lifted logic, part 38: a call that hands back a list of its own and something beside it. Own work. -/
namespace Go.Lift
open Go.RowKit
section
variable {P : Program} {E : Ent} {Q : Exit → LState → Prop} {s : LState} {all : Array Oper} {rest : List Oper} {d : Nat} {ty : TypeId} {pos : String} {af : Array Edge}
end
end Go.Lift
/- The lifted logic, part 39: a call whose list that comes back is not wanted. Own work. -/
namespace Go.Lift
open Go.RowKit
section
variable {P : Program} {E : Ent} {Q : Exit → LState → Prop} {s s' : LState} {all : Array Oper} {rest : List Oper} {d : Nat} {ty : TypeId} {pos : String} {af : Array Edge}
end
end Go.Lift
/- The lifted logic, part 40: short forms of the steps of a region of open order. Own work. -/
namespace Go.Lift
theorem zn {α β : Type} {a : α} {c : β} {R G : Prop} (hg : G) : a = a ∧ (c = c ∨ R) ∧ G := ⟨rfl, .inl rfl, hg⟩
section
variable {P : Program} {E : Ent}
theorem dq {KS : List (Nat × Nat)} {all : Array Oper} {o : Oper} {os : List Oper} {rd hk : List Nat} {ps : List (List Nat × List Nat)} {i : Nat} {acc : List SF} {ah : List HF} {k : List SF → List HF → List Rec → Prop} (d : Nat) {y : LV} (hin : (rd.all (hasT · acc) && hk.all (hasH · ah)) = true)
    (h1 : ∀ u : LState, Good KS u → AllF u.tm (rd.map (look · acc)) → AllH u.h (hk.map (lookH · ah)) → LWo P E all [o] (fun e t => e = .normal ∧ (t = (Ef.put d y).run u ∨ t.le ((Ef.put d y).run u)) ∧ Good KS t) u)
    (h2 : DSE P E KS all os ps (i + 1) ((Ef.put d y).accS i acc) ((Ef.put d y).accH i ah) (fun a b r => k a b (⟨.put d y, rd.map (look · acc), hk.map (lookH · ah)⟩ :: r))) : DSE P E KS all (o :: os) ((rd, hk) :: ps) i acc ah k := ⟨hin, .put d y, trivial, h1, h2⟩
end
def ins1 (x : Nat) (l : List Nat) : List Nat := bif l.contains x then l else x :: l
def preD : List Oper → List (List Nat) → List (List Nat)
  | [], acc => acc
  | o :: r, acc => preD r (acc ++ [(edgesOf o).foldl (fun l j => ins1 j ((acc.getD j []).foldl (fun l x => ins1 x l) l)) []])
theorem mem_ins1 {x y : Nat} {l : List Nat} : y ∈ ins1 x l ↔ y = x ∨ y ∈ l := by
  unfold ins1; cases h : l.contains x with
  | true =>
    have : x ∈ l := by simpa using h
    rw [cond_true]; exact ⟨.inr, fun h => h.elim (fun e => e ▸ this) id⟩
  | false => rw [cond_false, List.mem_cons]
theorem mem_foldI {y : Nat} : ∀ (xs l : List Nat), y ∈ xs.foldl (fun l x => ins1 x l) l ↔ y ∈ xs ∨ y ∈ l
  | [], l => by simp
  | x :: xs, l => by rw [List.foldl_cons, mem_foldI xs, mem_ins1, List.mem_cons]; grind
theorem preD_mem : ∀ (ops : List Oper) (a b : List (List Nat)), a.length = b.length → (∀ j x, x ∈ a.getD j [] ↔ x ∈ b.getD j []) → ∀ j x, x ∈ (preD ops a).getD j [] ↔ x ∈ (preAll ops b).getD j []
  | [], a, b, _, h => h
  | o :: r, a, b, hl, h => by
    rw [preD, preAll]
    have hx : ∀ x, x ∈ (edgesOf o).foldl (fun l j => ins1 j ((a.getD j []).foldl (fun l x => ins1 x l) l)) [] ↔ x ∈ (edgesOf o).flatMap fun j => j :: b.getD j [] := by
      intro x
      have key : ∀ (es l : List Nat), x ∈ es.foldl (fun l j => ins1 j ((a.getD j []).foldl (fun l x => ins1 x l) l)) l ↔ (x ∈ es.flatMap fun j => j :: b.getD j []) ∨ x ∈ l := by
        intro es
        induction es with
        | nil => intro l; simp
        | cons e es ih =>
          intro l; rw [List.foldl_cons, ih, mem_ins1, mem_foldI, h e x, List.flatMap_cons, List.mem_append, List.mem_cons]
          grind
      rw [key]; simp
    refine preD_mem r _ _ (by simp [hl]) ?_; intro j x; rcases Nat.lt_trichotomy j a.length with h1 | h1 | h1
    · rw [List.getD_eq_getElem?_getD, List.getElem?_append_left h1, List.getD_eq_getElem?_getD, List.getElem?_append_left (hl ▸ h1), ← List.getD_eq_getElem?_getD, ← List.getD_eq_getElem?_getD]
      exact h j x
    · subst h1
      rw [List.getD_eq_getElem?_getD, List.getElem?_append_right (Nat.le_refl _), List.getD_eq_getElem?_getD, hl, List.getElem?_append_right (Nat.le_refl _)]; simpa using hx x
    · rw [List.getD_eq_getElem?_getD, List.getElem?_eq_none (by simp; omega), List.getD_eq_getElem?_getD, List.getElem?_eq_none (by simp; omega)]
theorem ahead_D (l : List Oper) (i j : Nat) : ahead (preD l []) i j = ahead (preAll l []) i j := by
  unfold ahead; rw [Bool.eq_iff_iff, List.contains_iff_mem, List.contains_iff_mem]; exact preD_mem l [] [] rfl (fun _ _ => Iff.rfl) j i
theorem drawOK_D {l : List Oper} {T : List OI} {FS : List (Nat × Option Nat × List Nat)} {FH : List (Nat × Option Nat)} (h : drawOK (preD l []) T FS FH = true) : drawOK (preAll l []) T FS FH = true := by
  unfold drawOK harmless at *; simp only [ahead_D] at h; exact h
theorem DSE.mono {P : Program} {E : Ent} {KS : List (Nat × Nat)} {all : Array Oper} : ∀ {os : List Oper} {ps : List (List Nat × List Nat)} {i : Nat} {acc : List SF} {ah : List HF} {k k' : List SF → List HF → List Rec → Prop}, (∀ a b r, k a b r → k' a b r) → DSE P E KS all os ps i acc ah k → DSE P E KS all os ps i acc ah k'
  | [], [], _, _, _, _, _, hk, h => hk _ _ _ h
  | o :: os, (rd, hkk) :: ps, i, acc, ah, k, k', hk, ⟨h0, ef, h1, h2, h3⟩ => ⟨h0, ef, h1, h2, DSE.mono (fun a b r h => hk a b _ h) h3⟩
  | [], _ :: _, _, _, _, _, _, _, h => h
  | _ :: _, [], _, _, _, _, _, _, h => h
section
variable {P : Program} {E : Ent} {Q : Exit → LState → Prop}
theorem LWP.drawF {id : Nat} {l : List Oper} {s : LState} (KS : List (Nat × Nat)) (U : List Nat) (plan : List (List Nat × List Nat)) (out outH : List Nat) (hm : P.follows .mixedOrders = true)
    (hedge : (l.zipIdx.all fun (o, i) => (edgesOf o).all fun j => decide (j < i)) = true) (hgood : KS.all (fun p => lone p.1 (hdel p.2 s.h)) = true) (hnd : outH.Nodup)
    (h : DSE P E KS l.toArray l plan 0 (base s U) (heapF s.h) (fun acc ah recs => (out.all (hasT · acc) && outH.all (hasH · ah)) = true ∧ drawOK (preD l []) (recs.map Rec.info) ((out.map (look · acc)).map fun f => (f.t, f.est, f.rf)) ((outH.map (lookH · ah)).map fun f => (f.k, f.est)) = true ∧ Q .normal ⟨out.map fun t => (t, (look t acc).v), outH.map fun k => (k, (lookH k ah).obj)⟩)) :
    LWP P E (.region id l.toArray true) Q s := LWP.drawE KS U plan out outH hm hedge hgood hnd (DSE.mono (fun a b r ⟨h1, h2, h3⟩ => ⟨h1, drawOK_D h2, h3⟩) h)
end
end Go.Lift
/- The lifted logic, part 41: variables in memory whose fields hold lists of one's own. Own work. -/
namespace Go.Lift
open Go.RowKit
def ovr (cs : List LV) (os : List (Nat × LV)) : List LV := os.foldl (fun cs p => cs.set p.1 p.2) cs
def xob {α : Type} (sz : Nat) (f : α → LV) (y : α) (os : List (Nat × LV)) : LObj := { kind := .box, sz := sz, elems := [.agg (ovr (f y).cells os)] }
section
variable {P : Program} {E : Ent} {Q : Exit → LState → Prop} {s : LState} {all : Array Oper} {rest : List Oper} {d : Nat} {ty : TypeId} {pos : String} {af : Array Edge}
theorem Inv'.cellsO {k sz : Nat} {cs cs' : List LV} (ho : hget k s.h = some { kind := .box, sz := sz, elems := [.agg cs] }) (hl : cs'.length = cs.length) {a : Act} {w : World} {ok : Nat → Prop} {ρ : Env} {F : Nat → List Nat}
    (himp : ∀ vs, RepL w ok ρ cs vs → RepL w ok ρ cs' vs) (hi : Inv' E s a w ok ρ F) : Inv' E { tm := s.tm, h := (k, { kind := .box, sz := sz, elems := [.agg cs'] }) :: hdel k s.h } a w ok ρ F := by
  have hp := hput_perm (x := { kind := .box, sz := sz, elems := [.agg cs'] }) hi.heap.keys ho
  have key : Inv' E { tm := s.tm, h := hput k { kind := .box, sz := sz, elems := [.agg cs'] } s.h } a w ok ρ F := by
    refine { hi with heap := ⟨by rw [hput_keys]; exact hi.heap.keys, ?_, ?_, ?_⟩, mine := ?_ }
    · intro p hp
      rcases mem_hput hp with ⟨e1, e2⟩ | ⟨_, hm⟩
      · obtain ⟨pk, po⟩ := p
        simp only at e1 e2; subst e1; subst e2; rcases hi.heap.objs _ (hget_mem ho) with ⟨_, h2, _⟩ | ⟨p, arr, t, vs, fps, h1, h2, h3⟩
        · simp at h2
        · refine .inr ⟨p, arr, t, vs, fps, h1, h2, ⟨h3.sz, ?_, by simpa using h3.len, h3.cap, h3.blk, h3.room, h3.vals, ?_⟩⟩
          · intro z hz
            simp at hz; subst hz; rw [LV.cells_agg, hl]; exact h3.unif (.agg cs) (by simp)
          · obtain ⟨h4, h5⟩ := h3.cells
            refine ⟨h4, ?_⟩; simp only [List.flatMap_cons, List.flatMap_nil, List.append_nil, LV.cells_agg] at h5 ⊢; exact himp _ h5
      · exact hi.heap.objs p hm
    · rw [fpsOf_keys, hput_keys, ← fpsOf_keys]; exact hi.heap.nodup
    · intro b hb
      rw [fpsOf_keys, hput_keys, ← fpsOf_keys] at hb; exact hi.heap.apart b hb
    · intro p hp hro b hb hlt
      rcases mem_hput hp with ⟨e1, e2⟩ | ⟨_, hm⟩
      · obtain ⟨pk, po⟩ := p
        simp only at e1 e2; subst e1; subst e2; exact hi.mine _ (hget_mem ho) rfl b hb hlt
      · exact hi.mine p hm hro b hb hlt
  exact key.perm hp
theorem RepL.set1 {w : World} {ok : Nat → Prop} {ρ : Env} {y z : LV} (hy : ∀ v, Rep w ok ρ y v → Rep w ok ρ z v) : ∀ {cs : List LV} {vs : List Value} {j : Nat}, cs[j]? = some y → RepL w ok ρ cs vs → RepL w ok ρ (cs.set j z) vs
  | _, _, 0, hj, .cons h h1 h2 => by simp at hj; subst hj; exact .cons (hy _ h) h1 h2
  | _, _, j + 1, hj, .cons h h1 h2 => by simp at hj; exact .cons h h1 (RepL.set1 hy hj h2)
theorem Inv.junkX {α : Type} {k j sz : Nat} {f : α → LV} {y : α} {os : List (Nat × LV)} (os' : List (Nat × LV)) {z : LV} (ho : hget k s.h = some (xob sz f y os)) (hj : (ovr (f y).cells os)[j]? = some z) (he : ovr (f y).cells os' = (ovr (f y).cells os).set j .junk)
    {a : Act} {w : World} (hi : Inv E s a w) : Inv E { tm := s.tm, h := (k, xob sz f y os') :: hdel k s.h } a w := by
  obtain ⟨ok, ρ, F, hi⟩ := hi; exact ⟨ok, ρ, F, hi.cellsO (cs' := ovr (f y).cells os') ho (by rw [he, List.length_set]) (fun vs h => by rw [he]; exact h.set1 (fun v _ => .junk v) hj)⟩
theorem LWo.junkX {α : Type} {ops : List Oper} {sz : Nat} {f : α → LV} {y : α} {os : List (Nat × LV)} {z : LV} (k j : Nat) (os' : List (Nat × LV)) (ho : hget k s.h = some (xob sz f y os)) (hj : (ovr (f y).cells os)[j]? = some z) (he : ovr (f y).cells os' = (ovr (f y).cells os).set j .junk)
    (hn : LWo P E all ops Q { tm := s.tm, h := (k, xob sz f y os') :: hdel k s.h }) : LWo P E all ops Q s := LWo.ghost (fun _ _ hi => hi.junkX os' ho hj he) hn
theorem LWP.junkX {α : Type} {c : Code} {sz : Nat} {f : α → LV} {y : α} {os : List (Nat × LV)} {z : LV} (k j : Nat) (os' : List (Nat × LV)) (ho : hget k s.h = some (xob sz f y os)) (hj : (ovr (f y).cells os)[j]? = some z) (he : ovr (f y).cells os' = (ovr (f y).cells os).set j .junk)
    (hn : LWP P E c Q { tm := s.tm, h := (k, xob sz f y os') :: hdel k s.h }) : LWP P E c Q s := LWP.ghost (fun _ _ hi => hi.junkX os' ho hj he) hn
theorem LWo.storeX {α : Type} {T : TypeId} {x v : Operand} {o j n sz : Nat} {f : α → LV} {y : α} {os : List (Nat × LV)} {z : LV} (y' : α) (os' : List (Nat × LV)) (hz : ∀ w, (sizeOf T).run P w = .ok n w) (hx : s.eval x = .ptr o 0 j) (hv : s.eval v = z) (hc : z.cellable = true) (hzn : z.cells.length = n)
    (ho : hget o s.h = some (xob sz f y os)) (hj : Nat.ble (j + n) (ovr (f y).cells os).length = true) (he : ovr (f y').cells os' = setRange (ovr (f y).cells os) j z.cells)
    (hn : LWo P E all rest Q { s with h := (o, xob sz f y' os') :: hdel o s.h }) :
    LWo P E all ({ dst := none, op := .store T x v, type := ty, pos := pos, after := af, guard := none } :: rest) Q s :=
  LWo.store (y := .agg (ovr (f y).cells os)) (.agg (ovr (f y').cells os')) hz hx hv hc hzn ho rfl (.inr rfl) rfl (Nat.le_of_ble_eq_true hj) he hn
theorem Inv'.newNil {k sz : Nat} (hkp : E.keep.contains k = false) (hl : Lift.lone k (hdel k s.h) = true) {a : Act} {w : World} {ok : Nat → Prop} {ρ : Env} {F : Nat → List Nat} (h : Inv' E s a w ok ρ F) :
    Inv' E { tm := kill k s.tm, h := (k, { kind := .fro, sz := sz, elems := [] }) :: hdel k s.h } a w ok (upd ρ k none) (upd F k []) := by
  have h' := h.sub (hdel_sub k s.h); have hne := not_key (hdel_key k s.h); refine { h' with heap := ⟨?_, ?_, ?_, ?_⟩, mine := ?_, slots := ?_, keep := fun j hj => (upd_other ρ _ (show j ≠ k from fun e => by subst e; simp [hj] at hkp)).trans (h.keep j hj) }
  · simp only [hkeys, List.map_cons, List.nodup_cons]
    exact ⟨hdel_key k s.h, h'.heap.keys⟩
  · intro p hp
    rcases List.mem_cons.1 hp with rfl | hp
    · exact .inl ⟨by simp, rfl, by simp⟩
    · show ObjRep _ _ _ p.1 p.2 (upd F k [] p.1)
      rw [upd_other _ _ (hne p hp)]; exact (h'.heap.objs p hp).stable (fun _ _ => rfl) (fun _ hb => hb) (fun _ _ => rfl) (upd_other _ _ (hne p hp)) (fun j hj => upd_other _ _ (fun e => lone_refs hl p hp (e ▸ hj)))
  · have : fpsOf (upd F k []) ((k, ({ kind := .fro, sz := sz, elems := [] } : LObj)) :: hdel k s.h) = fpsOf F (hdel k s.h) := by
      simp only [fpsOf, List.flatMap_cons, upd_same, List.nil_append]; exact fpsOf_congr (fun p hp => upd_other _ _ (hne p hp))
    show (fpsOf (upd F k []) ((k, ({ kind := .fro, sz := sz, elems := [] } : LObj)) :: hdel k s.h)).Nodup; rw [this]; exact h'.heap.nodup
  · intro b hb
    obtain ⟨p, hp, hb⟩ := mem_fpsOf.1 hb; rcases List.mem_cons.1 hp with rfl | hp
    · simp at hb
    · rw [upd_other _ _ (hne p hp)] at hb
      exact h'.heap.apart b (mem_fpsOf.2 ⟨p, hp, hb⟩)
  · intro p hp hro b hb
    rcases List.mem_cons.1 hp with rfl | hp
    · simp at hb
    · rw [upd_other _ _ (hne p hp)] at hb
      exact h'.mine p hp hro b hb
  · intro t'
    refine Rep.stable (fun _ _ => rfl) (fun _ hb => hb) (fun o ho => upd_other _ _ (fun e => kill_refs k t' s.tm (e ▸ ho))) ?_; show Rep w ok ρ (get t' (kill k s.tm)) _; rw [get_kill]
    split
    · exact .junk _
    · exact h.slots t'
theorem hget_other {k j : Nat} {o : LObj} (h : (j == k) = false) {hp : LHeap} : hget k ((j, o) :: hdel j hp) = hget k hp := by
  have : j ≠ k := by simpa using h
  simp only [hget]; rw [if_neg this, hget_del (fun e => this e.symm)]
theorem Inv.nilX {α : Type} {o k j sz sz' : Nat} {f : α → LV} {y : α} {os : List (Nat × LV)} (os' : List (Nat × LV)) (hkp : E.keep.contains k = false) (hne : (k == o) = false) (ho : hget o s.h = some (xob sz f y os)) (hj : (ovr (f y).cells os)[j]? = some (.imm (.slice none 0 0)))
    (he : ovr (f y).cells os' = (ovr (f y).cells os).set j (.own k 0 0)) (hl : Lift.lone k (hdel k s.h) = true) {a : Act} {w : World} (hi : Inv E s a w) :
    Inv E { tm := kill k s.tm, h := (o, xob sz f y os') :: (k, { kind := .fro, sz := sz', elems := [] }) :: hdel o (hdel k s.h) } a w := by
  obtain ⟨ok, ρ, F, hi⟩ := hi; have h1 := hi.newNil (sz := sz') hkp hl
  have h2 := h1.cellsO (k := o) (cs' := ovr (f y).cells os') (sz := sz) (cs := ovr (f y).cells os) ((hget_other hne).trans ho) (by rw [he, List.length_set]) (fun vs h => by
    rw [he]; exact h.set1 (fun v hv => by rw [hv.imm_inv]; exact .own0) hj)
  have e : hdel o ((k, ({ kind := .fro, sz := sz', elems := [] } : LObj)) :: hdel k s.h) = (k, { kind := .fro, sz := sz', elems := [] }) :: hdel o (hdel k s.h) := by
    simp only [hdel]; rw [if_neg (by simpa using hne)]
  rw [e] at h2; exact ⟨_, _, _, h2⟩
theorem LWo.nilX {α : Type} {ops : List Oper} {sz : Nat} {f : α → LV} {y : α} {os : List (Nat × LV)} (o k j sz' : Nat) (os' : List (Nat × LV)) (ho : hget o s.h = some (xob sz f y os)) (hj : (ovr (f y).cells os)[j]? = some (.imm (.slice none 0 0)))
    (he : ovr (f y).cells os' = (ovr (f y).cells os).set j (.own k 0 0)) (hl : Lift.lone k (hdel k s.h) = true) (hne : (k == o) = false := by exact rfl) (hkp : E.keep.contains k = false := by exact rfl)
    (hn : LWo P E all ops Q { tm := kill k s.tm, h := (o, xob sz f y os') :: (k, { kind := .fro, sz := sz', elems := [] }) :: hdel o (hdel k s.h) }) : LWo P E all ops Q s := LWo.ghost (fun _ _ hi => hi.nilX os' hkp hne ho hj he hl) hn
theorem LWo.allocX {α : Type} {T : TypeId} {z : Value} {zs : List Value} {sz : Nat} {f : α → LV} {y : α} (os : List (Nat × LV)) (k : Nat) (hz : ∀ w, (zeroValue T).run P w = .ok z w) (hzs : z = .agg zs.toArray) (h1 : zs.all Value.oneCell' = true) (hlen : zs.length = sz) (hy : ovr (f y).cells os = zs.map LV.imm) (hl : lone k (hdel k s.h) = true) (hkp : E.keep.contains k = false := by exact rfl) (hd : Nat.blt d E.n = true := by exact rfl)
    (hn : LWo P E all rest Q { tm := (d, .ptr k 0 0) :: kill k s.tm, h := (k, xob sz f y os) :: hdel k s.h }) :
    LWo P E all ({ dst := some d, op := .alloc T, type := ty, pos := pos, after := af, guard := none } :: rest) Q s :=
  LWo.alloc k (.agg (zs.map LV.imm)) hz (.inl ⟨zs, hzs, rfl, by simpa using h1⟩) hkp hl hd (by
    have e : xob sz f y os = { kind := .box, sz := (LV.agg (zs.map LV.imm)).cells.length, elems := [.agg (zs.map LV.imm)] } := by
      unfold xob; rw [hy, LV.cells_agg, List.length_map, hlen]
    rw [← e]; exact hn)
theorem LWo.boxX {α : Type} {T : TypeId} {x : Operand} {sz : Nat} {f : α → LV} {y : α} {os : List (Nat × LV)} (k : Nat) (hx : s.eval x = .agg (ovr (f y).cells os)) (hsz : (ovr (f y).cells os).length = sz) (hl : lone k (hdel k s.h) = true) (hy : LV.at?.atL k (ovr (f y).cells os) = false) (hm : Nat.ble sz 1000000 = true) (hkp : E.keep.contains k = false := by exact rfl) (hd : Nat.blt d E.n = true := by exact rfl)
    (hn : LWo P E all rest Q { tm := (d, .ptr k 0 0) :: kill k s.tm, h := (k, xob sz f y os) :: hdel k s.h }) :
    LWo P E all ({ dst := some d, op := .box T x, type := ty, pos := pos, after := af, guard := none } :: rest) Q s := by
  subst hsz; exact LWo.box k (.agg (ovr (f y).cells os)) hx rfl hkp hl hy hd (Nat.le_of_ble_eq_true hm) hn
end
end Go.Lift
/- The lifted logic, part 42: a list of one's own lent at any place, and a tuple that comes back. Own work. -/
namespace Go.Lift
open Go.RowKit
section
variable {P : Program} {E : Ent} {Q : Exit → LState → Prop} {s : LState} {all : Array Oper} {rest : List Oper} {d : Nat} {ty : TypeId} {pos : String} {af : Array Edge}
end
end Go.Lift
/- The lifted logic, part 43: arguments of any type, as values that are read. Own work. -/
namespace Go.Lift
open Go.RowKit Go.ChangeShapes Go.WideShapes
def okB (W : World) : Nat → Prop := fun k => k < W.heap.size
structure Opn (P : Program) (T : TypeId) (n : Nat) {α : Type} (e : α → LV) (B : α → Prop) : Prop where
  size : P.cellsOf T = n
  len : ∀ x, (e x).cells.length = n
  read : ∀ {H : Type} (enc : TypeId × Value → H) (W : World) (fuel : Nat) (cs : List Value) (x : DataW H × List MemPlace), DataW.trod enc P W 0 (fun _ => true) true fuel T cs = some x → ∃ a, B a ∧ FroL W (okB W) (e a).cells cs
def B_int (n : Int) : Prop := -9223372036854775808 ≤ n ∧ n ≤ 9223372036854775807
def B_bool (b : Bool) : Prop := True
def B_string (b : ByteArray) : Prop := b.size ≤ maxLen
def B_list {α : Type} (B : α → Prop) (l : List α) : Prop := l.length ≤ maxLen ∧ ∀ x ∈ l, B x
theorem opn_int {P : Program} {T : TypeId} (h : P.underlying T = some (.int .i64)) (hc : P.cellsOf T = 1) : Opn P T 1 e_int B_int where
  size := hc
  len := fun _ => rfl
  read := fun enc W fuel cs x ht => by
    obtain ⟨n, rfl, _, hw⟩ := DataW.trod_int h ht; exact ⟨n, bounds_i64 hw, .cons (.imm _) rfl .nil⟩
theorem opn_slice {P : Program} {T E : TypeId} {n : Nat} {α : Type} {e : α → LV} {B : α → Prop} (h : P.underlying T = some (.slice E)) (hc : P.cellsOf T = 1) (hn : 0 < n) (hE : Opn P E n e B) : Opn P T 1 (fun l : List α => .sl n (l.map e)) (B_list B) where
  size := hc
  len := fun _ => rfl
  read := fun enc W fuel cs x ht => by
    rcases DataW.trod_slice h ht with ⟨rfl, _⟩ | ⟨a, len, cap, elems, rest, m, _, rfl, _, _, hl, hm, hlen, hel, _, _⟩
    · exact ⟨[], ⟨Nat.zero_le _, by simp⟩, .cons (.sl0 (Nat.zero_le _)) rfl .nil⟩
    · rcases Nat.eq_zero_or_pos len with rfl | hpos
      · exact ⟨[], ⟨Nat.zero_le _, by simp⟩, .cons (.sl0 hm) rfl .nil⟩
      · have hget : ∀ k, k < len → ∃ cs' y, W.cells? 0 (a.add (k * n)) n = some cs' ∧ DataW.trod enc P W 0 (fun _ => true) true m E cs' = some y := fun k hk => by
          have he := hel k hk; have hy : elems[k]? = some (elems[k]'(by omega)) := List.getElem?_eq_getElem _; rw [hy, Option.bind_eq_some_iff, hE.size] at he; obtain ⟨cs', h1, h2⟩ := he; exact ⟨cs', _, h1, h2⟩
        obtain ⟨blk, off, spot⟩ := a
        have hspot : spot = none ∧ blk < W.heap.size := by
          obtain ⟨cs', y, h1, h2⟩ := hget 0 hpos; obtain ⟨_, hcl, hcell⟩ := World.cells?_some h1
          obtain ⟨c0, hc0⟩ : ∃ c0, cs'[0]? = some c0 := by
            cases cs' with
            | nil => simp at hcl; omega
            | cons c _ => exact ⟨c, rfl⟩
          have g0 := hcell 0 hn; rw [hc0] at g0; have hs : spot = none := by simpa [Addr.add] using World.cell?_spot g0
          subst hs; refine ⟨rfl, ?_⟩; rcases Nat.lt_or_ge blk W.heap.size with h | h
          · exact h
          · simp [World.cell?, Array.getElem?_eq_none h, Addr.add] at g0
        obtain ⟨rfl, hblk⟩ := hspot
        have key : ∀ k, k ≤ len → ∃ l : List α, l.length = k ∧ (∀ x ∈ l, B x) ∧ ∃ vs, FroL W (okB W) ((l.map e).flatMap LV.cells) vs ∧ Cells W ⟨blk, off, none⟩ vs ∧ vs.length = k * n := by
          intro k
          induction k with
          | zero => intro _; exact ⟨[], rfl, by simp, [], .nil, by intro k v h; simp at h, by simp⟩
          | succ k ih =>
            intro hk; obtain ⟨l, h1, h2, vs, h3, h4, h5⟩ := ih (by omega); obtain ⟨cs', y, hcs, hy⟩ := hget k (by omega); obtain ⟨x, hx, hf⟩ := hE.read enc W m cs' y hy; obtain ⟨_, hcl, hcell⟩ := World.cells?_some hcs; refine ⟨l ++ [x], by simp [h1], ?_, vs ++ cs', ?_, ?_, by rw [List.length_append, h5, hcl, Nat.succ_mul]⟩
            · intro z hz
              rcases List.mem_append.1 hz with hz | hz
              · exact h2 z hz
              · rw [List.mem_singleton.1 hz]; exact hx
            · rw [List.map_append, List.flatMap_append]
              refine h3.append ?_; simpa using hf
            · intro j v hj
              rcases Nat.lt_or_ge j vs.length with hlt | hge
              · exact h4 j v (by rwa [List.getElem?_append_left hlt] at hj)
              · rw [List.getElem?_append_right hge] at hj
                have := hcell (j - vs.length) (by have := (List.getElem?_eq_some_iff.1 hj).1; omega); rw [hj] at this
                have e1 : ((⟨blk, off, none⟩ : Addr).add (k * n)).add (j - vs.length) = (⟨blk, off, none⟩ : Addr).add j := by
                  have e2 : off + k * n + (j - vs.length) = off + j := by omega
                  rw [add_plain, add_plain, add_plain, e2]
                rw [e1] at this; exact this
        obtain ⟨l, h1, h2, vs, h3, h4, h5⟩ := key len (Nat.le_refl _); refine ⟨l, ⟨by omega, h2⟩, ?_⟩; have := Fro.sl (w := W) (ok := okB W) (sz := n) (c := cap) (xs := l.map e) (ad := ⟨blk, off, none⟩) (by intro e0; have := congrArg List.length e0; rw [List.length_map, h1, List.length_nil] at this; omega) (by intro y hy; obtain ⟨b, _, rfl⟩ := List.mem_map.1 hy; exact hE.len b) h3 h4 hblk (by simp; omega) hm; rw [List.length_map, h1] at this; exact .cons this rfl .nil
structure OpnF (P : Program) (fs : List Field) (off tot : Nat) {α : Type} (e : α → List LV) (B : α → Prop) : Prop where
  len : ∀ x, off + (e x).length = tot
  read : ∀ {H : Type} (enc : TypeId × Value → H) (W : World) (fuel : Nat) (cs : List Value), cs.length = tot → (∀ (i : Nat) (f : Field), fs[i]? = some f → ∃ y, DataW.trod enc P W 0 (fun _ => true) true fuel f.type ((cs.drop f.offset).take (P.cellsOf f.type)) = some y) → ∃ a, B a ∧ FroL W (okB W) (e a) (cs.drop off)
theorem opnF_nil {P : Program} {tot : Nat} : OpnF P [] tot tot (fun _ : Unit => []) (fun _ => True) where
  len := fun _ => rfl
  read := fun enc W fuel cs hl _ => ⟨(), trivial, by rw [List.drop_of_length_le (by omega)]; exact .nil⟩
theorem opnF_cons {P : Program} {f : Field} {fs : List Field} {off n tot : Nat} {α β : Type} {e : α → LV} {B : α → Prop} {e' : β → List LV} {B' : β → Prop} (hE : Opn P f.type n e B) (ho : f.offset = off) (hr : OpnF P fs (off + n) tot e' B') :
    OpnF P (f :: fs) off tot (fun p : α × β => (e p.1).cells ++ e' p.2) (fun p => B p.1 ∧ B' p.2) where
  len := fun x => by have := hr.len x.2; have := hE.len x.1; simp; omega
  read := fun enc W fuel cs hl hf => by
    obtain ⟨y, hy⟩ := hf 0 f rfl; rw [hE.size, ho] at hy; obtain ⟨a, ha, h1⟩ := hE.read enc W fuel _ y hy; obtain ⟨b, hb, h2⟩ := hr.read enc W fuel cs hl (fun i g hg => hf (i + 1) g (by simpa using hg)); refine ⟨(a, b), ⟨ha, hb⟩, ?_⟩
    have e1 : cs.drop off = (cs.drop off).take n ++ cs.drop (off + n) := by
      rw [← List.drop_drop]; exact (List.take_append_drop n _).symm
    rw [e1]; exact h1.append h2
theorem opn_struct {P : Program} {T : TypeId} {fs : Array Field} {tot : Nat} {α σ : Type} {e : α → List LV} {B : α → Prop} {eS : σ → LV} {BS : σ → Prop} (g : α → σ) (h : P.underlying T = some (.struct fs)) (hc : P.cellsOf T = tot) (hF : OpnF P fs.toList 0 tot e B)
    (hg : ∀ a, eS (g a) = .agg (e a)) (hl : ∀ s, (eS s).cells.length = tot) (hB : ∀ a, B a → BS (g a)) : Opn P T tot eS BS where
  size := hc
  len := hl
  read := fun enc W fuel cs x ht => by
    obtain ⟨xs, n, _, _, hcl, hxl, hf⟩ := DataW.trod_struct h ht
    obtain ⟨a, ha, hr⟩ := hF.read enc W n cs (hcl.trans hc) (fun i f hi => by
      have hi' : fs[i]? = some f := by rw [← Array.getElem?_toList]; exact hi
      have := hf i f hi'
      have hlt : i < xs.length := by
        have := (List.getElem?_eq_some_iff.1 hi).1; simp at this; omega
      rw [this, List.getElem?_eq_getElem hlt]; exact ⟨_, rfl⟩)
    rw [List.drop_zero] at hr; exact ⟨g a, hB a ha, by rw [hg a]; exact hr⟩
theorem Opn.one {P : Program} {T : TypeId} {α : Type} {e : α → LV} {B : α → Prop} (h : Opn P T 1 e B) (he : ∀ a, (e a).cells = [e a]) {H : Type} {enc : TypeId × Value → H} {W : World} {v : Value} {d : DataW H} {p : List MemPlace} (hd : DataW.Trod enc P W 0 (fun _ => true) true T v d p) (hv : v.cells.toList = [v]) : ∃ a, B a ∧ Fro W (okB W) (e a) v := by
  obtain ⟨fuel, hf⟩ := hd; rw [hv] at hf; obtain ⟨a, ha, h1⟩ := h.read enc W fuel _ _ hf; rw [he a] at h1; cases h1 with
  | cons h2 _ _ => exact ⟨a, ha, h2⟩
theorem Opn.agg {P : Program} {T : TypeId} {n : Nat} {α : Type} {e : α → LV} {B : α → Prop} (h : Opn P T n e B) (he : ∀ a, e a = .agg (e a).cells) {H : Type} {enc : TypeId × Value → H} {W : World} {cs : Array Value} {d : DataW H} {p : List MemPlace} (hd : DataW.Trod enc P W 0 (fun _ => true) true T (.agg cs) d p) : ∃ a, B a ∧ Fro W (okB W) (e a) (.agg cs) := by
  obtain ⟨fuel, hf⟩ := hd; have e1 : (Value.agg cs).cells.toList = cs.toList := rfl; rw [e1] at hf; obtain ⟨a, ha, h1⟩ := h.read enc W fuel _ _ hf; refine ⟨a, ha, ?_⟩; rw [he a]; have := Fro.agg h1; simpa using this
theorem okW_agg {P : Program} {T : TypeId} {fs : Array Field} (h : P.underlying T = some (.struct fs)) {W : World} {r : Reach} {b : Nat} {v : Value} (hv : Value.okWide P W r b T v) : ∃ cs, v = .agg cs := by
  unfold Value.okWide at hv; rw [h] at hv; obtain ⟨cs, rfl, _⟩ := hv; exact ⟨cs, rfl⟩
theorem law_any {P : Program} {f : FuncId} {xs : List LV} (h : Ret P f xs (e_bool true)) (W : World) (vs : List Value) (hv : RepT W (okB W) (fun _ => none) xs vs) :
    Calls P f vs.toArray W fun e w' => e = .returned (.bool true) ∧ Below W.heap.size W w' := by
  have hc := h.2 W vs (okB W) (fun _ => none) (fun _ => []) hv ⟨by simp [hkeys], by simp, by simp [fpsOf], by simp [fpsOf]⟩ (fun _ h => h); refine Calls.mono hc ?_; rintro e w' ⟨v, r, hl', ok', F', fr, rfl, ⟨rfl, rfl⟩, hext, hres, _⟩; refine ⟨?_, ⟨hext.os, hext.tape, hext.output, hext.size, fun k hk => hext.block k hk (by simp [fpsOf, rwOf])⟩⟩; cases hres with
  | fro h => cases h; rfl
end Go.Lift
/- The lifted logic, part 45: calls that read lists of one's own and hand back a list of flat elements. Own work. -/
namespace Go.Lift
open Go.RowKit
theorem immL_append : ∀ {a b : List LV}, LV.noFro.immL a = true → LV.noFro.immL b = true → LV.noFro.immL (a ++ b) = true
  | [], _, _, h => h
  | x :: a, b, h, k => by
    cases x <;> simp [LV.noFro.immL] at h; exact immL_append (a := a) h k
theorem immL_map {α : Type} {e : α → LV} (h : ∀ x, LV.noFro.immL (e x).cells = true) : ∀ l : List α, LV.noFro.immL ((l.map e).flatMap LV.cells) = true
  | [] => rfl
  | x :: l => by rw [List.map_cons, List.flatMap_cons]; exact immL_append (h x) (immL_map h l)
section
variable {P : Program} {E : Ent} {Q : Exit → LState → Prop} {s : LState} {all : Array Oper} {rest : List Oper} {d : Nat} {ty : TypeId} {pos : String} {af : Array Edge}
theorem LWo.ncallV {α : Type} {f : Operand} {ops : List Operand} {ts : Array TypeId} {g : FuncId} {caps vals xs : List LV} {vw : List Nat} {sz : Nat} {e : α → LV} {l : List α} (k : Nat) (hf : s.eval f = .clo g caps) (hv : ops.map s.eval ++ caps = vals)
    (hfn : Ret P g xs (.nw sz (l.map e) false)) (hA : ArgsOK s [] vals xs vw) (he : ∀ x, LV.noFro.immL (e x).cells = true) (hl : Lift.lone k (hdel k s.h) = true) (hkp : E.keep.contains k = false := by exact rfl) (hd : Nat.blt d E.n = true := by exact rfl)
    (hn : LWo P E all rest Q { tm := (d, .own k 0 l.length) :: kill k s.tm, h := (k, lob sz e l) :: hdel k s.h }) :
    LWo P E all ({ dst := some d, op := .call { callee := .value f, args := ops.toArray, argTypes := ts }, type := ty, pos := pos, after := af, guard := none } :: rest) Q s :=
  LWo.ocall (R := fun ys => ys = l.map e) k hf hv (hfn.mono fun r h ⟨h1, h2⟩ => ⟨⟨_, h1, rfl⟩, h2⟩) hA (.inr (by
    rintro ys rfl; show (false || LV.noFro.immL ((l.map e).flatMap LV.cells)) = true; rw [immL_map he]; rfl)) hkp hl hd (by rintro ys rfl; rw [List.length_map]; exact hn)
end
end Go.Lift
/- The lifted logic, part 46: lists that are owned with all that they lead to: what goes into them. Own work. -/
namespace Go.Lift
open Go.RowKit
theorem DeepL.cut {w : World} : ∀ {xs : List LV} {vs : List Value} {f : List Nat} (n : Nat), DeepL w xs vs f → ∃ fA fC, f = fA ++ fC ∧ DeepL w (xs.take n) (vs.take n) fA ∧ DeepL w (xs.drop n) (vs.drop n) fC
  | _, _, _, 0, h => ⟨[], _, rfl, by simpa using DeepL.nil, by simpa using h⟩
  | _, _, _, n + 1, .nil => ⟨[], [], rfl, by simpa using DeepL.nil, by simpa using DeepL.nil⟩
  | _, _, _, n + 1, .cons (f := f) h h1 h2 => by
    obtain ⟨fA, fC, rfl, hA, hC⟩ := DeepL.cut n h2; exact ⟨f ++ fA, fC, by rw [List.append_assoc], by simpa using DeepL.cons h h1 hA, by simpa using hC⟩
theorem DeepL.put {w : World} {xs ys : List LV} {vs us : List Value} {f g : List Nat} (h : DeepL w xs vs f) (q : Nat) (hy : DeepL w ys us g) : ∃ fA fB fC, f = fA ++ (fB ++ fC) ∧ DeepL w (setRange xs q ys) (vs.take q ++ us ++ vs.drop (q + ys.length)) (fA ++ g ++ fC) := by
  obtain ⟨fA, fR, rfl, hA, hR⟩ := h.cut q; obtain ⟨fB, fC, rfl, hB, hC⟩ := hR.cut ys.length; refine ⟨fA, fB, fC, rfl, ?_⟩; rw [List.drop_drop, List.drop_drop] at hC; exact (hA.append hy).append hC
theorem Deep.one {w : World} {x : LV} {v : Value} {f : List Nat} (h : Deep w x v f) (hx : ∃ sz xs, x = .sl sz xs) : v.oneCell' = true := by
  obtain ⟨sz, xs, rfl⟩ := hx; cases h <;> rfl
section
variable {P : Program} {E : Ent} {Q : Exit → LState → Prop} {s : LState} {all : Array Oper} {rest : List Oper} {d : Nat} {ty : TypeId} {pos : String} {af : Array Edge}
end
end Go.Lift
/- The lifted logic, part 47: lists that own: what is taken out and put back, what is made of lists of one's own. Own work. -/
namespace Go.Lift
open Go.RowKit
def dob {α : Type} (sz : Nat) (f : α → LV) (l : List α) : LObj := { kind := .deep, sz := sz, elems := l.map f }
theorem DCells.append {w : World} {ρ : Env} {xs ys : List LV} {vs us : List Value} {f g : List Nat} (h : DCells w ρ xs vs f) (k : DCells w ρ ys us g) : DCells w ρ (xs ++ ys) (vs ++ us) (f ++ g) := by
  induction h with
  | nil => exact k
  | deep h h1 _ ih => rw [List.append_assoc]; exact .deep h h1 ih
  | own h h1 h2 _ ih => exact .own h h1 h2 ih
  | own0 _ ih => exact .own0 ih
theorem DCells.cut {w : World} {ρ : Env} {xs : List LV} {vs : List Value} {f : List Nat} (h : DCells w ρ xs vs f) : ∀ n : Nat, ∃ fA fC, f = fA ++ fC ∧ DCells w ρ (xs.take n) (vs.take n) fA ∧ DCells w ρ (xs.drop n) (vs.drop n) fC := by
  induction h with
  | nil => intro n; exact ⟨[], [], rfl, by simpa using DCells.nil, by simpa using DCells.nil⟩
  | @deep x v xs vs f g h h1 h2 ih =>
    intro n; cases n with
    | zero => exact ⟨[], _, rfl, by simpa using DCells.nil, by simpa using DCells.deep h h1 h2⟩
    | succ n =>
      obtain ⟨fA, fC, rfl, hA, hC⟩ := ih n; exact ⟨f ++ fA, fC, by rw [List.append_assoc], by simpa using DCells.deep h h1 hA, by simpa using hC⟩
  | own h h1 h2 h3 ih =>
    intro n; cases n with
    | zero => exact ⟨[], _, rfl, by simpa using DCells.nil, by simpa using DCells.own h h1 h2 h3⟩
    | succ n =>
      obtain ⟨fA, fC, rfl, hA, hC⟩ := ih n; exact ⟨fA, fC, rfl, by simpa using DCells.own h h1 h2 hA, by simpa using hC⟩
  | own0 h3 ih =>
    intro n; cases n with
    | zero => exact ⟨[], _, rfl, by simpa using DCells.nil, by simpa using DCells.own0 h3⟩
    | succ n =>
      obtain ⟨fA, fC, rfl, hA, hC⟩ := ih n; exact ⟨fA, fC, rfl, by simpa using DCells.own0 hA, by simpa using hC⟩
section
variable {P : Program} {E : Ent} {Q : Exit → LState → Prop} {s : LState} {all : Array Oper} {rest : List Oper} {d : Nat} {ty : TypeId} {pos : String} {af : Array Edge}
theorem settle_at {a : Act} {w : World} {ok : Nat → Prop} {ρ : Env} {F : Nat → List Nat} (hi : Inv' E s a w ok ρ F) (k : Nat) (hkp : E.keep.contains k = false) (hl : Lift.lone k (hdel k s.h) = true) {fr : List Nat} (hn : fr.Nodup)
    (hb : ∀ b ∈ fr, ¬ ok b ∧ b < w.heap.size ∧ b ∉ fpsOf F s.h ∧ (b < E.w0.heap.size → b ∈ E.lent)) (pl : Option Place) (obj : LObj) (ho : ObjRep w ok (upd ρ k pl) k obj fr) :
    Inv' E { tm := kill k s.tm, h := (k, obj) :: hdel k s.h } a w ok (upd ρ k pl) (upd F k fr) := by
  have h' := hi.sub (hdel_sub k s.h); have hne := not_key (hdel_key k s.h); have hF : ∀ p ∈ hdel k s.h, upd F k fr p.1 = F p.1 := fun p hp => upd_other _ _ (hne p hp)
  have hfps : fpsOf (upd F k fr) ((k, obj) :: hdel k s.h) = fr ++ fpsOf F (hdel k s.h) := by
    have e := fpsOf_congr hF; simp only [fpsOf, List.flatMap_cons, upd_same] at e ⊢; rw [e]
  have hdis : ∀ b ∈ fr, b ∉ fpsOf F (hdel k s.h) := fun b hb' hm => (hb b hb').2.2.1 ((fpsOf_sub (hdel_sub k s.h)).mem hm); refine { h' with heap := ⟨?_, ?_, ?_, ?_⟩, mine := ?_, slots := ?_, keep := fun j hj => (upd_other ρ _ (show j ≠ k from fun e => by subst e; simp [hj] at hkp)).trans (hi.keep j hj) }
  · simp only [hkeys, List.map_cons, List.nodup_cons]
    exact ⟨hdel_key k s.h, h'.heap.keys⟩
  · intro p hp
    rcases List.mem_cons.1 hp with rfl | hp
    · simpa using ho
    · rw [hF p hp]
      exact (h'.heap.objs p hp).stable (fun _ _ => rfl) (fun _ hb => hb) (fun _ _ => rfl) (upd_other _ _ (hne p hp)) (fun j hj => upd_other _ _ (fun e => lone_refs hl p hp (e ▸ hj)))
  · show (fpsOf (upd F k fr) _).Nodup
    rw [hfps, List.nodup_append]; exact ⟨hn, h'.heap.nodup, fun b h1 c h2 e => hdis b h1 (e ▸ h2)⟩
  · intro b hb'
    rw [show ({ tm := kill k s.tm, h := (k, obj) :: hdel k s.h } : LState).h = (k, obj) :: hdel k s.h from rfl, hfps] at hb'; rcases List.mem_append.1 hb' with h1 | h1
    · exact ⟨(hb b h1).1, (hb b h1).2.1⟩
    · exact h'.heap.apart b h1
  · intro p hp hro b hb' hlt
    rcases List.mem_cons.1 hp with rfl | hp
    · rw [upd_same] at hb'; exact (hb b hb').2.2.2 hlt
    · rw [hF p hp] at hb'
      exact h'.mine p hp hro b hb' hlt
  · intro t
    show Rep w ok _ (get t (kill k s.tm)) _; refine Rep.stable (w := w) (ρ := ρ) (fun _ _ => rfl) (fun _ hb => hb) (fun o ho => upd_other _ _ (fun e => kill_refs k t s.tm (e ▸ ho))) ?_; rw [get_kill]
    split
    · exact .junk _
    · exact hi.slots t
end
end Go.Lift
/- The lifted logic, part 48: appending to lists that own. Own work. -/
namespace Go.Lift
open Go.RowKit
section
variable {P : Program} {E : Ent} {Q : Exit → LState → Prop} {s : LState} {all : Array Oper} {rest : List Oper} {d : Nat} {ty : TypeId} {pos : String} {af : Array Edge}
theorem Inv'.alloc {a : Act} {w : World} {ok : Nat → Prop} {ρ : Env} {F : Nat → List Nat} (h : Inv' E s a w ok ρ F) (o : Obj) : Inv' E s a (w.alloc o) ok ρ F := by
  have hob : ∀ b, ok b → (w.alloc o).heap[b]? = w.heap[b]? := fun b hb => heap_alloc_lt w _ b (h.okk b hb).1; refine { defers := h.defers, size := h.size, ext := h.ext.alloc _, okk := fun b hb => ⟨by simp; have := (h.okk b hb).1; omega, (h.okk b hb).2⟩, heap := ⟨h.heap.keys, ?_, h.heap.nodup, ?_⟩, mine := h.mine, slots := ?_, keep := h.keep }
  · intro p hp
    exact (h.heap.objs p hp).stable hob (fun _ hb => hb) (fun b hb => heap_alloc_lt w _ b (h.heap.apart b (mem_fpsOf.2 ⟨p, hp, hb⟩)).2) rfl (fun _ _ => rfl)
  · intro b hb
    have := h.heap.apart b hb; exact ⟨this.1, by simp; omega⟩
  · intro t
    exact (h.slots t).stable hob (fun _ hb => hb) (fun _ _ => rfl)
end
end Go.Lift
/- The lifted logic, part 49: lists that own, as mirrors tell them. Own work. -/
namespace Go.Lift
open Go.RowKit
section
variable {P : Program} {E : Ent} {Q : Exit → LState → Prop} {s : LState} {all : Array Oper} {rest : List Oper} {d : Nat} {ty : TypeId} {pos : String} {af : Array Edge}
theorem SinkL.rep {h : LHeap} {cs ds : List LV} (hs : SinkL h cs ds []) : ∀ n : Nat, SinkL h (List.replicate n cs).flatten (List.replicate n ds).flatten []
  | 0 => .nil
  | n + 1 => by
    rw [List.replicate_succ, List.flatten_cons, List.replicate_succ, List.flatten_cons]
    have app : ∀ {a b c e : List LV} {k k' : List Nat}, SinkL h a b k → SinkL h c e k' → SinkL h (a ++ c) (b ++ e) (k ++ k') := by
      intro a
      induction a with
      | nil => intro b c e k k' h1 h2; cases h1; exact h2
      | cons x a ih =>
        intro b c e k k' h1 h2; cases h1 with
        | cons g1 g2 => rw [List.append_assoc]; exact .cons g1 (ih g2 h2)
    exact app hs (SinkL.rep hs n)
end
section
variable {P : Program}
end
end Go.Lift
/- The lifted logic, part 50: calls that take a list that owns, and hand one back. Own work. -/
namespace Go.Lift
open Go.RowKit
section
variable {P : Program} {E : Ent} {Q : Exit → LState → Prop} {s : LState} {all : Array Oper} {rest : List Oper} {d : Nat} {ty : TypeId} {pos : String} {af : Array Edge}
theorem QRet.own1D {t k n : Nat} {obj : LObj} {Post : LV → LHeap → Prop} {e : Exit} (he : e = .normal ∨ e = .ret) (hx : get t s.tm = .own k 0 n) (ho : hget k s.h = some obj) (hro : obj.ro = false) (hk : obj.kind = .deep) (hn : n ≤ obj.elems.length) (h : Post (.nw obj.sz (obj.elems.take n) true) []) : QRet E [t] Post e s :=
  ⟨he, _, [], ⟨⟨[k], [], .inl ⟨_, rfl, by show ResOf _ (get t s.tm) _ _ _; rw [hx]; exact .own ho hro (.inr ⟨hk, rfl⟩) hn⟩, by simp, by simp⟩, by simp [hkeys], by simp⟩, h⟩
end
end Go.Lift
/- The lifted logic, part 51: structs that own, handed back. Own work. -/
namespace Go.Lift
open Go.RowKit
theorem DeepL.imms {w : World} {ok : Nat → Prop} : ∀ {xs : List LV} {us : List Value} {g : List Nat}, immL xs = true → DeepL w xs us g → g = [] ∧ FroL w ok xs us
  | [], _, _, _, .nil => ⟨rfl, .nil⟩
  | x :: xs, _, _, h1, .cons h3 h4 h5 => by
    cases x <;> simp [immL, LV.noFro.immL] at h1; cases h3; obtain ⟨rfl, h6⟩ := DeepL.imms (ok := ok) h1 h5; exact ⟨rfl, .cons (.imm _) h4 h6⟩
theorem Deep.sl_inv {w : World} {sz : Nat} {zs : List LV} {v : Value} {f : List Nat} (h : Deep w (.sl sz zs) v f) : (zs = [] ∧ f = [] ∧ ∃ a, v = .slice a 0 0) ∨
    ∃ c B vs arr t fps, f = B :: fps ∧ v = .slice (some ⟨B, 0, none⟩) zs.length c ∧ (∀ x ∈ zs, x.cells.length = sz) ∧ DeepL w (zs.flatMap LV.cells) vs fps ∧ w.heap[B]? = some (.cells arr t (0, 0)) ∧ c * sz ≤ arr.size ∧ (∀ (k : Nat) (v : Value), vs[k]? = some v → arr[k]? = some v) ∧ zs.length ≤ c ∧ c ≤ maxLen := by
  cases h with
  | sl0 => exact .inl ⟨rfl, rfl, _, rfl⟩
  | sl h1 h2 h3 h4 h5 h6 h7 => exact .inr ⟨_, _, _, _, _, _, rfl, rfl, h1, h2, h3, h4, h5, h6, h7⟩
section
variable {P : Program} {E : Ent} {Q : Exit → LState → Prop} {s : LState} {all : Array Oper} {rest : List Oper} {d : Nat} {ty : TypeId} {pos : String} {af : Array Edge}
theorem LWo.callS {f : Operand} {ops : List Operand} {ts : Array TypeId} {dst : Option Nat} {g : FuncId} {caps vals xs : List LV} {hl : LHeap} {vw : List Nat} {Post : LV → LHeap → Prop} (hf : s.eval f = .clo g caps) (hv : ops.map s.eval ++ caps = vals)
    (hfn : Does P g xs hl Post) (hA : ArgsOK s hl vals xs vw) (hL : LentOK s hl)
    (hn : ∀ r hl', Post r hl' → (vw = [] ∨ (hl' = [] ∧ r.noFro = true)) ∧ ∃ s', (∀ (a : Act) (w : World) (ok : Nat → Prop) (ρ : Env) (F : Nat → List Nat) (v : Value) (fr : List Nat), Inv' E { tm := s.tm, h := hl' ++ hdels (hkeys (rwOf hl)) s.h } a w ok ρ F → Res w ok r v fr → fr.Nodup →
      (∀ b ∈ fr, ¬ ok b ∧ b < w.heap.size ∧ b ∉ fpsOf F (hl' ++ hdels (hkeys (rwOf hl)) s.h) ∧ (b < E.w0.heap.size → b ∈ E.lent)) → Inv E s' (a.put dst v) w) ∧ LWo P E all rest Q s') :
    LWo P E all ({ dst := dst, op := .call { callee := .value f, args := ops.toArray, argTypes := ts }, type := ty, pos := pos, after := af, guard := none } :: rest) Q s := by
  intro a w ⟨ok, ρ, F, hi⟩; refine wpList_plain rfl fun K hK => ?_; have hF := hi.eval f; rw [hf] at hF; obtain ⟨cv, hfv, hcr⟩ := hF.clo_inv
  have hT : RepT w ok ρ vals (ops.map a.eval ++ cv) := by
    rw [← hv]
    have app : ∀ {xs ys : List LV} {vs us : List Value}, RepT w ok ρ xs vs → RepL w ok ρ ys us → RepT w ok ρ (xs ++ ys) (vs ++ us) := by
      intro xs
      induction xs with
      | nil =>
        intro ys vs us h k; cases h; exact k.toT
      | cons x xs ih => intro ys vs us h k; cases h with | cons h1 h2 => exact .cons h1 (ih h2 k)
    exact app (evalL ops hi) hcr
  have hrun : (execOp a.eval { dst := dst, op := .call { callee := .value f, args := ops.toArray, argTypes := ts }, type := ty, pos := pos, after := af, guard := none }).run P w = .ok (.enter g (ops.map a.eval ++ cv).toArray) w := by
    have he := hfn.1 (ops.map a.eval ++ cv).toArray w; simp only [execOp, resolve, hfv, Deferred.ofValue]; simp [invoke]; simpa using he
  unfold Oper.wp; rw [hrun]; show Calls P g _ w _; have hviews := hA.views
  have hkeyL : ∀ k ∈ hkeys hl, k ∈ hkeys s.h := fun k hk => by
    obtain ⟨o, ho⟩ : ∃ o, (k, o) ∈ hl := by simpa [hkeys] using hk
    obtain ⟨z, hz, _⟩ := hL.here _ ho; have := hget_mem hz; simp [hkeys]; exact ⟨z, this⟩
  have hHeap : HeapOK w (fun b => ok b ∨ ∃ o ∈ vw, b ∈ F o) ρ F hl := by
    refine ⟨hL.keys, ?_, ?_, ?_⟩
    · intro p hp
      obtain ⟨o, ho, ho'⟩ := hL.here p hp; have hob := hi.heap.objs _ (hget_mem ho)
      have hob' : ObjRep w ok ρ p.1 p.2 (F p.1) := by
        rcases ho' with e | e
        · rw [e]; exact hob
        · rw [e]; exact hob.ro true
      exact hob'.stable (fun _ _ => rfl) (fun _ hb => .inl hb) (fun _ _ => rfl) rfl (fun _ _ => rfl)
    · rw [fpsOf_keys]
      exact nodup_keys hi.heap.keys hi.heap.nodup hL.keys hkeyL
    · intro b hb
      rw [fpsOf_keys] at hb; obtain ⟨j, hj, hb⟩ := List.mem_flatMap.1 hb; obtain ⟨o, ho⟩ : ∃ o, (j, o) ∈ s.h := by simpa [hkeys] using hkeyL j hj
      have := hi.heap.apart b (mem_fpsOf.2 ⟨_, ho, hb⟩); refine ⟨?_, this.2⟩; rintro (h1 | ⟨o', ho', h1⟩)
      · exact this.1 h1
      · obtain ⟨hn1, obj', hm'⟩ := hviews o' ho'
        exact nodup_apart hi.heap.keys hi.heap.nodup ho hm' (fun e => hn1 (by have e' : j = o' := e; rw [← e']; exact hj)) b hb h1
  have hokc : ∀ b, (ok b ∨ ∃ o ∈ vw, b ∈ F o) → b < w.heap.size := by
    rintro b (h | ⟨o, ho, h⟩)
    · exact (hi.okk b h).1
    · obtain ⟨_, obj', hm'⟩ := hviews o ho
      exact (hi.heap.apart b (mem_fpsOf.2 ⟨_, hm', h⟩)).2
  refine (hfn.2 w _ (fun b => ok b ∨ ∃ o ∈ vw, b ∈ F o) ρ F (hA.rep hi (fun _ hb => .inl hb) (fun o ho b hb => .inr ⟨o, ho, hb⟩) hT) hHeap hokc).mono ?_; rintro e w' ⟨v, r, hl', ok', F', fr, rfl, hpost, hext, hres, hk1, ho1, hn1, hb1, hok1⟩; obtain ⟨hvw, s', hset, hrest⟩ := hn r hl' hpost; obtain ⟨okn, Does', hI, hR, hnd, hbf⟩ := call_base hi hL hviews hvw hext hres hk1 ho1 hn1 hb1 hok1; exact hK _ _ (hrest _ _ (hset _ _ _ _ _ _ _ hI hR hnd hbf))
theorem Inv'.more {a : Act} {w : World} {ok : Nat → Prop} {ρ : Env} {F : Nat → List Nat} (hi : Inv' E s a w ok ρ F) {fr : List Nat}
    (hb : ∀ b ∈ fr, ¬ ok b ∧ b < w.heap.size ∧ b ∉ fpsOf F s.h ∧ (b < E.w0.heap.size → b ∈ E.lent)) : Inv' E s a w (fun b => ok b ∨ b ∈ fr) ρ F := by
  refine { hi with okk := ?_, heap := ⟨hi.heap.keys, ?_, hi.heap.nodup, ?_⟩, slots := fun t => (hi.slots t).stable (fun _ _ => rfl) (fun _ hb => .inl hb) (fun _ _ => rfl) }
  · rintro b (h | h)
    · exact hi.okk b h
    · exact ⟨(hb b h).2.1, fun hlt => .inr ((hb b h).2.2.2 hlt)⟩
  · intro p hp
    exact (hi.heap.objs p hp).stable (fun _ _ => rfl) (fun _ hb => .inl hb) (fun _ _ => rfl) rfl (fun _ _ => rfl)
  · intro b h
    refine ⟨?_, (hi.heap.apart b h).2⟩; rintro (h1 | h1)
    · exact (hi.heap.apart b h).1 h1
    · exact (hb b h1).2.2.1 h
end
end Go.Lift
/- The lifted logic, part 52: calls that hand back a list that owns, and a value. Own work. -/
namespace Go.Lift
open Go.RowKit
section
variable {P : Program} {E : Ent} {Q : Exit → LState → Prop} {s : LState} {all : Array Oper} {rest : List Oper} {d : Nat} {ty : TypeId} {pos : String} {af : Array Edge}
end
end Go.Lift
/- The lifted logic, part 53: structs that own several lists, handed back. Own work. -/
namespace Go.Lift
open Go.RowKit
inductive Outs : List LV → List LV → LHeap → Prop
  | nil : Outs [] [] []
  | imm {v : Value} {xs ys : List LV} {os : LHeap} : Outs xs ys os → Outs (.imm v :: xs) (.imm v :: ys) os
  | sl {k sz n : Nat} {kd : Kind} {zs xs ys : List LV} {os : LHeap} : (kd = .deep ∨ kd = .fro ∧ immL (zs.flatMap LV.cells) = true) → n = zs.length → Outs xs ys os → Outs (.sl sz zs :: xs) (.own k 0 n :: ys) ((k, { kind := kd, sz := sz, elems := zs }) :: os)
def killS : LHeap → Tm → Tm
  | [], t => t
  | (k, _) :: os, t => kill k (killS os t)
def addS : LHeap → LHeap → LHeap
  | [], h => h
  | (k, o) :: os, h => (k, o) :: hdel k (addS os h)
def loneS : LHeap → LHeap → Bool
  | [], _ => true
  | (k, _) :: os, h => lone k (hdel k (addS os h)) && (!(hkeys os).contains k && loneS os h)
theorem Outs.refs {xs ys : List LV} {os : LHeap} (h : Outs xs ys os) : LV.refs.refsL ys = hkeys os := by
  induction h with
  | nil => rfl
  | imm _ ih => simpa [LV.refs.refsL, LV.refs] using ih
  | sl _ _ _ ih => simp [LV.refs.refsL, LV.refs, hkeys] at ih ⊢; exact ih
section
variable {P : Program} {E : Ent} {Q : Exit → LState → Prop} {s : LState} {all : Array Oper} {rest : List Oper} {d : Nat} {ty : TypeId} {pos : String} {af : Array Edge}
theorem Outs.run {a : Act} {w : World} {ok : Nat → Prop} {ρ : Env} {F : Nat → List Nat} (hi : Inv' E s a w ok ρ F) {cs ys : List LV} {os : LHeap} (ho : Outs cs ys os) : ∀ {vs : List Value} {fr : List Nat}, DeepL w cs vs fr → fr.Nodup →
    (∀ b ∈ fr, ¬ ok b ∧ b < w.heap.size ∧ b ∉ fpsOf F s.h ∧ (b < E.w0.heap.size → b ∈ E.lent)) → loneS os s.h = true → (∀ k ∈ hkeys os, E.keep.contains k = false) →
    ∃ ρ' F', Inv' E { tm := killS os s.tm, h := addS os s.h } a w ok ρ' F' ∧ RepL w ok ρ' ys vs ∧ ∀ b ∈ fpsOf F' (addS os s.h), b ∈ fr ∨ b ∈ fpsOf F s.h := by
  induction ho with
  | nil =>
    intro vs fr hD _ _ _ _; cases hD; exact ⟨ρ, F, hi, .nil, fun b hb => .inr hb⟩
  | imm _ ih =>
    intro vs fr hD hn hb hl hk; cases hD with
    | cons h1 h2 h3 =>
      cases h1; obtain ⟨ρ', F', g1, g2, g3⟩ := ih h3 hn hb hl hk; exact ⟨ρ', F', g1, .cons (.fro (.imm _)) h2 g2, g3⟩
  | @sl k sz n kd zs xs ys os hkd hnz hO ih =>
    intro vs fr hD hn hb hl hk; subst hnz; unfold loneS at hl; rw [Bool.and_eq_true, Bool.and_eq_true] at hl; obtain ⟨hl1, hl2, hl3⟩ := hl; cases hD with
    | @cons _ v _ vs' fB g h1 h2 h3 =>
      rw [List.nodup_append] at hn; obtain ⟨n1, n2, n3⟩ := hn; obtain ⟨ρ1, F1, q1, q2, q3⟩ := ih h3 n2 (fun b hb' => hb b (by simp [hb'])) hl3 (fun j hj => hk j (by simp [hkeys] at hj ⊢; exact .inr hj)); have hkk := hk k (by simp [hkeys])
      have hkr : k ∉ LV.refs.refsL ys := by
        rw [hO.refs]; simpa using hl2
      have hbB : ∀ b ∈ fB, ¬ ok b ∧ b < w.heap.size ∧ b ∉ fpsOf F1 (addS os s.h) ∧ (b < E.w0.heap.size → b ∈ E.lent) := fun b hb' => by
        have h := hb b (by simp [hb']); refine ⟨h.1, h.2.1, fun hm => ?_, h.2.2.2⟩; rcases q3 b hm with h4 | h4
        · exact n3 b hb' b h4 rfl
        · exact h.2.2.1 h4
      have fin : ∀ pl : Option Place, ObjRep w ok (upd ρ1 k pl) k { kind := kd, sz := sz, elems := zs } fB → Rep w ok (upd ρ1 k pl) (.own k 0 zs.length) v →
          ∃ ρ' F', Inv' E { tm := killS ((k, { kind := kd, sz := sz, elems := zs }) :: os) s.tm, h := addS ((k, { kind := kd, sz := sz, elems := zs }) :: os) s.h } a w ok ρ' F' ∧ RepL w ok ρ' (.own k 0 zs.length :: ys) (v :: vs') ∧ ∀ b ∈ fpsOf F' (addS ((k, { kind := kd, sz := sz, elems := zs }) :: os) s.h), b ∈ fB ++ g ∨ b ∈ fpsOf F s.h := by
        intro pl p1 p2; have hi2 := settle_at q1 k hkk hl1 n1 hbB pl _ p1; refine ⟨_, _, hi2, .cons p2 h2 (RepL.stable (fun _ _ => rfl) (fun _ hb => hb) (fun o ho => upd_other _ _ (fun e => hkr (e ▸ ho))) q2), fun b hb' => ?_⟩; obtain ⟨q, hq, hb2⟩ := mem_fpsOf.1 hb'; rcases List.mem_cons.1 hq with rfl | hq
        · rw [upd_same] at hb2
          exact .inl (by simp [hb2])
        · rw [upd_other F1 fB (show q.1 ≠ k from not_key (hdel_key k _) q hq)] at hb2
          rcases q3 b (mem_fpsOf.2 ⟨q, (hdel_sub k _).mem hq, hb2⟩) with h4 | h4
          · exact .inl (by simp [h4])
          · exact .inr h4
      rcases h1.sl_inv with ⟨rfl, rfl, A, rfl⟩ | ⟨c, B, us, arr2, t2, fps2, rfl, rfl, m1, m2, m3, m4, m5, m6, m7⟩
      · exact fin none (.inl ⟨by simp, rfl, rfl⟩) .own0
      · refine fin (some ⟨B, c, sz⟩) (.inr ⟨⟨B, c, sz⟩, arr2, t2, us, fps2, by simp, rfl, { sz := rfl, unif := m1, len := m6, cap := m7, blk := m3, room := m4, vals := m5, cells := ?_ }⟩) ?_
        · rcases hkd with rfl | ⟨rfl, himm⟩
          · exact m2
          · exact DeepL.imms himm m2
        · have := Rep.own (w := w) (ok := ok) (ρ := upd ρ1 k (some ⟨B, c, sz⟩)) (o := k) (off := 0) (n := zs.length) (c := c) (p := ⟨B, c, sz⟩) (by simp) (by simp) m6
          simpa using this
theorem LWo.scallM {α : Type} {f : Operand} {ops : List Operand} {ts : Array TypeId} {g : FuncId} {caps vals xs : List LV} {e : α → LV} {y : α} {ys : List LV} (os : LHeap) (hf : s.eval f = .clo g caps) (hv : ops.map s.eval ++ caps = vals)
    (hfn : Ret P g xs (.dv (e y).cells)) (hA : ArgsOK s [] vals xs []) (ho : Outs (e y).cells ys os) (hl : loneS os s.h = true) (hkp : (hkeys os).all (fun k => !E.keep.contains k) = true) (hd : Nat.blt d E.n = true := by exact rfl)
    (hn : LWo P E all rest Q { tm := (d, .agg ys) :: killS os s.tm, h := addS os s.h }) :
    LWo P E all ({ dst := some d, op := .call { callee := .value f, args := ops.toArray, argTypes := ts }, type := ty, pos := pos, after := af, guard := none } :: rest) Q s := by
  refine LWo.callS hf hv hfn hA ⟨by simp [hkeys], by simp⟩ ?_; rintro r hl' ⟨rfl, rfl⟩; refine ⟨.inl rfl, _, ?_, hn⟩; intro a w ok ρ F v fr hi hr hnd hb; have e0 : ([] : LHeap) ++ hdels (hkeys (rwOf [])) s.h = s.h := by simp [rwOf, hkeys]
  rw [e0] at hi; rw [show ({ tm := s.tm, h := s.h } : LState) = s from rfl] at hi; simp only [e0] at hb; cases hr with
  | fro h => cases h
  | dv hD =>
    obtain ⟨ρ', F', g1, g2, _⟩ := ho.run hi hD hnd hb hl (fun k hk => by
      have := List.all_eq_true.1 hkp k hk; simpa using this)
    exact ⟨_, _, _, g1.put hd (.agg g2)⟩
end
end Go.Lift
/- The lifted logic, part 54: a list of one's own lent to be read; what comes back may lead to its elements, never to the list. Own work. -/
namespace Go.Lift
open Go.RowKit
section
variable {P : Program} {E : Ent} {Q : Exit → LState → Prop} {s : LState} {all : Array Oper} {rest : List Oper} {d : Nat} {ty : TypeId} {pos : String} {af : Array Edge}
end
end Go.Lift
/- The lifted logic, part 55: regions of open order in which what leads to what is told until an operation. Own work. -/
namespace Go.Lift
open Go.RowKit
section
variable {P : Program} {E : Ent} {Q : Exit → LState → Prop}
def DSEB (P : Program) (E : Ent) (KB : List ((Nat × Nat) × List Nat)) (all : Array Oper) : List Oper → List (List Nat × List Nat × List (Nat × Nat)) → Nat → List SF → List HF → (List SF → List HF → List Rec → Prop) → Prop
  | o :: os, (rd, hk, KS) :: ps, i, acc, ah, k => (rd.all (hasT · acc) && hk.all (hasH · ah)) = true ∧ ∃ ef : Ef, ef.good KS ∧ (∀ p ∈ KB, p.2.contains i = true ∨ ef.good [p.1]) ∧ (∀ u : LState, Good KS u → AllF u.tm (rd.map (look · acc)) → AllH u.h (hk.map (lookH · ah)) → LWo P E all [o] (fun e t => e = .normal ∧ (t = ef.run u ∨ t.le (ef.run u)) ∧ Good KS t) u) ∧
      DSEB P E KB all os ps (i + 1) (ef.accS i acc) (ef.accH i ah) (fun a b r => k a b (⟨ef, rd.map (look · acc), hk.map (lookH · ah)⟩ :: r))
  | [], [], _, acc, ah, k => k acc ah []
  | _, _, _, _, _, _ => False
theorem DSEB.out {KB : List ((Nat × Nat) × List Nat)} {all : Array Oper} : ∀ {os : List Oper} {ps : List (List Nat × List Nat × List (Nat × Nat))} {i : Nat} {acc : List SF} {ah : List HF} {k : List SF → List HF → List Rec → Prop}, DSEB P E KB all os ps i acc ah k →
    ∃ (acc' : List SF) (ah' : List HF) (recs : List Rec), k acc' ah' recs ∧ recs.length = os.length ∧ (∀ (j : Nat) (o : Oper) (r : Rec), os[j]? = some o → recs[j]? = some r → r.ok P E ((ps.map (·.2.2)).getD j []) all o ∧ ∀ p ∈ KB, p.2.contains (i + j) = true ∨ r.ef.good [p.1]) ∧
      (∀ f ∈ acc, f ∈ acc') ∧ (∀ f ∈ ah, f ∈ ah') ∧
      (∀ f ∈ acc', f ∈ acc ∨ ∃ j r, f.est = some (i + j) ∧ recs[j]? = some r ∧ r.ef.dst = some f.t ∧ (∀ s, get f.t (r.ef.run s).tm = f.v) ∧ f.rf = f.v.refs) ∧
      (∀ f ∈ ah', f ∈ ah ∨ ∃ j r, f.est = some (i + j) ∧ recs[j]? = some r ∧ (∀ s, hget f.k (r.ef.run s).h = some f.obj)) ∧
      (∀ r ∈ recs, (∀ f ∈ r.rs, f ∈ acc') ∧ ∀ f ∈ r.rk, f ∈ ah')
  | o :: os, (rd, hk, KS) :: ps, i, acc, ah, k, ⟨hin, ef, hgood, hb, h1, h2⟩ => by
    obtain ⟨acc', ah', recs, hk', hlen, hok, hsub, hsubH, hnew, hnewH, hreq⟩ := DSEB.out h2; simp only [Bool.and_eq_true] at hin
    have hs1 : ∀ f ∈ acc, f ∈ ef.accS i acc := by
      intro f hf; cases ef with
      | put d y => simp [Ef.accS, hf]
      | upd d y k o => cases d <;> simp [Ef.accS, hf]
      | make d y k o => simp [Ef.accS, hf]
    have hs2 : ∀ f ∈ ah, f ∈ ef.accH i ah := by
      intro f hf; cases ef <;> simp [Ef.accH, hf]
    refine ⟨acc', ah', _, hk', by simp [hlen], ?_, fun f hf => hsub f (hs1 f hf), fun f hf => hsubH f (hs2 f hf), ?_, ?_, ?_⟩
    · intro j o' r ho hr
      cases j with
      | zero =>
        simp at ho hr; subst ho; subst hr; refine ⟨⟨hgood, fun u hu hrs hrk => ?_⟩, by simpa using hb⟩; exact h1 u hu (AllF.of hrs) (AllH.of hrk)
      | succ j =>
        simp at ho hr; obtain ⟨g1, g2⟩ := hok j o' r ho hr; exact ⟨by simpa using g1, by rw [show i + (j + 1) = i + 1 + j from by omega]; exact g2⟩
    · intro f hf
      rcases hnew f hf with h | ⟨j, r, he, hr, h⟩
      · cases ef with
        | put d y =>
          rcases List.mem_cons.1 h with rfl | h
          · exact .inr ⟨0, _, by simp, rfl, rfl, fun s => by simp [Ef.run, LState.put, get], rfl⟩
          · exact .inl h
        | upd d y kk obj =>
          cases d with
          | none => exact .inl h
          | some d =>
            rcases List.mem_cons.1 h with rfl | h
            · exact .inr ⟨0, _, by simp, rfl, rfl, fun s => by simp [Ef.run, LState.put, get], rfl⟩
            · exact .inl h
        | make d y kk obj =>
          rcases List.mem_cons.1 h with rfl | h
          · exact .inr ⟨0, _, by simp, rfl, rfl, fun s => by simp [Ef.run, get], rfl⟩
          · exact .inl h
      · exact .inr ⟨j + 1, r, by rw [he]; congr 1; omega, by simpa using hr, h⟩
    · intro f hf
      rcases hnewH f hf with h | ⟨j, r, he, hr, h⟩
      · cases ef with
        | put d y => exact .inl h
        | upd d y kk obj =>
          rcases List.mem_cons.1 h with rfl | h
          · refine .inr ⟨0, _, by simp, rfl, fun s => ?_⟩
            cases d <;> simp [Ef.run, LState.put, hget]
          · exact .inl h
        | make d y kk obj =>
          rcases List.mem_cons.1 h with rfl | h
          · exact .inr ⟨0, _, by simp, rfl, fun s => by simp [Ef.run, hget]⟩
          · exact .inl h
      · exact .inr ⟨j + 1, r, by rw [he]; congr 1; omega, by simpa using hr, h⟩
    · intro r hr
      rcases List.mem_cons.1 hr with rfl | hr
      · refine ⟨fun f hf => ?_, fun f hf => ?_⟩
        · obtain ⟨t, ht, rfl⟩ := List.mem_map.1 hf
          exact hsub _ (hs1 _ (look_mem (List.all_eq_true.1 hin.1 t ht)))
        · obtain ⟨t, ht, rfl⟩ := List.mem_map.1 hf
          exact hsubH _ (hs2 _ (lookH_mem (List.all_eq_true.1 hin.2 t ht)))
      · exact hreq r hr
  | [], [], i, acc, ah, k, h => ⟨acc, ah, [], h, rfl, by simp, by simp, by simp, fun f hf => .inl hf, fun f hf => .inl hf, by simp⟩
end
end Go.Lift
/- The lifted logic, part 56: lists some of whose parts are owned: taken out, put back, stored. Own work. -/
namespace Go.Lift
open Go.RowKit
theorem MCells.length {w : World} {ok : Nat → Prop} {ρ : Env} {xs : List LV} {vs : List Value} {f : List Nat} (h : MCells w ok ρ xs vs f) : xs.length = vs.length := by
  induction h with
  | nil => rfl
  | cons _ _ _ ih => simp [ih]
theorem MCells.append {w : World} {ok : Nat → Prop} {ρ : Env} {xs ys : List LV} {vs us : List Value} {f g : List Nat} (h : MCells w ok ρ xs vs f) (k : MCells w ok ρ ys us g) : MCells w ok ρ (xs ++ ys) (vs ++ us) (f ++ g) := by
  induction h with
  | nil => exact k
  | cons h h1 _ ih => rw [List.append_assoc]; exact .cons h h1 ih
theorem MCells.cut {w : World} {ok : Nat → Prop} {ρ : Env} {xs : List LV} {vs : List Value} {f : List Nat} (h : MCells w ok ρ xs vs f) : ∀ n : Nat, ∃ fA fC, f = fA ++ fC ∧ MCells w ok ρ (xs.take n) (vs.take n) fA ∧ MCells w ok ρ (xs.drop n) (vs.drop n) fC := by
  induction h with
  | nil => intro n; exact ⟨[], [], rfl, by simpa using MCells.nil, by simpa using MCells.nil⟩
  | @cons x v xs vs f g h h1 h2 ih =>
    intro n; cases n with
    | zero => exact ⟨[], _, rfl, by simpa using MCells.nil, by simpa using MCells.cons h h1 h2⟩
    | succ n =>
      obtain ⟨fA, fC, rfl, hA, hC⟩ := ih n; exact ⟨f ++ fA, fC, by rw [List.append_assoc], by simpa using MCells.cons h h1 hA, by simpa using hC⟩
theorem MCells.put {w : World} {ok : Nat → Prop} {ρ : Env} {xs ys : List LV} {vs us : List Value} {f g : List Nat} (h : MCells w ok ρ xs vs f) (q : Nat) (hy : MCells w ok ρ ys us g) : ∃ fA fB fC, f = fA ++ (fB ++ fC) ∧ MCells w ok ρ (setRange xs q ys) (vs.take q ++ us ++ vs.drop (q + ys.length)) (fA ++ g ++ fC) := by
  obtain ⟨fA, fR, rfl, hA, hR⟩ := h.cut q; obtain ⟨fB, fC, rfl, hB, hC⟩ := hR.cut ys.length; refine ⟨fA, fB, fC, rfl, ?_⟩; rw [List.drop_drop, List.drop_drop] at hC; exact (hA.append hy).append hC
inductive SinkM1 (h : LHeap) : LV → LV → List Nat → Prop
  | imm (v : Value) : SinkM1 h (.imm v) (.imm v) []
  | nilnw {sz : Nat} : SinkM1 h (.imm (.slice none 0 0)) (.nw sz [] false) []
  | fz {x : LV} : x.pure = true → SinkM1 h x (.tup [x]) []
  | own {k n : Nat} {obj : LObj} : hget k h = some obj → obj.ro = false → obj.kind = .fro → n = obj.elems.length → SinkM1 h (.own k 0 n) (.nw obj.sz obj.elems false) [k]
inductive SinkM (h : LHeap) : List LV → List LV → List Nat → Prop
  | nil : SinkM h [] [] []
  | cons {x y : LV} {xs ys : List LV} {ks ks' : List Nat} : SinkM1 h x y ks → SinkM h xs ys ks' → SinkM h (x :: xs) (y :: ys) (ks ++ ks')
theorem SinkM.length {h : LHeap} : ∀ {xs ys : List LV} {ks : List Nat}, SinkM h xs ys ks → xs.length = ys.length
  | _, _, _, .nil => rfl
  | _, _, _, .cons _ h => by simp [h.length]
theorem SinkM1.inh {h : LHeap} {x y : LV} {ks : List Nat} (hs : SinkM1 h x y ks) : ∀ k ∈ ks, ∃ obj, hget k h = some obj ∧ obj.ro = false := by
  cases hs with
  | own ho hro _ _ => intro k hk; simp at hk; subst hk; exact ⟨_, ho, hro⟩
  | _ => simp
theorem SinkM.inh {h : LHeap} : ∀ {xs ys : List LV} {ks : List Nat}, SinkM h xs ys ks → ∀ k ∈ ks, ∃ obj, hget k h = some obj ∧ obj.ro = false
  | _, _, _, .nil, k, hk => by simp at hk
  | _, _, _, .cons h h', k, hk => by
    rcases List.mem_append.1 hk with hk | hk
    · exact h.inh k hk
    · exact h'.inh k hk
section
variable {P : Program} {E : Ent} {Q : Exit → LState → Prop} {s : LState} {all : Array Oper} {rest : List Oper} {d : Nat} {ty : TypeId} {pos : String} {af : Array Edge}
theorem SinkM1.mix {a : Act} {w : World} {ok : Nat → Prop} {ρ : Env} {F : Nat → List Nat} (hi : Inv' E s a w ok ρ F) {x y : LV} {ks : List Nat} (hs : SinkM1 s.h x y ks) {v : Value} (hr : Rep w ok ρ x v) : ∃ g, MCell w ok ρ y v g ∧ g.Sublist (ks.flatMap F) := by
  cases hs with
  | imm u => rw [hr.imm_inv]; exact ⟨[], .imm _, by simp⟩
  | nilnw => rw [hr.imm_inv]; exact ⟨[], .nw0, by simp⟩
  | fz hp => exact ⟨[], .fz (Rep.pure hp hr), by simp⟩
  | @own k n obj ho hro hk hn =>
    rcases hr.own_inv with ⟨p, c, hp, h2, h3, rfl⟩ | ⟨h0, A, rfl⟩
    · rcases hi.heap.objs _ (hget_mem ho) with ⟨h4, _⟩ | ⟨p', arr, t, vs, fps, h4, hF, hobj⟩
      · rw [hp] at h4; cases h4
      · rw [hp] at h4; cases h4
        have hF' : F k = p.blk :: fps := hF; have hsz : p.sz = obj.sz := hobj.sz; have hcells := hobj.cells; rw [show (k, obj).2.kind = obj.kind from rfl, hk] at hcells; have hroom : p.cap * p.sz ≤ arr.size := hobj.room; have hcap : p.cap ≤ maxLen := hobj.cap; refine ⟨[p.blk], ?_, by rw [List.flatMap_cons, hF']; simp⟩; have := MCell.nw (w := w) (ok := ok) (ρ := ρ) (sz := obj.sz) (c := c) (B := p.blk) (ys := obj.elems) hobj.unif hcells.2 hobj.blk (by rw [← hsz]; exact Nat.le_trans (Nat.mul_le_mul_right _ (by omega)) hroom) hobj.vals (by omega) (by omega); rw [← hn] at this; simpa using this
    · rw [h0] at hn
      have : obj.elems = [] := List.eq_nil_of_length_eq_zero hn.symm; rw [this]; exact ⟨[], .nw0, by simp⟩
theorem SinkM.mix {a : Act} {w : World} {ok : Nat → Prop} {ρ : Env} {F : Nat → List Nat} (hi : Inv' E s a w ok ρ F) : ∀ {xs ys : List LV} {ks : List Nat}, SinkM s.h xs ys ks → ∀ {vs : List Value}, RepL w ok ρ xs vs → ∃ g, MCells w ok ρ ys vs g ∧ g.Sublist (ks.flatMap F)
  | _, _, _, .nil, _, .nil => ⟨[], .nil, by simp⟩
  | _, _, _, .cons h h', _, .cons hr h1 hr' => by
    obtain ⟨g1, e1, e2⟩ := h.mix hi hr; obtain ⟨g2, e3, e4⟩ := SinkM.mix hi h' hr'; exact ⟨g1 ++ g2, .cons e1 h1 e3, by rw [List.flatMap_append]; exact e2.append e4⟩
end
end Go.Lift
/- The lifted logic, part 57: lists some of whose parts are owned, as mirrors tell them. Own work. -/
namespace Go.Lift
open Go.RowKit
inductive UnM1 : LV → LV → Prop
  | imm (v : Value) : UnM1 (.imm v) (.imm v)
  | fz (x : LV) : UnM1 (.tup [x]) x
  | nw (sz : Nat) (xs : List LV) : UnM1 (.nw sz xs false) (.sl sz xs)
inductive UnML : List LV → List LV → Prop
  | nil : UnML [] []
  | cons {x y : LV} {xs ys : List LV} : UnM1 x y → UnML xs ys → UnML (x :: xs) (y :: ys)
theorem UnML.append {a b c d : List LV} (h : UnML a b) (k : UnML c d) : UnML (a ++ c) (b ++ d) := by
  induction h with
  | nil => exact k
  | cons h _ ih => exact .cons h ih
theorem UnML.length {a b : List LV} (h : UnML a b) : a.length = b.length := by
  induction h with
  | nil => rfl
  | cons _ _ ih => simp [ih]
theorem UnML.map {α : Type} {f e : α → LV} (h : ∀ a, UnML (f a).cells (e a).cells) : ∀ l : List α, UnML ((l.map f).flatMap LV.cells) ((l.map e).flatMap LV.cells)
  | [] => .nil
  | a :: l => by
    rw [List.map_cons, List.flatMap_cons, List.map_cons, List.flatMap_cons]; exact (h a).append (UnML.map h l)
theorem UnML.fro {w : World} {ok ok' : Nat → Prop} {ρ : Env} (hok : ∀ b, ok b → ok' b) {xs : List LV} {vs : List Value} {fps : List Nat} (h : MCells w ok ρ xs vs fps) : ∀ {ys : List LV}, UnML xs ys → (∀ b ∈ fps, ok' b) → FroL w ok' ys vs := by
  induction h with
  | nil => intro ys hu _; cases hu; exact .nil
  | cons h h1 _ ih =>
    intro ys hu hf; cases hu with
    | cons h2 h3 =>
      refine .cons ?_ h1 (ih h3 (fun b hb => hf b (by simp [hb]))); cases h2 with
      | imm v => cases h; exact .imm _
      | fz x => cases h with | fz h => exact h.stable (fun _ _ => rfl) hok
      | nw sz zs =>
        cases h with
        | nw0 => exact .sl0 (Nat.zero_le _)
        | nw m1 m2 m3 m4 m5 m6 m7 =>
          rcases zs with _ | ⟨z, zs⟩
          · exact .sl0 m7
          · exact .sl (by simp) m1 (m2.stable (fun _ _ => rfl) hok) (cells_of m3 m5) (hf _ (by simp)) m6 m7
inductive MarkD1 : LV → LV → Prop
  | imm (v : Value) : MarkD1 (.imm v) (.imm v)
  | fz (sz : Nat) (xs : List LV) : MarkD1 (.sl sz xs) (.tup [.sl sz xs])
  | nw (sz : Nat) (xs : List LV) : MarkD1 (.sl sz xs) (.nw sz xs false)
inductive MarkDL : List LV → List LV → Prop
  | nil : MarkDL [] []
  | cons {x y : LV} {xs ys : List LV} : MarkD1 x y → MarkDL xs ys → MarkDL (x :: xs) (y :: ys)
theorem MarkDL.append {a b c d : List LV} (h : MarkDL a b) (k : MarkDL c d) : MarkDL (a ++ c) (b ++ d) := by
  induction h with
  | nil => exact k
  | cons h _ ih => exact .cons h ih
theorem MarkDL.length {a b : List LV} (h : MarkDL a b) : a.length = b.length := by
  induction h with
  | nil => rfl
  | cons _ _ ih => simp [ih]
theorem MarkDL.refs {a b : List LV} (h : MarkDL a b) : LV.refs.refsL b = [] := by
  induction h with
  | nil => rfl
  | cons h _ ih =>
    rw [LV.refs.refsL, ih, List.append_nil]; cases h <;> rfl
theorem MarkDL.map {α : Type} {f e : α → LV} (h : ∀ a, MarkDL (e a).cells (f a).cells) : ∀ l : List α, MarkDL ((l.map e).flatMap LV.cells) ((l.map f).flatMap LV.cells)
  | [] => .nil
  | a :: l => by
    rw [List.map_cons, List.flatMap_cons, List.map_cons, List.flatMap_cons]; exact (h a).append (MarkDL.map h l)
theorem MarkDL.cells {w : World} {ρ : Env} : ∀ {xs : List LV} {vs : List Value} {fps : List Nat}, DeepL w xs vs fps → fps.Nodup → ∀ {ys : List LV}, MarkDL xs ys → ∃ g : List Nat, g.Sublist fps ∧ ∀ ok : Nat → Prop, (∀ b ∈ fps, b ∉ g → ok b) → MCells w ok ρ ys vs g
  | _, _, _, .nil, _, _, .nil => ⟨[], by simp, fun _ _ => .nil⟩
  | _, _, _, .cons (v := v) (f := f) (g := g) h h1 h2, hn, _, .cons (y := y) k k2 => by
    rw [List.nodup_append] at hn; obtain ⟨n1, n2, n3⟩ := hn; obtain ⟨g2, s2, c2⟩ := MarkDL.cells (ρ := ρ) h2 n2 k2
    have one : ∃ g1 : List Nat, g1.Sublist f ∧ ∀ ok : Nat → Prop, (∀ b ∈ f, b ∉ g1 → ok b) → MCell w ok ρ y v g1 := by
      cases k with
      | imm v => cases h; exact ⟨[], by simp, fun _ _ => .imm v⟩
      | fz sz xs => exact ⟨[], by simp, fun ok hok => .fz (h.fro (fun b hb => hok b hb (by simp)))⟩
      | nw sz xs =>
        cases h with
        | sl0 => exact ⟨[], by simp, fun _ _ => .nw0⟩
        | @sl _ c B _ us arr t fps1 m1 m2 m3 m4 m5 m6 m7 =>
          refine ⟨[B], by simp, fun ok hok => .nw m1 (m2.fro (fun b hb => hok b (by simp [hb]) ?_)) m3 m4 m5 m6 m7⟩; have := (List.nodup_cons.1 n1).1; simp only [List.mem_singleton]; intro e; exact this (e ▸ hb)
    obtain ⟨g1, s1, c1⟩ := one; refine ⟨g1 ++ g2, s1.append s2, fun ok hok => .cons (c1 ok fun b hb hnb => hok b (by simp [hb]) ?_) h1 (c2 ok fun b hb hnb => hok b (by simp [hb]) ?_)⟩
    · rw [List.mem_append, not_or]
      exact ⟨hnb, fun hm => n3 b hb b (s2.mem hm) rfl⟩
    · rw [List.mem_append, not_or]
      exact ⟨fun hm => n3 b (s1.mem hm) b hb rfl, hnb⟩
section
variable {P : Program} {E : Ent} {Q : Exit → LState → Prop} {s : LState} {all : Array Oper} {rest : List Oper} {d : Nat} {ty : TypeId} {pos : String} {af : Array Edge}
theorem SinkM.rep {h : LHeap} {xs ys : List LV} (hs : SinkM h xs ys []) : ∀ n : Nat, SinkM h (List.replicate n xs).flatten (List.replicate n ys).flatten []
  | 0 => .nil
  | n + 1 => by
    rw [List.replicate_succ, List.flatten_cons, List.replicate_succ, List.flatten_cons]
    have app : ∀ {a b c d : List LV} {ks ks' : List Nat}, SinkM h a b ks → SinkM h c d ks' → SinkM h (a ++ c) (b ++ d) (ks ++ ks') := by
      intro a b c d ks ks' h1 h2
      induction h1 with
      | nil => exact h2
      | cons h h' ih => rw [List.append_assoc]; exact .cons h ih
    exact app hs (hs.rep n)
end
end Go.Lift
/- The lifted logic, part 58: lists some of whose parts are owned: appended to, handed back. Own work. -/
namespace Go.Lift
open Go.RowKit
theorem MCells.ones {w : World} {ok : Nat → Prop} {ρ : Env} {xs : List LV} {vs : List Value} {f : List Nat} (h : MCells w ok ρ xs vs f) : ∀ u ∈ vs, u.oneCell' = true := by
  induction h with
  | nil => simp
  | cons _ h1 _ ih =>
    intro u hu; rcases List.mem_cons.1 hu with rfl | hu
    · exact h1
    · exact ih u hu
section
variable {P : Program} {E : Ent} {Q : Exit → LState → Prop} {s : LState} {all : Array Oper} {rest : List Oper} {d : Nat} {ty : TypeId} {pos : String} {af : Array Edge}
end
end Go.Lift
/- Short forms of steps: what one may leave out. Own work. -/
namespace Go.Lift
open Go.RowKit
variable {P : Program} {E : Ent} {Q : Exit → LState → Prop} {s : LState} {all : Array Oper} {rest : List Oper} {ty : TypeId} {pos : String} {af : Array Edge}
theorem LWo.gN {op : Op} {j d : Nat} {b nw want : Bool} (t : Nat) (h : b = nw) (hn : LWo P E all rest Q (s.put (some d) (.imm undef)))
    (hb : get t s.tm = .imm (.bool b) := by exact rfl) (hd : (all[j]?).bind (·.dst) = some t := by exact rfl) (hlt : Nat.blt d E.n = true := by exact rfl) (hne : nw = !want := by exact rfl) :
    LWo P E all ({ dst := some d, op := op, type := ty, pos := pos, after := af, guard := some (j, want) } :: rest) Q s :=
  LWo.guardNU hb h rfl hd rfl hlt hne hn
theorem LWo.gU {op : Op} {j d : Nat} {want : Bool} (t : Nat) (hn : LWo P E all rest Q (s.put (some d) (.imm undef)))
    (hb : get t s.tm = .imm undef := by exact rfl) (hd : (all[j]?).bind (·.dst) = some t := by exact rfl) (hlt : Nat.blt d E.n = true := by exact rfl) :
    LWo P E all ({ dst := some d, op := op, type := ty, pos := pos, after := af, guard := some (j, want) } :: rest) Q s :=
  LWo.guardU hb rfl hd rfl hlt hn
theorem LWo.gY {dst : Option Nat} {op : Op} {j : Nat} {b want : Bool} (t : Nat) (h : b = want)
    (hn : LWo P E all ({ dst := dst, op := op, type := ty, pos := pos, after := af, guard := none } :: rest) Q s)
    (hb : get t s.tm = .imm (.bool b) := by exact rfl) (hd : (all[j]?).bind (·.dst) = some t := by exact rfl) :
    LWo P E all ({ dst := dst, op := op, type := ty, pos := pos, after := af, guard := some (j, want) } :: rest) Q s :=
  LWo.guardY hb h rfl hd hn
theorem so {α : Type} {a b : α} (h : some a = some b) : a = b := Option.some.inj h
theorem QG.p {t : Nat} {e : Exit} {r' : LV} (h1 : get t s.tm = r' := by exact rfl) (h2 : LV.pure r' = true := by exact rfl) (he : e = .normal ∨ e = .ret := by exact .inr rfl) : QG P E [.tmp t] (fun r h => r = r' ∧ h = []) e s :=
  QG.mk he (.cons (.tmp (x := r') h1) .nil) (RetOK.one0 (.pure h2) (by decide)) rfl rfl
end Go.Lift
/- The lifted logic, part 60: a list that was cut is given up. Own work. -/
namespace Go.Lift
open Go.RowKit
variable {P : Program} {E : Ent} {Q : Exit → LState → Prop} {s : LState} {all : Array Oper} {rest : List Oper}
end Go.Lift
/- The lifted logic, part 61: a state written out anew inside a region. Own work. -/
namespace Go.Lift
open Go.RowKit
variable {P : Program} {E : Ent} {Q : Exit → LState → Prop} {s : LState} {all : Array Oper} {rest : List Oper}
end Go.Lift
/- The lifted logic, part 62: a variable that a closure writes; it is lent under any name. Own work. -/
namespace Go.Lift
open Go.RowKit
section
variable {P : Program}
end
end Go.Lift
/- The lifted logic, part 63: a list without spare room, and what is put behind it. Own work. -/
namespace Go.Lift
open Go.RowKit
section
variable {P : Program} {E : Ent} {Q : Exit → LState → Prop} {s : LState} {all : Array Oper} {rest : List Oper} {d : Nat} {ty : TypeId} {pos : String} {af : Array Edge}
end
end Go.Lift
/- The lifted logic, part 64: a variable is lent, and given up; what comes back takes its name. Own work. -/
namespace Go.Lift
open Go.RowKit
section
variable {P : Program} {E : Ent} {Q : Exit → LState → Prop} {s : LState} {all : Array Oper} {rest : List Oper} {d : Nat} {ty : TypeId} {pos : String} {af : Array Edge}
end
end Go.Lift
/- The lifted logic, part 65: lists that are read and have no spare room. Own work. -/
namespace Go.Lift
open Go.RowKit
section
variable {P : Program} {E : Ent} {Q : Exit → LState → Prop} {s : LState} {all : Array Oper} {rest : List Oper} {d : Nat} {ty : TypeId} {pos : String} {af : Array Edge}
end
end Go.Lift
/- The lifted logic, part 67: method values; variables in memory that are given up. Own work. -/
namespace Go.Lift
open Go.RowKit
section
variable {P : Program} {E : Ent} {Q : Exit → LState → Prop} {s : LState} {all : Array Oper} {rest : List Oper} {d : Nat} {ty : TypeId} {pos : String} {af : Array Edge}
theorem LWo.makeFuncV {g : FuncId} {x : Operand} (X : LV) (hx : s.eval x = X) (hp : X.pure = true) (hd : Nat.blt d E.n = true := by exact rfl) (hn : LWo P E all rest Q (s.put (some d) (.mv g X))) :
    LWo P E all ({ dst := some d, op := .makeFunc (.func g) #[x] #[], type := ty, pos := pos, after := af, guard := none } :: rest) Q s :=
  LWo.still _ hd (fun a w ok ρ F hi => ⟨.func (.func g) #[a.eval x] #[], by simp [execOp, Instr.makeFunc], .fro (.mv (by
    have h := hi.eval x; rw [hx] at h; exact Rep.pure hp h))⟩) hn
theorem LWo.mvcall {f y : Operand} {ts : Array TypeId} {g : FuncId} {X Y : LV} {u : Value} (hf : s.eval f = .mv g X) (hy : s.eval y = Y) (hfn : Ret P g [X, Y] (.imm u)) (hYp : Y.pure = true) (hd : Nat.blt d E.n = true := by exact rfl)
    (hn : LWo P E all rest Q (s.put (some d) (.imm u))) :
    LWo P E all ({ dst := some d, op := .call { callee := .value f, args := #[y], argTypes := ts }, type := ty, pos := pos, after := af, guard := none } :: rest) Q s := by
  intro a w ⟨ok, ρ, F, hi⟩; refine wpList_plain rfl fun K hK => ?_; have hF := hi.eval f; rw [hf] at hF; generalize hfv : a.eval f = fv at hF; cases hF with
  | fro hF =>
  cases hF with
  | mv hX =>
  rename_i xv; have hY := hi.eval y; rw [hy] at hY
  have hrun : (execOp a.eval { dst := some d, op := .call { callee := .value f, args := #[y], argTypes := ts }, type := ty, pos := pos, after := af, guard := none }).run P w = .ok (.enter g #[xv, a.eval y]) w := by
    have he := hfn.1 #[xv, a.eval y] w; simp only [execOp, resolve, hfv, Deferred.ofValue]; simp [invoke]; simpa using he
  unfold Oper.wp; rw [hrun]; show Calls P g _ w _; refine (hfn.2 w [xv, a.eval y] ok ρ F (.cons (.fro hX) (.cons hY .nil)) ⟨by simp [hkeys], by simp, by simp [fpsOf], by simp [fpsOf]⟩ (fun b hb => (hi.okk b hb).1)).mono ?_; rintro e w' ⟨v, r, hl', ok', F', fr, rfl, ⟨rfl, rfl⟩, hext, hres, hk1, ho1, hn1, hb1, hok1⟩; obtain ⟨okn, Fn, hI, hR, hnd, hbf⟩ := call_base (vw := []) hi ⟨by simp [hkeys], by simp⟩ (by simp) (.inl rfl) hext hres hk1 ho1 hn1 hb1 (fun k hk => ⟨(hok1 k hk).1, fun hlt => ((hok1 k hk).2 hlt).imp .inl id⟩)
  have hvv : v = u := by
    cases hR with
    | fro h => cases h; rfl
  subst hvv; have e0 : ([] : LHeap) ++ hdels (hkeys (rwOf [])) s.h = s.h := by simp [rwOf, hkeys]
  rw [e0] at hI; have hI' : Inv' E s a w' okn ρ Fn := hI; exact hK _ _ (hn _ _ ⟨okn, ρ, Fn, hI'.put hd (.fro (.imm _))⟩)
def PtrAt (tm : Tm) (k : Nat) : List Nat → Prop
  | [] => True
  | t :: r => get t tm = .ptr k 0 0 ∧ PtrAt tm k r
theorem PtrAt.mem {tm : Tm} {k j : Nat} : ∀ {ts : List Nat}, PtrAt tm k ts → j ∈ ts → get j tm = .ptr k 0 0
  | t :: r, h, hm => by
    rcases List.mem_cons.1 hm with rfl | hm
    · exact h.1
    · exact h.2.mem hm
theorem Inv.frzB {ts : List Nat} {k : Nat} {obj : LObj} {cs : List LV} (hg : PtrAt s.tm k ts) (ho : hget k s.h = some obj) (hk : obj.kind = .box) (hro : obj.ro = false) (hc : obj.elems.flatMap LV.cells = cs) (hp : LV.pure.pureL cs = true) {a : Act} {w : World} (hi : Inv E s a w) :
    Inv E { tm := slT (.fp cs) (kill k s.tm) ts, h := hdel k s.h } a w := by
  obtain ⟨ok, ρ, F, h⟩ := hi; have hmem := hget_mem ho; have h' := h.sub (hdel_sub k s.h); have hne := not_key (hdel_key k s.h); have hFk : ∀ b ∈ F k, b ∈ fpsOf F s.h := fun b hb => mem_fpsOf.2 ⟨_, hmem, hb⟩; have hst : ∀ {y : LV} {v : Value}, Rep w ok ρ y v → Rep w (fun b => ok b ∨ b ∈ F k) ρ y v := fun hy => hy.stable (fun _ _ => rfl) (fun _ hb => .inl hb) (fun _ _ => rfl); refine ⟨fun b => ok b ∨ b ∈ F k, ρ, F, { h' with okk := ?_, heap := ⟨h'.heap.keys, ?_, h'.heap.nodup, ?_⟩, slots := ?_ }⟩
  · rintro b (hb | hb)
    · exact h.okk b hb
    · exact ⟨(h.heap.apart b (hFk b hb)).2, fun hlt => .inr (h.mine _ hmem hro b hb hlt)⟩
  · intro p hp
    exact (h'.heap.objs p hp).stable (fun _ _ => rfl) (fun _ hb => .inl hb) (fun _ _ => rfl) rfl (fun _ _ => rfl)
  · intro b hb
    refine ⟨?_, (h'.heap.apart b hb).2⟩; rintro (ho' | hb')
    · exact (h'.heap.apart b hb).1 ho'
    · obtain ⟨p, hp, hb⟩ := mem_fpsOf.1 hb
      exact nodup_apart h.heap.keys h.heap.nodup ((hdel_sub k s.h).mem hp) hmem (hne p hp) b hb hb'
  · intro j
    show Rep w _ ρ (get j (slT _ (kill k s.tm) ts)) _; rw [get_slT]
    split
    · rename_i hm
      have hs := h.slots j; rw [hg.mem hm] at hs; generalize a.tmps.getD j undef = v at hs; obtain ⟨p, hpp, rfl⟩ := hs.ptr_inv; rcases h.heap.objs _ hmem with ⟨h4, _⟩ | ⟨p', arr, t', vs, fps, h4, hF, hobj⟩
      · rw [hpp] at h4; cases h4
      · rw [hpp] at h4; cases h4
        have hF' : F k = p.blk :: fps := hF; have hcl := hobj.cells; simp only [hk, ObjCells, hc] at hcl; have hfr : FroL w (fun b => ok b ∨ b ∈ F k) cs vs := FroL.stable (fun _ _ => rfl) (fun _ hb => .inl hb) (RepL.pure hp hcl.2); rw [show 0 * p.sz + 0 = 0 by omega]; exact .fp hfr (cells_of hobj.blk hobj.vals) (.inr (by rw [hF']; simp))
    · rw [get_kill]
      split
      · exact .junk _
      · exact hst (h.slots j)
theorem LWP.frzB {α : Type} {c : Code} {sz : Nat} {f : α → LV} {y : α} (ts : List Nat) (k : Nat) (ho : hget k s.h = some (vob sz f y)) (hg : PtrAt s.tm k ts) (hp : LV.pure.pureL (f y).cells = true) (hn : LWP P E c Q { tm := slT (.fp (f y).cells) (kill k s.tm) ts, h := hdel k s.h }) : LWP P E c Q s :=
  LWP.ghost (fun _ _ hi => hi.frzB hg ho rfl rfl (by simp [vob]) hp) hn
end
end Go.Lift
/- The lifted logic, part 68: structs whose lists are lent, or read. Own work. -/
namespace Go.Lift
open Go.RowKit
section
variable {P : Program} {E : Ent} {Q : Exit → LState → Prop} {s : LState} {all : Array Oper} {rest : List Oper} {d : Nat} {ty : TypeId} {pos : String} {af : Array Edge}
theorem ViewL.viewM {α : Type} {hl : LHeap} {o n sz : Nat} {f : α → LV} {l : List α} {xs ys : List LV} {vw : List Nat} (ho : hget o s.h = some (lob sz f l)) (hnl : n = l.length) (hk : (hkeys hl).contains o = false) (h : ViewL s hl xs ys vw) : ViewL s hl (.own o 0 n :: xs) (.sl sz (l.map f) :: ys) (o :: vw) := by
  subst hnl; exact .view (obj := lob sz f l) ho (.inl rfl) (by simp [lob]) (by simp [lob, List.take_of_length_le]) (by simpa using hk) h
end
end Go.Lift
/- The lifted logic, part 69: what stays when a map of one's own turns. Own work. -/
namespace Go.Lift
open Go.RowKit
structure TurnM (w w' : World) (b : Nat) : Prop where
  els : ∀ k, k ≠ b → w'.heap[k]? = w.heap[k]?
  was : ∃ es c, w.heap[b]? = some (.map es c)
theorem TurnM.cells {w w' : World} {b : Nat} (h : TurnM w w' b) {ad : Addr} {vs : List Value} (hc : Cells w ad vs) : Cells w' ad vs := fun k v hk => by
  have h1 := hc k v hk
  by_cases e : (ad.add k).block = b
  · obtain ⟨es, c, hm⟩ := h.was
    rw [← e] at hm; simp [World.cell?, hm] at h1
  · rw [World.cell?_of_block (w := w) (h.els _ e)]; exact h1
theorem TurnM.blk {w w' : World} {b : Nat} (h : TurnM w w' b) {B : Nat} {arr : Array Value} {t : TypeId} {fr : Nat × Nat} (hB : w.heap[B]? = some (.cells arr t fr)) : w'.heap[B]? = some (.cells arr t fr) := by
  rw [h.els B (by
    rintro rfl; obtain ⟨es, c, hm⟩ := h.was; rw [hm] at hB; cases hB)]
  exact hB
mutual
theorem Fro.turnM {w w' : World} {ok : Nat → Prop} {b : Nat} (ht : TurnM w w' b) : ∀ {x : LV} {v : Value}, Fro w ok x v → Fro w' ok x v
  | _, _, .imm v => .imm v
  | _, _, .agg h => .agg (FroL.turnM ht h)
  | _, _, .sl0 h => .sl0 h
  | _, _, .sl h0 h1 h2 h3 h4 h5 h6 => .sl h0 h1 (FroL.turnM ht h2) (ht.cells h3) h4 h5 h6
  | _, _, .mv h => .mv (Fro.turnM ht h)
  | _, _, .slx0 => .slx0
  | _, _, .slx h0 h1 h2 h3 h4 h5 => .slx h0 h1 (FroL.turnM ht h2) (ht.cells h3) h4 h5
  | _, _, .clo h => .clo (FroL.turnM ht h)
theorem FroL.turnM {w w' : World} {ok : Nat → Prop} {b : Nat} (ht : TurnM w w' b) : ∀ {x : List LV} {v : List Value}, FroL w ok x v → FroL w' ok x v
  | _, _, .nil => .nil
  | _, _, .cons h h1 h2 => .cons (Fro.turnM ht h) h1 (FroL.turnM ht h2)
end
mutual
theorem Deep.turnM {w w' : World} {b : Nat} (ht : TurnM w w' b) : ∀ {x : LV} {v : Value} {f : List Nat}, Deep w x v f → Deep w' x v f
  | _, _, _, .imm v => .imm v
  | _, _, _, .sl0 => .sl0
  | _, _, _, .sl h1 h2 h3 h4 h5 h6 h7 => .sl h1 (DeepL.turnM ht h2) (ht.blk h3) h4 h5 h6 h7
theorem DeepL.turnM {w w' : World} {b : Nat} (ht : TurnM w w' b) : ∀ {x : List LV} {v : List Value} {f : List Nat}, DeepL w x v f → DeepL w' x v f
  | _, _, _, .nil => .nil
  | _, _, _, .cons h h1 h2 => .cons (Deep.turnM ht h) h1 (DeepL.turnM ht h2)
end
theorem DCells.turnM {w w' : World} {ρ : Env} {b : Nat} (ht : TurnM w w' b) {xs : List LV} {vs : List Value} {f : List Nat} (h : DCells w ρ xs vs f) : DCells w' ρ xs vs f := by
  induction h with
  | nil => exact .nil
  | deep h h1 _ ih => exact .deep (h.turnM ht) h1 ih
  | own h h1 h2 _ ih => exact .own h h1 h2 ih
  | own0 _ ih => exact .own0 ih
theorem MCells.turnM {w w' : World} {ok : Nat → Prop} {ρ : Env} {b : Nat} (ht : TurnM w w' b) {xs : List LV} {vs : List Value} {f : List Nat} (h : MCells w ok ρ xs vs f) : MCells w' ok ρ xs vs f := by
  induction h with
  | nil => exact .nil
  | cons h h1 _ ih =>
    refine .cons ?_ h1 ih; clear h1 ih; cases h with
    | imm => exact .imm _
    | fz h => exact .fz (h.turnM ht)
    | nw0 => exact .nw0
    | nw h1 h2 h3 h4 h5 h6 h7 => exact .nw h1 (h2.turnM ht) (ht.blk h3) h4 h5 h6 h7
    | own h h1 h2 => exact .own h h1 h2
    | own0 => exact .own0
    | junk => exact .junk _
def LV.noMp : LV → Bool
  | .mp .. => false
  | .agg cs | .tup cs | .clo _ cs => go cs
  | _ => true
where go : List LV → Bool
  | [] => true
  | x :: xs => x.noMp && go xs
mutual
theorem Rep.turnM {w w' : World} {ok : Nat → Prop} {ρ : Env} {b : Nat} (ht : TurnM w w' b) : ∀ {x : LV} {v : Value}, x.noMp = true → Rep w ok ρ x v → Rep w' ok ρ x v
  | _, _, _, .junk v => .junk v
  | _, _, _, .fro h => .fro (h.turnM ht)
  | _, _, hn, .agg h => .agg (RepL.turnM ht (by simpa [LV.noMp] using hn) h)
  | _, _, hn, .tup h => .tup (RepT.turnM ht (by simpa [LV.noMp] using hn) h)
  | _, _, hn, .clo h => .clo (RepL.turnM ht (by simpa [LV.noMp] using hn) h)
  | _, _, _, .fp h h1 h2 => .fp (h.turnM ht) (ht.cells h1) h2
  | _, _, _, .ptr h => .ptr h
  | _, _, _, .own h h1 h2 => .own h h1 h2
  | _, _, _, .own0 => .own0
  | _, _, _, .ownc h h1 h2 => .ownc h h1 h2
  | _, _, _, .ownc0 => .ownc0
  | _, _, hn, .mp .. => by simp [LV.noMp] at hn
theorem RepL.turnM {w w' : World} {ok : Nat → Prop} {ρ : Env} {b : Nat} (ht : TurnM w w' b) : ∀ {x : List LV} {v : List Value}, LV.noMp.go x = true → RepL w ok ρ x v → RepL w' ok ρ x v
  | _, _, _, .nil => .nil
  | _, _, hn, .cons h h1 h2 => by
    simp [LV.noMp.go] at hn; exact .cons (Rep.turnM ht hn.1 h) h1 (RepL.turnM ht hn.2 h2)
theorem RepT.turnM {w w' : World} {ok : Nat → Prop} {ρ : Env} {b : Nat} (ht : TurnM w w' b) : ∀ {x : List LV} {v : List Value}, LV.noMp.go x = true → RepT w ok ρ x v → RepT w' ok ρ x v
  | _, _, _, .nil => .nil
  | _, _, hn, .cons h h2 => by
    simp [LV.noMp.go] at hn; exact .cons (Rep.turnM ht hn.1 h) (RepT.turnM ht hn.2 h2)
end
theorem ObjCells.turnM {w w' : World} {ok : Nat → Prop} {ρ : Env} {b : Nat} (ht : TurnM w w' b) {k : Kind} {cells : List LV} {vs : List Value} {fps : List Nat} (hn : k = .box → LV.noMp.go cells = true) (h : ObjCells w ok ρ k cells vs fps) : ObjCells w' ok ρ k cells vs fps := by
  cases k with
  | fro => exact ⟨h.1, FroL.turnM ht h.2⟩
  | deep => exact DeepL.turnM ht h
  | box => exact ⟨h.1, RepL.turnM ht (hn rfl) h.2⟩
  | split => exact DCells.turnM ht h
  | mix out => exact ⟨MCells.turnM ht h.1, h.2⟩
theorem ObjRep.turnM {w w' : World} {ok : Nat → Prop} {ρ : Env} {b : Nat} (ht : TurnM w w' b) {o : Nat} {obj : LObj} {fp : List Nat} (hn : obj.kind = .box → LV.noMp.go (obj.elems.flatMap LV.cells) = true) (h : ObjRep w ok ρ o obj fp) : ObjRep w' ok ρ o obj fp := by
  rcases h with h | ⟨p, arr, t, vs, fps, h, rfl, h2⟩
  · exact .inl h
  · exact .inr ⟨p, arr, t, vs, fps, h, rfl, { h2 with blk := ht.blk h2.blk, cells := h2.cells.turnM ht hn }⟩
section
variable {P : Program} {E : Ent} {Q : Exit → LState → Prop} {s : LState} {all : Array Oper} {rest : List Oper} {d : Nat} {ty : TypeId} {pos : String} {af : Array Edge}
def boxesNoMp (h : LHeap) : Bool := h.all fun p => p.2.kind != .box || LV.noMp.go (p.2.elems.flatMap LV.cells)
theorem HeapOK.turnM {w w' : World} {ok : Nat → Prop} {ρ : Env} {F : Nat → List Nat} {h : LHeap} {b : Nat} (ht : TurnM w w' b) (hs : w'.heap.size = w.heap.size) (hb : boxesNoMp h = true) (hh : HeapOK w ok ρ F h) : HeapOK w' ok ρ F h :=
  ⟨hh.keys, fun p hp => (hh.objs p hp).turnM ht (fun hk => by
    have := List.all_eq_true.1 hb p hp; simpa [hk] using this), hh.nodup, fun q hq => by rw [hs]; exact hh.apart q hq⟩
end
end Go.Lift
/- The lifted logic, part 70: maps of numbers that a call makes itself. Own work. -/
namespace Go.Lift
open Go.RowKit
theorem findNow_has {n : Int} : ∀ {es : List MapEntry} {ks : List Int} (i : Nat), es.map (fun e => (e.key, e.val)) = ks.map (fun k => (Value.int .i64 k, Value.bool true)) → ks.contains n = true → ∃ j, Instr.findNow (.int .i64) (.int .i64 n) es i = some (some (j, .bool true))
  | [], [], _, _, h => by simp at h
  | [], _ :: _, _, h, _ => by simp at h
  | _ :: _, [], _, h, _ => by simp at h
  | e :: es, k :: ks, i, h, hc => by
    simp only [List.map_cons, List.cons.injEq, Prod.mk.injEq] at h; obtain ⟨⟨h1, h2⟩, h3⟩ := h; unfold Instr.findNow Instr.sameNow; rw [h1, h2]
    by_cases e : n = k
    · subst e; simp
    · have hc' : ks.contains n = true := by
        simp only [List.contains_cons] at hc; simpa [e] using hc
      obtain ⟨j, hj⟩ := findNow_has (i + 1) h3 hc'; exact ⟨j, by simp [hj, show (n == k) = false by simpa using e]⟩
theorem findNow_not {n : Int} : ∀ {es : List MapEntry} {ks : List Int} (i : Nat), es.map (fun e => (e.key, e.val)) = ks.map (fun k => (Value.int .i64 k, Value.bool true)) → ks.contains n = false → Instr.findNow (.int .i64) (.int .i64 n) es i = some none
  | [], [], _, _, h => rfl
  | [], _ :: _, _, h, _ => by simp at h
  | _ :: _, [], _, h, _ => by simp at h
  | e :: es, k :: ks, i, h, hc => by
    simp only [List.map_cons, List.cons.injEq, Prod.mk.injEq] at h; obtain ⟨⟨h1, h2⟩, h3⟩ := h; unfold Instr.findNow Instr.sameNow; rw [h1]; simp only [List.contains_cons, Bool.or_eq_false_iff] at hc; have e : ¬ n = k := by simpa using hc.1
    simp [hc.1, findNow_not (i + 1) h3 hc.2]
section
variable {P : Program} {E : Ent} {Q : Exit → LState → Prop} {s : LState} {all : Array Oper} {rest : List Oper} {d : Nat} {ty : TypeId} {pos : String} {af : Array Edge}
theorem Inv'.reenv {k : Nat} (pl : Option Place) (hkp : E.keep.contains k = false) (hl : Lift.lone k (hdel k s.h) = true) {a : Act} {w : World} {ok : Nat → Prop} {ρ : Env} {F : Nat → List Nat} (h : Inv' E s a w ok ρ F) :
    Inv' E { tm := kill k s.tm, h := hdel k s.h } a w ok (upd ρ k pl) F := by
  have h' := h.sub (hdel_sub k s.h); have hne := not_key (hdel_key k s.h); refine { h' with heap := ⟨h'.heap.keys, ?_, h'.heap.nodup, h'.heap.apart⟩, slots := ?_, keep := fun j hj => (upd_other ρ _ (show j ≠ k from fun e => by subst e; simp [hj] at hkp)).trans (h.keep j hj) }
  · intro p hp
    exact (h'.heap.objs p hp).stable (fun _ _ => rfl) (fun _ hb => hb) (fun _ _ => rfl) (upd_other _ _ (hne p hp)) (fun j hj => upd_other _ _ (fun e => lone_refs hl p hp (e ▸ hj)))
  · intro t'
    refine Rep.stable (fun _ _ => rfl) (fun _ hb => hb) (fun o ho => upd_other _ _ (fun e => kill_refs k t' s.tm (e ▸ ho))) ?_; show Rep w ok ρ (get t' (kill k s.tm)) _; rw [get_kill]
    split
    · exact .junk _
    · exact h.slots t'
theorem LWo.makeMapM {T : TypeId} (k : Nat) (hl : Lift.lone k (hdel k s.h) = true) (hkp : E.keep.contains k = false := by exact rfl) (hd : Nat.blt d E.n = true := by exact rfl)
    (hn : LWo P E all rest Q { tm := (d, .mp k [] E.w0.heap.size) :: kill k s.tm, h := hdel k s.h }) :
    LWo P E all ({ dst := some d, op := .makeMap T none, type := ty, pos := pos, after := af, guard := none } :: rest) Q s :=
  LWo.value (({ tm := kill k s.tm, h := hdel k s.h } : LState).put (some d) (.mp k [] E.w0.heap.size)) rfl (fun a w ok ρ F hi => by
    have h1 := (hi.newFro (.map #[] 0)).reenv (k := k) (some ⟨w.heap.size, 0, 0⟩) hkp hl; refine ⟨.value (.map (some w.heap.size)), w.alloc (.map #[] 0), ?_, .inl ⟨_, rfl, _, _, _, h1.put hd ?_⟩⟩
    · simp [execOp, Instr.makeMap, newObj, Sem.run]
    · exact .mp (p := ⟨w.heap.size, 0, 0⟩) (by simp) (heap_alloc_at w _) (.inr rfl) rfl hi.ext.size) hn
theorem LWo.lookM {T kt et : TypeId} {m x : Operand} {o lim : Nat} {ks : List Int} {n : Int} (hu : P.underlying T = some (.map kt et)) (hk : P.underlying kt = some (.int .i64)) (hz : ∀ w, (zeroValue et).run P w = .ok (.bool false) w) (hm : s.eval m = .mp o ks lim) (hx : s.eval x = .imm (.int .i64 n)) (hd : Nat.blt d E.n = true := by exact rfl)
    (hn : LWo P E all rest Q (s.put (some d) (.imm (.bool (ks.contains n))))) :
    LWo P E all ({ dst := some d, op := .lookup T m x false, type := ty, pos := pos, after := af, guard := none } :: rest) Q s :=
  LWo.still _ hd (fun a w ok ρ F hi => ⟨.bool (ks.contains n), by
    have h := hi.eval m; rw [hm] at h; generalize hv : a.eval m = v at h; cases h with
    | fro h => cases h
    | mp h1 h2 h3 h4 h5 =>
      rename_i p es clk
      have hck : ∀ b w, (Instr.checkKey b 10000 kt (.int .i64 n)).run P w = .ok () w := by
        intro b w; rw [show (10000 : Nat) = 9999 + 1 from rfl, Instr.checkKey]; simp [underlying, hk, program, Sem.run]
      cases hc : ks.contains n with
      | true =>
        obtain ⟨j, hj⟩ := findNow_has 0 h4 hc; simp [execOp, Instr.lookup, underlying, hu, program, hv, hi.imm hx, getObj, h2, hck, Instr.findKey, hk, hj, Sem.run]
      | false =>
        have hj := findNow_not 0 h4 hc; simp [execOp, Instr.lookup, underlying, hu, program, hv, hi.imm hx, getObj, h2, hck, Instr.findKey, hk, hj, hz, Sem.run], .fro (.imm _)⟩) hn
def killM : Tm → Tm
  | [] => []
  | (j, v) :: r => (j, if v.noMp then v else .junk) :: killM r
theorem get_killM (t : Nat) : ∀ tm : Tm, get t (killM tm) = if (get t tm).noMp then get t tm else .junk
  | [] => by simp [killM, get, LV.noMp]
  | (j, v) :: r => by
    simp only [killM, get]
    split
    · rfl
    · exact get_killM t r
def MpAt (tm : Tm) (o : Nat) (ks : List Int) (lim : Nat) : List Nat → Prop
  | [] => True
  | t :: r => get t tm = .mp o ks lim ∧ MpAt tm o ks lim r
theorem MpAt.mem {tm : Tm} {o lim j : Nat} {ks : List Int} : ∀ {ts : List Nat}, MpAt tm o ks lim ts → j ∈ ts → get j tm = .mp o ks lim
  | t :: r, h, hm => by
    rcases List.mem_cons.1 hm with rfl | hm
    · exact h.1
    · exact h.2.mem hm
def mapAdd (ks : List Int) (n : Int) : List Int := bif ks.contains n then ks else ks ++ [n]
theorem findNow_at {n : Int} : ∀ {es : List MapEntry} {ks : List Int} (i : Nat), es.map (fun e => (e.key, e.val)) = ks.map (fun k => (Value.int .i64 k, Value.bool true)) → ks.contains n = true → ∃ j e, Instr.findNow (.int .i64) (.int .i64 n) es i = some (some (i + j, .bool true)) ∧ es[j]? = some e ∧ e.key = .int .i64 n ∧ e.val = .bool true
  | [], [], _, _, h => by simp at h
  | [], _ :: _, _, h, _ => by simp at h
  | _ :: _, [], _, h, _ => by simp at h
  | e :: es, k :: ks, i, h, hc => by
    simp only [List.map_cons, List.cons.injEq, Prod.mk.injEq] at h; obtain ⟨⟨h1, h2⟩, h3⟩ := h; unfold Instr.findNow Instr.sameNow; rw [h1, h2]
    by_cases e0 : n = k
    · subst e0; exact ⟨0, e, by simp, rfl, h1, h2⟩
    · have hc' : ks.contains n = true := by
        simp only [List.contains_cons] at hc; simpa [e0] using hc
      obtain ⟨j, q, hj, hq, hk, hv⟩ := findNow_at (i + 1) h3 hc'; exact ⟨j + 1, q, by simp [hj, show (n == k) = false by simpa using e0]; omega, by simpa using hq, hk, hv⟩
theorem Inv'.mapTurn {ts : List Nat} {o lim : Nat} {ks ks' : List Int} {p : Place} {es es' : Array MapEntry} {clk clk' : Nat} {a : Act} {w : World} {ok : Nat → Prop} {ρ : Env} {F : Nat → List Nat} (hi : Inv' E s a w ok ρ F) (hg : MpAt s.tm o ks lim ts) (hb : boxesNoMp s.h = true) (hp : ρ o = some p) (hw : w.heap[p.blk]? = some (.map es clk)) (hok : ok p.blk) (hlp : lim ≤ p.blk) (hl : E.w0.heap.size ≤ lim) (hm : MapIs es' ks') :
    Inv' E { tm := slT (.mp o ks' lim) (killM s.tm) ts, h := s.h } a { w with heap := w.heap.setIfInBounds p.blk (.map es' clk') } ok ρ F := by
  have hlt : p.blk < w.heap.size := (Array.getElem?_eq_some_iff.1 hw).1
  have ht : TurnM w { w with heap := w.heap.setIfInBounds p.blk (.map es' clk') } p.blk := ⟨fun k hk => by
    show (w.heap.setIfInBounds p.blk _)[k]? = _; rw [Array.getElem?_setIfInBounds, if_neg (fun e => hk e.symm)], ⟨es, clk, hw⟩⟩
  refine { defers := hi.defers, size := hi.size, ext := ⟨hi.ext.os, hi.ext.tape, hi.ext.output, by show _ ≤ (w.heap.setIfInBounds _ _).size; rw [Array.size_setIfInBounds]; exact hi.ext.size, fun k hk hn => ?_, hi.ext.drawn⟩, okk := fun k hk => ⟨by show k < (w.heap.setIfInBounds _ _).size; rw [Array.size_setIfInBounds]; exact (hi.okk k hk).1, (hi.okk k hk).2⟩, heap := hi.heap.turnM ht (by show (w.heap.setIfInBounds _ _).size = _; rw [Array.size_setIfInBounds]) hb, mine := hi.mine, slots := fun t => ?_, keep := hi.keep }
  · exact (ht.els k (by omega)).trans (hi.ext.block k hk hn)
  · show Rep _ ok ρ (get t (slT _ (killM s.tm) ts)) _
    rw [get_slT]
    split
    · rename_i hmem
      have hs := hi.slots t; rw [hg.mem hmem] at hs; generalize a.tmps.getD t undef = v at hs; cases hs with
      | fro h => cases h
      | mp h1 h2 h3 h4 h5 =>
        rw [hp] at h1; cases h1; refine .mp (es := es') (clk := clk') hp ?_ hok hm hlp; show (w.heap.setIfInBounds p.blk _)[p.blk]? = _; rw [Array.getElem?_setIfInBounds, if_pos rfl, if_pos hlt]
    · rw [get_killM]
      split
      · rename_i hn
        exact Rep.turnM ht hn (hi.slots t)
      · exact .junk _
theorem mapIs_mod {es : Array MapEntry} {ks : List Int} {n : Int} {j : Nat} {q : MapEntry} (h : MapIs es ks) (hq : es.toList[j]? = some q) (hk : q.key = .int .i64 n) (hv : q.val = .bool true) : MapIs (es.modify j fun e => { e with key := .int .i64 n, val := .bool true }) ks := by
  unfold MapIs at h ⊢; rw [← h]
  apply List.ext_getElem?
  intro i; rw [List.getElem?_map, List.getElem?_map, Array.getElem?_toList, Array.getElem?_modify, Array.getElem?_toList]
  split
  · rename_i e
    subst e; rw [← Array.getElem?_toList, hq]; simp [hk, hv]
  · rfl
theorem LWo.mapUpdM {T kt et : TypeId} {m x y : Operand} {o lim : Nat} {ks : List Int} {n : Int} (ts : List Nat) (hu : P.underlying T = some (.map kt et)) (hk : P.underlying kt = some (.int .i64)) (hm : s.eval m = .mp o ks lim) (hx : s.eval x = .imm (.int .i64 n)) (hy : s.eval y = .imm (.bool true)) (hg : MpAt s.tm o ks lim ts) (hb : boxesNoMp s.h = true) (hl : E.w0.heap.size ≤ lim)
    (hn : LWo P E all rest Q { tm := slT (.mp o (mapAdd ks n) lim) (killM s.tm) ts, h := s.h }) :
    LWo P E all ({ dst := none, op := .mapUpdate T m x y, type := ty, pos := pos, after := af, guard := none } :: rest) Q s :=
  LWo.value { tm := slT (.mp o (mapAdd ks n) lim) (killM s.tm) ts, h := s.h } rfl (fun a w ok ρ F hi => by
    have h := hi.eval m; rw [hm] at h; generalize hv : a.eval m = v at h; cases h with
    | fro h => cases h
    | mp h1 h2 h3 h4 h5 =>
      rename_i p es clk
      have hck : ∀ b w, (Instr.checkKey b 10000 kt (.int .i64 n)).run P w = .ok () w := by
        intro b w; rw [show (10000 : Nat) = 9999 + 1 from rfl, Instr.checkKey]; simp [underlying, hk, program, Sem.run]
      cases hc : ks.contains n with
      | true =>
        obtain ⟨j, q, hj, hq, hqk, hqv⟩ := findNow_at 0 h4 hc; rw [Nat.zero_add] at hj; have hq' : es[j]? = some q := by rw [← Array.getElem?_toList]; exact hq
        have hs : Instr.sameBits 10000 (.int .i64 n) (.int .i64 n) = true := by
          rw [show (10000 : Nat) = 9999 + 1 from rfl]; simp [Instr.sameBits]
        refine ⟨.skip, { w with heap := w.heap.setIfInBounds p.blk (.map (es.modify j fun e => { e with key := .int .i64 n, val := .bool true }) clk) }, ?_, .inr ⟨rfl, ok, ρ, F, ?_⟩⟩
        · simp [execOp, Instr.mapUpdate, underlying, hu, program, hv, hi.imm hx, hi.imm hy, getObj, setObj, h2, hck, Instr.findKey, hk, hj, hq', hqk, Instr.keyThatStays, hs, Sem.run]
        · have := hi.mapTurn (es' := es.modify j fun e => { e with key := .int .i64 n, val := .bool true }) (clk' := clk) (ks' := mapAdd ks n) hg hb h1 h2 h3 h5 hl (by unfold mapAdd; rw [hc, cond_true]; exact mapIs_mod h4 hq hqk hqv)
          exact this
      | false =>
        have hj := findNow_not 0 h4 hc; refine ⟨.skip, { w with heap := w.heap.setIfInBounds p.blk (.map (es.push { key := .int .i64 n, val := .bool true, born := clk }) (clk + 1)) }, ?_, .inr ⟨rfl, ok, ρ, F, ?_⟩⟩
        · simp [execOp, Instr.mapUpdate, underlying, hu, program, hv, hi.imm hx, hi.imm hy, getObj, setObj, h2, hck, Instr.findKey, hk, hj, Sem.run]
        · have := hi.mapTurn (es' := es.push { key := .int .i64 n, val := .bool true, born := clk }) (clk' := clk + 1) (ks' := mapAdd ks n) hg hb h1 h2 h3 h5 hl (by
            unfold mapAdd MapIs at *; rw [hc, cond_false]; simp [h4])
          exact this) hn
end
end Go.Lift
/- The lifted logic, part 71: structs whose lists are lent, of any kind and number; a list and a value beside lists that are read. Own work. -/
namespace Go.Lift
open Go.RowKit
section
variable {P : Program} {E : Ent} {Q : Exit → LState → Prop} {s : LState} {all : Array Oper} {rest : List Oper} {d : Nat} {ty : TypeId} {pos : String} {af : Array Edge}
def Lents (s : LState) : LHeap → Prop
  | [] => True
  | (k, o) :: r => hget k s.h = some o ∧ (o.kind = .fro ∨ o.kind = .deep) ∧ o.ro = false ∧ Lents s r
theorem Lents.mem {s : LState} : ∀ {hl : LHeap}, Lents s hl → ∀ p ∈ hl, hget p.1 s.h = some p.2 ∧ (p.2.kind = .fro ∨ p.2.kind = .deep) ∧ p.2.ro = false
  | [], _ => by simp
  | (k, o) :: r, ⟨h1, h2, h3, h4⟩ => by
    intro p hp; rcases List.mem_cons.1 hp with rfl | hp
    · exact ⟨h1, h2, h3⟩
    · exact h4.mem p hp
def ndB : List Nat → Bool
  | [] => true
  | k :: r => !(r.contains k) && ndB r
theorem ndB_nodup : ∀ {l : List Nat}, ndB l = true → l.Nodup
  | [], _ => .nil
  | k :: r, h => by
    rw [ndB, Bool.and_eq_true] at h; exact List.nodup_cons.2 ⟨by simpa using h.1, ndB_nodup h.2⟩
theorem LWo.ucallL {f : Operand} {ops : List Operand} {ts : Array TypeId} {g : FuncId} {caps vals xs : List LV} {hl hl' : LHeap} {v : LV} (hf : s.eval f = .clo g caps) (hv : ops.map s.eval ++ caps = vals)
    (hfn : Does P g xs hl (fun r h => r = v ∧ h = hl')) (hA : vals = xs) (hnd : ndB (hkeys hl) = true) (hL : Lents s hl) (dst : Option Nat) (hd : (match dst with | some t => Nat.blt t E.n | none => true) = true)
    (hn : LWo P E all rest Q (({ tm := s.tm, h := hl' ++ hdels (hkeys hl) s.h } : LState).put dst (settle none v))) :
    LWo P E all ({ dst := dst, op := .call { callee := .value f, args := ops.toArray, argTypes := ts }, type := ty, pos := pos, after := af, guard := none } :: rest) Q s := by
  have hrw : rwOf hl = hl := by
    unfold rwOf; rw [List.filter_eq_self]; intro p hp; simp [(hL.mem p hp).2.2]
  refine LWo.call none hf hv hfn (by rw [hA]; exact ArgsOK.allSame) ⟨ndB_nodup hnd, fun p hp => ?_⟩ (fun t ht => by subst ht; exact hd) (fun j hj => by cases hj) (by
    rintro r h2 ⟨rfl, rfl⟩; refine ⟨.inl rfl, (fun j hj => by cases hj), ?_⟩; simpa [afterCall, hrw] using hn)
  have := hL.mem p hp; exact ⟨_, this.1, .inl rfl⟩
def Backs (E : Ent) (s : LState) (ks : List Nat) : LHeap → Prop
  | [] => True
  | (k, o) :: r => ks.contains k = false ∧ hget k s.h = some o ∧ o.ro = false ∧ o.refs = [] ∧ E.keep.contains k = true ∧ Backs E s ks r
theorem Backs.mem {s : LState} {ks : List Nat} : ∀ {hl : LHeap}, Backs E s ks hl → ∀ p ∈ hl, ks.contains p.1 = false ∧ hget p.1 s.h = some p.2 ∧ p.2.ro = false ∧ p.2.refs = [] ∧ E.keep.contains p.1 = true
  | [], _ => by simp
  | (k, o) :: r, ⟨h1, h2, h3, h4, h5, h6⟩ => by
    intro p hp; rcases List.mem_cons.1 hp with rfl | hp
    · exact ⟨h1, h2, h3, h4, h5⟩
    · exact h6.mem p hp
theorem RetOK.oneL {x r : LV} {hl : LHeap} {ks fz : List Nat} (hr : ResOf s.h x r ks fz) (hn : (ks ++ fz).Nodup) (hnd : ndB (hkeys hl) = true) (hB : Backs E s (ks ++ fz) hl) : RetOK E s [x] r hl :=
  ⟨⟨ks, fz, .inl ⟨_, rfl, hr⟩, hn, fun p hp => by simpa using (hB.mem p hp).1⟩, ndB_nodup hnd, fun p hp => by
    obtain ⟨h1, h2, h3, h4, h5⟩ := hB.mem p hp; exact ⟨h2, h3, by simpa using h5, by rw [h4]; simp⟩⟩
end
end Go.Lift
/- The lifted logic, part 72: a list of one's own that is cut at its beginning, and appended to. Own work. -/
namespace Go.Lift
open Go.RowKit
section
variable {P : Program} {E : Ent} {Q : Exit → LState → Prop} {s : LState} {all : Array Oper} {rest : List Oper} {d : Nat} {ty : TypeId} {pos : String} {af : Array Edge}
theorem LWo.value2 {all : Array Oper} {o : Oper} {rest : List Oper} (s1 s2 : LState) (hg : o.guard = none)
    (h : ∀ a w ok ρ F, Inv' E s a w ok ρ F → ∃ v w', (execOp a.eval o).run P w = .ok (.value v) w' ∧ (Inv E s1 (a.put o.dst v) w' ∨ Inv E s2 (a.put o.dst v) w'))
    (h1 : LWo P E all rest Q s1) (h2 : LWo P E all rest Q s2) : LWo P E all (o :: rest) Q s := by
  intro a w ⟨ok, ρ, F, hi⟩; refine wpList_plain hg fun K hK => ?_; obtain ⟨v, w', hr, h'⟩ := h a w ok ρ F hi; unfold Oper.wp; rw [hr]; rcases h' with hi' | hi'
  · exact hK _ _ (h1 _ _ hi')
  · exact hK _ _ (h2 _ _ hi')
theorem run_firstOff {w w1 : World} {p : Place} {arr : Array Value} {t : TypeId} {off n c : Nat} {vs : List Value} (hb : w.heap[p.blk]? = some (.cells arr t (0, 0))) (hw : w1.heap = w.heap) (hl : vs.length = n * p.sz) (hv : ∀ (k : Nat) (v : Value), vs[k]? = some v → arr[off * p.sz + k]? = some v) :
    (Builtin.firstCells p.sz n (.slice (some ⟨p.blk, off * p.sz, none⟩) n c)).run P w1 = .ok vs.toArray w1 :=
  run_firstCells_some w1 p.sz n _ n c vs hl (fun j v hj => by
    rw [add_plain]; rw [← hw] at hb; rw [cellQ hb]; exact hv j v hj)
theorem LWo.appendOff {T T' e : TypeId} {u' : TypeDesc} {sz off n o bytes : Nat} {z : Value} {x y : Operand} {obj : LObj} (ys : List LV) (hu : P.underlying T = some (.slice e)) (hu' : P.underlying T' = some u') (hni : ∀ k, u' ≠ .int k)
    (hz : ∀ w, (sizeOf e).run P w = .ok sz w) (hinfo : (P.info? e).map (fun i => (i.size, i.bytes, i.zero)) = some (sz, bytes, some z)) (hzz : z.cells.size = sz)
    (hx : s.eval x = .own o off n) (ho : hget o s.h = some obj) (hk : obj.kind = .fro) (hos : obj.sz = sz) (hro : obj.ro = false) (hn0 : off + n ≤ obj.elems.length) (hsrc : SrcIs s y sz ys) (hkp : E.keep.contains o = false := by exact rfl) (hl : lone o (hdel o s.h) = true)
    (hb : (n + ys.length) * bytes ≤ 140737488355328) (h63 : n + ys.length ≤ 140737488355328) (hd : Nat.blt d E.n = true := by exact rfl)
    (hn1 : LWo P E all rest Q { tm := (d, .own o 0 (n + ys.length)) :: kill o s.tm, h := (o, { kind := .fro, sz := sz, elems := (obj.elems.drop off).take n ++ ys }) :: hdel o s.h })
    (hn2 : LWo P E all rest Q { tm := (d, .own o off (n + ys.length)) :: kill o s.tm, h := (o, { kind := .fro, sz := sz, elems := obj.elems.take (off + n) ++ ys }) :: hdel o s.h }) :
    LWo P E all ({ dst := some d, op := .call { callee := .builtin .append, args := #[x, y], argTypes := #[T, T'] }, type := ty, pos := pos, after := af, guard := none } :: rest) Q s :=
  LWo.value2 _ _ rfl (fun a w ok ρ F hi => by
    obtain ⟨V, vs, hyv, hlv, hfr, hu1, hread⟩ := hsrc.run (P := P) hi; have hX := hi.eval x; rw [hx] at hX; have hvlen := hfr.length; rw [flat_len _ _ hu1] at hvlen
    have hop : ∀ (v1 v2 : Value) (r : Value) (w' : World), a.eval x = v1 → a.eval y = v2 → (Builtin.append_ #[T, T'] ty #[v1, v2]).run P w = .ok r w' →
        (execOp a.eval { dst := some d, op := .call { callee := .builtin .append, args := #[x, y], argTypes := #[T, T'] }, type := ty, pos := pos, after := af, guard := none }).run P w = .ok (.value r) w' := by
      intro v1 v2 r w' e1 e2 hr; simp [execOp, resolve, invoke, builtin, e1, e2, hr]
    have hfresh : ∀ (w' : World) (olds : List Value) (xs : List LV) (cap : Nat), FroL w ok (xs.flatMap LV.cells) olds → (∀ x ∈ xs, x.cells.length = sz) → xs.length = n → (obj.elems.drop off).take n = xs → n + ys.length ≤ cap → cap ≤ 9223372036854775807 →
        Inv E { tm := (d, .own o 0 (n + ys.length)) :: kill o s.tm, h := (o, { kind := .fro, sz := sz, elems := (obj.elems.drop off).take n ++ ys }) :: hdel o s.h }
          (a.put (some d) (.slice (some ⟨w.heap.size, 0, none⟩) (n + ys.length) cap)) (w.drew.alloc (.cells (olds.toArray ++ vs.toArray ++ Builtin.zeroCells z.cells (cap - (n + ys.length))) e)) := by
      intro w' olds xs cap h1 h2 h3 h4 h5 h6; have ho1 := h1.length; rw [flat_len _ _ h2] at ho1
      have hi' := ((hi.sub (hdel_sub o s.h)).drew).newObj o hkp (hdel_key o s.h) hl { kind := .fro, sz := sz, elems := (obj.elems.drop off).take n ++ ys } (olds.toArray ++ vs.toArray ++ Builtin.zeroCells z.cells (cap - (n + ys.length))) e (olds ++ vs) cap
        (by
          intro x hx; rw [h4] at hx; rcases List.mem_append.1 hx with hx | hx
          · exact h2 x hx
          · exact hu1 x hx)
        (by rw [h4, List.length_append, h3]; exact h5) (by unfold maxLen; omega)
        (by
          have e1 : (olds.toArray ++ vs.toArray ++ Builtin.zeroCells z.cells (cap - (n + ys.length))).size = (n + ys.length + (cap - (n + ys.length))) * sz := by
            simp only [Array.size_append, List.size_toArray, zero_size, hzz]; rw [← ho1, h3, ← hvlen, Nat.add_mul, Nat.add_mul]
          rw [e1]; exact Nat.mul_le_mul_right _ (by omega))
        (by
          intro k v hk
          have hlt : k < (olds ++ vs).length := by
            rcases Nat.lt_or_ge k (olds ++ vs).length with h | h
            · exact h
            · rw [List.getElem?_eq_none h] at hk; cases hk
          rw [Array.getElem?_append_left (by simpa using hlt)]; simpa using hk)
        (.inl rfl)
        (by
          refine ⟨rfl, ?_⟩; rw [h4, List.flatMap_append]; exact FroL.stable (w := w) (w' := w.drew) (fun _ _ => rfl) (fun _ hb => hb) (h1.append hfr))
      refine ⟨_, _, _, hi'.put hd ?_⟩; have := Rep.own (w := w.drew.alloc (.cells (olds.toArray ++ vs.toArray ++ Builtin.zeroCells z.cells (cap - (n + ys.length))) e)) (ok := ok) (ρ := upd ρ o (some ⟨w.drew.heap.size, cap, sz⟩)) (o := o) (off := 0) (n := n + ys.length) (c := cap) (by simp; rfl) (by simp) h5; simpa using this
    rcases hX.own_inv with ⟨p, cp, hp, hcap, hncp, hxv⟩ | ⟨rfl, A0, hxv⟩
    · rcases hi.heap.objs _ (hget_mem ho) with ⟨h', _⟩ | ⟨p', arr, t, us, fps, h', hF, hobj⟩
      · rw [hp] at h'; cases h'
      · rw [hp] at h'; cases h'
        have hsz : p.sz = sz := Eq.trans hobj.sz hos; have hunif : ∀ x ∈ obj.elems, x.cells.length = sz := fun x hx => hos ▸ hobj.unif x hx; have hcells := hobj.cells; rw [hk] at hcells; have hfall := hcells.2; have hfo := (hcells.2.drop (off * sz)).take (n * sz); have hud : ∀ x ∈ obj.elems.drop off, x.cells.length = sz := fun x hx => hunif x (List.mem_of_mem_drop hx); rw [← flat_drop _ sz _ hunif, ← flat_take _ sz _ hud] at hfo; have hut : ∀ x ∈ (obj.elems.drop off).take n, x.cells.length = sz := fun x hx => hud x (List.mem_of_mem_take hx); have hol := hfo.length; rw [flat_len _ _ hut, List.length_take, List.length_drop, Nat.min_eq_left (by omega)] at hol; have hxv' : a.eval x = .slice (some ⟨p.blk, off * p.sz, none⟩) n cp := hxv
        have hvals : ∀ (k : Nat) (v : Value), ((us.drop (off * sz)).take (n * sz))[k]? = some v → arr[off * p.sz + k]? = some v := fun k v hk => by
          rw [List.getElem?_take] at hk
          split at hk
          · rw [List.getElem?_drop] at hk
            rw [hsz]; exact hobj.vals _ v hk
          · cases hk
        have hold : ∀ w1 : World, w1.heap = w.heap → (Builtin.firstCells sz n (.slice (some ⟨p.blk, off * p.sz, none⟩) n cp)).run P w1 = .ok ((us.drop (off * sz)).take (n * sz)).toArray w1 := fun w1 hw => by
          have := run_firstOff (P := P) (c := cp) hobj.blk hw (n := n) (vs := (us.drop (off * sz)).take (n * sz)) (by rw [← hol, hsz]) hvals; rw [hsz] at this ⊢; exact this
        rcases Nat.lt_or_ge cp (n + ys.length) with hgrow | hfit
        · obtain ⟨cap, hc1, hc2, hr⟩ := run_append_out (P := P) (T := T) (T' := T') (ty := ty) (z := z) hlv hu hu' hni hinfo hread hold hgrow hb h63
          exact ⟨_, _, hop _ _ _ _ hxv' hyv hr, .inl (hfresh w ((us.drop (off * sz)).take (n * sz)) ((obj.elems.drop off).take n) cap hfo hut (by simp; omega) rfl hc1 hc2)⟩
        · have hin := run_append_in (P := P) (T := T) (T' := T') (ty := ty) (A := some ⟨p.blk, off * p.sz, none⟩) hlv hu hu' hni hz (hread w rfl) hfit
          have hroom : p.cap * p.sz ≤ arr.size := hobj.room; have h3 : (off + n + ys.length) * sz ≤ p.cap * p.sz := by rw [hsz]; exact Nat.mul_le_mul_right _ (by omega)
          rw [Nat.add_mul] at h3; have hst := run_storeCells_at P p.blk ((off + n) * sz) t vs 0 arr w hobj.blk (by omega) (hfr.rep (ρ := ρ)).ones; simp only [Nat.add_zero] at hst; simp only [add_plain] at hin; rw [show off * p.sz + n * sz = (off + n) * sz by rw [hsz, Nat.add_mul]] at hin; simp only [hst, Result.andThen_ok] at hin; refine ⟨_, _, hop _ _ _ _ hxv' hyv hin, .inr ?_⟩; have hapart := hi.heap.apart p.blk (mem_fpsOf.2 ⟨_, hget_mem ho, by rw [hF]; simp⟩); have hob : ∀ b, ok b → (w.setRow p.blk (arr.toList.take ((off + n) * sz) ++ vs ++ arr.toList.drop ((off + n) * sz + vs.length)).toArray).heap[b]? = w.heap[b]? := fun b hb => setRow_other w p.blk b _ (fun e => hapart.1 (e ▸ hb)); have hfo2 := hfall.take ((off + n) * sz); rw [← flat_take _ sz _ hunif] at hfo2; have hut2 : ∀ x ∈ obj.elems.take (off + n), x.cells.length = sz := fun x hx => hunif x (List.mem_of_mem_take hx); have hol2 := hfo2.length; rw [flat_len _ _ hut2, List.length_take, Nat.min_eq_left hn0] at hol2
          have hvals2 : ∀ (k : Nat) (v : Value), (us.take ((off + n) * sz))[k]? = some v → arr[k]? = some v := fun k v hk => by
            rw [List.getElem?_take] at hk
            split at hk
            · exact hobj.vals k v hk
            · cases hk
          have hw := Inv'.write (obj' := { kind := .fro, sz := sz, elems := obj.elems.take (off + n) ++ ys }) hi ho hro rfl hp hF (arr' := (arr.toList.take ((off + n) * sz) ++ vs ++ arr.toList.drop ((off + n) * sz + vs.length)).toArray) (vs' := us.take ((off + n) * sz) ++ vs) (t := t)
            { sz := hsz
              unif := by
                intro x hx; rcases List.mem_append.1 hx with hx | hx
                · exact hut2 x hx
                · exact hu1 x hx
              len := by simp; omega
              cap := hobj.cap
              blk := setRow_heap w _ _ _ _ _ hobj.blk
              room := by simp; omega
              vals := by
                intro k v hk'; simp only [List.getElem?_toArray]; have hl1 : (us.take ((off + n) * sz)).length = (off + n) * sz := hol2.symm; have hl2 : (arr.toList.take ((off + n) * sz)).length = (off + n) * sz := by simp; omega
                rcases Nat.lt_or_ge k ((off + n) * sz) with hlt | hge
                · rw [List.getElem?_append_left (by omega)] at hk'
                  rw [List.append_assoc, List.getElem?_append_left (by omega), List.getElem?_take, if_pos hlt]; simpa using hvals2 k v hk'
                · rw [List.getElem?_append_right (by omega), hl1] at hk'
                  rw [List.append_assoc, List.getElem?_append_right (by omega), hl2]
                  have : k - (off + n) * sz < vs.length := by
                    rcases Nat.lt_or_ge (k - (off + n) * sz) vs.length with h | h
                    · exact h
                    · rw [List.getElem?_eq_none h] at hk'; cases hk'
                  rw [List.getElem?_append_left this]; exact hk'
              cells := by
                have hf0 : fps = [] := hcells.1; refine ⟨hf0, ?_⟩; rw [List.flatMap_append]; exact FroL.stable hob (fun _ hb => hb) (hfo2.append hfr) }
          have hpm := hput_perm (x := { kind := .fro, sz := sz, elems := obj.elems.take (off + n) ++ ys }) hi.heap.keys ho; refine ⟨_, _, _, ((hw.perm hpm).killed o).put hd ?_⟩; exact Rep.own (w := w.setRow p.blk (arr.toList.take ((off + n) * sz) ++ vs ++ arr.toList.drop ((off + n) * sz + vs.length)).toArray) (ok := ok) (ρ := ρ) (o := o) (off := off) (n := n + ys.length) (c := cp) hp hcap hfit
    · have hf0 : FroL w ok (([] : List LV).flatMap LV.cells) [] := .nil
      rcases Nat.eq_zero_or_pos ys.length with h0 | h0
      · have hys : ys = [] := List.eq_nil_of_length_eq_zero h0
        subst hys; have hvs : vs = [] := List.eq_nil_of_length_eq_zero (by simpa using hvlen.symm); subst hvs; have hin := run_append_in (P := P) (T := T) (T' := T') (ty := ty) (A := A0) (n := 0) (c := 0) hlv hu hu' hni hz (hread w rfl) (by simp)
        have hin' : (Builtin.append_ #[T, T'] ty #[.slice A0 0 0, V]).run P w = .ok (.slice A0 0 0) w := by
          rw [hin]; cases A0 <;> simp [storeCells]
        refine ⟨_, _, hop _ _ _ _ hxv hyv hin', .inr ?_⟩; obtain ⟨ok1, ρ1, F1, ht⟩ := Inv.trunc (m := off) ho hk hro ⟨ok, ρ, F, hi⟩
        have e : ({ kind := .fro, sz := sz, elems := obj.elems.take (off + 0) ++ [] } : LObj) = { obj with elems := obj.elems.take off } := by
          cases obj; simp_all
        rw [e]; exact ⟨_, _, _, (ht.killed o).put hd .own0⟩
      · have hold : ∀ w1 : World, w1.heap = w.heap → (Builtin.firstCells sz 0 (.slice A0 0 0)).run P w1 = .ok ([] : List Value).toArray w1 := fun w1 _ => by cases A0 <;> simp [Builtin.firstCells, loadCells, loadCellsFrom, Sem.run]
        obtain ⟨cap, hc1, hc2, hr⟩ := run_append_out (P := P) (T := T) (T' := T') (ty := ty) (z := z) hlv hu hu' hni hinfo hread hold (by omega) hb h63; exact ⟨_, _, hop _ _ _ _ hxv hyv hr, .inl (hfresh w [] [] cap hf0 (by simp) rfl (by simp) hc1 hc2)⟩) hn1 hn2
theorem LWo.appendG {α : Type} {T T' e : TypeId} {u' : TypeDesc} {sz o bytes : Nat} {z : Value} {f : α → LV} {pre l m r : List α} {x y : Operand} (he : app? l m = some r) (hu : P.underlying T = some (.slice e)) (hu' : P.underlying T' = some u') (hni : ∀ k, u' ≠ .int k)
    (hz : ∀ w, (sizeOf e).run P w = .ok sz w) (hinfo : (P.info? e).map (fun i => (i.size, i.bytes, i.zero)) = some (sz, bytes, some z)) (hzz : z.cells.size = sz)
    (hx : s.eval x = .own o pre.length l.length) (ho : hget o s.h = some (lob sz f (pre ++ l))) (hsrc : SrcM s y sz f m) (hl : lone o (hdel o s.h) = true) (hby : Nat.ble bytes 140 = true) (hkp : E.keep.contains o = false := by exact rfl) (hd : Nat.blt d E.n = true := by exact rfl)
    (hn : ∀ pre : List α, LWo P E all rest Q { tm := (d, .own o pre.length r.length) :: kill o s.tm, h := (o, lob sz f (pre ++ r)) :: hdel o s.h }) :
    LWo P E all ({ dst := some d, op := .call { callee := .builtin .append, args := #[x, y], argTypes := #[T, T'] }, type := ty, pos := pos, after := af, guard := none } :: rest) Q s := by
  obtain ⟨rfl, hb⟩ := app_b he; have hby' := Nat.le_of_ble_eq_true hby; refine LWo.appendOff (m.map f) hu hu' hni hz hinfo hzz hx ho rfl rfl rfl (by simp [lob]) hsrc.is hkp hl ?_ ?_ hd ?_ ?_
  · rw [List.length_map]
    exact Nat.le_trans (Nat.mul_le_mul hb hby') (by decide)
  · rw [List.length_map]; omega
  · have e1 : ((lob sz f (pre ++ l)).elems.drop pre.length).take l.length ++ m.map f = ([] ++ (l ++ m)).map f := by simp [lob, List.take_of_length_le]
    rw [e1, List.length_map, ← List.length_append]; exact hn []
  · have e1 : (lob sz f (pre ++ l)).elems.take (pre.length + l.length) ++ m.map f = (pre ++ (l ++ m)).map f := by simp [lob, List.take_of_length_le]
    rw [e1, List.length_map, ← List.length_append]; exact hn pre
theorem at_pre {α : Type} {pre l : List α} {i : Int} {x : α} (h : at? l i = some x) : at? (pre ++ l) ((pre.length + i.toNat : Nat) : Int) = some x := by
  have h0 := at_0 h; unfold at?; rw [if_pos (by omega)]; have : (((pre.length + i.toNat : Nat) : Int)).toNat = pre.length + i.toNat := by omega
  rw [this, List.getElem?_append_right (by omega)]; unfold at? at h; rw [if_pos h0] at h; rw [show pre.length + i.toNat - pre.length = i.toNat by omega]; exact h
theorem LWo.indexG {α : Type} {T e : TypeId} {sz o : Nat} {f : α → LV} {pre l : List α} {y : α} {x ix : Operand} {k : IntKind} {i : Int} (he : at? l i = some y) (hu : P.underlying T = some (.slice e)) (hz : ∀ w, (sizeOf e).run P w = .ok sz w)
    (hx : s.eval x = .own o pre.length l.length) (hi : s.eval ix = .imm (.int k i)) (ho : hget o s.h = some (lob sz f (pre ++ l))) (hd : Nat.blt d E.n = true := by exact rfl) (hn : LWo P E all rest Q (s.put (some d) (.ptr o (((pre.length + i.toNat : Nat) : Int)).toNat 0))) :
    LWo P E all ({ dst := some d, op := .indexAddr T x ix, type := ty, pos := pos, after := af, guard := none } :: rest) Q s :=
  LWo.indexOwn hu hz hx hi ho rfl (at_0 he) (at_lt he) hd (by rw [show (((pre.length + i.toNat : Nat) : Int)).toNat = pre.length + i.toNat by omega] at hn; exact hn)
theorem LWo.cutG {α : Type} {T e : TypeId} {sz o : Nat} {f : α → LV} {pre l r : List α} {lo : Int} {k : IntKind} {x y : Operand} (he : cut? l lo l.length = some r) (hu : P.underlying T = some (.slice e)) (hz : ∀ w, (sizeOf e).run P w = .ok sz w)
    (hx : s.eval x = .own o pre.length l.length) (ho : hget o s.h = some (lob sz f (pre ++ l))) (hy : s.eval y = .imm (.int k lo)) (hd : Nat.blt d E.n = true := by exact rfl)
    (hn : LWo P E all rest Q { tm := (d, .own o (pre ++ l.take lo.toNat).length r.length) :: s.tm, h := (o, lob sz f ((pre ++ l.take lo.toNat) ++ r)) :: hdel o s.h }) :
    LWo P E all ({ dst := some d, op := .slice T x (some y) none none, type := ty, pos := pos, after := af, guard := none } :: rest) Q s := by
  obtain ⟨h0, h1, h2, rfl⟩ := cut_b he; refine LWo.cutOM (lo := lo) (hi := (l.length : Int)) (u := ()) (by unfold rng?; rw [if_pos ⟨h0, h1, Int.le_refl _⟩]) hu hz hx ho ⟨_, hy⟩ rfl hd (LWo.ghost (fun _ _ hi => ?_) hn); have hi2 := Inv.trunc (m := (lob sz f (pre ++ l)).elems.length) (s := s.put (some d) (.own o (pre.length + lo.toNat) ((l.length : Int).toNat - lo.toNat))) ho rfl rfl hi
  have e1 : ({ lob sz f (pre ++ l) with elems := (lob sz f (pre ++ l)).elems.take (lob sz f (pre ++ l)).elems.length } : LObj) = lob sz f ((pre ++ l.take lo.toNat) ++ (l.take ((l.length : Int)).toNat).drop lo.toNat) := by
    rw [List.take_length]; have : (l.take ((l.length : Int)).toNat) = l := List.take_of_length_le (by omega); rw [this, List.append_assoc, List.take_append_drop]
  rw [e1] at hi2
  have e2 : LV.own o (pre.length + lo.toNat) ((l.length : Int).toNat - lo.toNat) = .own o (pre ++ l.take lo.toNat).length ((l.take ((l.length : Int)).toNat).drop lo.toNat).length := by
    congr 1
    · simp; omega
    · simp
  rw [e2] at hi2; exact hi2
end
end Go.Lift
/- Plain lemmas on mirrors: loops over lists, total functions. Own work. -/
namespace Go.Lift
def foldC {α S R : Type} (step : α → S → (S → Option R) → Option R) (J : S → Option R) : List α → S → Option R
  | [], s => J s
  | x :: xs, s => step x s (foldC step J xs)
theorem at_of {α : Type} {l : List α} {k : Nat} {x : α} (h : l[k]? = some x) : at? l (k : Int) = some x := by
  unfold at?; rw [if_pos (by omega)]; simpa using h
theorem lt_of_at {α : Type} {l : List α} {k : Nat} {x : α} (h : l[k]? = some x) : k < l.length := (List.getElem?_eq_some_iff.1 h).1
theorem scanC {α S R : Type} (xs : List α) (L : Nat → Int → S → Option R) (step : α → S → (S → Option R) → Option R) (J : S → Option R)
    (hs : ∀ n (k : Nat) x s, xs[k]? = some x → L (n + 1) (k : Int) s = step x s (fun s' => L n ((k : Int) + 1) s')) (he : ∀ n s, L (n + 1) (xs.length : Int) s = J s)
    (n : Nat) (hn : xs.length < n) (s : S) : L n 0 s = foldC step J xs s := by
  have key : ∀ (ys : List α) (k : Nat) (n : Nat) (s : S), xs.drop k = ys → k ≤ xs.length → ys.length < n → L n (k : Int) s = foldC step J ys s := by
    intro ys
    induction ys with
    | nil =>
      intro k n s hd hk hn
      have : k = xs.length := by
        have := congrArg List.length hd; simp at this; omega
      subst this; obtain ⟨m, rfl⟩ : ∃ m, n = m + 1 := ⟨n - 1, by simp at hn; omega⟩; exact he m s
    | cons y ys ih =>
      intro k n s hd hk hn
      have hlt : k < xs.length := by
        have := congrArg List.length hd; simp at this; omega
      have hy : xs[k]? = some y := by
        have := List.drop_eq_getElem_cons hlt; rw [hd] at this; simp only [List.cons.injEq] at this; rw [List.getElem?_eq_getElem hlt, this.1]
      have hd' : xs.drop (k + 1) = ys := by
        have := List.drop_eq_getElem_cons hlt; rw [hd] at this; simp only [List.cons.injEq] at this; exact this.2.symm
      obtain ⟨m, rfl⟩ : ∃ m, n = m + 1 := ⟨n - 1, by simp at hn; omega⟩; rw [hs m k y s hy]; simp only [foldC]
      congr 1
      funext s'
      have := ih (k + 1) m s' hd' (by omega) (by simp at hn; omega); simpa using this
  have := key xs 0 n s rfl (by omega) hn; simpa using this
theorem foldC_all {α R : Type} {p : α → Bool} {r0 r1 : R} : ∀ {l : List α}, foldC (S := Unit) (fun x s k => bif p x then some r0 else k s) (fun _ => some r1) l () = some (bif l.any p then r0 else r1)
  | [] => rfl
  | x :: l => by
    simp only [foldC, List.any_cons]; cases hp : p x
    · simpa using foldC_all (l := l)
    · simp
theorem scanA {α R : Type} {p : α → Bool} {r0 r1 : R} (xs : List α) (L : Nat → Int → Option R)
    (hs : ∀ n (k : Nat) x, xs[k]? = some x → L (n + 1) (k : Int) = bif p x then some r0 else L n ((k : Int) + 1)) (he : ∀ n, L (n + 1) (xs.length : Int) = some r1)
    (n : Nat) (hn : xs.length < n) : L n 0 = some (bif xs.any p then r0 else r1) := by
  have := scanC xs (fun n k (_ : Unit) => L n k) (fun x s k => bif p x then some r0 else k s) (fun _ => some r1) (fun n k x s hx => hs n k x hx) (fun n s => he n) n hn (); rw [this]; exact foldC_all
def all2 {α β : Type} (q : α → β → Bool) (a : List α) (b : List β) : Bool := (a.zip b).all fun p => q p.1 p.2
theorem scan2 {α β : Type} {q : α → β → Bool} (a : List α) (b : List β) (hl : a.length = b.length) (L : Nat → Int → Option Bool)
    (hs : ∀ n (k : Nat) x y, a[k]? = some x → b[k]? = some y → L (n + 1) (k : Int) = bif q x y then L n ((k : Int) + 1) else some false) (he : ∀ n, L (n + 1) (a.length : Int) = some true)
    (n : Nat) (hn : a.length < n) : L n 0 = some (all2 q a b) := by
  have hz : (a.zip b).length = a.length := by simp [hl]
  have := scanA (p := fun p : α × β => !(q p.1 p.2)) (r0 := false) (r1 := true) (a.zip b) L (by
    intro n k x hx; rw [List.getElem?_zip_eq_some] at hx; rw [hs n k x.1 x.2 hx.1 hx.2]; cases q x.1 x.2 <;> rfl) (by intro n; rw [hz]; exact he n) n (by rw [hz]; exact hn)
  rw [this]; unfold all2
  congr 1
  rw [List.all_eq_not_any_not]; cases (a.zip b).any fun p => !(q p.1 p.2) <;> rfl
theorem all2_eq {α : Type} [DecidableEq α] : ∀ {a b : List α}, a.length = b.length → all2 (fun x y => decide (x = y)) a b = decide (a = b)
  | [], [], _ => rfl
  | x :: a, y :: b, h => by
    have ih := all2_eq (a := a) (b := b) (by simpa using h); unfold all2 at ih ⊢; simp only [List.zip_cons_cons, List.all_cons, ih, List.cons.injEq]; rw [Bool.eq_iff_iff]; simp
theorem scanF {α S R : Type} {f : S → α → S} {J : S → Option R} (I : Nat → S → Prop) (xs : List α) (L : Nat → Int → S → Option R)
    (hs : ∀ n (k : Nat) x s, xs[k]? = some x → I k s → L (n + 1) (k : Int) s = L n ((k : Int) + 1) (f s x) ∧ I (k + 1) (f s x)) (he : ∀ n s, I xs.length s → L (n + 1) (xs.length : Int) s = J s)
    (n : Nat) (hn : xs.length < n) (s : S) (h0 : I 0 s) : L n 0 s = J (xs.foldl f s) ∧ I xs.length (xs.foldl f s) := by
  have key : ∀ (ys : List α) (k n : Nat) (s : S), xs.drop k = ys → k ≤ xs.length → ys.length < n → I k s → L n (k : Int) s = J (ys.foldl f s) ∧ I xs.length (ys.foldl f s) := by
    intro ys
    induction ys with
    | nil =>
      intro k n s hd hk hn hI
      have : k = xs.length := by
        have := congrArg List.length hd; simp at this; omega
      subst this; obtain ⟨m, rfl⟩ : ∃ m, n = m + 1 := ⟨n - 1, by simp at hn; omega⟩; exact ⟨he m s hI, hI⟩
    | cons y ys ih =>
      intro k n s hd hk hn hI
      have hlt : k < xs.length := by
        have := congrArg List.length hd; simp at this; omega
      have hc := List.drop_eq_getElem_cons hlt; rw [hd] at hc; simp only [List.cons.injEq] at hc; obtain ⟨m, rfl⟩ : ∃ m, n = m + 1 := ⟨n - 1, by simp at hn; omega⟩; obtain ⟨h1, h2⟩ := hs m k y s (by rw [List.getElem?_eq_getElem hlt, hc.1]) hI; rw [h1, show ((k : Int) + 1) = ((k + 1 : Nat) : Int) by omega]; exact ih (k + 1) m (f s y) hc.2.symm (by omega) (by simp at hn; omega) h2
  have := key xs 0 n s rfl (by omega) hn h0; simpa using this
theorem dlt {k : Nat} {n : Nat} (h : k < n) : decide ((k : Int) < (n : Int)) = true := by simp; omega
theorem dnlt {n : Nat} : decide ((n : Int) < (n : Int)) = false := by simp
theorem ck1 {k : Nat} (h : k < 1000000000000) : ckI ((k : Int) + 1) = some ((k : Int) + 1) := ckI_of (by omega) (by omega)
theorem beqF {a b : Int} (h : ¬ a = b) : (a == b) = false := by simp [h]
theorem fuel0 {n : Nat} : n < (((n : Int) - 0).toNat + 1) := by omega
def Tot {α : Type} (o : Option α) (Q : α → Prop) : Prop := ∃ x, o = some x ∧ Q x
theorem Tot.ret {α : Type} {x : α} {Q : α → Prop} (h : Q x) : Tot (some x) Q := ⟨x, rfl, h⟩
theorem Tot.bind {α β : Type} {o : Option α} {f : α → Option β} {P : α → Prop} {Q : β → Prop} (h : Tot o P) (k : ∀ x, P x → Tot (f x) Q) : Tot (o.bind f) Q := by
  obtain ⟨x, rfl, hx⟩ := h; exact k x hx
theorem Tot.eq {α β : Type} {o : Option α} {x : α} {f : α → Option β} {Q : β → Prop} (h : o = some x) (k : Tot (f x) Q) : Tot (o.bind f) Q := by subst h; exact k
theorem Tot.mono {α : Type} {o : Option α} {P Q : α → Prop} (h : Tot o P) (k : ∀ x, P x → Q x) : Tot o Q := by obtain ⟨x, h1, h2⟩ := h; exact ⟨x, h1, k x h2⟩
theorem Tot.at {α β : Type} {l : List α} {i : Int} {f : α → Option β} {Q : β → Prop} (h0 : 0 ≤ i) (h1 : i < l.length) (k : ∀ x ∈ l, Tot (f x) Q) : Tot ((at? l i).bind f) Q :=
  Tot.eq (at_someI h0 (by omega)) (k _ (List.getElem_mem _))
theorem Tot.cut {α β : Type} {l : List α} {lo hi : Int} {f : List α → Option β} {Q : β → Prop} (h : 0 ≤ lo ∧ lo ≤ hi ∧ hi ≤ l.length) (k : Tot (f ((l.take hi.toNat).drop lo.toNat)) Q) : Tot ((cut? l lo hi).bind f) Q :=
  Tot.eq (by unfold cut?; rw [if_pos h]) k
theorem Tot.rem {β : Type} {m n : Int} {f : Int → Option β} {Q : β → Prop} (h : n ≠ 0) (k : Tot (f (m.tmod n)) Q) : Tot ((remI m n).bind f) Q := Tot.eq (by unfold remI; rw [if_neg h]) k
theorem Tot.quo {β : Type} {m n : Int} {f : Int → Option β} {Q : β → Prop} (h : n ≠ 0) (h0 : -9223372036854775808 ≤ m.tdiv n) (h1 : m.tdiv n ≤ 9223372036854775807) (k : Tot (f (m.tdiv n)) Q) : Tot ((quoI m n).bind f) Q := Tot.eq (by unfold quoI; rw [if_neg h, ckI_of h0 h1]) k
end Go.Lift
/- Plain Lean: putting in order by insertion, from the end; what holds of it. Own work. -/
namespace Go.Lift
def OrdB {α : Type} (gt : α → α → Bool) (l : List α) : Prop := l.Pairwise fun a b => gt a b = false
def idxI {α : Type} (q : α → Bool) : List α → Int
  | [] => -1
  | x :: l => if q x then 0 else if idxI q l < 0 then -1 else idxI q l + 1
theorem idxI_pos {α : Type} {q : α → Bool} {x : α} {l : List α} (h : q x = true) : idxI q (x :: l) = 0 := by unfold idxI; rw [if_pos h]
theorem idxI_neg {α : Type} {q : α → Bool} {x : α} {l : List α} (h : q x = false) : idxI q (x :: l) = if idxI q l < 0 then -1 else idxI q l + 1 := by
  rw [idxI]; rw [if_neg (by simp [h])]
theorem idxI_ge {α : Type} (q : α → Bool) : ∀ l : List α, -1 ≤ idxI q l ∧ idxI q l < l.length ∧ (decide (idxI q l ≥ 0) = l.any q)
  | [] => by simp [idxI]
  | x :: l => by
    obtain ⟨h1, h2, h3⟩ := idxI_ge q l; rw [List.any_cons, ← h3, List.length_cons]; cases hq : q x with
    | true => rw [idxI_pos hq]; simp
    | false =>
      rw [idxI_neg hq]
      by_cases h : idxI q l < 0
      · rw [if_pos h]
        have : ¬ idxI q l ≥ 0 := by omega
        simp [this]; omega
      · rw [if_neg h]
        have h4 : idxI q l ≥ 0 := by omega
        have h5 : idxI q l + 1 ≥ 0 := by omega
        simp only [decide_eq_true h4, decide_eq_true h5, Bool.false_or]; exact ⟨by omega, by omega, trivial⟩
theorem scanI {α R : Type} {q : α → Bool} {g : Int → Option R} (xs : List α) (L : Nat → Int → Option R)
    (hs : ∀ n (k : Nat) x, xs[k]? = some x → L (n + 1) (k : Int) = bif q x then g k else L n ((k : Int) + 1)) (he : ∀ n, L (n + 1) (xs.length : Int) = g (-1))
    (n : Nat) (hn : xs.length < n) : L n 0 = g (idxI q xs) := by
  have key : ∀ (ys : List α) (k n : Nat), xs.drop k = ys → k ≤ xs.length → ys.length < n → L n (k : Int) = g (if idxI q ys < 0 then -1 else idxI q ys + k) := by
    intro ys
    induction ys with
    | nil =>
      intro k n hd hk hn
      have : k = xs.length := by
        have := congrArg List.length hd; simp at this; omega
      subst this; obtain ⟨m, rfl⟩ : ∃ m, n = m + 1 := ⟨n - 1, by simp at hn; omega⟩; rw [he, if_pos (by simp [idxI])]
    | cons y ys ih =>
      intro k n hd hk hn
      have hlt : k < xs.length := by
        have := congrArg List.length hd; simp at this; omega
      have hc := List.drop_eq_getElem_cons hlt; rw [hd] at hc; simp only [List.cons.injEq] at hc; obtain ⟨m, rfl⟩ : ∃ m, n = m + 1 := ⟨n - 1, by simp at hn; omega⟩; rw [hs m k y (by rw [List.getElem?_eq_getElem hlt, hc.1])]; cases hq : q y with
      | true => rw [cond_true, idxI_pos hq, if_neg (by omega)]; congr 1; omega
      | false =>
        rw [cond_false, show ((k : Int) + 1) = ((k + 1 : Nat) : Int) by omega, ih (k + 1) m hc.2.symm (by omega) (by simp at hn; omega), idxI_neg hq]; have := idxI_ge q ys
        by_cases h : idxI q ys < 0
        · rw [if_pos h, if_pos h, if_pos (by omega)]
        · rw [if_neg h, if_neg h, if_neg (by omega)]
          congr 1; omega
  have := key xs 0 n rfl (by omega) hn; rw [show ((0 : Nat) : Int) = 0 from rfl] at this; rw [this]; have := idxI_ge q xs
  split
  · congr 1; omega
  · congr 1; omega
theorem ckdd {j : Nat} (h : j < 1000000000000) : ckI (((j + 1 : Nat) : Int) - 1) = some (j : Int) := by
  rw [ckI_of (by omega) (by omega)]; congr 1; omega
theorem lenQ_ok {n m : Nat} {β : Type} {x : β} (h : n = m) : lenQ n m x = some x := by unfold lenQ; rw [if_pos h]
def goC {α : Type} (q : α → α → Bool) : α → List α → List α
  | _, [] => []
  | p, y :: l => if q y p then goC q y l else y :: goC q y l
def compactE {α : Type} (q : α → α → Bool) : List α → List α
  | [] => []
  | x :: l => x :: goC q x l
theorem goC_sub {α : Type} {q : α → α → Bool} : ∀ (l : List α) (p : α), (goC q p l).Sublist l
  | [], _ => .slnil
  | y :: l, p => by
    rw [goC]
    split
    · exact (goC_sub l y).cons _
    · exact (goC_sub l y).cons_cons _
theorem compactE_sub {α : Type} {q : α → α → Bool} : ∀ (l : List α), (compactE q l).Sublist l
  | [] => .slnil
  | x :: l => (goC_sub l x).cons_cons _
theorem compactE_take {α : Type} {q : α → α → Bool} : ∀ (l : List α) (k : Nat), k < l.length → (∀ i x y, 0 < i → i ≤ k → l[i]? = some x → l[i - 1]? = some y → q x y = false) → ∀ x, l[k]? = some x → compactE q l = l.take (k + 1) ++ goC q x (l.drop (k + 1))
  | [], k, h, _ => by simp at h
  | x :: l, k, h, hq => by
    intro z hz
    have key : ∀ (l : List α) (p : α) (k : Nat), k < l.length → (∀ i a b, i ≤ k → l[i]? = some a → (p :: l)[i]? = some b → q a b = false) → ∀ z, l[k]? = some z → goC q p l = l.take (k + 1) ++ goC q z (l.drop (k + 1)) := by
      intro l
      induction l with
      | nil => intro p k h; simp at h
      | cons y l ih =>
        intro p k h hq z hz; have h0 := hq 0 y p (by omega) rfl rfl; rw [goC, if_neg (by simp [h0])]; cases k with
        | zero => simp at hz; subst hz; simp
        | succ k =>
          rw [ih y k (by simpa using h) (fun i a b hi ha hb => hq (i + 1) a b (by omega) (by simpa using ha) (by simpa using hb)) z (by simpa using hz)]; simp
    cases k with
    | zero => simp at hz; subst hz; simp [compactE]
    | succ k =>
      rw [compactE, key l x k (by simpa using h) (fun i a b hi ha hb => hq (i + 1) a b (by omega) (by omega) (by simpa using ha) (by simpa using hb)) z (by simpa using hz)]; simp
theorem atc_of {α : Type} {l : List α} {off n i r : Nat} {x : α} (h : off + i = r) (hi : i < n) (hx : l[r]? = some x) : atc? l off n (i : Int) = some x := by
  unfold atc?; rw [if_pos (by omega), Int.toNat_natCast, h]; exact hx
theorem at_off {α : Type} {l : List α} {off i r : Nat} {x : α} (h : off + i = r) (hx : l[r]? = some x) : at? l ((off + ((i : Nat) : Int).toNat : Nat) : Int) = some x := by
  subst h; rw [Int.toNat_natCast]; exact at_of hx
end Go.Lift
namespace Go.Lift
theorem ltE {α β : Type} (x : α) (f : α → β) : lt x f = f x := rfl
theorem neB (a b : Int) : (a != b) = !decide (a = b) := by by_cases h : a = b <;> simp [h, bne]
end Go.Lift
/- Plain Lean: putting in order by blocks that are merged. Own work. -/
namespace Go.Lift
inductive Chk {α : Type} (gt : α → α → Bool) (bs : Nat) : List α → Prop
  | last {X : List α} : X.length ≤ bs → OrdB gt X → Chk gt bs X
  | cons {X R : List α} : X.length = bs → OrdB gt X → Chk gt bs R → Chk gt bs (X ++ R)
end Go.Lift
/- Plain Lean: loops that look at neighbours, that copy, that leave out. Own work. -/
namespace Go.Lift
theorem scanMF {α β R : Type} {f : α → Option β} {J : List β → Option R} (xs : List α) (L : Nat → Int → List β → Option R)
    (hs : ∀ n (k : Nat) x o, xs[k]? = some x → o.length ≤ k → L (n + 1) (k : Int) o = L n ((k : Int) + 1) (o ++ (f x).toList)) (he : ∀ n o, o.length ≤ xs.length → L (n + 1) (xs.length : Int) o = J o)
    (n : Nat) (hn : xs.length < n) : L n 0 [] = J (xs.filterMap f) := by
  have := (scanF (f := fun o x => o ++ (f x).toList) (J := J) (fun k o => o.length ≤ k) xs L (fun n k x o hx ho => ⟨hs n k x o hx ho, by cases f x <;> simp <;> omega⟩) (fun n o ho => he n o ho) n hn [] (by simp)).1; rw [this]
  congr 1
  have key : ∀ (l : List α) (a : List β), l.foldl (fun o x => o ++ (f x).toList) a = a ++ l.filterMap f := by
    intro l
    induction l with
    | nil => intro a; simp
    | cons x l ih =>
      intro a; rw [List.foldl_cons, ih, List.filterMap_cons]; cases f x <;> simp
  rw [key]; simp
end Go.Lift
/- Plain Lean: putting in order so that equal ones keep their order. Own work. -/
namespace Go.Lift
structure StP {α κ : Type} (f : κ → α → Bool) (Z W : List α) : Prop where
  perm : Z.Perm W
  st : ∀ v, Z.filter (f v) = W.filter (f v)
theorem StP.refl {α κ : Type} {f : κ → α → Bool} (Z : List α) : StP f Z Z := ⟨.refl _, fun _ => rfl⟩
theorem StP.trans {α κ : Type} {f : κ → α → Bool} {Z W V : List α} (h : StP f Z W) (k : StP f W V) : StP f Z V := ⟨h.perm.trans k.perm, fun v => (h.st v).trans (k.st v)⟩
theorem StP.append {α κ : Type} {f : κ → α → Bool} {Z W Z2 W2 : List α} (h : StP f Z W) (k : StP f Z2 W2) : StP f (Z ++ Z2) (W ++ W2) := ⟨h.perm.append k.perm, fun v => by rw [List.filter_append, List.filter_append, h.st v, k.st v]⟩
theorem StP.mem_iff {α κ : Type} {f : κ → α → Bool} {Z W : List α} (h : StP f Z W) {x : α} : x ∈ Z ↔ x ∈ W := h.perm.mem_iff
end Go.Lift
/- Sizes, conversions and comparisons of arguments: the loops. Own work. -/
namespace Go.Lift
def szR (left : Int) (w : Nat) : Int := if (w : Int) ≤ left then left - w else -1
theorem szR_pos {left : Int} {w : Nat} (h : (w : Int) ≤ left) : szR left w = left - w := if_pos h
theorem szR_neg {left : Int} {w : Nat} (h : ¬ (w : Int) ≤ left) : szR left w = -1 := if_neg h
theorem szR_lt {left : Int} {w : Nat} (h : (w : Int) ≤ left) : decide (szR left w < 0) = false := by rw [szR_pos h]; exact decide_eq_false (by omega)
theorem szR_lt' {left : Int} {w : Nat} (h : ¬ (w : Int) ≤ left) : decide (szR left w < 0) = true := by rw [szR_neg h]; rfl
theorem szR_add {left : Int} {a b : Nat} (h : (a : Int) ≤ left) : szR (szR left a) b = szR left (a + b) := by
  rw [szR_pos h]; unfold szR; split <;> split <;> omega
theorem szR_add' {left : Int} {a b : Nat} (h : ¬ (a : Int) ≤ left) : szR left (a + b) = -1 := szR_neg (by omega)
theorem szR_le {left : Int} {w : Nat} (h : left ≤ 1048576) : szR left w ≤ 1048576 := by unfold szR; split <;> omega
theorem szR_0 {left : Int} {w : Nat} (h : (w : Int) ≤ left) : 0 ≤ szR left w := by rw [szR_pos h]; omega
theorem szC {left : Int} {w w' : Nat} {k : Int → Option Int} (h0 : 0 ≤ left) (h : (w : Int) ≤ left → k (szR left w) = some (szR (szR left w) w')) : (bif decide (szR left w < 0) then some (-1) else k (szR left w)) = some (szR left (w + w')) := by
  by_cases e : (w : Int) ≤ left
  · rw [szR_lt e, cond_false, h e, szR_add e]
  · rw [szR_lt' e, cond_true, szR_add' e]
theorem szE {left : Int} {w : Nat} (h0 : 0 ≤ left) : (bif decide (szR left w < 0) then some (-1) else some (szR left w)) = some (szR left w) := by
  by_cases e : (w : Int) ≤ left
  · rw [szR_lt e, cond_false]
  · rw [szR_lt' e, cond_true, szR_neg e]
theorem ckSz {left : Int} {w : Nat} (h0 : 0 ≤ left) (h1 : left ≤ 1048576) (hw : w ≤ maxLen) {k : Int → Option Int} (hk : ∀ x, (decide (x < 0) = decide (szR left w < 0)) → ((w : Int) ≤ left → x = szR left w) → k x = k (szR left w)) : (ckI (left - (w : Int))).bind k = k (szR left w) := by
  unfold maxLen at hw; rw [ckI_of (by omega) (by omega), Option.bind_some]; refine hk _ ?_ (fun e => (szR_pos e).symm)
  by_cases e : (w : Int) ≤ left
  · rw [szR_pos e]
  · rw [szR_neg e]; rw [decide_eq_decide]; omega
theorem ckSz' {left : Int} {w : Nat} (h0 : 0 ≤ left) (h1 : left ≤ 1048576) (hw : w ≤ maxLen) {g : Int → Option Int} : ((ckI (left - (w : Int))).bind fun x => bif decide (x < 0) then some (-1) else g x) = (bif decide (szR left w < 0) then some (-1) else g (szR left w)) :=
  ckSz (k := fun x => bif decide (x < 0) then some (-1) else g x) h0 h1 hw (fun x h2 h3 => by
    show (bif decide (x < 0) then some (-1) else g x) = _; rw [h2]
    by_cases e : (w : Int) ≤ left
    · rw [h3 e]
    · rw [szR_lt' e]; rfl)
theorem toLoop {α β : Type} (cv : α → β) (l : List α) (L : Nat → Int → List β → Option (List β)) (hs : ∀ (f k : Nat) (o : List β) (x : α), l[k]? = some x → k < 900000000000 → o.length = l.length → L (f + 1) k o = L f ((k + 1 : Nat) : Int) (o.set k (cv x))) (he : ∀ (f : Nat) (o : List β), L (f + 1) l.length o = some o) (hl : l.length ≤ 900000000000) : ∀ (n k f : Nat) (o : List β), k + n = l.length → n < f → o.length = l.length → L f k o = some (o.take k ++ (l.drop k).map cv) := by
  intro n
  induction n with
  | zero =>
    intro k f o hk hf ho; obtain ⟨f, rfl⟩ : ∃ q, f = q + 1 := ⟨f - 1, by omega⟩; obtain rfl : k = l.length := by omega
    rw [he, List.drop_length, List.map_nil, List.append_nil, List.take_of_length_le (by omega)]
  | succ n ih =>
    intro k f o hk hf ho; obtain ⟨f, rfl⟩ : ∃ q, f = q + 1 := ⟨f - 1, by omega⟩; have hx : l[k]? = some l[k] := List.getElem?_eq_getElem (by omega)
    have e1 : (o.set k (cv l[k])).take (k + 1) = o.take k ++ [cv l[k]] := by
      rw [List.set_eq_take_append_cons_drop, if_pos (by omega)]; have e2 : (o.take k).length = k := by rw [List.length_take]; omega
      rw [List.take_append, e2, List.take_of_length_le (by omega), Nat.add_sub_cancel_left]; rfl
    have e3 : l.drop k = l[k] :: l.drop (k + 1) := List.drop_eq_getElem_cons (by omega); rw [hs f k o _ hx (by omega) ho, ih (k + 1) f _ (by omega) (by omega) (by rw [List.length_set, ho]), e1, e3, List.map_cons, List.append_assoc]; rfl
theorem toLoop0 {α β : Type} (cv : α → β) (l : List α) (z : β) (L : Nat → Int → List β → Option (List β)) (hs : ∀ (f k : Nat) (o : List β) (x : α), l[k]? = some x → k < 900000000000 → o.length = l.length → L (f + 1) k o = L f ((k + 1 : Nat) : Int) (o.set k (cv x))) (he : ∀ (f : Nat) (o : List β), L (f + 1) l.length o = some o) (hl : l.length ≤ 900000000000) : ((mk2? (l.length : Int) (l.length : Int) z).bind fun o => L (((l.length : Int) - (0 : Int)).toNat + 1) 0 o) = some (l.map cv) := by
  unfold mk2?; rw [if_pos (by omega), Option.bind_some]; have := toLoop cv l L hs he hl l.length 0 (((l.length : Int) - (0 : Int)).toNat + 1) (List.replicate (l.length : Int).toNat z) (by omega) (by omega) (by simp); rw [List.take_zero, List.nil_append, List.drop_zero] at this; exact this
theorem eqLoop {α : Type} [DecidableEq α] (a b : List α) (L : Nat → Int → Option Bool) (hs : ∀ (f k : Nat) (x y : α), a[k]? = some x → b[k]? = some y → k < 900000000000 → L (f + 1) k = (bif !(decide (x = y)) then some false else L f ((k + 1 : Nat) : Int))) (he : ∀ f : Nat, L (f + 1) a.length = some true) (hl : a.length ≤ 900000000000) :
    (bif ((a.length : Int) != (b.length : Int)) then some false else L (((a.length : Int) - (0 : Int)).toNat + 1) 0) = some (decide (a = b)) := by
  by_cases e : a.length = b.length
  · rw [show ((a.length : Int) != (b.length : Int)) = false by simp [e], cond_false, ← all2_eq e]
    refine scan2 (q := fun x y => decide (x = y)) a b e L (fun n k x y hx hy => ?_) he _ (by omega); rw [hs n k x y hx hy (by have := lt_of_at hx; omega)]; cases decide (x = y) <;> rfl
  · rw [show ((a.length : Int) != (b.length : Int)) = true by simp; omega, cond_true, decide_eq_false (fun h => e (by rw [h]))]
end Go.Lift
