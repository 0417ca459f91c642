/- The logic, part four: texts, regions that write, laws over bytes, guards. -/
import Derived.Test.YtdkpmckpcejceaaDoorLc
import Derived.Laws.BytesArg
import Derived.Laws.Cover3
import Derived.OpenShut
import Derived.Laws.MakeOwn
import Derived.Laws.Bits64
import Derived.ChangeArms
import Derived.DataReads
import Derived.WideShapes
import Derived.ChangeShapes
set_option linter.unusedVariables false
set_option linter.unusedSimpArgs false
set_option linter.unnecessarySimpa false
/- The lifted logic, part 31: bytes as a text; literals that are one's own. Own work. -/
namespace Go.Lift
open Go.RowKit
def bStr (l : List UInt8) : ByteArray := ⟨l.toArray⟩
theorem fro_bytes_inv {w : World} {ok : Nat → Prop} : ∀ {l : List UInt8} {vs : List Value}, FroL w ok ((l.map e_uint8).flatMap LV.cells) vs → vs = l.map fun b => Value.int .u8 (b.toNat : Int)
  | [], _, .nil => rfl
  | b :: l, vs, h => by
    have h' : FroL w ok (e_uint8 b :: (l.map e_uint8).flatMap LV.cells) vs := by simpa [e_uint8] using h
    cases h' with
    | cons h1 h2 h3 =>
      cases h1; rw [fro_bytes_inv h3]; rfl
section
variable {P : Program} {E : Ent} {Q : Exit → LState → Prop} {s : LState} {all : Array Oper} {rest : List Oper} {d : Nat} {ty : TypeId} {pos : String} {af : Array Edge}
theorem LWo.strM {src dst e : TypeId} {x : Operand} {l : List UInt8} (hs : P.underlying src = some (.slice e)) (hd' : P.underlying dst = some .string) (he : P.underlying e = some (.int .u8)) (hx : s.eval x = .sl 1 (l.map e_uint8)) (hd : Nat.blt d E.n = true := by exact rfl)
    (hn : LWo P E all rest Q (s.put (some d) (e_string (bStr l)))) :
    LWo P E all ({ dst := some d, op := .convert src dst x, type := ty, pos := pos, after := af, guard := none } :: rest) Q s :=
  LWo.still _ hd (fun a w ok ρ F hi => by
    have h := hi.eval x; rw [hx] at h; refine ⟨.string (bStr l), ?_, .fro (.imm _)⟩
    have hrun : (convert src dst (a.eval x)).run P w = .ok (.string (bStr l)) w := by
      have hf := h.sl_inv; rcases l with _ | ⟨b, l⟩
      · generalize a.eval x = v at hf
        cases hf with
        | sl0 h =>
          rename_i c A; cases A with
          | none => exact run_convert_bytes_nil w src e hs he 0 c dst hd'
          | some A => exact run_convert_bytes_back w src dst e A c [] hs he hd' (by simp)
        | sl h => simp at h
      · generalize hl : b :: l = L at hf ⊢
        have hne : L.map e_uint8 ≠ [] := by rw [← hl]; simp
        generalize a.eval x = v at hf; generalize hM : L.map e_uint8 = M at hf hne; cases hf with
        | sl0 h => exact absurd rfl hne
        | sl h0 h1 h2 h3 h4 h5 h6 =>
          rename_i c vs ad; subst hM; have hv := fro_bytes_inv h2; subst hv; rw [List.length_map]; exact run_convert_bytes_back w src dst e ad c L hs he hd' (fun j hj => h3 j _ (by simp [hj]))
    simp only [execOp]; rw [Sem.run_bind, hrun]; rfl) hn
theorem LWo.pickTM {c x y : Operand} {b : Bool} (z : LV) (hc : s.eval c = .imm (.bool b)) (h : b = true) (hz : s.eval x = z) (hd : Nat.blt d E.n = true := by exact rfl) (hn : LWo P E all rest Q (s.put (some d) z)) :
    LWo P E all ({ dst := some d, op := .pick c x y, type := ty, pos := pos, after := af, guard := none } :: rest) Q s := LWo.pickT hc h hd (by rw [hz]; exact hn)
theorem LWo.pickFM {c x y : Operand} {b : Bool} (z : LV) (hc : s.eval c = .imm (.bool b)) (h : b = false) (hz : s.eval y = z) (hd : Nat.blt d E.n = true := by exact rfl) (hn : LWo P E all rest Q (s.put (some d) z)) :
    LWo P E all ({ dst := some d, op := .pick c x y, type := ty, pos := pos, after := af, guard := none } :: rest) Q s := LWo.pickF hc h hd (by rw [hz]; exact hn)
end
end Go.Lift
/- The lifted logic, part 32: regions of open order whose operations may write. Own work. -/
namespace Go.Lift
open Go.RowKit
def lookH (k : Nat) : List HF → HF
  | [] => ⟨k, { kind := .fro, sz := 0, elems := [] }, none⟩
  | f :: r => if f.k = k then f else lookH k r
def hasH (k : Nat) (l : List HF) : Bool := l.any (·.k == k)
def AllH (h : LHeap) : List HF → Prop
  | [] => True
  | f :: r => hget f.k h = some f.obj ∧ AllH h r
theorem AllH.of {h : LHeap} : ∀ {l : List HF}, (∀ f ∈ l, hget f.k h = some f.obj) → AllH h l
  | [], _ => trivial
  | f :: r, hh => ⟨hh f (by simp), AllH.of fun g hg => hh g (by simp [hg])⟩
theorem lookH_k (k : Nat) : ∀ l, (lookH k l).k = k
  | [] => rfl
  | f :: r => by
    simp only [lookH]
    split
    · assumption
    · exact lookH_k k r
theorem lookH_mem {k : Nat} : ∀ {l}, hasH k l = true → lookH k l ∈ l
  | f :: r, h => by
    simp only [lookH]
    split
    · simp
    · rename_i e
      simp [hasH, e] at h; exact List.mem_cons_of_mem _ (lookH_mem (l := r) (by simpa [hasH] using h))
def Ef.accS (i : Nat) (acc : List SF) : Ef → List SF
  | .put d y => ⟨d, y, some i, y.refs⟩ :: acc
  | .upd (some d) y _ _ => ⟨d, y, some i, y.refs⟩ :: acc
  | .upd none _ _ _ => acc
  | .make d y _ _ => ⟨d, y, some i, y.refs⟩ :: acc
  | .gen (some d) y _ _ _ => ⟨d, y, some i, y.refs⟩ :: acc
  | .gen none _ _ _ _ => acc
def Ef.accH (i : Nat) (ah : List HF) : Ef → List HF
  | .put _ _ => ah
  | .upd _ _ k obj => ⟨k, obj, some i⟩ :: ah
  | .make _ _ k obj => ⟨k, obj, some i⟩ :: ah
  | .gen _ _ add _ _ => (add.map fun p => ⟨p.1, p.2, some i⟩) ++ ah
section
variable {P : Program} {E : Ent} {Q : Exit → LState → Prop}
def DSE (P : Program) (E : Ent) (KS : List (Nat × Nat)) (all : Array Oper) : List Oper → List (List Nat × List Nat) → Nat → List SF → List HF → (List SF → List HF → List Rec → Prop) → Prop
  | o :: os, (rd, hk) :: ps, i, acc, ah, k => (rd.all (hasT · acc) && hk.all (hasH · ah)) = true ∧ ∃ ef : Ef, ef.good KS ∧ (∀ u : LState, Good KS u → AllF u.tm (rd.map (look · acc)) → AllH u.h (hk.map (lookH · ah)) → LWo P E all [o] (fun e t => e = .normal ∧ (t = ef.run u ∨ t.le (ef.run u)) ∧ Good KS t) u) ∧
      DSE P E KS all os ps (i + 1) (ef.accS i acc) (ef.accH i ah) (fun a b r => k a b (⟨ef, rd.map (look · acc), hk.map (lookH · ah)⟩ :: r))
  | [], [], _, acc, ah, k => k acc ah []
  | _, _, _, _, _, _ => False
theorem DSE.out {KS : List (Nat × Nat)} {all : Array Oper} : ∀ {os : List Oper} {ps : List (List Nat × List Nat)} {i : Nat} {acc : List SF} {ah : List HF} {k : List SF → List HF → List Rec → Prop}, DSE P E KS all os ps i acc ah k →
    ∃ (acc' : List SF) (ah' : List HF) (recs : List Rec), k acc' ah' recs ∧ recs.length = os.length ∧ (∀ (j : Nat) (o : Oper) (r : Rec), os[j]? = some o → recs[j]? = some r → r.ok P E KS all o) ∧
      (∀ f ∈ acc, f ∈ acc') ∧ (∀ f ∈ ah, f ∈ ah') ∧
      (∀ f ∈ acc', f ∈ acc ∨ ∃ j r, f.est = some (i + j) ∧ recs[j]? = some r ∧ r.ef.dst = some f.t ∧ (∀ s, get f.t (r.ef.run s).tm = f.v) ∧ f.rf = f.v.refs) ∧
      (∀ f ∈ ah', f ∈ ah ∨ ∃ j r, f.est = some (i + j) ∧ recs[j]? = some r ∧ (∀ s, hget f.k (r.ef.run s).h = some f.obj)) ∧
      (∀ r ∈ recs, (∀ f ∈ r.rs, f ∈ acc') ∧ ∀ f ∈ r.rk, f ∈ ah')
  | o :: os, (rd, hk) :: ps, i, acc, ah, k, ⟨hin, ef, hgood, h1, h2⟩ => by
    obtain ⟨acc', ah', recs, hk', hlen, hok, hsub, hsubH, hnew, hnewH, hreq⟩ := DSE.out h2; simp only [Bool.and_eq_true] at hin
    have hs1 : ∀ f ∈ acc, f ∈ ef.accS i acc := by
      intro f hf; cases ef with
      | put d y => simp [Ef.accS, hf]
      | upd d y k o => cases d <;> simp [Ef.accS, hf]
      | make d y k o => simp [Ef.accS, hf]
      | gen d y add del kil => cases d <;> simp [Ef.accS, hf]
    have hs2 : ∀ f ∈ ah, f ∈ ef.accH i ah := by
      intro f hf; cases ef <;> simp [Ef.accH, hf]
    refine ⟨acc', ah', _, hk', by simp [hlen], ?_, fun f hf => hsub f (hs1 f hf), fun f hf => hsubH f (hs2 f hf), ?_, ?_, ?_⟩
    · intro j o' r ho hr
      cases j with
      | zero =>
        simp at ho hr; subst ho; subst hr; refine ⟨hgood, fun u hu hrs hrk => ?_⟩; exact h1 u hu (AllF.of hrs) (AllH.of hrk)
      | succ j => simp at ho hr; exact hok j o' r ho hr
    · intro f hf
      rcases hnew f hf with h | ⟨j, r, he, hr, h⟩
      · cases ef with
        | put d y =>
          rcases List.mem_cons.1 h with rfl | h
          · exact .inr ⟨0, _, by simp, rfl, rfl, fun s => by simp [Ef.run, LState.put, get], rfl⟩
          · exact .inl h
        | upd d y kk obj =>
          cases d with
          | none => exact .inl h
          | some d =>
            rcases List.mem_cons.1 h with rfl | h
            · exact .inr ⟨0, _, by simp, rfl, rfl, fun s => by simp [Ef.run, LState.put, get], rfl⟩
            · exact .inl h
        | make d y kk obj =>
          rcases List.mem_cons.1 h with rfl | h
          · exact .inr ⟨0, _, by simp, rfl, rfl, fun s => by simp [Ef.run, get], rfl⟩
          · exact .inl h
        | gen d y add del kil =>
          cases d with
          | none => exact .inl h
          | some d =>
            rcases List.mem_cons.1 h with rfl | h
            · exact .inr ⟨0, _, by simp, rfl, rfl, fun s => by simp [Ef.run, LState.put, get], rfl⟩
            · exact .inl h
      · exact .inr ⟨j + 1, r, by rw [he]; congr 1; omega, by simpa using hr, h⟩
    · intro f hf
      rcases hnewH f hf with h | ⟨j, r, he, hr, h⟩
      · cases ef with
        | put d y => exact .inl h
        | upd d y kk obj =>
          rcases List.mem_cons.1 h with rfl | h
          · refine .inr ⟨0, _, by simp, rfl, fun s => ?_⟩
            cases d <;> simp [Ef.run, LState.put, hget]
          · exact .inl h
        | make d y kk obj =>
          rcases List.mem_cons.1 h with rfl | h
          · exact .inr ⟨0, _, by simp, rfl, fun s => by simp [Ef.run, hget]⟩
          · exact .inl h
        | gen d y add del kil =>
          rcases List.mem_append.1 h with h | h
          · obtain ⟨q, hq, rfl⟩ := List.mem_map.1 h
            refine .inr ⟨0, _, by simp, rfl, fun s => ?_⟩; have := hget_app_mem (b := hdelN (hkeys add ++ del) s.h) (ndB_nodup hgood.1) hq; cases d <;> exact this
          · exact .inl h
      · exact .inr ⟨j + 1, r, by rw [he]; congr 1; omega, by simpa using hr, h⟩
    · intro r hr
      rcases List.mem_cons.1 hr with rfl | hr
      · refine ⟨fun f hf => ?_, fun f hf => ?_⟩
        · obtain ⟨t, ht, rfl⟩ := List.mem_map.1 hf
          exact hsub _ (hs1 _ (look_mem (List.all_eq_true.1 hin.1 t ht)))
        · obtain ⟨t, ht, rfl⟩ := List.mem_map.1 hf
          exact hsubH _ (hs2 _ (lookH_mem (List.all_eq_true.1 hin.2 t ht)))
      · exact hreq r hr
  | [], [], i, acc, ah, k, h => ⟨acc, ah, [], h, rfl, by simp, by simp, by simp, fun f hf => .inl hf, fun f hf => .inl hf, by simp⟩
theorem LWP.drawE {id : Nat} {l : List Oper} {s : LState} (KS : List (Nat × Nat)) (U : List Nat) (plan : List (List Nat × List Nat)) (out outH : List Nat) (hm : P.follows .mixedOrders = true)
    (hedge : (l.zipIdx.all fun (o, i) => (edgesOf o).all fun j => decide (j < i)) = true) (hgood : KS.all (fun p => lone p.1 (hdel p.2 s.h)) = true) (hnd : outH.Nodup)
    (h : DSE P E KS l.toArray l plan 0 (base s U) (heapF s.h) (fun acc ah recs => (out.all (hasT · acc) && outH.all (hasH · ah)) = true ∧ drawOK (preAll l []) (recs.map Rec.info) ((out.map (look · acc)).map fun f => (f.t, f.est, f.rf)) ((outH.map (lookH · ah)).map fun f => (f.k, f.est)) = true ∧ Q .normal ⟨out.map fun t => (t, (look t acc).v), outH.map fun k => (k, (lookH k ah).obj)⟩)) :
    LWP P E (.region id l.toArray true) Q s := by
  intro a w hi; have hnk : (hkeys s.h).Nodup := by obtain ⟨ok, ρ, F, h⟩ := hi; exact h.heap.keys
  obtain ⟨acc, ah, recs, ⟨hout, hc, hq⟩, hlen, hok, hsub, hsubH, hnew, hnewH, hreq⟩ := h.out; simp only [Bool.and_eq_true] at hout; refine LWP.draw (Q := Q) KS recs acc ah _ hm hlen hedge (fun k hk => List.all_eq_true.1 hgood k hk) (fun i o r ho hr => hok i o r ho hr) ?_ ?_ hreq (out.map (look · acc)) (outH.map (lookH · ah)) ?_ ?_ ?_ rfl hc ?_ a w hi
  · intro f hf
    rcases hnew f hf with h | ⟨j, r, he, hr, h1, h2, h3⟩
    · obtain ⟨t, ht, rfl⟩ := List.mem_map.1 h
      exact ⟨fun k hk => LV.refs_at? k _ hk, rfl⟩
    · refine ⟨fun k hk => LV.refs_at? k _ (h3 ▸ hk), ?_⟩
      rw [he]; simp only [Nat.zero_add]; exact ⟨r, hr, h1, h2⟩
  · intro f hf
    rcases hnewH f hf with h | ⟨j, r, he, hr, h1⟩
    · obtain ⟨p, hp, rfl⟩ := List.mem_map.1 h
      exact hget_of_mem hnk hp
    · rw [he]
      simp only [Nat.zero_add]; exact ⟨r, hr, h1⟩
  · intro f hf
    obtain ⟨t, ht, rfl⟩ := List.mem_map.1 hf; exact look_mem (List.all_eq_true.1 hout.1 t ht)
  · intro f hf
    obtain ⟨t, ht, rfl⟩ := List.mem_map.1 hf; exact lookH_mem (List.all_eq_true.1 hout.2 t ht)
  · rw [List.map_map]
    simpa [Function.comp_def, lookH_k] using hnd
  · have e1 : List.map (fun f : SF => (f.t, f.v)) (List.map (fun x => look x acc) out) = out.map fun t => (t, (look t acc).v) := by
      rw [List.map_map]; exact List.map_congr_left fun t _ => by simp [look_t]
    have e2 : List.map (fun f : HF => (f.k, f.obj)) (List.map (fun x => lookH x ah) outH) = outH.map fun k => (k, (lookH k ah).obj) := by
      rw [List.map_map]; exact List.map_congr_left fun t _ => by simp [lookH_k]
    rw [e1, e2]; exact hq
end
end Go.Lift
/- The lifted logic, part 33: a law over bytes, out of its contract. Own work. -/
namespace Go.Lift
open Go.RowKit
end Go.Lift
/- The lifted logic, part 34: guards whose own guard is not wanted; lists made at once; one's own list lent under any name. Own work. -/
namespace Go.Lift
open Go.RowKit
section
variable {P : Program} {E : Ent} {Q : Exit → LState → Prop} {s : LState} {all : Array Oper} {rest : List Oper} {d : Nat} {ty : TypeId} {pos : String} {af : Array Edge}
theorem LWo.skip {o : Oper} (d : Nat) (ho : o.dst = some d) (hlt : Nat.blt d E.n = true) (hw : ∀ a w ok ρ F, Inv' E s a w ok ρ F → Region.wanted o (yielded all a.tmps) = false)
    (hn : LWo P E all rest Q (s.put (some d) (.imm undef))) : LWo P E all (o :: rest) Q s := by
  intro a w ⟨ok, ρ, F, hi⟩; unfold wpList; rw [if_neg (by rw [hw a w ok ρ F hi]; simp)]; refine hn _ _ ⟨ok, ρ, F, ?_⟩; rw [ho]; exact hi.put hlt (.fro (.imm _))
theorem LWo.guardNU {o : Oper} {j t d : Nat} {b nw want : Bool} (hb : get t s.tm = .imm (.bool b)) (h : b = nw) (hg : o.guard = some (j, want)) (hd : (all[j]?).bind (·.dst) = some t) (ho : o.dst = some d) (hlt : Nat.blt d E.n = true) (hne : nw = !want)
    (hn : LWo P E all rest Q (s.put (some d) (.imm undef))) : LWo P E all (o :: rest) Q s :=
  LWo.skip d ho hlt (fun a w ok ρ F hi => by
    have hy := yielded_of hi hd hb; subst h hne; simp only [Region.wanted, hg, hy]; cases want <;> rfl) hn
theorem LWo.guardU {o : Oper} {j t d : Nat} {want : Bool} (hb : get t s.tm = .imm undef) (hg : o.guard = some (j, want)) (hd : (all[j]?).bind (·.dst) = some t) (ho : o.dst = some d) (hlt : Nat.blt d E.n = true)
    (hn : LWo P E all rest Q (s.put (some d) (.imm undef))) : LWo P E all (o :: rest) Q s :=
  LWo.skip d ho hlt (fun a w ok ρ F hi => by
    have hs := hi.slots t; rw [hb] at hs; have hv := hs.imm_inv
    have hy : yielded all a.tmps j = none := by
      rw [Array.getD_eq_getD_getElem?] at hv; cases h : a.tmps[t]? with
      | none => simp [yielded, hd, h]
      | some v =>
        rw [h] at hv; simp only [Option.getD_some] at hv; subst hv; simp [yielded, hd, h, undef]
    simp [Region.wanted, hg, hy]) hn
end
end Go.Lift
/- The lifted logic, part 35: a call with a variable lent whose list is one's own. Own work. -/
namespace Go.Lift
open Go.RowKit
section
variable {P : Program} {E : Ent} {Q : Exit → LState → Prop} {s : LState} {all : Array Oper} {rest : List Oper} {d : Nat} {ty : TypeId} {pos : String} {af : Array Edge}
end
end Go.Lift
/- The lifted logic, part 36: cuts of one's own list that stay one's own; clear. Own work. -/
namespace Go.Lift
open Go.RowKit
section
variable {P : Program} {E : Ent} {Q : Exit → LState → Prop} {s : LState} {all : Array Oper} {rest : List Oper} {d : Nat} {ty : TypeId} {pos : String} {af : Array Edge}
inductive SrcT {α : Type} (s : LState) (y : Operand) (sz : Nat) (f : α → LV) (l : List α) : Prop
  | m : SrcM s y sz f l → SrcT s y sz f l
  | cut {o off n : Nat} {L : List α} : s.eval y = .own o off n → off + n ≤ L.length → hget o s.h = some (lob sz f L) → (L.drop off).take n = l → SrcT s y sz f l
end
end Go.Lift
namespace Go.Lift
open Go.RowKit
section
variable {P : Program} {E : Ent} {Q : Exit → LState → Prop} {s : LState} {all : Array Oper}
end
end Go.Lift
/- The lifted logic, part 37: append in place, where the room is known. Own work. -/
namespace Go.Lift
open Go.RowKit
section
variable {P : Program} {E : Ent} {Q : Exit → LState → Prop} {s : LState} {all : Array Oper} {rest : List Oper} {d : Nat} {ty : TypeId} {pos : String} {af : Array Edge}
end
end Go.Lift
/- The lifted logic, part 38: a call that hands back a list of its own and something beside it. Own work. -/
namespace Go.Lift
open Go.RowKit
section
variable {P : Program} {E : Ent} {Q : Exit → LState → Prop} {s : LState} {all : Array Oper} {rest : List Oper} {d : Nat} {ty : TypeId} {pos : String} {af : Array Edge}
end
end Go.Lift
/- The lifted logic, part 39: a call whose list that comes back is not wanted. Own work. -/
namespace Go.Lift
open Go.RowKit
section
variable {P : Program} {E : Ent} {Q : Exit → LState → Prop} {s s' : LState} {all : Array Oper} {rest : List Oper} {d : Nat} {ty : TypeId} {pos : String} {af : Array Edge}
end
end Go.Lift
/- The lifted logic, part 40: short forms of the steps of a region of open order. Own work. -/
namespace Go.Lift
theorem zn {α β : Type} {a : α} {c : β} {R G : Prop} (hg : G) : a = a ∧ (c = c ∨ R) ∧ G := ⟨rfl, .inl rfl, hg⟩
section
variable {P : Program} {E : Ent}
theorem dq {KS : List (Nat × Nat)} {all : Array Oper} {o : Oper} {os : List Oper} {rd hk : List Nat} {ps : List (List Nat × List Nat)} {i : Nat} {acc : List SF} {ah : List HF} {k : List SF → List HF → List Rec → Prop} (d : Nat) {y : LV} (hin : (rd.all (hasT · acc) && hk.all (hasH · ah)) = true)
    (h1 : ∀ u : LState, Good KS u → AllF u.tm (rd.map (look · acc)) → AllH u.h (hk.map (lookH · ah)) → LWo P E all [o] (fun e t => e = .normal ∧ (t = (Ef.put d y).run u ∨ t.le ((Ef.put d y).run u)) ∧ Good KS t) u)
    (h2 : DSE P E KS all os ps (i + 1) ((Ef.put d y).accS i acc) ((Ef.put d y).accH i ah) (fun a b r => k a b (⟨.put d y, rd.map (look · acc), hk.map (lookH · ah)⟩ :: r))) : DSE P E KS all (o :: os) ((rd, hk) :: ps) i acc ah k := ⟨hin, .put d y, trivial, h1, h2⟩
end
def ins1 (x : Nat) (l : List Nat) : List Nat := bif l.contains x then l else x :: l
def preD : List Oper → List (List Nat) → List (List Nat)
  | [], acc => acc
  | o :: r, acc => preD r (acc ++ [(edgesOf o).foldl (fun l j => ins1 j ((acc.getD j []).foldl (fun l x => ins1 x l) l)) []])
theorem mem_ins1 {x y : Nat} {l : List Nat} : y ∈ ins1 x l ↔ y = x ∨ y ∈ l := by
  unfold ins1; cases h : l.contains x with
  | true =>
    have : x ∈ l := by simpa using h
    rw [cond_true]; exact ⟨.inr, fun h => h.elim (fun e => e ▸ this) id⟩
  | false => rw [cond_false, List.mem_cons]
theorem mem_foldI {y : Nat} : ∀ (xs l : List Nat), y ∈ xs.foldl (fun l x => ins1 x l) l ↔ y ∈ xs ∨ y ∈ l
  | [], l => by simp
  | x :: xs, l => by rw [List.foldl_cons, mem_foldI xs, mem_ins1, List.mem_cons]; grind
theorem preD_mem : ∀ (ops : List Oper) (a b : List (List Nat)), a.length = b.length → (∀ j x, x ∈ a.getD j [] ↔ x ∈ b.getD j []) → ∀ j x, x ∈ (preD ops a).getD j [] ↔ x ∈ (preAll ops b).getD j []
  | [], a, b, _, h => h
  | o :: r, a, b, hl, h => by
    rw [preD, preAll]
    have hx : ∀ x, x ∈ (edgesOf o).foldl (fun l j => ins1 j ((a.getD j []).foldl (fun l x => ins1 x l) l)) [] ↔ x ∈ (edgesOf o).flatMap fun j => j :: b.getD j [] := by
      intro x
      have key : ∀ (es l : List Nat), x ∈ es.foldl (fun l j => ins1 j ((a.getD j []).foldl (fun l x => ins1 x l) l)) l ↔ (x ∈ es.flatMap fun j => j :: b.getD j []) ∨ x ∈ l := by
        intro es
        induction es with
        | nil => intro l; simp
        | cons e es ih =>
          intro l; rw [List.foldl_cons, ih, mem_ins1, mem_foldI, h e x, List.flatMap_cons, List.mem_append, List.mem_cons]
          grind
      rw [key]; simp
    refine preD_mem r _ _ (by simp [hl]) ?_; intro j x; rcases Nat.lt_trichotomy j a.length with h1 | h1 | h1
    · rw [List.getD_eq_getElem?_getD, List.getElem?_append_left h1, List.getD_eq_getElem?_getD, List.getElem?_append_left (hl ▸ h1), ← List.getD_eq_getElem?_getD, ← List.getD_eq_getElem?_getD]
      exact h j x
    · subst h1
      rw [List.getD_eq_getElem?_getD, List.getElem?_append_right (Nat.le_refl _), List.getD_eq_getElem?_getD, hl, List.getElem?_append_right (Nat.le_refl _)]; simpa using hx x
    · rw [List.getD_eq_getElem?_getD, List.getElem?_eq_none (by simp; omega), List.getD_eq_getElem?_getD, List.getElem?_eq_none (by simp; omega)]
theorem ahead_D (l : List Oper) (i j : Nat) : ahead (preD l []) i j = ahead (preAll l []) i j := by
  unfold ahead; rw [Bool.eq_iff_iff, List.contains_iff_mem, List.contains_iff_mem]; exact preD_mem l [] [] rfl (fun _ _ => Iff.rfl) j i
theorem drawOK_D {l : List Oper} {T : List OI} {FS : List (Nat × Option Nat × List Nat)} {FH : List (Nat × Option Nat)} (h : drawOK (preD l []) T FS FH = true) : drawOK (preAll l []) T FS FH = true := by
  unfold drawOK harmless at *; simp only [ahead_D] at h; exact h
theorem DSE.mono {P : Program} {E : Ent} {KS : List (Nat × Nat)} {all : Array Oper} : ∀ {os : List Oper} {ps : List (List Nat × List Nat)} {i : Nat} {acc : List SF} {ah : List HF} {k k' : List SF → List HF → List Rec → Prop}, (∀ a b r, k a b r → k' a b r) → DSE P E KS all os ps i acc ah k → DSE P E KS all os ps i acc ah k'
  | [], [], _, _, _, _, _, hk, h => hk _ _ _ h
  | o :: os, (rd, hkk) :: ps, i, acc, ah, k, k', hk, ⟨h0, ef, h1, h2, h3⟩ => ⟨h0, ef, h1, h2, DSE.mono (fun a b r h => hk a b _ h) h3⟩
  | [], _ :: _, _, _, _, _, _, _, h => h
  | _ :: _, [], _, _, _, _, _, _, h => h
section
variable {P : Program} {E : Ent} {Q : Exit → LState → Prop}
theorem LWP.drawF {id : Nat} {l : List Oper} {s : LState} (KS : List (Nat × Nat)) (U : List Nat) (plan : List (List Nat × List Nat)) (out outH : List Nat) (hm : P.follows .mixedOrders = true)
    (hedge : (l.zipIdx.all fun (o, i) => (edgesOf o).all fun j => decide (j < i)) = true) (hgood : KS.all (fun p => lone p.1 (hdel p.2 s.h)) = true) (hnd : outH.Nodup)
    (h : DSE P E KS l.toArray l plan 0 (base s U) (heapF s.h) (fun acc ah recs => (out.all (hasT · acc) && outH.all (hasH · ah)) = true ∧ drawOK (preD l []) (recs.map Rec.info) ((out.map (look · acc)).map fun f => (f.t, f.est, f.rf)) ((outH.map (lookH · ah)).map fun f => (f.k, f.est)) = true ∧ Q .normal ⟨out.map fun t => (t, (look t acc).v), outH.map fun k => (k, (lookH k ah).obj)⟩)) :
    LWP P E (.region id l.toArray true) Q s := LWP.drawE KS U plan out outH hm hedge hgood hnd (DSE.mono (fun a b r ⟨h1, h2, h3⟩ => ⟨h1, drawOK_D h2, h3⟩) h)
end
end Go.Lift
/- The lifted logic, part 41: variables in memory whose fields hold lists of one's own. Own work. -/
namespace Go.Lift
open Go.RowKit
section
variable {P : Program} {E : Ent} {Q : Exit → LState → Prop} {s : LState} {all : Array Oper} {rest : List Oper} {d : Nat} {ty : TypeId} {pos : String} {af : Array Edge}
end
end Go.Lift
/- The lifted logic, part 42: a list of one's own lent at any place, and a tuple that comes back. Own work. -/
namespace Go.Lift
open Go.RowKit
section
variable {P : Program} {E : Ent} {Q : Exit → LState → Prop} {s : LState} {all : Array Oper} {rest : List Oper} {d : Nat} {ty : TypeId} {pos : String} {af : Array Edge}
end
end Go.Lift
/- The lifted logic, part 43: arguments of any type, as values that are read. Own work. -/
namespace Go.Lift
open Go.RowKit Go.ChangeShapes Go.WideShapes
def okB (W : World) : Nat → Prop := fun k => k < W.heap.size
structure Opn (P : Program) (T : TypeId) (n : Nat) {α : Type} (e : α → LV) (B : α → Prop) : Prop where
  size : P.cellsOf T = n
  len : ∀ x, (e x).cells.length = n
  read : ∀ {H : Type} (enc : TypeId × Value → H) (W : World) (fuel : Nat) (cs : List Value) (x : DataW H × List MemPlace), DataW.trod enc P W 0 (fun _ => true) true fuel T cs = some x → ∃ a, B a ∧ FroL W (okB W) (e a).cells cs
def B_int (n : Int) : Prop := -9223372036854775808 ≤ n ∧ n ≤ 9223372036854775807
def B_string (b : ByteArray) : Prop := b.size ≤ maxLen
theorem opn_string {P : Program} {T : TypeId} (h : P.underlying T = some .string) (hc : P.cellsOf T = 1) : Opn P T 1 e_string B_string where
  size := hc
  len := fun _ => rfl
  read := fun enc W fuel cs x ht => by
    obtain ⟨b, rfl, _, hs⟩ := DataW.trod_string h ht; exact ⟨b, hs, .cons (.imm _) rfl .nil⟩
structure OpnF (P : Program) (fs : List Field) (off tot : Nat) {α : Type} (e : α → List LV) (B : α → Prop) : Prop where
  len : ∀ x, off + (e x).length = tot
  read : ∀ {H : Type} (enc : TypeId × Value → H) (W : World) (fuel : Nat) (cs : List Value), cs.length = tot → (∀ (i : Nat) (f : Field), fs[i]? = some f → ∃ y, DataW.trod enc P W 0 (fun _ => true) true fuel f.type ((cs.drop f.offset).take (P.cellsOf f.type)) = some y) → ∃ a, B a ∧ FroL W (okB W) (e a) (cs.drop off)
theorem Opn.one {P : Program} {T : TypeId} {α : Type} {e : α → LV} {B : α → Prop} (h : Opn P T 1 e B) (he : ∀ a, (e a).cells = [e a]) {H : Type} {enc : TypeId × Value → H} {W : World} {v : Value} {d : DataW H} {p : List MemPlace} (hd : DataW.Trod enc P W 0 (fun _ => true) true T v d p) (hv : v.cells.toList = [v]) : ∃ a, B a ∧ Fro W (okB W) (e a) v := by
  obtain ⟨fuel, hf⟩ := hd; rw [hv] at hf; obtain ⟨a, ha, h1⟩ := h.read enc W fuel _ _ hf; rw [he a] at h1; cases h1 with
  | cons h2 _ _ => exact ⟨a, ha, h2⟩
theorem Opn.agg {P : Program} {T : TypeId} {n : Nat} {α : Type} {e : α → LV} {B : α → Prop} (h : Opn P T n e B) (he : ∀ a, e a = .agg (e a).cells) {H : Type} {enc : TypeId × Value → H} {W : World} {cs : Array Value} {d : DataW H} {p : List MemPlace} (hd : DataW.Trod enc P W 0 (fun _ => true) true T (.agg cs) d p) : ∃ a, B a ∧ Fro W (okB W) (e a) (.agg cs) := by
  obtain ⟨fuel, hf⟩ := hd; have e1 : (Value.agg cs).cells.toList = cs.toList := rfl; rw [e1] at hf; obtain ⟨a, ha, h1⟩ := h.read enc W fuel _ _ hf; refine ⟨a, ha, ?_⟩; rw [he a]; have := Fro.agg h1; simpa using this
end Go.Lift
/- The lifted logic, part 45: calls that read lists of one's own and hand back a list of flat elements. Own work. -/
namespace Go.Lift
open Go.RowKit
section
variable {P : Program} {E : Ent} {Q : Exit → LState → Prop} {s : LState} {all : Array Oper} {rest : List Oper} {d : Nat} {ty : TypeId} {pos : String} {af : Array Edge}
end
end Go.Lift
/- The lifted logic, part 46: lists that are owned with all that they lead to: what goes into them. Own work. -/
namespace Go.Lift
open Go.RowKit
theorem DeepL.cut {w : World} : ∀ {xs : List LV} {vs : List Value} {f : List Nat} (n : Nat), DeepL w xs vs f → ∃ fA fC, f = fA ++ fC ∧ DeepL w (xs.take n) (vs.take n) fA ∧ DeepL w (xs.drop n) (vs.drop n) fC
  | _, _, _, 0, h => ⟨[], _, rfl, by simpa using DeepL.nil, by simpa using h⟩
  | _, _, _, n + 1, .nil => ⟨[], [], rfl, by simpa using DeepL.nil, by simpa using DeepL.nil⟩
  | _, _, _, n + 1, .cons (f := f) h h1 h2 => by
    obtain ⟨fA, fC, rfl, hA, hC⟩ := DeepL.cut n h2; exact ⟨f ++ fA, fC, by rw [List.append_assoc], by simpa using DeepL.cons h h1 hA, by simpa using hC⟩
theorem DeepL.put {w : World} {xs ys : List LV} {vs us : List Value} {f g : List Nat} (h : DeepL w xs vs f) (q : Nat) (hy : DeepL w ys us g) : ∃ fA fB fC, f = fA ++ (fB ++ fC) ∧ DeepL w (setRange xs q ys) (vs.take q ++ us ++ vs.drop (q + ys.length)) (fA ++ g ++ fC) := by
  obtain ⟨fA, fR, rfl, hA, hR⟩ := h.cut q; obtain ⟨fB, fC, rfl, hB, hC⟩ := hR.cut ys.length; refine ⟨fA, fB, fC, rfl, ?_⟩; rw [List.drop_drop, List.drop_drop] at hC; exact (hA.append hy).append hC
theorem Deep.one {w : World} {x : LV} {v : Value} {f : List Nat} (h : Deep w x v f) (hx : ∃ sz xs, x = .sl sz xs) : v.oneCell' = true := by
  obtain ⟨sz, xs, rfl⟩ := hx; cases h <;> rfl
section
variable {P : Program} {E : Ent} {Q : Exit → LState → Prop} {s : LState} {all : Array Oper} {rest : List Oper} {d : Nat} {ty : TypeId} {pos : String} {af : Array Edge}
end
end Go.Lift
/- The lifted logic, part 47: lists that own: what is taken out and put back, what is made of lists of one's own. Own work. -/
namespace Go.Lift
open Go.RowKit
theorem DCells.append {w : World} {ρ : Env} {xs ys : List LV} {vs us : List Value} {f g : List Nat} (h : DCells w ρ xs vs f) (k : DCells w ρ ys us g) : DCells w ρ (xs ++ ys) (vs ++ us) (f ++ g) := by
  induction h with
  | nil => exact k
  | deep h h1 _ ih => rw [List.append_assoc]; exact .deep h h1 ih
  | own h h1 h2 _ ih => exact .own h h1 h2 ih
  | own0 _ ih => exact .own0 ih
theorem DCells.cut {w : World} {ρ : Env} {xs : List LV} {vs : List Value} {f : List Nat} (h : DCells w ρ xs vs f) : ∀ n : Nat, ∃ fA fC, f = fA ++ fC ∧ DCells w ρ (xs.take n) (vs.take n) fA ∧ DCells w ρ (xs.drop n) (vs.drop n) fC := by
  induction h with
  | nil => intro n; exact ⟨[], [], rfl, by simpa using DCells.nil, by simpa using DCells.nil⟩
  | @deep x v xs vs f g h h1 h2 ih =>
    intro n; cases n with
    | zero => exact ⟨[], _, rfl, by simpa using DCells.nil, by simpa using DCells.deep h h1 h2⟩
    | succ n =>
      obtain ⟨fA, fC, rfl, hA, hC⟩ := ih n; exact ⟨f ++ fA, fC, by rw [List.append_assoc], by simpa using DCells.deep h h1 hA, by simpa using hC⟩
  | own h h1 h2 h3 ih =>
    intro n; cases n with
    | zero => exact ⟨[], _, rfl, by simpa using DCells.nil, by simpa using DCells.own h h1 h2 h3⟩
    | succ n =>
      obtain ⟨fA, fC, rfl, hA, hC⟩ := ih n; exact ⟨fA, fC, rfl, by simpa using DCells.own h h1 h2 hA, by simpa using hC⟩
  | own0 h3 ih =>
    intro n; cases n with
    | zero => exact ⟨[], _, rfl, by simpa using DCells.nil, by simpa using DCells.own0 h3⟩
    | succ n =>
      obtain ⟨fA, fC, rfl, hA, hC⟩ := ih n; exact ⟨fA, fC, rfl, by simpa using DCells.own0 hA, by simpa using hC⟩
section
variable {P : Program} {E : Ent} {Q : Exit → LState → Prop} {s : LState} {all : Array Oper} {rest : List Oper} {d : Nat} {ty : TypeId} {pos : String} {af : Array Edge}
theorem settle_at {a : Act} {w : World} {ok : Nat → Prop} {ρ : Env} {F : Nat → List Nat} (hi : Inv' E s a w ok ρ F) (k : Nat) (hkp : E.keep.contains k = false) (hl : Lift.lone k (hdel k s.h) = true) {fr : List Nat} (hn : fr.Nodup)
    (hb : ∀ b ∈ fr, ¬ ok b ∧ b < w.heap.size ∧ b ∉ fpsOf F s.h ∧ (b < E.w0.heap.size → b ∈ E.lent)) (pl : Option Place) (obj : LObj) (ho : ObjRep w ok (upd ρ k pl) k obj fr) :
    Inv' E { tm := kill k s.tm, h := (k, obj) :: hdel k s.h } a w ok (upd ρ k pl) (upd F k fr) := by
  have h' := hi.sub (hdel_sub k s.h); have hne := not_key (hdel_key k s.h); have hF : ∀ p ∈ hdel k s.h, upd F k fr p.1 = F p.1 := fun p hp => upd_other _ _ (hne p hp)
  have hfps : fpsOf (upd F k fr) ((k, obj) :: hdel k s.h) = fr ++ fpsOf F (hdel k s.h) := by
    have e := fpsOf_congr hF; simp only [fpsOf, List.flatMap_cons, upd_same] at e ⊢; rw [e]
  have hdis : ∀ b ∈ fr, b ∉ fpsOf F (hdel k s.h) := fun b hb' hm => (hb b hb').2.2.1 ((fpsOf_sub (hdel_sub k s.h)).mem hm); refine { h' with heap := ⟨?_, ?_, ?_, ?_⟩, mine := ?_, slots := ?_, keep := fun j hj => (upd_other ρ _ (show j ≠ k from fun e => by subst e; simp [hj] at hkp)).trans (hi.keep j hj) }
  · simp only [hkeys, List.map_cons, List.nodup_cons]
    exact ⟨hdel_key k s.h, h'.heap.keys⟩
  · intro p hp
    rcases List.mem_cons.1 hp with rfl | hp
    · simpa using ho
    · rw [hF p hp]
      exact (h'.heap.objs p hp).stable (fun _ _ => rfl) (fun _ hb => hb) (fun _ _ => rfl) (upd_other _ _ (hne p hp)) (fun j hj => upd_other _ _ (fun e => lone_refs hl p hp (e ▸ hj)))
  · show (fpsOf (upd F k fr) _).Nodup
    rw [hfps, List.nodup_append]; exact ⟨hn, h'.heap.nodup, fun b h1 c h2 e => hdis b h1 (e ▸ h2)⟩
  · intro b hb'
    rw [show ({ tm := kill k s.tm, h := (k, obj) :: hdel k s.h } : LState).h = (k, obj) :: hdel k s.h from rfl, hfps] at hb'; rcases List.mem_append.1 hb' with h1 | h1
    · exact ⟨(hb b h1).1, (hb b h1).2.1⟩
    · exact h'.heap.apart b h1
  · intro p hp hro b hb' hlt
    rcases List.mem_cons.1 hp with rfl | hp
    · rw [upd_same] at hb'; exact (hb b hb').2.2.2 hlt
    · rw [hF p hp] at hb'
      exact h'.mine p hp hro b hb' hlt
  · intro t
    show Rep w ok _ (get t (kill k s.tm)) _; refine Rep.stable (w := w) (ρ := ρ) (fun _ _ => rfl) (fun _ hb => hb) (fun o ho => upd_other _ _ (fun e => kill_refs k t s.tm (e ▸ ho))) ?_; rw [get_kill]
    split
    · exact .junk _
    · exact hi.slots t
end
end Go.Lift
/- The lifted logic, part 48: appending to lists that own. Own work. -/
namespace Go.Lift
open Go.RowKit
section
variable {P : Program} {E : Ent} {Q : Exit → LState → Prop} {s : LState} {all : Array Oper} {rest : List Oper} {d : Nat} {ty : TypeId} {pos : String} {af : Array Edge}
theorem Inv'.alloc {a : Act} {w : World} {ok : Nat → Prop} {ρ : Env} {F : Nat → List Nat} (h : Inv' E s a w ok ρ F) (o : Obj) : Inv' E s a (w.alloc o) ok ρ F := by
  have hob : ∀ b, ok b → (w.alloc o).heap[b]? = w.heap[b]? := fun b hb => heap_alloc_lt w _ b (h.okk b hb).1; refine { defers := h.defers, size := h.size, ext := h.ext.alloc _, okk := fun b hb => ⟨by simp; have := (h.okk b hb).1; omega, (h.okk b hb).2⟩, heap := ⟨h.heap.keys, ?_, h.heap.nodup, ?_⟩, mine := h.mine, slots := ?_, keep := h.keep }
  · intro p hp
    exact (h.heap.objs p hp).stable hob (fun _ hb => hb) (fun b hb => heap_alloc_lt w _ b (h.heap.apart b (mem_fpsOf.2 ⟨p, hp, hb⟩)).2) rfl (fun _ _ => rfl)
  · intro b hb
    have := h.heap.apart b hb; exact ⟨this.1, by simp; omega⟩
  · intro t
    exact (h.slots t).stable hob (fun _ hb => hb) (fun _ _ => rfl)
end
end Go.Lift
/- The lifted logic, part 49: lists that own, as mirrors tell them. Own work. -/
namespace Go.Lift
open Go.RowKit
section
variable {P : Program} {E : Ent} {Q : Exit → LState → Prop} {s : LState} {all : Array Oper} {rest : List Oper} {d : Nat} {ty : TypeId} {pos : String} {af : Array Edge}
theorem SinkL.rep {h : LHeap} {cs ds : List LV} (hs : SinkL h cs ds []) : ∀ n : Nat, SinkL h (List.replicate n cs).flatten (List.replicate n ds).flatten []
  | 0 => .nil
  | n + 1 => by
    rw [List.replicate_succ, List.flatten_cons, List.replicate_succ, List.flatten_cons]
    have app : ∀ {a b c e : List LV} {k k' : List Nat}, SinkL h a b k → SinkL h c e k' → SinkL h (a ++ c) (b ++ e) (k ++ k') := by
      intro a
      induction a with
      | nil => intro b c e k k' h1 h2; cases h1; exact h2
      | cons x a ih =>
        intro b c e k k' h1 h2; cases h1 with
        | cons g1 g2 => rw [List.append_assoc]; exact .cons g1 (ih g2 h2)
    exact app hs (SinkL.rep hs n)
end
section
variable {P : Program}
end
end Go.Lift
/- The lifted logic, part 50: calls that take a list that owns, and hand one back. Own work. -/
namespace Go.Lift
open Go.RowKit
section
variable {P : Program} {E : Ent} {Q : Exit → LState → Prop} {s : LState} {all : Array Oper} {rest : List Oper} {d : Nat} {ty : TypeId} {pos : String} {af : Array Edge}
end
end Go.Lift
/- The lifted logic, part 51: structs that own, handed back. Own work. -/
namespace Go.Lift
open Go.RowKit
theorem DeepL.imms {w : World} {ok : Nat → Prop} : ∀ {xs : List LV} {us : List Value} {g : List Nat}, immL xs = true → DeepL w xs us g → g = [] ∧ FroL w ok xs us
  | [], _, _, _, .nil => ⟨rfl, .nil⟩
  | x :: xs, _, _, h1, .cons h3 h4 h5 => by
    cases x <;> simp [immL, LV.noFro.immL] at h1; cases h3; obtain ⟨rfl, h6⟩ := DeepL.imms (ok := ok) h1 h5; exact ⟨rfl, .cons (.imm _) h4 h6⟩
theorem Deep.sl_inv {w : World} {sz : Nat} {zs : List LV} {v : Value} {f : List Nat} (h : Deep w (.sl sz zs) v f) : (zs = [] ∧ f = [] ∧ ∃ a, v = .slice a 0 0) ∨
    ∃ c B vs arr t fps, f = B :: fps ∧ v = .slice (some ⟨B, 0, none⟩) zs.length c ∧ (∀ x ∈ zs, x.cells.length = sz) ∧ DeepL w (zs.flatMap LV.cells) vs fps ∧ w.heap[B]? = some (.cells arr t (0, 0)) ∧ c * sz ≤ arr.size ∧ (∀ (k : Nat) (v : Value), vs[k]? = some v → arr[k]? = some v) ∧ zs.length ≤ c ∧ c ≤ maxLen := by
  cases h with
  | sl0 => exact .inl ⟨rfl, rfl, _, rfl⟩
  | sl h1 h2 h3 h4 h5 h6 h7 => exact .inr ⟨_, _, _, _, _, _, rfl, rfl, h1, h2, h3, h4, h5, h6, h7⟩
section
variable {P : Program} {E : Ent} {Q : Exit → LState → Prop} {s : LState} {all : Array Oper} {rest : List Oper} {d : Nat} {ty : TypeId} {pos : String} {af : Array Edge}
end
end Go.Lift
/- The lifted logic, part 52: calls that hand back a list that owns, and a value. Own work. -/
namespace Go.Lift
open Go.RowKit
section
variable {P : Program} {E : Ent} {Q : Exit → LState → Prop} {s : LState} {all : Array Oper} {rest : List Oper} {d : Nat} {ty : TypeId} {pos : String} {af : Array Edge}
end
end Go.Lift
/- The lifted logic, part 53: structs that own several lists, handed back. Own work. -/
namespace Go.Lift
open Go.RowKit
inductive Outs : List LV → List LV → LHeap → Prop
  | nil : Outs [] [] []
  | imm {v : Value} {xs ys : List LV} {os : LHeap} : Outs xs ys os → Outs (.imm v :: xs) (.imm v :: ys) os
  | sl {k sz n : Nat} {kd : Kind} {zs xs ys : List LV} {os : LHeap} : (kd = .deep ∨ kd = .fro ∧ immL (zs.flatMap LV.cells) = true) → n = zs.length → Outs xs ys os → Outs (.sl sz zs :: xs) (.own k 0 n :: ys) ((k, { kind := kd, sz := sz, elems := zs }) :: os)
def killS : LHeap → Tm → Tm
  | [], t => t
  | (k, _) :: os, t => kill k (killS os t)
def addS : LHeap → LHeap → LHeap
  | [], h => h
  | (k, o) :: os, h => (k, o) :: hdel k (addS os h)
def loneS : LHeap → LHeap → Bool
  | [], _ => true
  | (k, _) :: os, h => lone k (hdel k (addS os h)) && (!(hkeys os).contains k && loneS os h)
theorem Outs.refs {xs ys : List LV} {os : LHeap} (h : Outs xs ys os) : LV.refs.refsL ys = hkeys os := by
  induction h with
  | nil => rfl
  | imm _ ih => simpa [LV.refs.refsL, LV.refs] using ih
  | sl _ _ _ ih => simp [LV.refs.refsL, LV.refs, hkeys] at ih ⊢; exact ih
section
variable {P : Program} {E : Ent} {Q : Exit → LState → Prop} {s : LState} {all : Array Oper} {rest : List Oper} {d : Nat} {ty : TypeId} {pos : String} {af : Array Edge}
theorem Outs.run {a : Act} {w : World} {ok : Nat → Prop} {ρ : Env} {F : Nat → List Nat} (hi : Inv' E s a w ok ρ F) {cs ys : List LV} {os : LHeap} (ho : Outs cs ys os) : ∀ {vs : List Value} {fr : List Nat}, DeepL w cs vs fr → fr.Nodup →
    (∀ b ∈ fr, ¬ ok b ∧ b < w.heap.size ∧ b ∉ fpsOf F s.h ∧ (b < E.w0.heap.size → b ∈ E.lent)) → loneS os s.h = true → (∀ k ∈ hkeys os, E.keep.contains k = false) →
    ∃ ρ' F', Inv' E { tm := killS os s.tm, h := addS os s.h } a w ok ρ' F' ∧ RepL w ok ρ' ys vs ∧ ∀ b ∈ fpsOf F' (addS os s.h), b ∈ fr ∨ b ∈ fpsOf F s.h := by
  induction ho with
  | nil =>
    intro vs fr hD _ _ _ _; cases hD; exact ⟨ρ, F, hi, .nil, fun b hb => .inr hb⟩
  | imm _ ih =>
    intro vs fr hD hn hb hl hk; cases hD with
    | cons h1 h2 h3 =>
      cases h1; obtain ⟨ρ', F', g1, g2, g3⟩ := ih h3 hn hb hl hk; exact ⟨ρ', F', g1, .cons (.fro (.imm _)) h2 g2, g3⟩
  | @sl k sz n kd zs xs ys os hkd hnz hO ih =>
    intro vs fr hD hn hb hl hk; subst hnz; unfold loneS at hl; rw [Bool.and_eq_true, Bool.and_eq_true] at hl; obtain ⟨hl1, hl2, hl3⟩ := hl; cases hD with
    | @cons _ v _ vs' fB g h1 h2 h3 =>
      rw [List.nodup_append] at hn; obtain ⟨n1, n2, n3⟩ := hn; obtain ⟨ρ1, F1, q1, q2, q3⟩ := ih h3 n2 (fun b hb' => hb b (by simp [hb'])) hl3 (fun j hj => hk j (by simp [hkeys] at hj ⊢; exact .inr hj)); have hkk := hk k (by simp [hkeys])
      have hkr : k ∉ LV.refs.refsL ys := by
        rw [hO.refs]; simpa using hl2
      have hbB : ∀ b ∈ fB, ¬ ok b ∧ b < w.heap.size ∧ b ∉ fpsOf F1 (addS os s.h) ∧ (b < E.w0.heap.size → b ∈ E.lent) := fun b hb' => by
        have h := hb b (by simp [hb']); refine ⟨h.1, h.2.1, fun hm => ?_, h.2.2.2⟩; rcases q3 b hm with h4 | h4
        · exact n3 b hb' b h4 rfl
        · exact h.2.2.1 h4
      have fin : ∀ pl : Option Place, ObjRep w ok (upd ρ1 k pl) k { kind := kd, sz := sz, elems := zs } fB → Rep w ok (upd ρ1 k pl) (.own k 0 zs.length) v →
          ∃ ρ' F', Inv' E { tm := killS ((k, { kind := kd, sz := sz, elems := zs }) :: os) s.tm, h := addS ((k, { kind := kd, sz := sz, elems := zs }) :: os) s.h } a w ok ρ' F' ∧ RepL w ok ρ' (.own k 0 zs.length :: ys) (v :: vs') ∧ ∀ b ∈ fpsOf F' (addS ((k, { kind := kd, sz := sz, elems := zs }) :: os) s.h), b ∈ fB ++ g ∨ b ∈ fpsOf F s.h := by
        intro pl p1 p2; have hi2 := settle_at q1 k hkk hl1 n1 hbB pl _ p1; refine ⟨_, _, hi2, .cons p2 h2 (RepL.stable (fun _ _ => rfl) (fun _ hb => hb) (fun o ho => upd_other _ _ (fun e => hkr (e ▸ ho))) q2), fun b hb' => ?_⟩; obtain ⟨q, hq, hb2⟩ := mem_fpsOf.1 hb'; rcases List.mem_cons.1 hq with rfl | hq
        · rw [upd_same] at hb2
          exact .inl (by simp [hb2])
        · rw [upd_other F1 fB (show q.1 ≠ k from not_key (hdel_key k _) q hq)] at hb2
          rcases q3 b (mem_fpsOf.2 ⟨q, (hdel_sub k _).mem hq, hb2⟩) with h4 | h4
          · exact .inl (by simp [h4])
          · exact .inr h4
      rcases h1.sl_inv with ⟨rfl, rfl, A, rfl⟩ | ⟨c, B, us, arr2, t2, fps2, rfl, rfl, m1, m2, m3, m4, m5, m6, m7⟩
      · exact fin none (.inl ⟨by simp, rfl, rfl⟩) .own0
      · refine fin (some ⟨B, c, sz⟩) (.inr ⟨⟨B, c, sz⟩, arr2, t2, us, fps2, by simp, rfl, { sz := rfl, unif := m1, len := m6, cap := m7, blk := m3, room := m4, vals := m5, cells := ?_ }⟩) ?_
        · rcases hkd with rfl | ⟨rfl, himm⟩
          · exact m2
          · exact DeepL.imms himm m2
        · have := Rep.own (w := w) (ok := ok) (ρ := upd ρ1 k (some ⟨B, c, sz⟩)) (o := k) (off := 0) (n := zs.length) (c := c) (p := ⟨B, c, sz⟩) (by simp) (by simp) m6
          simpa using this
end
end Go.Lift
/- The lifted logic, part 54: a list of one's own lent to be read; what comes back may lead to its elements, never to the list. Own work. -/
namespace Go.Lift
open Go.RowKit
section
variable {P : Program} {E : Ent} {Q : Exit → LState → Prop} {s : LState} {all : Array Oper} {rest : List Oper} {d : Nat} {ty : TypeId} {pos : String} {af : Array Edge}
end
end Go.Lift
/- The lifted logic, part 55: regions of open order in which what leads to what is told until an operation. Own work. -/
namespace Go.Lift
open Go.RowKit
section
variable {P : Program} {E : Ent} {Q : Exit → LState → Prop}
def DSEB (P : Program) (E : Ent) (KB : List ((Nat × Nat) × List Nat)) (all : Array Oper) : List Oper → List (List Nat × List Nat × List (Nat × Nat)) → Nat → List SF → List HF → (List SF → List HF → List Rec → Prop) → Prop
  | o :: os, (rd, hk, KS) :: ps, i, acc, ah, k => (rd.all (hasT · acc) && hk.all (hasH · ah)) = true ∧ ∃ ef : Ef, ef.good KS ∧ (∀ p ∈ KB, p.2.contains i = true ∨ ef.good [p.1]) ∧ (∀ u : LState, Good KS u → AllF u.tm (rd.map (look · acc)) → AllH u.h (hk.map (lookH · ah)) → LWo P E all [o] (fun e t => e = .normal ∧ (t = ef.run u ∨ t.le (ef.run u)) ∧ Good KS t) u) ∧
      DSEB P E KB all os ps (i + 1) (ef.accS i acc) (ef.accH i ah) (fun a b r => k a b (⟨ef, rd.map (look · acc), hk.map (lookH · ah)⟩ :: r))
  | [], [], _, acc, ah, k => k acc ah []
  | _, _, _, _, _, _ => False
theorem DSEB.out {KB : List ((Nat × Nat) × List Nat)} {all : Array Oper} : ∀ {os : List Oper} {ps : List (List Nat × List Nat × List (Nat × Nat))} {i : Nat} {acc : List SF} {ah : List HF} {k : List SF → List HF → List Rec → Prop}, DSEB P E KB all os ps i acc ah k →
    ∃ (acc' : List SF) (ah' : List HF) (recs : List Rec), k acc' ah' recs ∧ recs.length = os.length ∧ (∀ (j : Nat) (o : Oper) (r : Rec), os[j]? = some o → recs[j]? = some r → r.ok P E ((ps.map (·.2.2)).getD j []) all o ∧ ∀ p ∈ KB, p.2.contains (i + j) = true ∨ r.ef.good [p.1]) ∧
      (∀ f ∈ acc, f ∈ acc') ∧ (∀ f ∈ ah, f ∈ ah') ∧
      (∀ f ∈ acc', f ∈ acc ∨ ∃ j r, f.est = some (i + j) ∧ recs[j]? = some r ∧ r.ef.dst = some f.t ∧ (∀ s, get f.t (r.ef.run s).tm = f.v) ∧ f.rf = f.v.refs) ∧
      (∀ f ∈ ah', f ∈ ah ∨ ∃ j r, f.est = some (i + j) ∧ recs[j]? = some r ∧ (∀ s, hget f.k (r.ef.run s).h = some f.obj)) ∧
      (∀ r ∈ recs, (∀ f ∈ r.rs, f ∈ acc') ∧ ∀ f ∈ r.rk, f ∈ ah')
  | o :: os, (rd, hk, KS) :: ps, i, acc, ah, k, ⟨hin, ef, hgood, hb, h1, h2⟩ => by
    obtain ⟨acc', ah', recs, hk', hlen, hok, hsub, hsubH, hnew, hnewH, hreq⟩ := DSEB.out h2; simp only [Bool.and_eq_true] at hin
    have hs1 : ∀ f ∈ acc, f ∈ ef.accS i acc := by
      intro f hf; cases ef with
      | put d y => simp [Ef.accS, hf]
      | upd d y k o => cases d <;> simp [Ef.accS, hf]
      | make d y k o => simp [Ef.accS, hf]
      | gen d y add del kil => cases d <;> simp [Ef.accS, hf]
    have hs2 : ∀ f ∈ ah, f ∈ ef.accH i ah := by
      intro f hf; cases ef <;> simp [Ef.accH, hf]
    refine ⟨acc', ah', _, hk', by simp [hlen], ?_, fun f hf => hsub f (hs1 f hf), fun f hf => hsubH f (hs2 f hf), ?_, ?_, ?_⟩
    · intro j o' r ho hr
      cases j with
      | zero =>
        simp at ho hr; subst ho; subst hr; refine ⟨⟨hgood, fun u hu hrs hrk => ?_⟩, by simpa using hb⟩; exact h1 u hu (AllF.of hrs) (AllH.of hrk)
      | succ j =>
        simp at ho hr; obtain ⟨g1, g2⟩ := hok j o' r ho hr; exact ⟨by simpa using g1, by rw [show i + (j + 1) = i + 1 + j from by omega]; exact g2⟩
    · intro f hf
      rcases hnew f hf with h | ⟨j, r, he, hr, h⟩
      · cases ef with
        | put d y =>
          rcases List.mem_cons.1 h with rfl | h
          · exact .inr ⟨0, _, by simp, rfl, rfl, fun s => by simp [Ef.run, LState.put, get], rfl⟩
          · exact .inl h
        | upd d y kk obj =>
          cases d with
          | none => exact .inl h
          | some d =>
            rcases List.mem_cons.1 h with rfl | h
            · exact .inr ⟨0, _, by simp, rfl, rfl, fun s => by simp [Ef.run, LState.put, get], rfl⟩
            · exact .inl h
        | make d y kk obj =>
          rcases List.mem_cons.1 h with rfl | h
          · exact .inr ⟨0, _, by simp, rfl, rfl, fun s => by simp [Ef.run, get], rfl⟩
          · exact .inl h
        | gen d y add del kil =>
          cases d with
          | none => exact .inl h
          | some d =>
            rcases List.mem_cons.1 h with rfl | h
            · exact .inr ⟨0, _, by simp, rfl, rfl, fun s => by simp [Ef.run, LState.put, get], rfl⟩
            · exact .inl h
      · exact .inr ⟨j + 1, r, by rw [he]; congr 1; omega, by simpa using hr, h⟩
    · intro f hf
      rcases hnewH f hf with h | ⟨j, r, he, hr, h⟩
      · cases ef with
        | put d y => exact .inl h
        | upd d y kk obj =>
          rcases List.mem_cons.1 h with rfl | h
          · refine .inr ⟨0, _, by simp, rfl, fun s => ?_⟩
            cases d <;> simp [Ef.run, LState.put, hget]
          · exact .inl h
        | make d y kk obj =>
          rcases List.mem_cons.1 h with rfl | h
          · exact .inr ⟨0, _, by simp, rfl, fun s => by simp [Ef.run, hget]⟩
          · exact .inl h
        | gen d y add del kil =>
          rcases List.mem_append.1 h with h | h
          · obtain ⟨q, hq, rfl⟩ := List.mem_map.1 h
            refine .inr ⟨0, _, by simp, rfl, fun s => ?_⟩; have := hget_app_mem (b := hdelN (hkeys add ++ del) s.h) (ndB_nodup hgood.1) hq; cases d <;> exact this
          · exact .inl h
      · exact .inr ⟨j + 1, r, by rw [he]; congr 1; omega, by simpa using hr, h⟩
    · intro r hr
      rcases List.mem_cons.1 hr with rfl | hr
      · refine ⟨fun f hf => ?_, fun f hf => ?_⟩
        · obtain ⟨t, ht, rfl⟩ := List.mem_map.1 hf
          exact hsub _ (hs1 _ (look_mem (List.all_eq_true.1 hin.1 t ht)))
        · obtain ⟨t, ht, rfl⟩ := List.mem_map.1 hf
          exact hsubH _ (hs2 _ (lookH_mem (List.all_eq_true.1 hin.2 t ht)))
      · exact hreq r hr
  | [], [], i, acc, ah, k, h => ⟨acc, ah, [], h, rfl, by simp, by simp, by simp, fun f hf => .inl hf, fun f hf => .inl hf, by simp⟩
end
end Go.Lift
/- The lifted logic, part 56: lists some of whose parts are owned: taken out, put back, stored. Own work. -/
namespace Go.Lift
open Go.RowKit
theorem MCells.length {w : World} {ok : Nat → Prop} {ρ : Env} {xs : List LV} {vs : List Value} {f : List Nat} (h : MCells w ok ρ xs vs f) : xs.length = vs.length := by
  induction h with
  | nil => rfl
  | cons _ _ _ ih => simp [ih]
theorem MCells.append {w : World} {ok : Nat → Prop} {ρ : Env} {xs ys : List LV} {vs us : List Value} {f g : List Nat} (h : MCells w ok ρ xs vs f) (k : MCells w ok ρ ys us g) : MCells w ok ρ (xs ++ ys) (vs ++ us) (f ++ g) := by
  induction h with
  | nil => exact k
  | cons h h1 _ ih => rw [List.append_assoc]; exact .cons h h1 ih
theorem MCells.cut {w : World} {ok : Nat → Prop} {ρ : Env} {xs : List LV} {vs : List Value} {f : List Nat} (h : MCells w ok ρ xs vs f) : ∀ n : Nat, ∃ fA fC, f = fA ++ fC ∧ MCells w ok ρ (xs.take n) (vs.take n) fA ∧ MCells w ok ρ (xs.drop n) (vs.drop n) fC := by
  induction h with
  | nil => intro n; exact ⟨[], [], rfl, by simpa using MCells.nil, by simpa using MCells.nil⟩
  | @cons x v xs vs f g h h1 h2 ih =>
    intro n; cases n with
    | zero => exact ⟨[], _, rfl, by simpa using MCells.nil, by simpa using MCells.cons h h1 h2⟩
    | succ n =>
      obtain ⟨fA, fC, rfl, hA, hC⟩ := ih n; exact ⟨f ++ fA, fC, by rw [List.append_assoc], by simpa using MCells.cons h h1 hA, by simpa using hC⟩
theorem MCells.put {w : World} {ok : Nat → Prop} {ρ : Env} {xs ys : List LV} {vs us : List Value} {f g : List Nat} (h : MCells w ok ρ xs vs f) (q : Nat) (hy : MCells w ok ρ ys us g) : ∃ fA fB fC, f = fA ++ (fB ++ fC) ∧ MCells w ok ρ (setRange xs q ys) (vs.take q ++ us ++ vs.drop (q + ys.length)) (fA ++ g ++ fC) := by
  obtain ⟨fA, fR, rfl, hA, hR⟩ := h.cut q; obtain ⟨fB, fC, rfl, hB, hC⟩ := hR.cut ys.length; refine ⟨fA, fB, fC, rfl, ?_⟩; rw [List.drop_drop, List.drop_drop] at hC; exact (hA.append hy).append hC
section
variable {P : Program} {E : Ent} {Q : Exit → LState → Prop} {s : LState} {all : Array Oper} {rest : List Oper} {d : Nat} {ty : TypeId} {pos : String} {af : Array Edge}
end
end Go.Lift
/- The lifted logic, part 57: lists some of whose parts are owned, as mirrors tell them. Own work. -/
namespace Go.Lift
open Go.RowKit
theorem pure_refs : ∀ {x : LV}, x.pure = true → x.refs = []
  | .imm _, _ => rfl
  | .sl _ _, _ => rfl
  | .slx _ _, _ => rfl
  | .mv _ _, _ => rfl
  | .agg cs, h => by simpa [LV.refs] using pureL_refs (cs := cs) (by simpa [LV.pure] using h)
  | .clo _ cs, h => by simpa [LV.refs] using pureL_refs (cs := cs) (by simpa [LV.pure] using h)
  | .junk, h => by simp [LV.pure] at h
  | .tup _, h => by simp [LV.pure] at h
  | .fp _, h => by simp [LV.pure] at h
  | .ptr .., h => by simp [LV.pure] at h
  | .own .., h => by simp [LV.pure] at h
  | .ownc .., h => by simp [LV.pure] at h
  | .nw .., h => by simp [LV.pure] at h
  | .nb _, h => by simp [LV.pure] at h
  | .dv _, h => by simp [LV.pure] at h
  | .mx .., h => by simp [LV.pure] at h
  | .ms .., h => by simp [LV.pure] at h
where
  pureL_refs : ∀ {cs : List LV}, LV.pure.pureL cs = true → LV.refs.refsL cs = []
  | [], _ => rfl
  | x :: cs, h => by
    simp [LV.pure.pureL] at h; rw [LV.refs.refsL, pure_refs h.1, pureL_refs h.2]; rfl
inductive UnM1 : LV → LV → Prop
  | imm (v : Value) : UnM1 (.imm v) (.imm v)
  | fz (x : LV) : UnM1 (.tup [x]) x
  | nw (sz : Nat) (xs : List LV) : UnM1 (.nw sz xs false) (.sl sz xs)
inductive UnML : List LV → List LV → Prop
  | nil : UnML [] []
  | cons {x y : LV} {xs ys : List LV} : UnM1 x y → UnML xs ys → UnML (x :: xs) (y :: ys)
theorem UnML.append {a b c d : List LV} (h : UnML a b) (k : UnML c d) : UnML (a ++ c) (b ++ d) := by
  induction h with
  | nil => exact k
  | cons h _ ih => exact .cons h ih
theorem UnML.length {a b : List LV} (h : UnML a b) : a.length = b.length := by
  induction h with
  | nil => rfl
  | cons _ _ ih => simp [ih]
theorem UnML.map {α : Type} {f e : α → LV} (h : ∀ a, UnML (f a).cells (e a).cells) : ∀ l : List α, UnML ((l.map f).flatMap LV.cells) ((l.map e).flatMap LV.cells)
  | [] => .nil
  | a :: l => by
    rw [List.map_cons, List.flatMap_cons, List.map_cons, List.flatMap_cons]; exact (h a).append (UnML.map h l)
theorem UnML.fro {w : World} {ok ok' : Nat → Prop} {ρ : Env} (hok : ∀ b, ok b → ok' b) {xs : List LV} {vs : List Value} {fps : List Nat} (h : MCells w ok ρ xs vs fps) : ∀ {ys : List LV}, UnML xs ys → (∀ b ∈ fps, ok' b) → FroL w ok' ys vs := by
  induction h with
  | nil => intro ys hu _; cases hu; exact .nil
  | cons h h1 _ ih =>
    intro ys hu hf; cases hu with
    | cons h2 h3 =>
      refine .cons ?_ h1 (ih h3 (fun b hb => hf b (by simp [hb]))); cases h2 with
      | imm v => cases h; exact .imm _
      | fz x => cases h with | fz h => exact h.stable (fun _ _ => rfl) hok
      | nw sz zs =>
        cases h with
        | nw0 => exact .sl0 (Nat.zero_le _)
        | nw m1 m2 m3 m4 m5 m6 m7 =>
          rcases zs with _ | ⟨z, zs⟩
          · exact .sl0 m7
          · exact .sl (by simp) m1 (m2.stable (fun _ _ => rfl) hok) (cells_of m3 m5) (hf _ (by simp)) m6 m7
inductive MarkD1 : LV → LV → Prop
  | imm (v : Value) : MarkD1 (.imm v) (.imm v)
  | fz (sz : Nat) (xs : List LV) : MarkD1 (.sl sz xs) (.tup [.sl sz xs])
  | nw (sz : Nat) (xs : List LV) : MarkD1 (.sl sz xs) (.nw sz xs false)
inductive MarkDL : List LV → List LV → Prop
  | nil : MarkDL [] []
  | cons {x y : LV} {xs ys : List LV} : MarkD1 x y → MarkDL xs ys → MarkDL (x :: xs) (y :: ys)
theorem MarkDL.append {a b c d : List LV} (h : MarkDL a b) (k : MarkDL c d) : MarkDL (a ++ c) (b ++ d) := by
  induction h with
  | nil => exact k
  | cons h _ ih => exact .cons h ih
theorem MarkDL.length {a b : List LV} (h : MarkDL a b) : a.length = b.length := by
  induction h with
  | nil => rfl
  | cons _ _ ih => simp [ih]
theorem MarkDL.refs {a b : List LV} (h : MarkDL a b) : LV.refs.refsL b = [] := by
  induction h with
  | nil => rfl
  | cons h _ ih =>
    rw [LV.refs.refsL, ih, List.append_nil]; cases h <;> rfl
theorem MarkDL.map {α : Type} {f e : α → LV} (h : ∀ a, MarkDL (e a).cells (f a).cells) : ∀ l : List α, MarkDL ((l.map e).flatMap LV.cells) ((l.map f).flatMap LV.cells)
  | [] => .nil
  | a :: l => by
    rw [List.map_cons, List.flatMap_cons, List.map_cons, List.flatMap_cons]; exact (h a).append (MarkDL.map h l)
theorem MarkDL.cells {w : World} {ρ : Env} : ∀ {xs : List LV} {vs : List Value} {fps : List Nat}, DeepL w xs vs fps → fps.Nodup → ∀ {ys : List LV}, MarkDL xs ys → ∃ g : List Nat, g.Sublist fps ∧ ∀ ok : Nat → Prop, (∀ b ∈ fps, b ∉ g → ok b) → MCells w ok ρ ys vs g
  | _, _, _, .nil, _, _, .nil => ⟨[], by simp, fun _ _ => .nil⟩
  | _, _, _, .cons (v := v) (f := f) (g := g) h h1 h2, hn, _, .cons (y := y) k k2 => by
    rw [List.nodup_append] at hn; obtain ⟨n1, n2, n3⟩ := hn; obtain ⟨g2, s2, c2⟩ := MarkDL.cells (ρ := ρ) h2 n2 k2
    have one : ∃ g1 : List Nat, g1.Sublist f ∧ ∀ ok : Nat → Prop, (∀ b ∈ f, b ∉ g1 → ok b) → MCell w ok ρ y v g1 := by
      cases k with
      | imm v => cases h; exact ⟨[], by simp, fun _ _ => .imm v⟩
      | fz sz xs => exact ⟨[], by simp, fun ok hok => .fz (h.fro (fun b hb => hok b hb (by simp)))⟩
      | nw sz xs =>
        cases h with
        | sl0 => exact ⟨[], by simp, fun _ _ => .nw0⟩
        | @sl _ c B _ us arr t fps1 m1 m2 m3 m4 m5 m6 m7 =>
          refine ⟨[B], by simp, fun ok hok => .nw m1 (m2.fro (fun b hb => hok b (by simp [hb]) ?_)) m3 m4 m5 m6 m7⟩; have := (List.nodup_cons.1 n1).1; simp only [List.mem_singleton]; intro e; exact this (e ▸ hb)
    obtain ⟨g1, s1, c1⟩ := one; refine ⟨g1 ++ g2, s1.append s2, fun ok hok => .cons (c1 ok fun b hb hnb => hok b (by simp [hb]) ?_) h1 (c2 ok fun b hb hnb => hok b (by simp [hb]) ?_)⟩
    · rw [List.mem_append, not_or]
      exact ⟨hnb, fun hm => n3 b hb b (s2.mem hm) rfl⟩
    · rw [List.mem_append, not_or]
      exact ⟨fun hm => n3 b (s1.mem hm) b hb rfl, hnb⟩
section
variable {P : Program} {E : Ent} {Q : Exit → LState → Prop} {s : LState} {all : Array Oper} {rest : List Oper} {d : Nat} {ty : TypeId} {pos : String} {af : Array Edge}
theorem SinkM.rep {h : LHeap} {xs ys : List LV} (hs : SinkM h xs ys []) : ∀ n : Nat, SinkM h (List.replicate n xs).flatten (List.replicate n ys).flatten []
  | 0 => .nil
  | n + 1 => by
    rw [List.replicate_succ, List.flatten_cons, List.replicate_succ, List.flatten_cons]
    have app : ∀ {a b c d : List LV} {ks ks' : List Nat}, SinkM h a b ks → SinkM h c d ks' → SinkM h (a ++ c) (b ++ d) (ks ++ ks') := by
      intro a b c d ks ks' h1 h2
      induction h1 with
      | nil => exact h2
      | cons h h' ih => rw [List.append_assoc]; exact .cons h ih
    exact app hs (hs.rep n)
end
end Go.Lift
/- The lifted logic, part 58: lists some of whose parts are owned: appended to, handed back. Own work. -/
namespace Go.Lift
open Go.RowKit
theorem MCells.ones {w : World} {ok : Nat → Prop} {ρ : Env} {xs : List LV} {vs : List Value} {f : List Nat} (h : MCells w ok ρ xs vs f) : ∀ u ∈ vs, u.oneCell' = true := by
  induction h with
  | nil => simp
  | cons _ h1 _ ih =>
    intro u hu; rcases List.mem_cons.1 hu with rfl | hu
    · exact h1
    · exact ih u hu
section
variable {P : Program} {E : Ent} {Q : Exit → LState → Prop} {s : LState} {all : Array Oper} {rest : List Oper} {d : Nat} {ty : TypeId} {pos : String} {af : Array Edge}
end
end Go.Lift
/- Short forms of steps: what one may leave out. Own work. -/
namespace Go.Lift
open Go.RowKit
variable {P : Program} {E : Ent} {Q : Exit → LState → Prop} {s : LState} {all : Array Oper} {rest : List Oper} {ty : TypeId} {pos : String} {af : Array Edge}
theorem LWo.gN {op : Op} {j d : Nat} {b nw want : Bool} (t : Nat) (h : b = nw) (hn : LWo P E all rest Q (s.put (some d) (.imm undef)))
    (hb : get t s.tm = .imm (.bool b) := by exact rfl) (hd : (all[j]?).bind (·.dst) = some t := by exact rfl) (hlt : Nat.blt d E.n = true := by exact rfl) (hne : nw = !want := by exact rfl) :
    LWo P E all ({ dst := some d, op := op, type := ty, pos := pos, after := af, guard := some (j, want) } :: rest) Q s :=
  LWo.guardNU hb h rfl hd rfl hlt hne hn
theorem LWo.gU {op : Op} {j d : Nat} {want : Bool} (t : Nat) (hn : LWo P E all rest Q (s.put (some d) (.imm undef)))
    (hb : get t s.tm = .imm undef := by exact rfl) (hd : (all[j]?).bind (·.dst) = some t := by exact rfl) (hlt : Nat.blt d E.n = true := by exact rfl) :
    LWo P E all ({ dst := some d, op := op, type := ty, pos := pos, after := af, guard := some (j, want) } :: rest) Q s :=
  LWo.guardU hb rfl hd rfl hlt hn
theorem LWo.gY {dst : Option Nat} {op : Op} {j : Nat} {b want : Bool} (t : Nat) (h : b = want)
    (hn : LWo P E all ({ dst := dst, op := op, type := ty, pos := pos, after := af, guard := none } :: rest) Q s)
    (hb : get t s.tm = .imm (.bool b) := by exact rfl) (hd : (all[j]?).bind (·.dst) = some t := by exact rfl) :
    LWo P E all ({ dst := dst, op := op, type := ty, pos := pos, after := af, guard := some (j, want) } :: rest) Q s :=
  LWo.guardY hb h rfl hd hn
theorem so {α : Type} {a b : α} (h : some a = some b) : a = b := Option.some.inj h
theorem QG.p {t : Nat} {e : Exit} {r' : LV} (h1 : get t s.tm = r' := by exact rfl) (h2 : LV.pure r' = true := by exact rfl) (he : e = .normal ∨ e = .ret := by exact .inr rfl) : QG P E [.tmp t] (fun r h => r = r' ∧ h = []) e s :=
  QG.mk he (.cons (.tmp (x := r') h1) .nil) (RetOK.one0 (.pure h2) (by decide)) rfl rfl
end Go.Lift
/- The lifted logic, part 60: a list that was cut is given up. Own work. -/
namespace Go.Lift
open Go.RowKit
variable {P : Program} {E : Ent} {Q : Exit → LState → Prop} {s : LState} {all : Array Oper} {rest : List Oper}
end Go.Lift
/- The lifted logic, part 61: a state written out anew inside a region. Own work. -/
namespace Go.Lift
open Go.RowKit
variable {P : Program} {E : Ent} {Q : Exit → LState → Prop} {s : LState} {all : Array Oper} {rest : List Oper}
end Go.Lift
/- The lifted logic, part 62: a variable that a closure writes; it is lent under any name. Own work. -/
namespace Go.Lift
open Go.RowKit
section
variable {P : Program}
end
end Go.Lift
/- The lifted logic, part 63: a list without spare room, and what is put behind it. Own work. -/
namespace Go.Lift
open Go.RowKit
section
variable {P : Program} {E : Ent} {Q : Exit → LState → Prop} {s : LState} {all : Array Oper} {rest : List Oper} {d : Nat} {ty : TypeId} {pos : String} {af : Array Edge}
end
end Go.Lift
/- The lifted logic, part 64: a variable is lent, and given up; what comes back takes its name. Own work. -/
namespace Go.Lift
open Go.RowKit
section
variable {P : Program} {E : Ent} {Q : Exit → LState → Prop} {s : LState} {all : Array Oper} {rest : List Oper} {d : Nat} {ty : TypeId} {pos : String} {af : Array Edge}
end
end Go.Lift
/- The lifted logic, part 65: lists that are read and have no spare room. Own work. -/
namespace Go.Lift
open Go.RowKit
section
variable {P : Program} {E : Ent} {Q : Exit → LState → Prop} {s : LState} {all : Array Oper} {rest : List Oper} {d : Nat} {ty : TypeId} {pos : String} {af : Array Edge}
end
end Go.Lift
/- The lifted logic, part 67: method values; variables in memory that are given up. Own work. -/
namespace Go.Lift
open Go.RowKit
section
variable {P : Program} {E : Ent} {Q : Exit → LState → Prop} {s : LState} {all : Array Oper} {rest : List Oper} {d : Nat} {ty : TypeId} {pos : String} {af : Array Edge}
def PtrAt (tm : Tm) (k : Nat) : List Nat → Prop
  | [] => True
  | t :: r => get t tm = .ptr k 0 0 ∧ PtrAt tm k r
theorem PtrAt.mem {tm : Tm} {k j : Nat} : ∀ {ts : List Nat}, PtrAt tm k ts → j ∈ ts → get j tm = .ptr k 0 0
  | t :: r, h, hm => by
    rcases List.mem_cons.1 hm with rfl | hm
    · exact h.1
    · exact h.2.mem hm
end
end Go.Lift
/- The lifted logic, part 68: structs whose lists are lent, or read. Own work. -/
namespace Go.Lift
open Go.RowKit
section
variable {P : Program} {E : Ent} {Q : Exit → LState → Prop} {s : LState} {all : Array Oper} {rest : List Oper} {d : Nat} {ty : TypeId} {pos : String} {af : Array Edge}
end
end Go.Lift
/- The lifted logic, part 69: what stays when a map of one's own turns. Own work. -/
namespace Go.Lift
open Go.RowKit
structure TurnM (w w' : World) (b : Nat) : Prop where
  els : ∀ k, k ≠ b → w'.heap[k]? = w.heap[k]?
  was : ∃ es c, w.heap[b]? = some (.map es c)
theorem TurnM.cells {w w' : World} {b : Nat} (h : TurnM w w' b) {ad : Addr} {vs : List Value} (hc : Cells w ad vs) : Cells w' ad vs := fun k v hk => by
  have h1 := hc k v hk
  by_cases e : (ad.add k).block = b
  · obtain ⟨es, c, hm⟩ := h.was
    rw [← e] at hm; simp [World.cell?, hm] at h1
  · rw [World.cell?_of_block (w := w) (h.els _ e)]; exact h1
theorem TurnM.blk {w w' : World} {b : Nat} (h : TurnM w w' b) {B : Nat} {arr : Array Value} {t : TypeId} {fr : Nat × Nat} (hB : w.heap[B]? = some (.cells arr t fr)) : w'.heap[B]? = some (.cells arr t fr) := by
  rw [h.els B (by
    rintro rfl; obtain ⟨es, c, hm⟩ := h.was; rw [hm] at hB; cases hB)]
  exact hB
section
variable {P : Program} {E : Ent} {Q : Exit → LState → Prop} {s : LState} {all : Array Oper} {rest : List Oper} {d : Nat} {ty : TypeId} {pos : String} {af : Array Edge}
end
end Go.Lift
/- The lifted logic, part 70: maps of numbers that a call makes itself. Own work. -/
namespace Go.Lift
open Go.RowKit
section
variable {P : Program} {E : Ent} {Q : Exit → LState → Prop} {s : LState} {all : Array Oper} {rest : List Oper} {d : Nat} {ty : TypeId} {pos : String} {af : Array Edge}
def MpAt (tm : Tm) (o : Nat) (ks : List Int) (lim : Nat) : List Nat → Prop
  | [] => True
  | t :: r => get t tm = .mp o ks lim ∧ MpAt tm o ks lim r
theorem MpAt.mem {tm : Tm} {o lim j : Nat} {ks : List Int} : ∀ {ts : List Nat}, MpAt tm o ks lim ts → j ∈ ts → get j tm = .mp o ks lim
  | t :: r, h, hm => by
    rcases List.mem_cons.1 hm with rfl | hm
    · exact h.1
    · exact h.2.mem hm
end
end Go.Lift
/- The lifted logic, part 71: structs whose lists are lent, of any kind and number; a list and a value beside lists that are read. Own work. -/
namespace Go.Lift
open Go.RowKit
section
variable {P : Program} {E : Ent} {Q : Exit → LState → Prop} {s : LState} {all : Array Oper} {rest : List Oper} {d : Nat} {ty : TypeId} {pos : String} {af : Array Edge}
def Lents (s : LState) : LHeap → Prop
  | [] => True
  | (k, o) :: r => hget k s.h = some o ∧ (o.kind = .fro ∨ o.kind = .deep) ∧ o.ro = false ∧ Lents s r
theorem Lents.mem {s : LState} : ∀ {hl : LHeap}, Lents s hl → ∀ p ∈ hl, hget p.1 s.h = some p.2 ∧ (p.2.kind = .fro ∨ p.2.kind = .deep) ∧ p.2.ro = false
  | [], _ => by simp
  | (k, o) :: r, ⟨h1, h2, h3, h4⟩ => by
    intro p hp; rcases List.mem_cons.1 hp with rfl | hp
    · exact ⟨h1, h2, h3⟩
    · exact h4.mem p hp
def Backs (E : Ent) (s : LState) (ks : List Nat) : LHeap → Prop
  | [] => True
  | (k, o) :: r => ks.contains k = false ∧ hget k s.h = some o ∧ o.ro = false ∧ o.refs = [] ∧ E.keep.contains k = true ∧ Backs E s ks r
theorem Backs.mem {s : LState} {ks : List Nat} : ∀ {hl : LHeap}, Backs E s ks hl → ∀ p ∈ hl, ks.contains p.1 = false ∧ hget p.1 s.h = some p.2 ∧ p.2.ro = false ∧ p.2.refs = [] ∧ E.keep.contains p.1 = true
  | [], _ => by simp
  | (k, o) :: r, ⟨h1, h2, h3, h4, h5, h6⟩ => by
    intro p hp; rcases List.mem_cons.1 hp with rfl | hp
    · exact ⟨h1, h2, h3, h4, h5⟩
    · exact h6.mem p hp
end
end Go.Lift
/- The lifted logic, part 72: a list of one's own that is cut at its beginning, and appended to. Own work. -/
namespace Go.Lift
open Go.RowKit
section
variable {P : Program} {E : Ent} {Q : Exit → LState → Prop} {s : LState} {all : Array Oper} {rest : List Oper} {d : Nat} {ty : TypeId} {pos : String} {af : Array Edge}
end
end Go.Lift
/- The lifted logic, part 73: several objects made at once, in regions of open order too. Own work. -/
namespace Go.Lift
open Go.RowKit
section
variable {P : Program} {E : Ent} {Q : Exit → LState → Prop} {s : LState} {all : Array Oper} {rest : List Oper} {d : Nat} {ty : TypeId} {pos : String} {af : Array Edge}
end
end Go.Lift
/- The lifted logic, part 74: structs some of whose lists are owned while their elements are read. Own work. -/
namespace Go.Lift
open Go.RowKit
inductive OutsM : List LV → List LV → LHeap → Prop
  | nil : OutsM [] [] []
  | imm {v : Value} {xs ys : List LV} {os : LHeap} : OutsM xs ys os → OutsM (.imm v :: xs) (.imm v :: ys) os
  | fz {x : LV} {xs ys : List LV} {os : LHeap} : x.pure = true → OutsM xs ys os → OutsM (.tup [x] :: xs) (x :: ys) os
  | nw {k sz n : Nat} {zs xs ys : List LV} {os : LHeap} : n = zs.length → OutsM xs ys os → OutsM (.nw sz zs false :: xs) (.own k 0 n :: ys) ((k, { kind := .fro, sz := sz, elems := zs }) :: os)
theorem OutsM.refs {xs ys : List LV} {os : LHeap} (h : OutsM xs ys os) : LV.refs.refsL ys = hkeys os := by
  induction h with
  | nil => rfl
  | imm _ ih => simpa [LV.refs.refsL, LV.refs] using ih
  | fz hp _ ih => rw [LV.refs.refsL, pure_refs hp, List.nil_append]; exact ih
  | nw _ _ ih => simp [LV.refs.refsL, LV.refs, hkeys] at ih ⊢; exact ih
section
variable {P : Program} {E : Ent} {Q : Exit → LState → Prop} {s : LState} {all : Array Oper} {rest : List Oper} {d : Nat} {ty : TypeId} {pos : String} {af : Array Edge}
theorem OutsM.run {a : Act} {w : World} {ok : Nat → Prop} {ρ : Env} {F : Nat → List Nat} (hi : Inv' E s a w ok ρ F) {cs ys : List LV} {os : LHeap} (ho : OutsM cs ys os) : ∀ {vs : List Value} {fr : List Nat}, MCells w ok ρ cs vs fr → fr.Nodup →
    (∀ b ∈ fr, ¬ ok b ∧ b < w.heap.size ∧ b ∉ fpsOf F s.h ∧ (b < E.w0.heap.size → b ∈ E.lent)) → loneS os s.h = true → (∀ k ∈ hkeys os, E.keep.contains k = false) →
    ∃ ρ' F', Inv' E { tm := killS os s.tm, h := addS os s.h } a w ok ρ' F' ∧ RepL w ok ρ' ys vs ∧ ∀ b ∈ fpsOf F' (addS os s.h), b ∈ fr ∨ b ∈ fpsOf F s.h := by
  induction ho with
  | nil =>
    intro vs fr hD _ _ _ _; cases hD; exact ⟨ρ, F, hi, .nil, fun b hb => .inr hb⟩
  | imm _ ih =>
    intro vs fr hD hn hb hl hk; cases hD with
    | cons h1 h2 h3 =>
      cases h1; obtain ⟨ρ', F', g1, g2, g3⟩ := ih h3 hn hb hl hk; exact ⟨ρ', F', g1, .cons (.fro (.imm _)) h2 g2, g3⟩
  | fz _ _ ih =>
    intro vs fr hD hn hb hl hk; cases hD with
    | cons h1 h2 h3 =>
      cases h1 with
      | fz hf =>
        obtain ⟨ρ', F', g1, g2, g3⟩ := ih h3 hn hb hl hk; exact ⟨ρ', F', g1, .cons (.fro hf) h2 g2, g3⟩
  | @nw k sz n zs xs ys os hnz hO ih =>
    intro vs fr hD hn hb hl hk; subst hnz; unfold loneS at hl; rw [Bool.and_eq_true, Bool.and_eq_true] at hl; obtain ⟨hl1, hl2, hl3⟩ := hl; cases hD with
    | @cons _ v _ vs' fB g h1 h2 h3 =>
      rw [List.nodup_append] at hn; obtain ⟨n1, n2, n3⟩ := hn; obtain ⟨ρ1, F1, q1, q2, q3⟩ := ih h3 n2 (fun b hb' => hb b (by simp [hb'])) hl3 (fun j hj => hk j (by simp [hkeys] at hj ⊢; exact .inr hj)); have hkk := hk k (by simp [hkeys])
      have hkr : k ∉ LV.refs.refsL ys := by
        rw [hO.refs]; simpa using hl2
      have hbB : ∀ b ∈ fB, ¬ ok b ∧ b < w.heap.size ∧ b ∉ fpsOf F1 (addS os s.h) ∧ (b < E.w0.heap.size → b ∈ E.lent) := fun b hb' => by
        have h := hb b (by simp [hb']); refine ⟨h.1, h.2.1, fun hm => ?_, h.2.2.2⟩; rcases q3 b hm with h4 | h4
        · exact n3 b hb' b h4 rfl
        · exact h.2.2.1 h4
      have fin : ∀ pl : Option Place, ObjRep w ok (upd ρ1 k pl) k { kind := .fro, sz := sz, elems := zs } fB → Rep w ok (upd ρ1 k pl) (.own k 0 zs.length) v →
          ∃ ρ' F', Inv' E { tm := killS ((k, { kind := .fro, sz := sz, elems := zs }) :: os) s.tm, h := addS ((k, { kind := .fro, sz := sz, elems := zs }) :: os) s.h } a w ok ρ' F' ∧ RepL w ok ρ' (.own k 0 zs.length :: ys) (v :: vs') ∧ ∀ b ∈ fpsOf F' (addS ((k, { kind := .fro, sz := sz, elems := zs }) :: os) s.h), b ∈ fB ++ g ∨ b ∈ fpsOf F s.h := by
        intro pl p1 p2; have hi2 := settle_at q1 k hkk hl1 n1 hbB pl _ p1; refine ⟨_, _, hi2, .cons p2 h2 (RepL.stable (fun _ _ => rfl) (fun _ hb => hb) (fun o ho => upd_other _ _ (fun e => hkr (e ▸ ho))) q2), fun b hb' => ?_⟩; obtain ⟨q, hq, hb2⟩ := mem_fpsOf.1 hb'; rcases List.mem_cons.1 hq with rfl | hq
        · rw [upd_same] at hb2
          exact .inl (by simp [hb2])
        · rw [upd_other F1 fB (show q.1 ≠ k from not_key (hdel_key k _) q hq)] at hb2
          rcases q3 b (mem_fpsOf.2 ⟨q, (hdel_sub k _).mem hq, hb2⟩) with h4 | h4
          · exact .inl (by simp [h4])
          · exact .inr h4
      cases h1 with
      | nw0 => exact fin none (.inl ⟨by simp, rfl, rfl⟩) .own0
      | @nw _ c B _ us arr2 t2 m1 m2 m3 m4 m5 m6 m7 =>
        refine fin (some ⟨B, c, sz⟩) (.inr ⟨⟨B, c, sz⟩, arr2, t2, us, [], by simp, rfl, { sz := rfl, unif := m1, len := m6, cap := m7, blk := m3, room := m4, vals := m5, cells := ⟨rfl, m2⟩ }⟩) ?_; have := Rep.own (w := w) (ok := ok) (ρ := upd ρ1 k (some ⟨B, c, sz⟩)) (o := k) (off := 0) (n := zs.length) (c := c) (p := ⟨B, c, sz⟩) (by simp) (by simp) m6; simpa using this
end
end Go.Lift
/- The lifted logic, part 75: functions whose contracts have a premise on what the entry world holds. Own work. -/
namespace Go.Lift
open Go.RowKit
def DoesG (P : Program) (G : World → Prop) (f : FuncId) (xs : List LV) (Post : LV → LHeap → Prop) : Prop :=
  (∀ vs w, (callFunc f vs).run P w = .ok (.enter f vs) w) ∧ ∀ (w : World) (vs : List Value) (ok : Nat → Prop) (ρ : Env) (F : Nat → List Nat), G w → RepT w ok ρ xs vs → HeapOK w ok ρ F [] → (∀ k, ok k → k < w.heap.size) →
    Calls P f vs.toArray w fun e w' => ∃ v r hl' ok' F' fr, e = .returned v ∧ Post r hl' ∧ Ext w (fpsOf F (rwOf [])) w' ∧ Res w' ok' r v fr ∧
      (hkeys hl').Nodup ∧ (∀ p ∈ hl', p.2.ro = false ∧ p.1 ∈ hkeys (rwOf []) ∧ ObjRep w' ok' ρ p.1 p.2 (F' p.1)) ∧ (fr ++ fpsOf F' hl').Nodup ∧
      (∀ b ∈ fr ++ fpsOf F' hl', ¬ ok' b ∧ b < w'.heap.size ∧ (b < w.heap.size → b ∈ fpsOf F (rwOf []))) ∧
      (∀ k, ok' k → k < w'.heap.size ∧ (k < w.heap.size → ok k ∨ k ∈ fpsOf F (rwOf [])))
abbrev RetG (P : Program) (G : World → Prop) (f : FuncId) (xs : List LV) (v : LV) : Prop := DoesG P G f xs (fun r h => r = v ∧ h = [])
section
variable {P : Program} {E : Ent} {Q : Exit → LState → Prop} {s : LState} {all : Array Oper} {rest : List Oper} {d : Nat} {ty : TypeId} {pos : String} {af : Array Edge}
theorem LWo.callSG {G : World → Prop} {f : Operand} {ops : List Operand} {ts : Array TypeId} {dst : Option Nat} {g : FuncId} {caps vals xs : List LV} {vw : List Nat} {Post : LV → LHeap → Prop} (hf : s.eval f = .clo g caps) (hv : ops.map s.eval ++ caps = vals)
    (hfn : DoesG P G g xs Post) (hA : ArgsOK s [] vals xs vw) (hL : LentOK s []) (hG : ∀ w, Ext E.w0 E.lent w → G w)
    (hn : ∀ r hl', Post r hl' → (vw = [] ∨ (hl' = [] ∧ r.noFro = true)) ∧ ∃ s', (∀ (a : Act) (w : World) (ok : Nat → Prop) (ρ : Env) (F : Nat → List Nat) (v : Value) (fr : List Nat), Inv' E { tm := s.tm, h := hl' ++ hdels (hkeys (rwOf [])) s.h } a w ok ρ F → Res w ok r v fr → fr.Nodup →
      (∀ b ∈ fr, ¬ ok b ∧ b < w.heap.size ∧ b ∉ fpsOf F (hl' ++ hdels (hkeys (rwOf [])) s.h) ∧ (b < E.w0.heap.size → b ∈ E.lent)) → Inv E s' (a.put dst v) w) ∧ LWo P E all rest Q s') :
    LWo P E all ({ dst := dst, op := .call { callee := .value f, args := ops.toArray, argTypes := ts }, type := ty, pos := pos, after := af, guard := none } :: rest) Q s := by
  intro a w ⟨ok, ρ, F, hi⟩; refine wpList_plain rfl fun K hK => ?_; have hF := hi.eval f; rw [hf] at hF; obtain ⟨cv, hfv, hcr⟩ := hF.clo_inv
  have hT : RepT w ok ρ vals (ops.map a.eval ++ cv) := by
    rw [← hv]
    have app : ∀ {xs ys : List LV} {vs us : List Value}, RepT w ok ρ xs vs → RepL w ok ρ ys us → RepT w ok ρ (xs ++ ys) (vs ++ us) := by
      intro xs
      induction xs with
      | nil =>
        intro ys vs us h k; cases h; exact k.toT
      | cons x xs ih => intro ys vs us h k; cases h with | cons h1 h2 => exact .cons h1 (ih h2 k)
    exact app (evalL ops hi) hcr
  have hrun : (execOp a.eval { dst := dst, op := .call { callee := .value f, args := ops.toArray, argTypes := ts }, type := ty, pos := pos, after := af, guard := none }).run P w = .ok (.enter g (ops.map a.eval ++ cv).toArray) w := by
    have he := hfn.1 (ops.map a.eval ++ cv).toArray w; simp only [execOp, resolve, hfv, Deferred.ofValue]; simp [invoke]; simpa using he
  unfold Oper.wp; rw [hrun]; show Calls P g _ w _; have hviews := hA.views
  have hkeyL : ∀ k ∈ hkeys [], k ∈ hkeys s.h := fun k hk => by
    obtain ⟨o, ho⟩ : ∃ o, (k, o) ∈ ([] : LHeap) := by simpa [hkeys] using hk
    obtain ⟨z, hz, _⟩ := hL.here _ ho; have := hget_mem hz; simp [hkeys]; exact ⟨z, this⟩
  have hHeap : HeapOK w (fun b => ok b ∨ ∃ o ∈ vw, b ∈ F o) ρ F [] := by
    refine ⟨hL.keys, ?_, ?_, ?_⟩
    · intro p hp
      obtain ⟨o, ho, ho'⟩ := hL.here p hp; have hob := hi.heap.objs _ (hget_mem ho)
      have hob' : ObjRep w ok ρ p.1 p.2 (F p.1) := by
        rcases ho' with e | e
        · rw [e]; exact hob
        · rw [e]; exact hob.ro true
      exact hob'.stable (fun _ _ => rfl) (fun _ hb => .inl hb) (fun _ _ => rfl) rfl (fun _ _ => rfl)
    · rw [fpsOf_keys]
      exact nodup_keys hi.heap.keys hi.heap.nodup hL.keys hkeyL
    · intro b hb
      rw [fpsOf_keys] at hb; obtain ⟨j, hj, hb⟩ := List.mem_flatMap.1 hb; obtain ⟨o, ho⟩ : ∃ o, (j, o) ∈ s.h := by simpa [hkeys] using hkeyL j hj
      have := hi.heap.apart b (mem_fpsOf.2 ⟨_, ho, hb⟩); refine ⟨?_, this.2⟩; rintro (h1 | ⟨o', ho', h1⟩)
      · exact this.1 h1
      · obtain ⟨hn1, obj', hm'⟩ := hviews o' ho'
        exact nodup_apart hi.heap.keys hi.heap.nodup ho hm' (fun e => hn1 (by have e' : j = o' := e; rw [← e']; exact hj)) b hb h1
  have hokc : ∀ b, (ok b ∨ ∃ o ∈ vw, b ∈ F o) → b < w.heap.size := by
    rintro b (h | ⟨o, ho, h⟩)
    · exact (hi.okk b h).1
    · obtain ⟨_, obj', hm'⟩ := hviews o ho
      exact (hi.heap.apart b (mem_fpsOf.2 ⟨_, hm', h⟩)).2
  refine (hfn.2 w _ (fun b => ok b ∨ ∃ o ∈ vw, b ∈ F o) ρ F (hG w hi.ext) (hA.rep hi (fun _ hb => .inl hb) (fun o ho b hb => .inr ⟨o, ho, hb⟩) hT) hHeap hokc).mono ?_; rintro e w' ⟨v, r, hl', ok', F', fr, rfl, hpost, hext, hres, hk1, ho1, hn1, hb1, hok1⟩; obtain ⟨hvw, s', hset, hrest⟩ := hn r hl' hpost; obtain ⟨okn, Does', hI, hR, hnd, hbf⟩ := call_base hi hL hviews hvw hext hres hk1 ho1 hn1 hb1 hok1; exact hK _ _ (hrest _ _ (hset _ _ _ _ _ _ _ hI hR hnd hbf))
theorem DoesG.introG {G : World → Prop} {f : FuncId} {fn : Func} {c : Code} {n : Nat} {rvs : List ResultVar} {xs : List LV} {Post : LV → LHeap → Prop} (hf : P.funcs[f]? = some fn) (hb : fn.body = some c) (he : ∀ vs w, (callFunc f vs).run P w = .ok (.enter f vs) w)
    (hnt : fn.ntmps = n) (hxs : xs.length ≤ n) (hres : fn.results = rvs.toArray)
    (h : ∀ E : Ent, E.n = n → E.keep = hkeys (rwOf []) → E.lent = [] → G E.w0 → LWP P E c (QG P E rvs Post) { tm := argTm 0 xs, h := [] }) : DoesG P G f xs Post := by
  refine ⟨he, fun w vs ok ρ F hG hT hH hok => ?_⟩
  let hl : LHeap := []
  refine calls_of_wp hf hb ?_; have hvl := hT.length
  let E : Ent := { w0 := w, ok0 := ok, lent := fpsOf F (rwOf hl), n := n, ρ0 := ρ, keep := hkeys (rwOf hl) }
  have hinit : Inv E { tm := argTm 0 xs, h := hl } { tmps := vs.toArray ++ Array.replicate (fn.ntmps - vs.toArray.size) undef, defers := [] } w := by
    refine ⟨ok, ρ, F, { defers := rfl, size := by simp [E]; omega, ext := ⟨rfl, rfl, rfl, Nat.le_refl _, fun _ _ _ => rfl, Nat.le_refl _⟩, okk := fun k hk => ⟨hok k hk, fun _ => .inl hk⟩, heap := hH, mine := ?_, slots := ?_, keep := fun _ _ => rfl }⟩
    · intro p hp hro b hb _
      exact mem_fpsOf.2 ⟨p, by simp [rwOf, hro]; exact hp, hb⟩
    · intro t
      have := (get_args 0 t hT).1 (by omega); rw [Nat.sub_zero] at this
      have e : (vs.toArray ++ Array.replicate (fn.ntmps - vs.toArray.size) undef).getD t undef = (vs[t]?).getD undef := by
        rw [Array.getD_eq_getD_getElem?]; rcases Nat.lt_or_ge t vs.length with hlt | hge
        · rw [Array.getElem?_append_left (by simpa using hlt)]; simp
        · rw [Array.getElem?_append_right (by simpa using hge), List.getElem?_eq_none hge]
          simp only [Array.getElem?_replicate]
          split <;> rfl
      rw [e]; exact this
  refine wp_mono (h E rfl rfl rfl hG _ _ hinit) fun e a w' ⟨s, ⟨okf, ρf, Ff, hi⟩, he', xs1, r, hl', hrv0, hret, hpost⟩ => ?_; obtain ⟨ks, fz, hr, hnd, hdis⟩ := hret.res; obtain ⟨us, hus, hTT⟩ := hrv0.results hres hi; have hlu := hTT.length
  have hrun : ∃ v fr, (results fn a.tmps).run P w' = .ok v w' ∧ Res w' (okF okf Ff fz) r v fr ∧ fr.Sublist (ks.flatMap Ff) := by
    rcases hr with ⟨x, rfl, hr⟩ | ⟨hne, rs, rfl, hr⟩
    · match us, hTT with
      | [u], .cons hu .nil =>
        obtain ⟨fr, h1, h2, _⟩ := hr.res hi (all := fz) (fun _ h => h) hu; exact ⟨_, fr, by simpa using hus, h1, h2⟩
    · obtain ⟨fr, h1, h2⟩ := hr.res hi (all := fz) (fun _ h => h) hTT
      refine ⟨_, fr, by rw [hus, dif_neg (by simpa using fun e => hne (by rw [hlu, e]))], .tup h1, h2⟩
  obtain ⟨v, fr, hrv, hres', hsub⟩ := hrun
  have hin : ∀ k ∈ ks ++ fz, ∃ obj, hget k s.h = some obj ∧ obj.ro = false := by
    rcases hr with ⟨x, hx, hr⟩ | ⟨hne, rs, _, hr⟩
    · exact hr.inh
    · exact hr.inh
  have hkey : ∀ k ∈ ks ++ fz, k ∈ hkeys s.h := fun k hk => by
    obtain ⟨o, ho, _⟩ := hin k hk; have := hget_mem ho; simp [hkeys]; exact ⟨o, this⟩
  have hmine : ∀ k ∈ ks ++ fz, ∀ b ∈ Ff k, ¬ okf b ∧ b < w'.heap.size ∧ (b < w.heap.size → b ∈ fpsOf F (rwOf hl)) := by
    intro k hk b hb; obtain ⟨o, ho, hro⟩ := hin k hk; have := hi.heap.apart b (mem_fpsOf.2 ⟨_, hget_mem ho, hb⟩); exact ⟨this.1, this.2, hi.mine _ (hget_mem ho) hro b hb⟩
  have hkey' : ∀ p ∈ hl', p.1 ∈ hkeys s.h := fun p hp => by
    have := hget_mem (hret.here p hp).1; simp [hkeys]; exact ⟨p.2, this⟩
  have hndall : ((ks ++ fz) ++ hkeys hl').Nodup := by
    rw [List.nodup_append]; refine ⟨hnd, hret.keys, ?_⟩; intro k h1 j h2 e; subst e; obtain ⟨o, ho⟩ : ∃ o, (k, o) ∈ hl' := by simpa [hkeys] using h2
    exact hdis _ ho h1
  have hflat := nodup_keys hi.heap.keys hi.heap.nodup hndall (by
    intro k hk; rcases List.mem_append.1 hk with hk | hk
    · exact hkey k hk
    · obtain ⟨o, ho⟩ : ∃ o, (k, o) ∈ hl' := by simpa [hkeys] using hk
      exact hkey' _ ho)
  have hfl : (ks.flatMap Ff ++ fz.flatMap Ff ++ fpsOf Ff hl').Nodup := by
    rw [fpsOf_keys]; simpa [List.flatMap_append] using hflat
  have hfinal : ∃ v r hl' ok' F' fr, (Ending.returned v) = .returned v ∧ Post r hl' ∧ Ext w (fpsOf F (rwOf hl)) w' ∧ Res w' ok' r v fr ∧
      (hkeys hl').Nodup ∧ (∀ p ∈ hl', p.2.ro = false ∧ p.1 ∈ hkeys (rwOf hl) ∧ ObjRep w' ok' ρ p.1 p.2 (F' p.1)) ∧ (fr ++ fpsOf F' hl').Nodup ∧
      (∀ b ∈ fr ++ fpsOf F' hl', ¬ ok' b ∧ b < w'.heap.size ∧ (b < w.heap.size → b ∈ fpsOf F (rwOf hl))) ∧
      (∀ k, ok' k → k < w'.heap.size ∧ (k < w.heap.size → ok k ∨ k ∈ fpsOf F (rwOf hl))) ∧ (results fn a.tmps).run P w' = .ok v w' := by
    refine ⟨v, r, hl', okF okf Ff fz, Ff, fr, rfl, hpost, hi.ext, hres', hret.keys, ?_, ?_, ?_, ?_, hrv⟩
    · intro p hp
      obtain ⟨h1, h2, h3, h4'⟩ := hret.here p hp; refine ⟨h2, h3, ?_⟩; have hob := hi.heap.objs _ (hget_mem h1); refine ObjRep.stable (w := w') (ok := okf) (ρ := ρf) (fun _ _ => rfl) (fun _ hb => .inl hb) (fun _ _ => rfl) (hi.keep p.1 h3).symm ?_ hob; intro k hk; exact (hi.keep k (h4' k hk)).symm
    · rw [List.append_assoc] at hfl
      have h1 := List.nodup_append.1 hfl; rw [List.nodup_append]; refine ⟨hsub.nodup h1.1, (List.nodup_append.1 h1.2.1).2.1, ?_⟩; intro b hb c hc; exact h1.2.2 b (hsub.mem hb) c (List.mem_append.2 (.inr hc))
    · intro b hb
      have hbb : ∃ k ∈ ks ++ hkeys hl', b ∈ Ff k ∧ k ∉ fz ∧ k ∈ hkeys s.h ∧ (¬ okf b ∧ b < w'.heap.size ∧ (b < w.heap.size → b ∈ fpsOf F (rwOf hl))) := by
        rcases List.mem_append.1 hb with hb | hb
        · obtain ⟨k, hk, hb⟩ := List.mem_flatMap.1 (hsub.mem hb)
          exact ⟨k, by simp [hk], hb, fun hf => (List.nodup_append.1 hnd).2.2 k hk k hf rfl, hkey k (by simp [hk]), hmine k (by simp [hk]) b hb⟩
        · obtain ⟨p, hp, hb⟩ := mem_fpsOf.1 hb
          obtain ⟨h1, h2, h3, h4'⟩ := hret.here p hp; have := hi.heap.apart b (mem_fpsOf.2 ⟨_, hget_mem h1, hb⟩); exact ⟨p.1, by simp [hkeys]; exact .inr ⟨p.2, hp⟩, hb, fun hf => hdis p hp (by simp [hf]), hkey' p hp, this.1, this.2, hi.mine _ (hget_mem h1) h2 b hb⟩
      obtain ⟨k, _, hbk, hkf, hks, h1, h2, h3⟩ := hbb; refine ⟨?_, h2, h3⟩; rintro (h4 | ⟨j, hj, h4⟩)
      · exact h1 h4
      · exact key_apart hi.heap.keys hi.heap.nodup hks (hkey j (by simp [hj])) (fun e => hkf (e ▸ hj)) b hbk h4
    · rintro b (h1 | ⟨k, hk, h1⟩)
      · exact hi.okk b h1
      · have := hmine k (by simp [hk]) b h1
        exact ⟨this.2.1, fun hlt => .inr (this.2.2 hlt)⟩
  obtain ⟨v, r, hl', ok', F', fr, _, h1, h2, h3, h4, h5, h6, h7, h8, h9⟩ := hfinal; rcases he' with rfl | rfl
  · exact ⟨hi.defers, v, h9, v, r, hl', ok', F', fr, rfl, h1, h2, h3, h4, h5, h6, h7, h8⟩
  · exact ⟨hi.defers, v, h9, v, r, hl', ok', F', fr, rfl, h1, h2, h3, h4, h5, h6, h7, h8⟩
theorem DoesG.goG {G : World → Prop} {f : FuncId} {fn : Func} {c : Code} {n : Nat} {rvs : List ResultVar} {xs : List LV} {Post : LV → LHeap → Prop} (hst : ∀ w0 w, G w0 → Ext w0 [] w → G w) (hf : P.funcs[f]? = some fn) (hb : fn.body = some c) (he : ∀ vs w, (callFunc f vs).run P w = .ok (.enter f vs) w)
    (hnt : fn.ntmps = n) (hxs : Nat.ble xs.length n = true) (hres : fn.results = rvs.toArray)
    (h : ∀ w0 ok0 ρ0, (∀ w, Ext w0 [] w → G w) → LWP P ⟨w0, ok0, [], n, ρ0, []⟩ c (QG P ⟨w0, ok0, [], n, ρ0, []⟩ rvs Post) { tm := argTm 0 xs, h := [] }) : DoesG P G f xs Post := by
  refine DoesG.introG hf hb he hnt (Nat.le_of_ble_eq_true hxs) hres fun E e1 e2 e3 hG => ?_; obtain ⟨w0, ok0, lent, n', ρ0, keep'⟩ := E; simp only at e1 e2 e3 hG; subst e1; subst e3; have e2 : keep' = [] := e2; subst e2; exact h w0 ok0 ρ0 (fun w hw => hst w0 w hG hw)
theorem LWo.rcallG {G : World → Prop} {f : Operand} {ops : List Operand} {ts : Array TypeId} {g : FuncId} {caps vals xs : List LV} {R : LV → Prop} (hf : s.eval f = .clo g caps) (hv : ops.map s.eval ++ caps = vals)
    (hfn : DoesG P G g xs (fun r h => R r ∧ h = [])) (hA : ArgsOK s [] vals xs []) (hG : ∀ w, Ext E.w0 E.lent w → G w) (hd : Nat.blt d E.n = true := by exact rfl)
    (hn : ∀ r, R r → LWo P E all rest Q (s.put (some d) (settle none r))) :
    LWo P E all ({ dst := some d, op := .call { callee := .value f, args := ops.toArray, argTypes := ts }, type := ty, pos := pos, after := af, guard := none } :: rest) Q s := by
  refine LWo.callSG hf hv hfn hA ⟨by simp [hkeys], by simp⟩ hG ?_; rintro r hl' ⟨h1, rfl⟩; refine ⟨.inl rfl, _, ?_, hn r h1⟩; intro a w ok ρ F v fr hi hr hnd hb; have e0 : ([] : LHeap) ++ hdels (hkeys (rwOf [])) s.h = s.h := by simp [rwOf, hkeys]
  rw [e0] at hi; rw [show ({ tm := s.tm, h := s.h } : LState) = s from rfl] at hi; simp only [e0] at hb; obtain ⟨g1, g2⟩ := settle_frozen hi hr hb; exact ⟨_, _, _, g1.put hd g2⟩
theorem LWo.vcallG {G : World → Prop} {f : Operand} {ops : List Operand} {ts : Array TypeId} {g : FuncId} {caps vals xs : List LV} {v : LV} (hG : ∀ w, Ext E.w0 E.lent w → G w) (hf : s.eval f = .clo g caps) (hv : ops.map s.eval ++ caps = vals)
    (hfn : RetG P G g xs v) (hA : ArgsOK s [] vals xs []) (hd : Nat.blt d E.n = true := by exact rfl)
    (hn : LWo P E all rest Q (s.put (some d) (settle none v))) :
    LWo P E all ({ dst := some d, op := .call { callee := .value f, args := ops.toArray, argTypes := ts }, type := ty, pos := pos, after := af, guard := none } :: rest) Q s :=
  LWo.rcallG hf hv hfn hA hG hd (by rintro r rfl; exact hn)
end
end Go.Lift
/- The lifted logic, part 76: errors that are only asked whether they are there. Own work. -/
namespace Go.Lift
open Go.RowKit
def errV (b : Bool) (v : Value) : Prop := (b = true ∧ ∃ te pe, v = .iface te pe) ∨ (b = false ∧ v = .nilIface)
section
variable {P : Program} {E : Ent} {Q : Exit → LState → Prop} {s : LState} {all : Array Oper} {rest : List Oper} {d : Nat} {ty : TypeId} {pos : String} {af : Array Edge}
theorem eqIn_iface {t : TypeId} {te : TypeId} {pe : Value} {ms : Array (String × TypeId)} (d : Nat) (hu : P.underlying t = some (.interface ms)) (w : World) : (Op.equalIn (d + 1) t (.iface te pe) .nilIface).run P w = .ok false w := by
  simp [Op.equalIn, underlying, hu]
theorem eqIn_nil {t : TypeId} {ms : Array (String × TypeId)} (d : Nat) (hu : P.underlying t = some (.interface ms)) (w : World) : (Op.equalIn (d + 1) t .nilIface .nilIface).run P w = .ok true w := by
  simp [Op.equalIn, underlying, hu]
theorem run_neq {t : TypeId} {x y : Value} {b : Bool} {w : World} (hb : binOp .neq t x y = (do pure (.bool (!(← Op.equal t x y))))) (h : (Op.equalIn (9999 + 1) t x y).run P w = .ok b w) : (binOp .neq t x y).run P w = .ok (.bool (!b)) w := by
  have h' : (Op.equal t x y).run P w = .ok b w := h; rw [hb]; simp [h']
theorem run_neqNil {t : TypeId} {ev : Value} {b : Bool} {ms : Array (String × TypeId)} (he : errV b ev) (hu : P.underlying t = some (.interface ms)) (w : World) : (binOp .neq t ev .nilIface).run P w = .ok (.bool b) w := by
  rcases he with ⟨rfl, te, pe, rfl⟩ | ⟨rfl, rfl⟩
  · exact run_neq (b := false) rfl (eqIn_iface 9999 hu w)
  · exact run_neq (b := true) rfl (eqIn_nil 9999 hu w)
theorem LWo.neqErr {t t' : TypeId} {x : Operand} {ev : Value} {b : Bool} {ms : Array (String × TypeId)} (he : errV b ev) (hu : P.underlying t = some (.interface ms)) (hx : s.eval x = .imm ev) (hd : Nat.blt d E.n = true := by exact rfl)
    (hn : LWo P E all rest Q (s.put (some d) (.imm (.bool b)))) :
    LWo P E all ({ dst := some d, op := .binOp .neq t x (.const .nilIface) t', type := ty, pos := pos, after := af, guard := none } :: rest) Q s :=
  LWo.bin (.bool b) hx rfl (fun w => by
    rcases he with ⟨_, te, pe, rfl⟩ | ⟨_, rfl⟩
    · unfold eqGuard; simp
    · unfold eqGuard; simp) (fun w => run_neqNil he hu w) hd hn
theorem LWo.ecallG {G : World → Prop} {f : Operand} {ops : List Operand} {ts : Array TypeId} {g : FuncId} {caps vals xs : List LV} {n : LV} {b : Bool} (hG : ∀ w, Ext E.w0 E.lent w → G w) (hf : s.eval f = .clo g caps) (hv : ops.map s.eval ++ caps = vals)
    (hfn : DoesG P G g xs (fun r h => (∃ ev, errV b ev ∧ r = .tup [n, .imm ev]) ∧ h = [])) (hn0 : ∃ u, n = .imm u) (hA : ArgsOK s [] vals xs []) (hd : Nat.blt d E.n = true := by exact rfl)
    (hn : ∀ ev, errV b ev → LWo P E all rest Q { tm := (d, .tup [n, .imm ev]) :: s.tm, h := s.h }) :
    LWo P E all ({ dst := some d, op := .call { callee := .value f, args := ops.toArray, argTypes := ts }, type := ty, pos := pos, after := af, guard := none } :: rest) Q s := by
  obtain ⟨u, rfl⟩ := hn0
  exact LWo.rcallG hf hv hfn hA hG hd (by
    rintro r ⟨ev, h1, rfl⟩; exact hn ev h1)
end
theorem law_anyG {P : Program} {G : World → Prop} {f : FuncId} {xs : List LV} (h : RetG P G f xs (e_bool true)) (W : World) (hG : G W) (vs : List Value) (hv : RepT W (okB W) (fun _ => none) xs vs) :
    Calls P f vs.toArray W fun e w' => e = .returned (.bool true) ∧ Below W.heap.size W w' := by
  have hc := h.2 W vs (okB W) (fun _ => none) (fun _ => []) hG hv ⟨by simp [hkeys], by simp, by simp [fpsOf], by simp [fpsOf]⟩ (fun _ h => h); refine Calls.mono hc ?_; rintro e w' ⟨v, r, hl', ok', F', fr, rfl, ⟨rfl, rfl⟩, hext, hres, _⟩; refine ⟨?_, ⟨hext.os, hext.tape, hext.output, hext.size, fun k hk => hext.block k hk (by simp [fpsOf, rwOf])⟩⟩; cases hres with
  | fro h => cases h; rfl
end Go.Lift
/- Plain lemmas on mirrors: loops over lists, total functions. Own work. -/
namespace Go.Lift
def foldC {α S R : Type} (step : α → S → (S → Option R) → Option R) (J : S → Option R) : List α → S → Option R
  | [], s => J s
  | x :: xs, s => step x s (foldC step J xs)
theorem at_of {α : Type} {l : List α} {k : Nat} {x : α} (h : l[k]? = some x) : at? l (k : Int) = some x := by
  unfold at?; rw [if_pos (by omega)]; simpa using h
theorem lt_of_at {α : Type} {l : List α} {k : Nat} {x : α} (h : l[k]? = some x) : k < l.length := (List.getElem?_eq_some_iff.1 h).1
theorem scanC {α S R : Type} (xs : List α) (L : Nat → Int → S → Option R) (step : α → S → (S → Option R) → Option R) (J : S → Option R)
    (hs : ∀ n (k : Nat) x s, xs[k]? = some x → L (n + 1) (k : Int) s = step x s (fun s' => L n ((k : Int) + 1) s')) (he : ∀ n s, L (n + 1) (xs.length : Int) s = J s)
    (n : Nat) (hn : xs.length < n) (s : S) : L n 0 s = foldC step J xs s := by
  have key : ∀ (ys : List α) (k : Nat) (n : Nat) (s : S), xs.drop k = ys → k ≤ xs.length → ys.length < n → L n (k : Int) s = foldC step J ys s := by
    intro ys
    induction ys with
    | nil =>
      intro k n s hd hk hn
      have : k = xs.length := by
        have := congrArg List.length hd; simp at this; omega
      subst this; obtain ⟨m, rfl⟩ : ∃ m, n = m + 1 := ⟨n - 1, by simp at hn; omega⟩; exact he m s
    | cons y ys ih =>
      intro k n s hd hk hn
      have hlt : k < xs.length := by
        have := congrArg List.length hd; simp at this; omega
      have hy : xs[k]? = some y := by
        have := List.drop_eq_getElem_cons hlt; rw [hd] at this; simp only [List.cons.injEq] at this; rw [List.getElem?_eq_getElem hlt, this.1]
      have hd' : xs.drop (k + 1) = ys := by
        have := List.drop_eq_getElem_cons hlt; rw [hd] at this; simp only [List.cons.injEq] at this; exact this.2.symm
      obtain ⟨m, rfl⟩ : ∃ m, n = m + 1 := ⟨n - 1, by simp at hn; omega⟩; rw [hs m k y s hy]; simp only [foldC]
      congr 1
      funext s'
      have := ih (k + 1) m s' hd' (by omega) (by simp at hn; omega); simpa using this
  have := key xs 0 n s rfl (by omega) hn; simpa using this
theorem foldC_all {α R : Type} {p : α → Bool} {r0 r1 : R} : ∀ {l : List α}, foldC (S := Unit) (fun x s k => bif p x then some r0 else k s) (fun _ => some r1) l () = some (bif l.any p then r0 else r1)
  | [] => rfl
  | x :: l => by
    simp only [foldC, List.any_cons]; cases hp : p x
    · simpa using foldC_all (l := l)
    · simp
theorem scanA {α R : Type} {p : α → Bool} {r0 r1 : R} (xs : List α) (L : Nat → Int → Option R)
    (hs : ∀ n (k : Nat) x, xs[k]? = some x → L (n + 1) (k : Int) = bif p x then some r0 else L n ((k : Int) + 1)) (he : ∀ n, L (n + 1) (xs.length : Int) = some r1)
    (n : Nat) (hn : xs.length < n) : L n 0 = some (bif xs.any p then r0 else r1) := by
  have := scanC xs (fun n k (_ : Unit) => L n k) (fun x s k => bif p x then some r0 else k s) (fun _ => some r1) (fun n k x s hx => hs n k x hx) (fun n s => he n) n hn (); rw [this]; exact foldC_all
theorem dlt {k : Nat} {n : Nat} (h : k < n) : decide ((k : Int) < (n : Int)) = true := by simp; omega
theorem dnlt {n : Nat} : decide ((n : Int) < (n : Int)) = false := by simp
theorem ck1 {k : Nat} (h : k < 1000000000000) : ckI ((k : Int) + 1) = some ((k : Int) + 1) := ckI_of (by omega) (by omega)
theorem beqF {a b : Int} (h : ¬ a = b) : (a == b) = false := by simp [h]
theorem fuel0 {n : Nat} : n < (((n : Int) - 0).toNat + 1) := by omega
def Tot {α : Type} (o : Option α) (Q : α → Prop) : Prop := ∃ x, o = some x ∧ Q x
theorem Tot.ret {α : Type} {x : α} {Q : α → Prop} (h : Q x) : Tot (some x) Q := ⟨x, rfl, h⟩
theorem Tot.bind {α β : Type} {o : Option α} {f : α → Option β} {P : α → Prop} {Q : β → Prop} (h : Tot o P) (k : ∀ x, P x → Tot (f x) Q) : Tot (o.bind f) Q := by
  obtain ⟨x, rfl, hx⟩ := h; exact k x hx
theorem Tot.eq {α β : Type} {o : Option α} {x : α} {f : α → Option β} {Q : β → Prop} (h : o = some x) (k : Tot (f x) Q) : Tot (o.bind f) Q := by subst h; exact k
theorem Tot.mono {α : Type} {o : Option α} {P Q : α → Prop} (h : Tot o P) (k : ∀ x, P x → Q x) : Tot o Q := by obtain ⟨x, h1, h2⟩ := h; exact ⟨x, h1, k x h2⟩
theorem Tot.at {α β : Type} {l : List α} {i : Int} {f : α → Option β} {Q : β → Prop} (h0 : 0 ≤ i) (h1 : i < l.length) (k : ∀ x ∈ l, Tot (f x) Q) : Tot ((at? l i).bind f) Q :=
  Tot.eq (at_someI h0 (by omega)) (k _ (List.getElem_mem _))
theorem Tot.cut {α β : Type} {l : List α} {lo hi : Int} {f : List α → Option β} {Q : β → Prop} (h : 0 ≤ lo ∧ lo ≤ hi ∧ hi ≤ l.length) (k : Tot (f ((l.take hi.toNat).drop lo.toNat)) Q) : Tot ((cut? l lo hi).bind f) Q :=
  Tot.eq (by unfold cut?; rw [if_pos h]) k
theorem Tot.rem {β : Type} {m n : Int} {f : Int → Option β} {Q : β → Prop} (h : n ≠ 0) (k : Tot (f (m.tmod n)) Q) : Tot ((remI m n).bind f) Q := Tot.eq (by unfold remI; rw [if_neg h]) k
theorem Tot.quo {β : Type} {m n : Int} {f : Int → Option β} {Q : β → Prop} (h : n ≠ 0) (h0 : -9223372036854775808 ≤ m.tdiv n) (h1 : m.tdiv n ≤ 9223372036854775807) (k : Tot (f (m.tdiv n)) Q) : Tot ((quoI m n).bind f) Q := Tot.eq (by unfold quoI; rw [if_neg h, ckI_of h0 h1]) k
end Go.Lift
/- Plain Lean: putting in order by insertion, from the end; what holds of it. Own work. -/
namespace Go.Lift
def OrdB {α : Type} (gt : α → α → Bool) (l : List α) : Prop := l.Pairwise fun a b => gt a b = false
end Go.Lift
namespace Go.Lift
theorem ltE {α β : Type} (x : α) (f : α → β) : lt x f = f x := rfl
end Go.Lift
/- Plain Lean: putting in order by blocks that are merged. Own work. -/
namespace Go.Lift
inductive Chk {α : Type} (gt : α → α → Bool) (bs : Nat) : List α → Prop
  | last {X : List α} : X.length ≤ bs → OrdB gt X → Chk gt bs X
  | cons {X R : List α} : X.length = bs → OrdB gt X → Chk gt bs R → Chk gt bs (X ++ R)
end Go.Lift
/- Plain Lean: loops that look at neighbours, that copy, that leave out. Own work. -/
namespace Go.Lift
end Go.Lift
/- Plain Lean: putting in order so that equal ones keep their order. Own work. -/
namespace Go.Lift
structure StP {α κ : Type} (f : κ → α → Bool) (Z W : List α) : Prop where
  perm : Z.Perm W
  st : ∀ v, Z.filter (f v) = W.filter (f v)
theorem StP.refl {α κ : Type} {f : κ → α → Bool} (Z : List α) : StP f Z Z := ⟨.refl _, fun _ => rfl⟩
theorem StP.trans {α κ : Type} {f : κ → α → Bool} {Z W V : List α} (h : StP f Z W) (k : StP f W V) : StP f Z V := ⟨h.perm.trans k.perm, fun v => (h.st v).trans (k.st v)⟩
theorem StP.append {α κ : Type} {f : κ → α → Bool} {Z W Z2 W2 : List α} (h : StP f Z W) (k : StP f Z2 W2) : StP f (Z ++ Z2) (W ++ W2) := ⟨h.perm.append k.perm, fun v => by rw [List.filter_append, List.filter_append, h.st v, k.st v]⟩
theorem StP.mem_iff {α κ : Type} {f : κ → α → Bool} {Z W : List α} (h : StP f Z W) {x : α} : x ∈ Z ↔ x ∈ W := h.perm.mem_iff
end Go.Lift
/- Sizes, conversions and comparisons of arguments: the loops. Own work. -/
namespace Go.Lift
end Go.Lift
