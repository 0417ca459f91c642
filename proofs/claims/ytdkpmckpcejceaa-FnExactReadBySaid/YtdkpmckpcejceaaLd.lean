/- The logic, part four: texts, regions that write, laws over bytes, guards. -/
import Derived.Test.YtdkpmckpcejceaaLc
import Derived.Laws.BytesArg
import Derived.Laws.Cover3
import Derived.OpenShut
import Derived.Laws.MakeOwn
import Derived.Laws.Bits64
import Derived.ChangeArms
import Derived.DataReads
import Derived.WideShapes
import Derived.ChangeShapes
set_option linter.unusedVariables false
set_option linter.unusedSimpArgs false
set_option linter.unnecessarySimpa false
/- The lifted logic, part 31: bytes as a text; literals that are one's own. Own work. -/
namespace Go.Lift
open Go.RowKit
def bStr (l : List UInt8) : ByteArray := ⟨l.toArray⟩
theorem fro_bytes_inv {w : World} {ok : Nat → Prop} : ∀ {l : List UInt8} {vs : List Value}, FroL w ok ((l.map e_uint8).flatMap LV.cells) vs → vs = l.map fun b => Value.int .u8 (b.toNat : Int)
  | [], _, .nil => rfl
  | b :: l, vs, h => by
    have h' : FroL w ok (e_uint8 b :: (l.map e_uint8).flatMap LV.cells) vs := by simpa [e_uint8] using h
    cases h' with
    | cons h1 h2 h3 =>
      cases h1; rw [fro_bytes_inv h3]; rfl
section
variable {P : Program} {E : Ent} {Q : Exit → LState → Prop} {s : LState} {all : Array Oper} {rest : List Oper} {d : Nat} {ty : TypeId} {pos : String} {af : Array Edge}
theorem LWo.strM {src dst e : TypeId} {x : Operand} {l : List UInt8} (hs : P.underlying src = some (.slice e)) (hd' : P.underlying dst = some .string) (he : P.underlying e = some (.int .u8)) (hx : s.eval x = .sl 1 (l.map e_uint8)) (hd : Nat.blt d E.n = true := by exact rfl)
    (hn : LWo P E all rest Q (s.put (some d) (e_string (bStr l)))) :
    LWo P E all ({ dst := some d, op := .convert src dst x, type := ty, pos := pos, after := af, guard := none } :: rest) Q s :=
  LWo.still _ hd (fun a w ok ρ F hi => by
    have h := hi.eval x; rw [hx] at h; refine ⟨.string (bStr l), ?_, .fro (.imm _)⟩
    have hrun : (convert src dst (a.eval x)).run P w = .ok (.string (bStr l)) w := by
      have hf := h.sl_inv; rcases l with _ | ⟨b, l⟩
      · generalize a.eval x = v at hf
        cases hf with
        | sl0 h =>
          rename_i c A; cases A with
          | none => exact run_convert_bytes_nil w src e hs he 0 c dst hd'
          | some A => exact run_convert_bytes_back w src dst e A c [] hs he hd' (by simp)
        | sl h => simp at h
      · generalize hl : b :: l = L at hf ⊢
        have hne : L.map e_uint8 ≠ [] := by rw [← hl]; simp
        generalize a.eval x = v at hf; generalize hM : L.map e_uint8 = M at hf hne; cases hf with
        | sl0 h => exact absurd rfl hne
        | sl h0 h1 h2 h3 h4 h5 h6 =>
          rename_i c vs ad; subst hM; have hv := fro_bytes_inv h2; subst hv; rw [List.length_map]; exact run_convert_bytes_back w src dst e ad c L hs he hd' (fun j hj => h3 j _ (by simp [hj]))
    simp only [execOp]; rw [Sem.run_bind, hrun]; rfl) hn
theorem LWo.pickTM {c x y : Operand} {b : Bool} (z : LV) (hc : s.eval c = .imm (.bool b)) (h : b = true) (hz : s.eval x = z) (hd : Nat.blt d E.n = true := by exact rfl) (hn : LWo P E all rest Q (s.put (some d) z)) :
    LWo P E all ({ dst := some d, op := .pick c x y, type := ty, pos := pos, after := af, guard := none } :: rest) Q s := LWo.pickT hc h hd (by rw [hz]; exact hn)
theorem LWo.pickFM {c x y : Operand} {b : Bool} (z : LV) (hc : s.eval c = .imm (.bool b)) (h : b = false) (hz : s.eval y = z) (hd : Nat.blt d E.n = true := by exact rfl) (hn : LWo P E all rest Q (s.put (some d) z)) :
    LWo P E all ({ dst := some d, op := .pick c x y, type := ty, pos := pos, after := af, guard := none } :: rest) Q s := LWo.pickF hc h hd (by rw [hz]; exact hn)
end
end Go.Lift
/- The lifted logic, part 32: regions of open order whose operations may write. Own work. -/
namespace Go.Lift
open Go.RowKit
def lookH (k : Nat) : List HF → HF
  | [] => ⟨k, { kind := .fro, sz := 0, elems := [] }, none⟩
  | f :: r => if f.k = k then f else lookH k r
def hasH (k : Nat) (l : List HF) : Bool := l.any (·.k == k)
def AllH (h : LHeap) : List HF → Prop
  | [] => True
  | f :: r => hget f.k h = some f.obj ∧ AllH h r
theorem AllH.of {h : LHeap} : ∀ {l : List HF}, (∀ f ∈ l, hget f.k h = some f.obj) → AllH h l
  | [], _ => trivial
  | f :: r, hh => ⟨hh f (by simp), AllH.of fun g hg => hh g (by simp [hg])⟩
theorem lookH_k (k : Nat) : ∀ l, (lookH k l).k = k
  | [] => rfl
  | f :: r => by
    simp only [lookH]
    split
    · assumption
    · exact lookH_k k r
theorem lookH_mem {k : Nat} : ∀ {l}, hasH k l = true → lookH k l ∈ l
  | f :: r, h => by
    simp only [lookH]
    split
    · simp
    · rename_i e
      simp [hasH, e] at h; exact List.mem_cons_of_mem _ (lookH_mem (l := r) (by simpa [hasH] using h))
def Ef.accS (i : Nat) (acc : List SF) : Ef → List SF
  | .put d y => ⟨d, y, some i, y.refs⟩ :: acc
  | .upd (some d) y _ _ => ⟨d, y, some i, y.refs⟩ :: acc
  | .upd none _ _ _ => acc
  | .make d y _ _ => ⟨d, y, some i, y.refs⟩ :: acc
def Ef.accH (i : Nat) (ah : List HF) : Ef → List HF
  | .put _ _ => ah
  | .upd _ _ k obj => ⟨k, obj, some i⟩ :: ah
  | .make _ _ k obj => ⟨k, obj, some i⟩ :: ah
section
variable {P : Program} {E : Ent} {Q : Exit → LState → Prop}
def DSE (P : Program) (E : Ent) (KS : List (Nat × Nat)) (all : Array Oper) : List Oper → List (List Nat × List Nat) → Nat → List SF → List HF → (List SF → List HF → List Rec → Prop) → Prop
  | o :: os, (rd, hk) :: ps, i, acc, ah, k => (rd.all (hasT · acc) && hk.all (hasH · ah)) = true ∧ ∃ ef : Ef, ef.good KS ∧ (∀ u : LState, Good KS u → AllF u.tm (rd.map (look · acc)) → AllH u.h (hk.map (lookH · ah)) → LWo P E all [o] (fun e t => e = .normal ∧ (t = ef.run u ∨ t.le (ef.run u)) ∧ Good KS t) u) ∧
      DSE P E KS all os ps (i + 1) (ef.accS i acc) (ef.accH i ah) (fun a b r => k a b (⟨ef, rd.map (look · acc), hk.map (lookH · ah)⟩ :: r))
  | [], [], _, acc, ah, k => k acc ah []
  | _, _, _, _, _, _ => False
theorem DSE.out {KS : List (Nat × Nat)} {all : Array Oper} : ∀ {os : List Oper} {ps : List (List Nat × List Nat)} {i : Nat} {acc : List SF} {ah : List HF} {k : List SF → List HF → List Rec → Prop}, DSE P E KS all os ps i acc ah k →
    ∃ (acc' : List SF) (ah' : List HF) (recs : List Rec), k acc' ah' recs ∧ recs.length = os.length ∧ (∀ (j : Nat) (o : Oper) (r : Rec), os[j]? = some o → recs[j]? = some r → r.ok P E KS all o) ∧
      (∀ f ∈ acc, f ∈ acc') ∧ (∀ f ∈ ah, f ∈ ah') ∧
      (∀ f ∈ acc', f ∈ acc ∨ ∃ j r, f.est = some (i + j) ∧ recs[j]? = some r ∧ r.ef.dst = some f.t ∧ (∀ s, get f.t (r.ef.run s).tm = f.v) ∧ f.rf = f.v.refs) ∧
      (∀ f ∈ ah', f ∈ ah ∨ ∃ j r, f.est = some (i + j) ∧ recs[j]? = some r ∧ (∀ s, hget f.k (r.ef.run s).h = some f.obj)) ∧
      (∀ r ∈ recs, (∀ f ∈ r.rs, f ∈ acc') ∧ ∀ f ∈ r.rk, f ∈ ah')
  | o :: os, (rd, hk) :: ps, i, acc, ah, k, ⟨hin, ef, hgood, h1, h2⟩ => by
    obtain ⟨acc', ah', recs, hk', hlen, hok, hsub, hsubH, hnew, hnewH, hreq⟩ := DSE.out h2; simp only [Bool.and_eq_true] at hin
    have hs1 : ∀ f ∈ acc, f ∈ ef.accS i acc := by
      intro f hf; cases ef with
      | put d y => simp [Ef.accS, hf]
      | upd d y k o => cases d <;> simp [Ef.accS, hf]
      | make d y k o => simp [Ef.accS, hf]
    have hs2 : ∀ f ∈ ah, f ∈ ef.accH i ah := by
      intro f hf; cases ef <;> simp [Ef.accH, hf]
    refine ⟨acc', ah', _, hk', by simp [hlen], ?_, fun f hf => hsub f (hs1 f hf), fun f hf => hsubH f (hs2 f hf), ?_, ?_, ?_⟩
    · intro j o' r ho hr
      cases j with
      | zero =>
        simp at ho hr; subst ho; subst hr; refine ⟨hgood, fun u hu hrs hrk => ?_⟩; exact h1 u hu (AllF.of hrs) (AllH.of hrk)
      | succ j => simp at ho hr; exact hok j o' r ho hr
    · intro f hf
      rcases hnew f hf with h | ⟨j, r, he, hr, h⟩
      · cases ef with
        | put d y =>
          rcases List.mem_cons.1 h with rfl | h
          · exact .inr ⟨0, _, by simp, rfl, rfl, fun s => by simp [Ef.run, LState.put, get], rfl⟩
          · exact .inl h
        | upd d y kk obj =>
          cases d with
          | none => exact .inl h
          | some d =>
            rcases List.mem_cons.1 h with rfl | h
            · exact .inr ⟨0, _, by simp, rfl, rfl, fun s => by simp [Ef.run, LState.put, get], rfl⟩
            · exact .inl h
        | make d y kk obj =>
          rcases List.mem_cons.1 h with rfl | h
          · exact .inr ⟨0, _, by simp, rfl, rfl, fun s => by simp [Ef.run, get], rfl⟩
          · exact .inl h
      · exact .inr ⟨j + 1, r, by rw [he]; congr 1; omega, by simpa using hr, h⟩
    · intro f hf
      rcases hnewH f hf with h | ⟨j, r, he, hr, h⟩
      · cases ef with
        | put d y => exact .inl h
        | upd d y kk obj =>
          rcases List.mem_cons.1 h with rfl | h
          · refine .inr ⟨0, _, by simp, rfl, fun s => ?_⟩
            cases d <;> simp [Ef.run, LState.put, hget]
          · exact .inl h
        | make d y kk obj =>
          rcases List.mem_cons.1 h with rfl | h
          · exact .inr ⟨0, _, by simp, rfl, fun s => by simp [Ef.run, hget]⟩
          · exact .inl h
      · exact .inr ⟨j + 1, r, by rw [he]; congr 1; omega, by simpa using hr, h⟩
    · intro r hr
      rcases List.mem_cons.1 hr with rfl | hr
      · refine ⟨fun f hf => ?_, fun f hf => ?_⟩
        · obtain ⟨t, ht, rfl⟩ := List.mem_map.1 hf
          exact hsub _ (hs1 _ (look_mem (List.all_eq_true.1 hin.1 t ht)))
        · obtain ⟨t, ht, rfl⟩ := List.mem_map.1 hf
          exact hsubH _ (hs2 _ (lookH_mem (List.all_eq_true.1 hin.2 t ht)))
      · exact hreq r hr
  | [], [], i, acc, ah, k, h => ⟨acc, ah, [], h, rfl, by simp, by simp, by simp, fun f hf => .inl hf, fun f hf => .inl hf, by simp⟩
theorem LWP.drawE {id : Nat} {l : List Oper} {s : LState} (KS : List (Nat × Nat)) (U : List Nat) (plan : List (List Nat × List Nat)) (out outH : List Nat) (hm : P.follows .mixedOrders = true)
    (hedge : (l.zipIdx.all fun (o, i) => (edgesOf o).all fun j => decide (j < i)) = true) (hgood : KS.all (fun p => lone p.1 (hdel p.2 s.h)) = true) (hnd : outH.Nodup)
    (h : DSE P E KS l.toArray l plan 0 (base s U) (heapF s.h) (fun acc ah recs => (out.all (hasT · acc) && outH.all (hasH · ah)) = true ∧ drawOK (preAll l []) (recs.map Rec.info) ((out.map (look · acc)).map fun f => (f.t, f.est, f.rf)) ((outH.map (lookH · ah)).map fun f => (f.k, f.est)) = true ∧ Q .normal ⟨out.map fun t => (t, (look t acc).v), outH.map fun k => (k, (lookH k ah).obj)⟩)) :
    LWP P E (.region id l.toArray true) Q s := by
  intro a w hi; have hnk : (hkeys s.h).Nodup := by obtain ⟨ok, ρ, F, h⟩ := hi; exact h.heap.keys
  obtain ⟨acc, ah, recs, ⟨hout, hc, hq⟩, hlen, hok, hsub, hsubH, hnew, hnewH, hreq⟩ := h.out; simp only [Bool.and_eq_true] at hout; refine LWP.draw (Q := Q) KS recs acc ah _ hm hlen hedge (fun k hk => List.all_eq_true.1 hgood k hk) (fun i o r ho hr => hok i o r ho hr) ?_ ?_ hreq (out.map (look · acc)) (outH.map (lookH · ah)) ?_ ?_ ?_ rfl hc ?_ a w hi
  · intro f hf
    rcases hnew f hf with h | ⟨j, r, he, hr, h1, h2, h3⟩
    · obtain ⟨t, ht, rfl⟩ := List.mem_map.1 h
      exact ⟨fun k hk => LV.refs_at? k _ hk, rfl⟩
    · refine ⟨fun k hk => LV.refs_at? k _ (h3 ▸ hk), ?_⟩
      rw [he]; simp only [Nat.zero_add]; exact ⟨r, hr, h1, h2⟩
  · intro f hf
    rcases hnewH f hf with h | ⟨j, r, he, hr, h1⟩
    · obtain ⟨p, hp, rfl⟩ := List.mem_map.1 h
      exact hget_of_mem hnk hp
    · rw [he]
      simp only [Nat.zero_add]; exact ⟨r, hr, h1⟩
  · intro f hf
    obtain ⟨t, ht, rfl⟩ := List.mem_map.1 hf; exact look_mem (List.all_eq_true.1 hout.1 t ht)
  · intro f hf
    obtain ⟨t, ht, rfl⟩ := List.mem_map.1 hf; exact lookH_mem (List.all_eq_true.1 hout.2 t ht)
  · rw [List.map_map]
    simpa [Function.comp_def, lookH_k] using hnd
  · have e1 : List.map (fun f : SF => (f.t, f.v)) (List.map (fun x => look x acc) out) = out.map fun t => (t, (look t acc).v) := by
      rw [List.map_map]; exact List.map_congr_left fun t _ => by simp [look_t]
    have e2 : List.map (fun f : HF => (f.k, f.obj)) (List.map (fun x => lookH x ah) outH) = outH.map fun k => (k, (lookH k ah).obj) := by
      rw [List.map_map]; exact List.map_congr_left fun t _ => by simp [lookH_k]
    rw [e1, e2]; exact hq
theorem lone_of {k : Nat} {KS : List (Nat × Nat)} {u : LState} (h : Good KS u) (hk : KS.contains (k, k) = true) : lone k (hdel k u.h) = true := h (k, k) (by simpa using hk)
theorem goodN {j : Nat} {obj : LObj} : ∀ k ∈ ([] : List (Nat × Nat)), (j == k.2 || !obj.at? k.1) = true := fun _ h => by cases h
theorem goodC {j : Nat} {obj : LObj} {a : Nat × Nat} {l : List (Nat × Nat)} (h : (j == a.2 || !obj.at? a.1) = true) (h2 : ∀ k ∈ l, (j == k.2 || !obj.at? k.1) = true) : ∀ k ∈ a :: l, (j == k.2 || !obj.at? k.1) = true := fun k hk => by
  rcases List.mem_cons.1 hk with rfl | hk
  · exact h
  · exact h2 k hk
def cut3? {α : Type} (l : List α) (lo hi mx : Int) : Option (List α) := if 0 ≤ lo ∧ lo ≤ hi ∧ hi ≤ mx ∧ mx ≤ l.length then some ((l.take hi.toNat).drop lo.toNat) else none
theorem LWo.cutM3 {α : Type} {T e : TypeId} {sz : Nat} {f : α → LV} {l r : List α} {lo hi mx : Int} {x : Operand} {lx : Option Operand} {hx' mx' : Operand} {all : Array Oper} {rest : List Oper} {d : Nat} {ty : TypeId} {pos : String} {af : Array Edge} {s : LState} (he : cut3? l lo hi mx = some r) (hu : P.underlying T = some (.slice e)) (hz : ∀ w, (sizeOf e).run P w = .ok sz w)
    (hx : s.eval x = .sl sz (l.map f)) (hl : match lx with | none => lo = 0 | some o => ∃ k, s.eval o = .imm (.int k lo)) (hh : ∃ k, s.eval hx' = .imm (.int k hi)) (hm : ∃ k, s.eval mx' = .imm (.int k mx)) (hd : Nat.blt d E.n = true := by exact rfl)
    (hn : LWo P E all rest Q (s.put (some d) (.sl sz (r.map f)))) :
    LWo P E all ({ dst := some d, op := .slice T x lx (some hx') (some mx'), type := ty, pos := pos, after := af, guard := none } :: rest) Q s := by
  unfold cut3? at he
  split at he
  · rename_i h1
    cases he; refine LWo.cut (l := lo.toNat) (h := hi.toNat) _ hu hz hx ?_ ?_ ?_ (.inr (by simp)) (by omega) (by rw [List.length_map]; omega) ?_ hd hn
    · cases lx with
      | none => simp only at hl; subst hl; rfl
      | some o => obtain ⟨k, hk⟩ := hl; exact ⟨k, by rw [hk, Int.toNat_of_nonneg h1.1]⟩
    · obtain ⟨k, hk⟩ := hh; exact ⟨k, by rw [hk, Int.toNat_of_nonneg (by omega)]⟩
    · obtain ⟨k, hk⟩ := hm
      exact ⟨k, mx.toNat, by rw [hk, Int.toNat_of_nonneg (by omega)], by omega, by rw [List.length_map]; omega⟩
    · rw [List.map_drop, List.map_take]
  · cases he
end
end Go.Lift
/- The lifted logic, part 33: a law over bytes, out of its contract. Own work. -/
namespace Go.Lift
open Go.RowKit
end Go.Lift
/- The lifted logic, part 34: guards whose own guard is not wanted; lists made at once; one's own list lent under any name. Own work. -/
namespace Go.Lift
open Go.RowKit
section
variable {P : Program} {E : Ent} {Q : Exit → LState → Prop} {s : LState} {all : Array Oper} {rest : List Oper} {d : Nat} {ty : TypeId} {pos : String} {af : Array Edge}
theorem LWo.skip {o : Oper} (d : Nat) (ho : o.dst = some d) (hlt : Nat.blt d E.n = true) (hw : ∀ a w ok ρ F, Inv' E s a w ok ρ F → Region.wanted o (yielded all a.tmps) = false)
    (hn : LWo P E all rest Q (s.put (some d) (.imm undef))) : LWo P E all (o :: rest) Q s := by
  intro a w ⟨ok, ρ, F, hi⟩; unfold wpList; rw [if_neg (by rw [hw a w ok ρ F hi]; simp)]; refine hn _ _ ⟨ok, ρ, F, ?_⟩; rw [ho]; exact hi.put hlt (.fro (.imm _))
theorem LWo.guardNU {o : Oper} {j t d : Nat} {b nw want : Bool} (hb : get t s.tm = .imm (.bool b)) (h : b = nw) (hg : o.guard = some (j, want)) (hd : (all[j]?).bind (·.dst) = some t) (ho : o.dst = some d) (hlt : Nat.blt d E.n = true) (hne : nw = !want)
    (hn : LWo P E all rest Q (s.put (some d) (.imm undef))) : LWo P E all (o :: rest) Q s :=
  LWo.skip d ho hlt (fun a w ok ρ F hi => by
    have hy := yielded_of hi hd hb; subst h hne; simp only [Region.wanted, hg, hy]; cases want <;> rfl) hn
theorem LWo.guardU {o : Oper} {j t d : Nat} {want : Bool} (hb : get t s.tm = .imm undef) (hg : o.guard = some (j, want)) (hd : (all[j]?).bind (·.dst) = some t) (ho : o.dst = some d) (hlt : Nat.blt d E.n = true)
    (hn : LWo P E all rest Q (s.put (some d) (.imm undef))) : LWo P E all (o :: rest) Q s :=
  LWo.skip d ho hlt (fun a w ok ρ F hi => by
    have hs := hi.slots t; rw [hb] at hs; have hv := hs.imm_inv
    have hy : yielded all a.tmps j = none := by
      rw [Array.getD_eq_getD_getElem?] at hv; cases h : a.tmps[t]? with
      | none => simp [yielded, hd, h]
      | some v =>
        rw [h] at hv; simp only [Option.getD_some] at hv; subst hv; simp [yielded, hd, h, undef]
    simp [Region.wanted, hg, hy]) hn
theorem Does.nameL {f : FuncId} {n : Nat} {obj : LObj} {xs : List LV} {R : LV → LObj → Prop} (hk : obj.kind = .fro) (hro : obj.ro = false) (hR : ∀ r o, R r o → o.kind = .fro) (hxs : ∀ k, LV.at?.atL k xs = false) (h : Does P f (.own 0 0 n :: xs) [(0, obj)] (fun r h => ∃ o, R r o ∧ h = [(0, o)])) (k : Nat) :
    Does P f (.own k 0 n :: xs) [(k, obj)] (fun r h => ∃ o, R r o ∧ h = [(k, o)]) := by
  refine ⟨h.1, fun w vs ok ρ F hT hH hok => ?_⟩; have hFe : fpsOf (fun _ => F k) (rwOf [(0, obj)]) = fpsOf F (rwOf [(k, obj)]) := by simp [rwOf, hro, fpsOf]
  have cells : ∀ {w : World} {ok : Nat → Prop} {ρ ρ' : Env} {o : LObj} {vs : List Value} {fps : List Nat}, o.kind = .fro → ObjCells w ok ρ o.kind (o.elems.flatMap LV.cells) vs fps → ObjCells w ok ρ' o.kind (o.elems.flatMap LV.cells) vs fps := by
    intro w ok ρ ρ' o vs fps hb hc; simp only [hb] at hc ⊢; exact hc
  have hT' : RepT w ok (fun _ => ρ k) (.own 0 0 n :: xs) vs := by
    cases hT with
    | cons h1 h2 =>
      refine .cons ?_ ?_
      · rcases h1.own_inv with ⟨p, c, hp, h2, h3, hv⟩ | ⟨rfl, A, hv⟩
        · rw [hv]; exact .own hp h2 h3
        · rw [hv]; exact .own0
      · exact RepT.stable (fun _ _ => rfl) (fun _ hb => hb) (fun o ho => absurd ho (LV.atL_refs o _ (hxs o))) h2
  have hH' : HeapOK w ok (fun _ => ρ k) (fun _ => F k) [(0, obj)] := by
    refine ⟨by simp [hkeys], fun p hp => ?_, ?_, ?_⟩
    · simp at hp; subst hp
      rcases hH.objs (k, obj) (by simp) with ⟨h1, h2, h3⟩ | ⟨p, arr, t, us, fps, h1, h2, h3⟩
      · exact .inl ⟨h1, h2, h3⟩
      · exact .inr ⟨p, arr, t, us, fps, h1, h2, { h3 with cells := cells hk h3.cells }⟩
    · have := hH.nodup; simpa [fpsOf] using this
    · intro b hb
      exact hH.apart b (by simpa [fpsOf] using hb)
  refine (h.2 w vs ok (fun _ => ρ k) (fun _ => F k) hT' hH' hok).mono fun e w' => ?_; rintro ⟨v, r, hl', ok', F', fr, he, ⟨o, hRo, rfl⟩, hext, hres, hk', ho', hn', hb', hok'⟩; have hr2 := hR r o hRo; have hF1 : fpsOf (fun _ => F' 0) [(k, o)] = fpsOf F' [(0, o)] := by simp [fpsOf]
  refine ⟨v, r, [(k, o)], ok', fun _ => F' 0, fr, he, ⟨o, hRo, rfl⟩, hFe ▸ hext, hres, by simp [hkeys], ?_, hF1 ▸ hn', ?_, ?_⟩
  · intro p hp
    simp at hp; subst hp; obtain ⟨g1, g2, g3⟩ := ho' (0, o) (by simp); refine ⟨g1, by simp [rwOf, hro, hkeys], ?_⟩; rcases g3 with ⟨h1, h2, h3⟩ | ⟨p, arr, t, us, fps, h1, h2, h3⟩
    · exact .inl ⟨h1, h2, h3⟩
    · exact .inr ⟨p, arr, t, us, fps, h1, h2, { h3 with cells := cells hr2 h3.cells }⟩
  · rw [← hFe, hF1]; exact hb'
  · rw [← hFe]; exact hok'
theorem Does.nameO {α : Type} {f : FuncId} {n sz sz' : Nat} {e : α → LV} {l l' : List α} {xs : List LV} {v : LV} (h : Does P f (.own 0 0 n :: xs) [(0, lob sz e l)] (fun r h => r = v ∧ h = [(0, lob sz' e l')])) (hxs : ∀ k, LV.at?.atL k xs = false) (k : Nat) :
    Does P f (.own k 0 n :: xs) [(k, lob sz e l)] (fun r h => r = v ∧ h = [(k, lob sz' e l')]) :=
  (Does.nameL (R := fun r o => r = v ∧ o = lob sz' e l') rfl rfl (by rintro r o ⟨_, rfl⟩; rfl) hxs (h.mono fun r h ⟨h1, h2⟩ => ⟨_, ⟨h1, rfl⟩, h2⟩) k).mono fun r h ⟨o, ⟨h1, h2⟩, h3⟩ => ⟨h1, by rw [h3, h2]⟩
def mk2? {α : Type} (m n : Int) (y : α) : Option (List α) := if 0 ≤ m ∧ m ≤ n ∧ n ≤ 1000000000000 then some (List.replicate m.toNat y) else none
theorem mk2_b {α : Type} {m n : Int} {y : α} {r : List α} (h : mk2? m n y = some r) : 0 ≤ m ∧ m ≤ n ∧ n ≤ 1000000000000 ∧ r = List.replicate m.toNat y := by
  unfold mk2? at h
  split at h
  · rename_i e; cases h; exact ⟨e.1, e.2.1, e.2.2, rfl⟩
  · cases h
theorem Does.nameT {f : FuncId} {n : Nat} {obj : LObj} {xs : List LV} {R : LV → Prop} (hk : obj.kind = .fro) (hro : obj.ro = false) (hxs : ∀ k, LV.at?.atL k xs = false) (h : Does P f (.own 0 0 n :: xs) [(0, obj)] (fun r h => R r ∧ h = [])) (k : Nat) :
    Does P f (.own k 0 n :: xs) [(k, obj)] (fun r h => R r ∧ h = []) := by
  refine ⟨h.1, fun w vs ok ρ F hT hH hok => ?_⟩; have hFe : fpsOf (fun _ => F k) (rwOf [(0, obj)]) = fpsOf F (rwOf [(k, obj)]) := by simp [rwOf, hro, fpsOf]
  have hT' : RepT w ok (fun _ => ρ k) (.own 0 0 n :: xs) vs := by
    cases hT with
    | cons h1 h2 =>
      refine .cons ?_ ?_
      · rcases h1.own_inv with ⟨p, c, hp, h2, h3, hv⟩ | ⟨rfl, A, hv⟩
        · rw [hv]; exact .own hp h2 h3
        · rw [hv]; exact .own0
      · exact RepT.stable (fun _ _ => rfl) (fun _ hb => hb) (fun o ho => absurd ho (LV.atL_refs o _ (hxs o))) h2
  have hH' : HeapOK w ok (fun _ => ρ k) (fun _ => F k) [(0, obj)] := by
    refine ⟨by simp [hkeys], fun p hp => ?_, ?_, ?_⟩
    · simp at hp; subst hp
      rcases hH.objs (k, obj) (by simp) with ⟨h1, h2, h3⟩ | ⟨p, arr, t, us, fps, h1, h2, h3⟩
      · exact .inl ⟨h1, h2, h3⟩
      · refine .inr ⟨p, arr, t, us, fps, h1, h2, { h3 with cells := ?_ }⟩
        have hc := h3.cells; simp only [hk] at hc ⊢; exact hc
    · have := hH.nodup; simpa [fpsOf] using this
    · intro b hb
      exact hH.apart b (by simpa [fpsOf] using hb)
  refine (h.2 w vs ok (fun _ => ρ k) (fun _ => F k) hT' hH' hok).mono fun e w' => ?_; rintro ⟨v, r, hl', ok', F', fr, he, ⟨hR, rfl⟩, hext, hres, hk', ho', hn', hb', hok'⟩; refine ⟨v, r, [], ok', F', fr, he, ⟨hR, rfl⟩, hFe ▸ hext, hres, hk', ?_, hn', ?_, ?_⟩
  · simp
  · rw [← hFe]; exact hb'
  · rw [← hFe]; exact hok'
theorem LWo.tcallN {α β : Type} {f : Operand} {ops : List Operand} {ts : Array TypeId} {g : FuncId} {caps vals xs : List LV} {o n sz sz' : Nat} {e : α → LV} {e' : β → LV} {l : List α} {r : List β} (k : Nat) (hf : s.eval f = .clo g caps) (hv : ops.map s.eval ++ caps = vals)
    (hfn : Does P g (.own 0 0 l.length :: xs) [(0, lob sz e l)] (fun x h => x = .nw sz' (r.map e') false ∧ h = [])) (hxs : ∀ k, LV.at?.atL k xs = false) (hA : vals = .own o 0 n :: xs) (hnl : n = l.length) (ho : hget o s.h = some (lob sz e l)) (hl : Lift.lone k (hdel k (hdel o s.h)) = true) (hkp : E.keep.contains k = false := by exact rfl) (hd : Nat.blt d E.n = true := by exact rfl)
    (hn : LWo P E all rest Q { tm := (d, .own k 0 r.length) :: kill k s.tm, h := (k, lob sz' e' r) :: hdel k (hdel o s.h) }) :
    LWo P E all ({ dst := some d, op := .call { callee := .value f, args := ops.toArray, argTypes := ts }, type := ty, pos := pos, after := af, guard := none } :: rest) Q s := by
  subst hnl; exact LWo.tcallO k hf hv (Does.nameT rfl rfl hxs hfn o) hA ho rfl hkp hl hd (by rw [List.length_map]; exact hn)
theorem LWo.ucallM {α : Type} {f : Operand} {ops : List Operand} {ts : Array TypeId} {g : FuncId} {caps vals xs : List LV} {k sz : Nat} {e : α → LV} {l l' : List α} {v : LV} (hf : s.eval f = .clo g caps) (hv : ops.map s.eval ++ caps = vals)
    (hfn : Does P g xs [(k, lob sz e l)] (fun r h => r = v ∧ h = [(k, lob sz e l')])) (hA : vals = xs) (ho : hget k s.h = some (lob sz e l)) (dst : Option Nat) (hd : (match dst with | some t => Nat.blt t E.n | none => true) = true)
    (hn : LWo P E all rest Q (({ tm := s.tm, h := (k, lob sz e l') :: hdel k s.h } : LState).put dst (settle none v))) :
    LWo P E all ({ dst := dst, op := .call { callee := .value f, args := ops.toArray, argTypes := ts }, type := ty, pos := pos, after := af, guard := none } :: rest) Q s := LWo.ucall (n := 0) hf hv hfn hA ho dst hd hn
def lenQ {β : Type} (n m : Nat) (x : β) : Option β := if n = m then some x else none
theorem lenQ_some {β : Type} {n m : Nat} {x y : β} (h : lenQ n m x = some y) : n = m ∧ x = y := by
  unfold lenQ at h
  split at h
  · rename_i e; cases h; exact ⟨e, rfl⟩
  · cases h
theorem getMade (zs : List Value) : ∀ (n k : Nat) (v : Value), (List.replicate n zs).flatten[k]? = some v → zs[k % zs.length]? = some v ∧ k < n * zs.length
  | 0, k, v, h => by simp at h
  | n + 1, k, v, h => by
    rw [List.replicate_succ, List.flatten_cons, List.getElem?_append] at h
    split at h
    · rename_i hlt
      rw [Nat.mod_eq_of_lt hlt]; exact ⟨h, Nat.lt_of_lt_of_le hlt (by rw [Nat.succ_mul]; omega)⟩
    · rename_i hlt
      obtain ⟨h1, h2⟩ := getMade zs n _ v h; refine ⟨?_, by rw [Nat.succ_mul]; omega⟩; rw [Nat.mod_eq_sub_mod (by omega)]; exact h1
theorem froRep {w : World} {ok : Nat → Prop} {cs : List LV} {vs : List Value} (h : FroL w ok cs vs) : ∀ n : Nat, FroL w ok ((List.replicate n cs).flatten) ((List.replicate n vs).flatten)
  | 0 => .nil
  | n + 1 => by
    rw [List.replicate_succ, List.flatten_cons, List.replicate_succ, List.flatten_cons]
    have app : ∀ {a : List LV} {b : List Value} {c : List LV} {d : List Value}, FroL w ok a b → FroL w ok c d → FroL w ok (a ++ c) (b ++ d) := by
      intro a b c d h1 h2
      induction a generalizing b with
      | nil => cases h1; exact h2
      | cons x a ih => cases h1 with | cons h h' h'' => exact .cons h h' (ih h'')
    exact app h (froRep h n)
theorem LWo.makeW {α : Type} {T e : TypeId} {z : Value} {zs : List Value} {sz bytes : Nat} {f : α → LV} {y : α} {x c : Operand} {kl kc : IntKind} {m n : Int} (k : Nat) (hm0 : 0 ≤ m) (hmn : m ≤ n) (hn' : n ≤ 1000000000000) (hu : P.underlying T = some (.slice e))
    (hinfo : (P.info? e).map (fun i => (i.size, i.bytes, i.zero)) = some (sz, bytes, some z)) (hzs : z.cells = zs.toArray) (h1 : zs.all Value.oneCell' = true) (hlen : zs.length = sz) (hw : WkL (zs.map LV.imm) (f y).cells) (hx : s.eval x = .imm (.int kl m)) (hc : s.eval c = .imm (.int kc n)) (hl : lone k (hdel k s.h) = true) (hby : Nat.ble bytes 140 = true) (hkp : E.keep.contains k = false := by exact rfl) (hd : Nat.blt d E.n = true := by exact rfl)
    (hn : LWo P E all rest Q { tm := (d, .own k 0 (List.replicate m.toNat y).length) :: kill k s.tm, h := (k, lob sz f (List.replicate m.toNat y)) :: hdel k s.h }) :
    LWo P E all ({ dst := some d, op := .makeSlice T x c, type := ty, pos := pos, after := af, guard := none } :: rest) Q s :=
  have hcl : (f y).cells.length = sz := by rw [← hw.length, List.length_map, hlen]
  LWo.make k (lob sz f (List.replicate m.toNat y)) (.own k 0 (List.replicate m.toNat y).length) hd hkp hl (.inl rfl) (by
      intro z hz; simp only [lob, List.map_replicate, List.mem_replicate] at hz; rw [hz.2, hcl]; rfl) (fun a w ok ρ F hi => by
    have hvx := hi.eval x; rw [hx] at hvx; have hvc := hi.eval c; rw [hc] at hvc; have e1 := hvx.imm_inv; have e2 := hvc.imm_inv
    obtain ⟨i, hi1, hi2, hi3, hi4⟩ : ∃ i, P.info? e = some i ∧ i.size = sz ∧ i.bytes = bytes ∧ i.zero = some z := by
      cases h : P.info? e with
      | none => rw [h] at hinfo; cases hinfo
      | some i => rw [h] at hinfo; simp at hinfo; exact ⟨i, rfl, hinfo.1, hinfo.2.1, hinfo.2.2⟩
    have hby' := Nat.le_of_ble_eq_true hby; have hr := run_make (P := P) w T e i z hu hi1 hi4 kl kc m n hm0 hmn (by rw [hi3]; exact Int.le_trans (Int.mul_le_mul (c := 140) (d := 1000000000000) (by omega) hn' (by omega) (by decide)) (by decide)) (by omega); refine ⟨.slice (some ⟨w.heap.size, 0, none⟩) m.toNat n.toNat, madeCells z.cells (n.toNat * i.size), e, (List.replicate m.toNat zs).flatten, n.toNat, w, ?_, .inl rfl, by simp [lob]; omega, by unfold maxLen; omega, ?_, ?_, ?_, fun W ok' ρ' hρ => ?_⟩
    · simp only [execOp, e1, e2]
      rw [Sem.run_bind, hr]; rfl
    · rw [size_madeCells, hi2]; exact Nat.le_refl _
    · intro j v hj
      obtain ⟨g1, g2⟩ := getMade zs _ j v hj
      have hlt : j < n.toNat * i.size := by
        rw [hi2, ← hlen]; exact Nat.lt_of_lt_of_le g2 (Nat.mul_le_mul_right _ (by omega))
      have hpos : j % zs.length < zs.length := by
        rcases Nat.lt_or_ge (j % zs.length) zs.length with h | h
        · exact h
        · rw [List.getElem?_eq_none h] at g1; cases g1
      rw [madeCells, Array.getElem?_map, Array.getElem?_range]; rw [if_pos hlt, hzs]; simp only [Option.map_some, List.size_toArray, Option.some.injEq]; rw [List.getElem?_eq_getElem hpos] at g1; simp only [Option.some.injEq] at g1; rw [getElem!_pos (List.toArray zs) _ (by simpa using hpos)]; simpa using g1
    · refine ⟨rfl, ?_⟩
      have := froRep ((froL_imm (w := w) (ok := ok) zs (by simpa using h1)).weak hw) m.toNat
      have e3 : (lob sz f (List.replicate m.toNat y)).elems.flatMap LV.cells = (List.replicate m.toNat (f y).cells).flatten := by
        simp [lob, List.flatMap_def]
      rw [e3]; exact this
    · have hw := Rep.own (w := W) (ok := ok') (ρ := ρ') (off := 0) (n := m.toNat) (c := n.toNat) hρ (by simp) (by omega)
      simp only [Nat.zero_mul] at hw; rw [List.length_replicate]; exact hw) hn
end
end Go.Lift
/- The lifted logic, part 35: a call with a variable lent whose list is one's own. Own work. -/
namespace Go.Lift
open Go.RowKit
section
variable {P : Program} {E : Ent} {Q : Exit → LState → Prop} {s : LState} {all : Array Oper} {rest : List Oper} {d : Nat} {ty : TypeId} {pos : String} {af : Array Edge}
end
end Go.Lift
/- The lifted logic, part 36: cuts of one's own list that stay one's own; clear. Own work. -/
namespace Go.Lift
open Go.RowKit
section
variable {P : Program} {E : Ent} {Q : Exit → LState → Prop} {s : LState} {all : Array Oper} {rest : List Oper} {d : Nat} {ty : TypeId} {pos : String} {af : Array Edge}
inductive SrcT {α : Type} (s : LState) (y : Operand) (sz : Nat) (f : α → LV) (l : List α) : Prop
  | m : SrcM s y sz f l → SrcT s y sz f l
  | cut {o off n : Nat} {L : List α} : s.eval y = .own o off n → off + n ≤ L.length → hget o s.h = some (lob sz f L) → (L.drop off).take n = l → SrcT s y sz f l
theorem SrcT.is {α : Type} {y : Operand} {sz : Nat} {f : α → LV} {l : List α} (h : SrcT s y sz f l) : SrcIs s y sz (l.map f) := by
  cases h with
  | m h => exact h.is
  | cut h h1 h2 h3 =>
    subst h3; rename_i o off n L
    refine .inr (.inr (.inl ⟨_, off, _, by rw [List.length_map, List.length_take, List.length_drop, show min n (L.length - off) = n by omega]; exact h, h2, rfl, rfl, by simp [lob]; omega, by
      simp [lob, show min n (L.length - off) = n by omega, List.map_take, List.map_drop]⟩))
end
end Go.Lift
namespace Go.Lift
open Go.RowKit
section
variable {P : Program} {E : Ent} {Q : Exit → LState → Prop} {s : LState} {all : Array Oper}
end
end Go.Lift
/- The lifted logic, part 37: append in place, where the room is known. Own work. -/
namespace Go.Lift
open Go.RowKit
section
variable {P : Program} {E : Ent} {Q : Exit → LState → Prop} {s : LState} {all : Array Oper} {rest : List Oper} {d : Nat} {ty : TypeId} {pos : String} {af : Array Edge}
end
end Go.Lift
/- The lifted logic, part 38: a call that hands back a list of its own and something beside it. Own work. -/
namespace Go.Lift
open Go.RowKit
section
variable {P : Program} {E : Ent} {Q : Exit → LState → Prop} {s : LState} {all : Array Oper} {rest : List Oper} {d : Nat} {ty : TypeId} {pos : String} {af : Array Edge}
theorem LWo.callT {f : Operand} {ops : List Operand} {ts : Array TypeId} {dst : Option Nat} {g : FuncId} {caps vals xs : List LV} {hl : LHeap} {vw : List Nat} {Post : LV → LHeap → Prop} (k : Nat) (hf : s.eval f = .clo g caps) (hv : ops.map s.eval ++ caps = vals)
    (hfn : Does P g xs hl Post) (hA : ArgsOK s hl vals xs vw) (hL : LentOK s hl) (hd : ∀ t, dst = some t → Nat.blt t E.n = true) (hk : E.keep.contains k = false)
    (hn : ∀ r hl', Post r hl' → (vw = [] ∨ (hl' = [] ∧ r.noFro = true)) ∧ ∃ sz zs y, r = .tup [.nw sz zs false, y] ∧ y.pure = true ∧ (∀ ys, y ≠ .tup ys) ∧ Lift.lone k (hdel k (hl' ++ hdels (hkeys (rwOf hl)) s.h)) = true ∧ LWo P E all rest Q (({ tm := kill k s.tm, h := (k, { kind := .fro, sz := sz, elems := zs }) :: hdel k (hl' ++ hdels (hkeys (rwOf hl)) s.h) } : LState).put dst (.tup [.own k 0 zs.length, y]))) :
    LWo P E all ({ dst := dst, op := .call { callee := .value f, args := ops.toArray, argTypes := ts }, type := ty, pos := pos, after := af, guard := none } :: rest) Q s := by
  intro a w ⟨ok, ρ, F, hi⟩; refine wpList_plain rfl fun K hK => ?_; have hF := hi.eval f; rw [hf] at hF; obtain ⟨cv, hfv, hcr⟩ := hF.clo_inv
  have hT : RepT w ok ρ vals (ops.map a.eval ++ cv) := by
    rw [← hv]
    have app : ∀ {xs ys : List LV} {vs us : List Value}, RepT w ok ρ xs vs → RepL w ok ρ ys us → RepT w ok ρ (xs ++ ys) (vs ++ us) := by
      intro xs
      induction xs with
      | nil =>
        intro ys vs us h k; cases h; exact k.toT
      | cons x xs ih => intro ys vs us h k; cases h with | cons h1 h2 => exact .cons h1 (ih h2 k)
    exact app (evalL ops hi) hcr
  have hrun : (execOp a.eval { dst := dst, op := .call { callee := .value f, args := ops.toArray, argTypes := ts }, type := ty, pos := pos, after := af, guard := none }).run P w = .ok (.enter g (ops.map a.eval ++ cv).toArray) w := by
    have he := hfn.1 (ops.map a.eval ++ cv).toArray w; simp only [execOp, resolve, hfv, Deferred.ofValue]; simp [invoke]; simpa using he
  unfold Oper.wp; rw [hrun]; show Calls P g _ w _; have hviews := hA.views
  have hkeyL : ∀ k ∈ hkeys hl, k ∈ hkeys s.h := fun k hk => by
    obtain ⟨o, ho⟩ : ∃ o, (k, o) ∈ hl := by simpa [hkeys] using hk
    obtain ⟨z, hz, _⟩ := hL.here _ ho; have := hget_mem hz; simp [hkeys]; exact ⟨z, this⟩
  have hHeap : HeapOK w (fun b => ok b ∨ ∃ o ∈ vw, b ∈ F o) ρ F hl := by
    refine ⟨hL.keys, ?_, ?_, ?_⟩
    · intro p hp
      obtain ⟨o, ho, ho'⟩ := hL.here p hp; have hob := hi.heap.objs _ (hget_mem ho)
      have hob' : ObjRep w ok ρ p.1 p.2 (F p.1) := by
        rcases ho' with e | e
        · rw [e]; exact hob
        · rw [e]; exact hob.ro true
      exact hob'.stable (fun _ _ => rfl) (fun _ hb => .inl hb) (fun _ _ => rfl) rfl (fun _ _ => rfl)
    · rw [fpsOf_keys]
      exact nodup_keys hi.heap.keys hi.heap.nodup hL.keys hkeyL
    · intro b hb
      rw [fpsOf_keys] at hb; obtain ⟨j, hj, hb⟩ := List.mem_flatMap.1 hb; obtain ⟨o, ho⟩ : ∃ o, (j, o) ∈ s.h := by simpa [hkeys] using hkeyL j hj
      have := hi.heap.apart b (mem_fpsOf.2 ⟨_, ho, hb⟩); refine ⟨?_, this.2⟩; rintro (h1 | ⟨o', ho', h1⟩)
      · exact this.1 h1
      · obtain ⟨hn1, obj', hm'⟩ := hviews o' ho'
        exact nodup_apart hi.heap.keys hi.heap.nodup ho hm' (fun e => hn1 (by have e' : j = o' := e; rw [← e']; exact hj)) b hb h1
  have hokc : ∀ b, (ok b ∨ ∃ o ∈ vw, b ∈ F o) → b < w.heap.size := by
    rintro b (h | ⟨o, ho, h⟩)
    · exact (hi.okk b h).1
    · obtain ⟨_, obj', hm'⟩ := hviews o ho
      exact (hi.heap.apart b (mem_fpsOf.2 ⟨_, hm', h⟩)).2
  refine (hfn.2 w _ (fun b => ok b ∨ ∃ o ∈ vw, b ∈ F o) ρ F (hA.rep hi (fun _ hb => .inl hb) (fun o ho b hb => .inr ⟨o, ho, hb⟩) hT) hHeap hokc).mono ?_; rintro e w' ⟨v, r, hl', ok', F', fr, rfl, hpost, hext, hres, hk1, ho1, hn1, hb1, hok1⟩; obtain ⟨hvw, sz, zs, y, rfl, hyp, hyt, hlone, hrest⟩ := hn r hl' hpost; obtain ⟨okn, Does', hI, hR, hnd, hbf⟩ := call_base hi hL hviews hvw hext hres hk1 ho1 hn1 hb1 hok1; refine hK _ _ (hrest _ _ ?_); cases hR with
  | fro h => cases h
  | tup h =>
    cases h with
    | cons ht h1 h2 =>
      cases h2 with
      | cons ht2 h3 h4 =>
        cases h4
        have hfro : ∃ g, Fro w' okn y g ∧ g = _ := ⟨_, (by
          cases h3 with
          | fro h => exact h
          | nw0 => simp [LV.pure] at hyp
          | nw => simp [LV.pure] at hyp
          | tup => exact absurd rfl (hyt _)
          | nb => simp [LV.pure] at hyp
          | dv => simp [LV.pure] at hyp
          | mx0 => simp [LV.pure] at hyp
          | mx => simp [LV.pure] at hyp), rfl⟩
        obtain ⟨g, hg, rfl⟩ := hfro; have hg0 : _ := h3; have hnd' := hnd; rw [List.nodup_append] at hnd; obtain ⟨ρ', F'', i1, i2⟩ := settle_own hI k hk hlone h1 hnd.1 (fun b hb => hbf b (by simp [hb])); have hrep : Rep w' okn ρ' (.tup [.own k 0 zs.length, y]) (.tuple _) := .tup (.cons i2 (.cons (.fro hg) .nil)); cases dst with
        | none => exact ⟨_, _, _, i1⟩
        | some t => exact ⟨_, _, _, i1.put (hd t rfl) hrep⟩
theorem LWo.ntcall {α : Type} {f : Operand} {ops : List Operand} {ts : Array TypeId} {g : FuncId} {caps vals xs : List LV} {sz : Nat} {e : α → LV} {l : List α} {v2 : LV} (k : Nat) (hf : s.eval f = .clo g caps) (hv : ops.map s.eval ++ caps = vals)
    (hfn : Ret P g xs (.tup [.nw sz (l.map e) false, v2])) (hA : ArgsOK s [] vals xs []) (hp : v2.pure = true) (ht : ∀ ys, v2 ≠ .tup ys) (hl : Lift.lone k (hdel k s.h) = true) (hkp : E.keep.contains k = false := by exact rfl) (hd : Nat.blt d E.n = true := by exact rfl)
    (hn : LWo P E all rest Q { tm := (d, .tup [.own k 0 l.length, v2]) :: kill k s.tm, h := (k, lob sz e l) :: hdel k s.h }) :
    LWo P E all ({ dst := some d, op := .call { callee := .value f, args := ops.toArray, argTypes := ts }, type := ty, pos := pos, after := af, guard := none } :: rest) Q s :=
  LWo.callT k hf hv hfn hA ⟨by simp [hkeys], by intro p hp; cases hp⟩ (fun t h => by cases h; exact hd) hkp (by
    rintro r hl' ⟨rfl, rfl⟩; refine ⟨.inl rfl, sz, l.map e, v2, rfl, hp, ht, by simpa [rwOf, hkeys] using hl, ?_⟩; simp only [rwOf, hkeys, List.filter_nil, List.map_nil, hdels_nil, List.nil_append, List.length_map, LState.put]; exact hn)
theorem LWo.max3 {x y z : Operand} {T T' T2 : TypeId} {k : IntKind} {m n q : Int} (hx : s.eval x = .imm (.int k m)) (hy : s.eval y = .imm (.int k n)) (hz : s.eval z = .imm (.int k q)) (hd : Nat.blt d E.n = true := by exact rfl)
    (hn : LWo P E all rest Q (s.put (some d) (.imm (.int k (maxI (maxI m n) q))))) :
    LWo P E all ({ dst := some d, op := .call { callee := .builtin .max, args := #[x, y, z], argTypes := #[T, T', T2] }, type := ty, pos := pos, after := af, guard := none } :: rest) Q s :=
  LWo.still _ hd (fun a w ok ρ F hi => ⟨.int k (maxI (maxI m n) q), by
    simp [execOp, resolve, invoke, builtin, Builtin.max_, Builtin.max2, hi.imm hx, hi.imm hy, hi.imm hz]; rfl, .fro (.imm _)⟩) hn
end
end Go.Lift
/- The lifted logic, part 39: a call whose list that comes back is not wanted. Own work. -/
namespace Go.Lift
open Go.RowKit
section
variable {P : Program} {E : Ent} {Q : Exit → LState → Prop} {s s' : LState} {all : Array Oper} {rest : List Oper} {d : Nat} {ty : TypeId} {pos : String} {af : Array Edge}
end
end Go.Lift
/- The lifted logic, part 40: short forms of the steps of a region of open order. Own work. -/
namespace Go.Lift
theorem zn {α β : Type} {a : α} {c : β} {R G : Prop} (hg : G) : a = a ∧ (c = c ∨ R) ∧ G := ⟨rfl, .inl rfl, hg⟩
section
variable {P : Program} {E : Ent}
theorem dq {KS : List (Nat × Nat)} {all : Array Oper} {o : Oper} {os : List Oper} {rd hk : List Nat} {ps : List (List Nat × List Nat)} {i : Nat} {acc : List SF} {ah : List HF} {k : List SF → List HF → List Rec → Prop} (d : Nat) {y : LV} (hin : (rd.all (hasT · acc) && hk.all (hasH · ah)) = true)
    (h1 : ∀ u : LState, Good KS u → AllF u.tm (rd.map (look · acc)) → AllH u.h (hk.map (lookH · ah)) → LWo P E all [o] (fun e t => e = .normal ∧ (t = (Ef.put d y).run u ∨ t.le ((Ef.put d y).run u)) ∧ Good KS t) u)
    (h2 : DSE P E KS all os ps (i + 1) ((Ef.put d y).accS i acc) ((Ef.put d y).accH i ah) (fun a b r => k a b (⟨.put d y, rd.map (look · acc), hk.map (lookH · ah)⟩ :: r))) : DSE P E KS all (o :: os) ((rd, hk) :: ps) i acc ah k := ⟨hin, .put d y, trivial, h1, h2⟩
end
def ins1 (x : Nat) (l : List Nat) : List Nat := bif l.contains x then l else x :: l
def preD : List Oper → List (List Nat) → List (List Nat)
  | [], acc => acc
  | o :: r, acc => preD r (acc ++ [(edgesOf o).foldl (fun l j => ins1 j ((acc.getD j []).foldl (fun l x => ins1 x l) l)) []])
theorem mem_ins1 {x y : Nat} {l : List Nat} : y ∈ ins1 x l ↔ y = x ∨ y ∈ l := by
  unfold ins1; cases h : l.contains x with
  | true =>
    have : x ∈ l := by simpa using h
    rw [cond_true]; exact ⟨.inr, fun h => h.elim (fun e => e ▸ this) id⟩
  | false => rw [cond_false, List.mem_cons]
theorem mem_foldI {y : Nat} : ∀ (xs l : List Nat), y ∈ xs.foldl (fun l x => ins1 x l) l ↔ y ∈ xs ∨ y ∈ l
  | [], l => by simp
  | x :: xs, l => by rw [List.foldl_cons, mem_foldI xs, mem_ins1, List.mem_cons]; grind
theorem preD_mem : ∀ (ops : List Oper) (a b : List (List Nat)), a.length = b.length → (∀ j x, x ∈ a.getD j [] ↔ x ∈ b.getD j []) → ∀ j x, x ∈ (preD ops a).getD j [] ↔ x ∈ (preAll ops b).getD j []
  | [], a, b, _, h => h
  | o :: r, a, b, hl, h => by
    rw [preD, preAll]
    have hx : ∀ x, x ∈ (edgesOf o).foldl (fun l j => ins1 j ((a.getD j []).foldl (fun l x => ins1 x l) l)) [] ↔ x ∈ (edgesOf o).flatMap fun j => j :: b.getD j [] := by
      intro x
      have key : ∀ (es l : List Nat), x ∈ es.foldl (fun l j => ins1 j ((a.getD j []).foldl (fun l x => ins1 x l) l)) l ↔ (x ∈ es.flatMap fun j => j :: b.getD j []) ∨ x ∈ l := by
        intro es
        induction es with
        | nil => intro l; simp
        | cons e es ih =>
          intro l; rw [List.foldl_cons, ih, mem_ins1, mem_foldI, h e x, List.flatMap_cons, List.mem_append, List.mem_cons]
          grind
      rw [key]; simp
    refine preD_mem r _ _ (by simp [hl]) ?_; intro j x; rcases Nat.lt_trichotomy j a.length with h1 | h1 | h1
    · rw [List.getD_eq_getElem?_getD, List.getElem?_append_left h1, List.getD_eq_getElem?_getD, List.getElem?_append_left (hl ▸ h1), ← List.getD_eq_getElem?_getD, ← List.getD_eq_getElem?_getD]
      exact h j x
    · subst h1
      rw [List.getD_eq_getElem?_getD, List.getElem?_append_right (Nat.le_refl _), List.getD_eq_getElem?_getD, hl, List.getElem?_append_right (Nat.le_refl _)]; simpa using hx x
    · rw [List.getD_eq_getElem?_getD, List.getElem?_eq_none (by simp; omega), List.getD_eq_getElem?_getD, List.getElem?_eq_none (by simp; omega)]
theorem ahead_D (l : List Oper) (i j : Nat) : ahead (preD l []) i j = ahead (preAll l []) i j := by
  unfold ahead; rw [Bool.eq_iff_iff, List.contains_iff_mem, List.contains_iff_mem]; exact preD_mem l [] [] rfl (fun _ _ => Iff.rfl) j i
theorem drawOK_D {l : List Oper} {T : List OI} {FS : List (Nat × Option Nat × List Nat)} {FH : List (Nat × Option Nat)} (h : drawOK (preD l []) T FS FH = true) : drawOK (preAll l []) T FS FH = true := by
  unfold drawOK harmless at *; simp only [ahead_D] at h; exact h
theorem DSE.mono {P : Program} {E : Ent} {KS : List (Nat × Nat)} {all : Array Oper} : ∀ {os : List Oper} {ps : List (List Nat × List Nat)} {i : Nat} {acc : List SF} {ah : List HF} {k k' : List SF → List HF → List Rec → Prop}, (∀ a b r, k a b r → k' a b r) → DSE P E KS all os ps i acc ah k → DSE P E KS all os ps i acc ah k'
  | [], [], _, _, _, _, _, hk, h => hk _ _ _ h
  | o :: os, (rd, hkk) :: ps, i, acc, ah, k, k', hk, ⟨h0, ef, h1, h2, h3⟩ => ⟨h0, ef, h1, h2, DSE.mono (fun a b r h => hk a b _ h) h3⟩
  | [], _ :: _, _, _, _, _, _, _, h => h
  | _ :: _, [], _, _, _, _, _, _, h => h
section
variable {P : Program} {E : Ent} {Q : Exit → LState → Prop}
theorem LWP.drawF {id : Nat} {l : List Oper} {s : LState} (KS : List (Nat × Nat)) (U : List Nat) (plan : List (List Nat × List Nat)) (out outH : List Nat) (hm : P.follows .mixedOrders = true)
    (hedge : (l.zipIdx.all fun (o, i) => (edgesOf o).all fun j => decide (j < i)) = true) (hgood : KS.all (fun p => lone p.1 (hdel p.2 s.h)) = true) (hnd : outH.Nodup)
    (h : DSE P E KS l.toArray l plan 0 (base s U) (heapF s.h) (fun acc ah recs => (out.all (hasT · acc) && outH.all (hasH · ah)) = true ∧ drawOK (preD l []) (recs.map Rec.info) ((out.map (look · acc)).map fun f => (f.t, f.est, f.rf)) ((outH.map (lookH · ah)).map fun f => (f.k, f.est)) = true ∧ Q .normal ⟨out.map fun t => (t, (look t acc).v), outH.map fun k => (k, (lookH k ah).obj)⟩)) :
    LWP P E (.region id l.toArray true) Q s := LWP.drawE KS U plan out outH hm hedge hgood hnd (DSE.mono (fun a b r ⟨h1, h2, h3⟩ => ⟨h1, drawOK_D h2, h3⟩) h)
end
end Go.Lift
/- The lifted logic, part 41: variables in memory whose fields hold lists of one's own. Own work. -/
namespace Go.Lift
open Go.RowKit
def ovr (cs : List LV) (os : List (Nat × LV)) : List LV := os.foldl (fun cs p => cs.set p.1 p.2) cs
def xob {α : Type} (sz : Nat) (f : α → LV) (y : α) (os : List (Nat × LV)) : LObj := { kind := .box, sz := sz, elems := [.agg (ovr (f y).cells os)] }
section
variable {P : Program} {E : Ent} {Q : Exit → LState → Prop} {s : LState} {all : Array Oper} {rest : List Oper} {d : Nat} {ty : TypeId} {pos : String} {af : Array Edge}
theorem Inv'.cellsO {k sz : Nat} {cs cs' : List LV} (ho : hget k s.h = some { kind := .box, sz := sz, elems := [.agg cs] }) (hl : cs'.length = cs.length) {a : Act} {w : World} {ok : Nat → Prop} {ρ : Env} {F : Nat → List Nat}
    (himp : ∀ vs, RepL w ok ρ cs vs → RepL w ok ρ cs' vs) (hi : Inv' E s a w ok ρ F) : Inv' E { tm := s.tm, h := (k, { kind := .box, sz := sz, elems := [.agg cs'] }) :: hdel k s.h } a w ok ρ F := by
  have hp := hput_perm (x := { kind := .box, sz := sz, elems := [.agg cs'] }) hi.heap.keys ho
  have key : Inv' E { tm := s.tm, h := hput k { kind := .box, sz := sz, elems := [.agg cs'] } s.h } a w ok ρ F := by
    refine { hi with heap := ⟨by rw [hput_keys]; exact hi.heap.keys, ?_, ?_, ?_⟩, mine := ?_ }
    · intro p hp
      rcases mem_hput hp with ⟨e1, e2⟩ | ⟨_, hm⟩
      · obtain ⟨pk, po⟩ := p
        simp only at e1 e2; subst e1; subst e2; rcases hi.heap.objs _ (hget_mem ho) with ⟨_, h2, _⟩ | ⟨p, arr, t, vs, fps, h1, h2, h3⟩
        · simp at h2
        · refine .inr ⟨p, arr, t, vs, fps, h1, h2, ⟨h3.sz, ?_, by simpa using h3.len, h3.cap, h3.blk, h3.room, h3.vals, ?_⟩⟩
          · intro z hz
            simp at hz; subst hz; rw [LV.cells_agg, hl]; exact h3.unif (.agg cs) (by simp)
          · obtain ⟨h4, h5⟩ := h3.cells
            refine ⟨h4, ?_⟩; simp only [List.flatMap_cons, List.flatMap_nil, List.append_nil, LV.cells_agg] at h5 ⊢; exact himp _ h5
      · exact hi.heap.objs p hm
    · rw [fpsOf_keys, hput_keys, ← fpsOf_keys]; exact hi.heap.nodup
    · intro b hb
      rw [fpsOf_keys, hput_keys, ← fpsOf_keys] at hb; exact hi.heap.apart b hb
    · intro p hp hro b hb hlt
      rcases mem_hput hp with ⟨e1, e2⟩ | ⟨_, hm⟩
      · obtain ⟨pk, po⟩ := p
        simp only at e1 e2; subst e1; subst e2; exact hi.mine _ (hget_mem ho) rfl b hb hlt
      · exact hi.mine p hm hro b hb hlt
  exact key.perm hp
theorem RepL.set1 {w : World} {ok : Nat → Prop} {ρ : Env} {y z : LV} (hy : ∀ v, Rep w ok ρ y v → Rep w ok ρ z v) : ∀ {cs : List LV} {vs : List Value} {j : Nat}, cs[j]? = some y → RepL w ok ρ cs vs → RepL w ok ρ (cs.set j z) vs
  | _, _, 0, hj, .cons h h1 h2 => by simp at hj; subst hj; exact .cons (hy _ h) h1 h2
  | _, _, j + 1, hj, .cons h h1 h2 => by simp at hj; exact .cons h h1 (RepL.set1 hy hj h2)
theorem Inv.junkX {α : Type} {k j sz : Nat} {f : α → LV} {y : α} {os : List (Nat × LV)} (os' : List (Nat × LV)) {z : LV} (ho : hget k s.h = some (xob sz f y os)) (hj : (ovr (f y).cells os)[j]? = some z) (he : ovr (f y).cells os' = (ovr (f y).cells os).set j .junk)
    {a : Act} {w : World} (hi : Inv E s a w) : Inv E { tm := s.tm, h := (k, xob sz f y os') :: hdel k s.h } a w := by
  obtain ⟨ok, ρ, F, hi⟩ := hi; exact ⟨ok, ρ, F, hi.cellsO (cs' := ovr (f y).cells os') ho (by rw [he, List.length_set]) (fun vs h => by rw [he]; exact h.set1 (fun v _ => .junk v) hj)⟩
theorem LWo.junkX {α : Type} {ops : List Oper} {sz : Nat} {f : α → LV} {y : α} {os : List (Nat × LV)} {z : LV} (k j : Nat) (os' : List (Nat × LV)) (ho : hget k s.h = some (xob sz f y os)) (hj : (ovr (f y).cells os)[j]? = some z) (he : ovr (f y).cells os' = (ovr (f y).cells os).set j .junk)
    (hn : LWo P E all ops Q { tm := s.tm, h := (k, xob sz f y os') :: hdel k s.h }) : LWo P E all ops Q s := LWo.ghost (fun _ _ hi => hi.junkX os' ho hj he) hn
theorem LWP.junkX {α : Type} {c : Code} {sz : Nat} {f : α → LV} {y : α} {os : List (Nat × LV)} {z : LV} (k j : Nat) (os' : List (Nat × LV)) (ho : hget k s.h = some (xob sz f y os)) (hj : (ovr (f y).cells os)[j]? = some z) (he : ovr (f y).cells os' = (ovr (f y).cells os).set j .junk)
    (hn : LWP P E c Q { tm := s.tm, h := (k, xob sz f y os') :: hdel k s.h }) : LWP P E c Q s := LWP.ghost (fun _ _ hi => hi.junkX os' ho hj he) hn
theorem LWo.storeX {α : Type} {T : TypeId} {x v : Operand} {o j n sz : Nat} {f : α → LV} {y : α} {os : List (Nat × LV)} {z : LV} (y' : α) (os' : List (Nat × LV)) (hz : ∀ w, (sizeOf T).run P w = .ok n w) (hx : s.eval x = .ptr o 0 j) (hv : s.eval v = z) (hc : z.cellable = true) (hzn : z.cells.length = n)
    (ho : hget o s.h = some (xob sz f y os)) (hj : Nat.ble (j + n) (ovr (f y).cells os).length = true) (he : ovr (f y').cells os' = setRange (ovr (f y).cells os) j z.cells)
    (hn : LWo P E all rest Q { s with h := (o, xob sz f y' os') :: hdel o s.h }) :
    LWo P E all ({ dst := none, op := .store T x v, type := ty, pos := pos, after := af, guard := none } :: rest) Q s :=
  LWo.store (y := .agg (ovr (f y).cells os)) (.agg (ovr (f y').cells os')) hz hx hv hc hzn ho rfl (.inr rfl) rfl (Nat.le_of_ble_eq_true hj) he hn
theorem Inv'.newNil {k sz : Nat} (hkp : E.keep.contains k = false) (hl : Lift.lone k (hdel k s.h) = true) {a : Act} {w : World} {ok : Nat → Prop} {ρ : Env} {F : Nat → List Nat} (h : Inv' E s a w ok ρ F) :
    Inv' E { tm := kill k s.tm, h := (k, { kind := .fro, sz := sz, elems := [] }) :: hdel k s.h } a w ok (upd ρ k none) (upd F k []) := by
  have h' := h.sub (hdel_sub k s.h); have hne := not_key (hdel_key k s.h); refine { h' with heap := ⟨?_, ?_, ?_, ?_⟩, mine := ?_, slots := ?_, keep := fun j hj => (upd_other ρ _ (show j ≠ k from fun e => by subst e; simp [hj] at hkp)).trans (h.keep j hj) }
  · simp only [hkeys, List.map_cons, List.nodup_cons]
    exact ⟨hdel_key k s.h, h'.heap.keys⟩
  · intro p hp
    rcases List.mem_cons.1 hp with rfl | hp
    · exact .inl ⟨by simp, rfl, by simp⟩
    · show ObjRep _ _ _ p.1 p.2 (upd F k [] p.1)
      rw [upd_other _ _ (hne p hp)]; exact (h'.heap.objs p hp).stable (fun _ _ => rfl) (fun _ hb => hb) (fun _ _ => rfl) (upd_other _ _ (hne p hp)) (fun j hj => upd_other _ _ (fun e => lone_refs hl p hp (e ▸ hj)))
  · have : fpsOf (upd F k []) ((k, ({ kind := .fro, sz := sz, elems := [] } : LObj)) :: hdel k s.h) = fpsOf F (hdel k s.h) := by
      simp only [fpsOf, List.flatMap_cons, upd_same, List.nil_append]; exact fpsOf_congr (fun p hp => upd_other _ _ (hne p hp))
    show (fpsOf (upd F k []) ((k, ({ kind := .fro, sz := sz, elems := [] } : LObj)) :: hdel k s.h)).Nodup; rw [this]; exact h'.heap.nodup
  · intro b hb
    obtain ⟨p, hp, hb⟩ := mem_fpsOf.1 hb; rcases List.mem_cons.1 hp with rfl | hp
    · simp at hb
    · rw [upd_other _ _ (hne p hp)] at hb
      exact h'.heap.apart b (mem_fpsOf.2 ⟨p, hp, hb⟩)
  · intro p hp hro b hb
    rcases List.mem_cons.1 hp with rfl | hp
    · simp at hb
    · rw [upd_other _ _ (hne p hp)] at hb
      exact h'.mine p hp hro b hb
  · intro t'
    refine Rep.stable (fun _ _ => rfl) (fun _ hb => hb) (fun o ho => upd_other _ _ (fun e => kill_refs k t' s.tm (e ▸ ho))) ?_; show Rep w ok ρ (get t' (kill k s.tm)) _; rw [get_kill]
    split
    · exact .junk _
    · exact h.slots t'
theorem hget_other {k j : Nat} {o : LObj} (h : (j == k) = false) {hp : LHeap} : hget k ((j, o) :: hdel j hp) = hget k hp := by
  have : j ≠ k := by simpa using h
  simp only [hget]; rw [if_neg this, hget_del (fun e => this e.symm)]
theorem Inv.nilX {α : Type} {o k j sz sz' : Nat} {f : α → LV} {y : α} {os : List (Nat × LV)} (os' : List (Nat × LV)) (hkp : E.keep.contains k = false) (hne : (k == o) = false) (ho : hget o s.h = some (xob sz f y os)) (hj : (ovr (f y).cells os)[j]? = some (.imm (.slice none 0 0)))
    (he : ovr (f y).cells os' = (ovr (f y).cells os).set j (.own k 0 0)) (hl : Lift.lone k (hdel k s.h) = true) {a : Act} {w : World} (hi : Inv E s a w) :
    Inv E { tm := kill k s.tm, h := (o, xob sz f y os') :: (k, { kind := .fro, sz := sz', elems := [] }) :: hdel o (hdel k s.h) } a w := by
  obtain ⟨ok, ρ, F, hi⟩ := hi; have h1 := hi.newNil (sz := sz') hkp hl
  have h2 := h1.cellsO (k := o) (cs' := ovr (f y).cells os') (sz := sz) (cs := ovr (f y).cells os) ((hget_other hne).trans ho) (by rw [he, List.length_set]) (fun vs h => by
    rw [he]; exact h.set1 (fun v hv => by rw [hv.imm_inv]; exact .own0) hj)
  have e : hdel o ((k, ({ kind := .fro, sz := sz', elems := [] } : LObj)) :: hdel k s.h) = (k, { kind := .fro, sz := sz', elems := [] }) :: hdel o (hdel k s.h) := by
    simp only [hdel]; rw [if_neg (by simpa using hne)]
  rw [e] at h2; exact ⟨_, _, _, h2⟩
theorem LWo.nilX {α : Type} {ops : List Oper} {sz : Nat} {f : α → LV} {y : α} {os : List (Nat × LV)} (o k j sz' : Nat) (os' : List (Nat × LV)) (ho : hget o s.h = some (xob sz f y os)) (hj : (ovr (f y).cells os)[j]? = some (.imm (.slice none 0 0)))
    (he : ovr (f y).cells os' = (ovr (f y).cells os).set j (.own k 0 0)) (hl : Lift.lone k (hdel k s.h) = true) (hne : (k == o) = false := by exact rfl) (hkp : E.keep.contains k = false := by exact rfl)
    (hn : LWo P E all ops Q { tm := kill k s.tm, h := (o, xob sz f y os') :: (k, { kind := .fro, sz := sz', elems := [] }) :: hdel o (hdel k s.h) }) : LWo P E all ops Q s := LWo.ghost (fun _ _ hi => hi.nilX os' hkp hne ho hj he hl) hn
theorem LWo.allocX {α : Type} {T : TypeId} {z : Value} {zs : List Value} {sz : Nat} {f : α → LV} {y : α} (os : List (Nat × LV)) (k : Nat) (hz : ∀ w, (zeroValue T).run P w = .ok z w) (hzs : z = .agg zs.toArray) (h1 : zs.all Value.oneCell' = true) (hlen : zs.length = sz) (hy : ovr (f y).cells os = zs.map LV.imm) (hl : lone k (hdel k s.h) = true) (hkp : E.keep.contains k = false := by exact rfl) (hd : Nat.blt d E.n = true := by exact rfl)
    (hn : LWo P E all rest Q { tm := (d, .ptr k 0 0) :: kill k s.tm, h := (k, xob sz f y os) :: hdel k s.h }) :
    LWo P E all ({ dst := some d, op := .alloc T, type := ty, pos := pos, after := af, guard := none } :: rest) Q s :=
  LWo.alloc k (.agg (zs.map LV.imm)) hz (.inl ⟨zs, hzs, rfl, by simpa using h1⟩) hkp hl hd (by
    have e : xob sz f y os = { kind := .box, sz := (LV.agg (zs.map LV.imm)).cells.length, elems := [.agg (zs.map LV.imm)] } := by
      unfold xob; rw [hy, LV.cells_agg, List.length_map, hlen]
    rw [← e]; exact hn)
theorem LWo.boxX {α : Type} {T : TypeId} {x : Operand} {sz : Nat} {f : α → LV} {y : α} {os : List (Nat × LV)} (k : Nat) (hx : s.eval x = .agg (ovr (f y).cells os)) (hsz : (ovr (f y).cells os).length = sz) (hl : lone k (hdel k s.h) = true) (hy : LV.at?.atL k (ovr (f y).cells os) = false) (hm : Nat.ble sz 1000000 = true) (hkp : E.keep.contains k = false := by exact rfl) (hd : Nat.blt d E.n = true := by exact rfl)
    (hn : LWo P E all rest Q { tm := (d, .ptr k 0 0) :: kill k s.tm, h := (k, xob sz f y os) :: hdel k s.h }) :
    LWo P E all ({ dst := some d, op := .box T x, type := ty, pos := pos, after := af, guard := none } :: rest) Q s := by
  subst hsz; exact LWo.box k (.agg (ovr (f y).cells os)) hx rfl hkp hl hy hd (Nat.le_of_ble_eq_true hm) hn
end
end Go.Lift
/- The lifted logic, part 42: a list of one's own lent at any place, and a tuple that comes back. Own work. -/
namespace Go.Lift
open Go.RowKit
section
variable {P : Program} {E : Ent} {Q : Exit → LState → Prop} {s : LState} {all : Array Oper} {rest : List Oper} {d : Nat} {ty : TypeId} {pos : String} {af : Array Edge}
end
end Go.Lift
/- The lifted logic, part 43: arguments of any type, as values that are read. Own work. -/
namespace Go.Lift
open Go.RowKit Go.ChangeShapes Go.WideShapes
def okB (W : World) : Nat → Prop := fun k => k < W.heap.size
structure Opn (P : Program) (T : TypeId) (n : Nat) {α : Type} (e : α → LV) (B : α → Prop) : Prop where
  size : P.cellsOf T = n
  len : ∀ x, (e x).cells.length = n
  read : ∀ {H : Type} (enc : TypeId × Value → H) (W : World) (fuel : Nat) (cs : List Value) (x : DataW H × List MemPlace), DataW.trod enc P W 0 (fun _ => true) true fuel T cs = some x → ∃ a, B a ∧ FroL W (okB W) (e a).cells cs
def B_int (n : Int) : Prop := -9223372036854775808 ≤ n ∧ n ≤ 9223372036854775807
def B_bool (b : Bool) : Prop := True
def B_string (b : ByteArray) : Prop := b.size ≤ maxLen
def B_list {α : Type} (B : α → Prop) (l : List α) : Prop := l.length ≤ maxLen ∧ ∀ x ∈ l, B x
theorem opn_int {P : Program} {T : TypeId} (h : P.underlying T = some (.int .i64)) (hc : P.cellsOf T = 1) : Opn P T 1 e_int B_int where
  size := hc
  len := fun _ => rfl
  read := fun enc W fuel cs x ht => by
    obtain ⟨n, rfl, _, hw⟩ := DataW.trod_int h ht; exact ⟨n, bounds_i64 hw, .cons (.imm _) rfl .nil⟩
theorem opn_bool {P : Program} {T : TypeId} (h : P.underlying T = some .bool) (hc : P.cellsOf T = 1) : Opn P T 1 e_bool B_bool where
  size := hc
  len := fun _ => rfl
  read := fun enc W fuel cs x ht => by
    obtain ⟨b, rfl, _⟩ := DataW.trod_bool h ht; exact ⟨b, trivial, .cons (.imm _) rfl .nil⟩
theorem opn_string {P : Program} {T : TypeId} (h : P.underlying T = some .string) (hc : P.cellsOf T = 1) : Opn P T 1 e_string B_string where
  size := hc
  len := fun _ => rfl
  read := fun enc W fuel cs x ht => by
    obtain ⟨b, rfl, _, hs⟩ := DataW.trod_string h ht; exact ⟨b, hs, .cons (.imm _) rfl .nil⟩
theorem opn_slice {P : Program} {T E : TypeId} {n : Nat} {α : Type} {e : α → LV} {B : α → Prop} (h : P.underlying T = some (.slice E)) (hc : P.cellsOf T = 1) (hn : 0 < n) (hE : Opn P E n e B) : Opn P T 1 (fun l : List α => .sl n (l.map e)) (B_list B) where
  size := hc
  len := fun _ => rfl
  read := fun enc W fuel cs x ht => by
    rcases DataW.trod_slice h ht with ⟨rfl, _⟩ | ⟨a, len, cap, elems, rest, m, _, rfl, _, _, hl, hm, hlen, hel, _, _⟩
    · exact ⟨[], ⟨Nat.zero_le _, by simp⟩, .cons (.sl0 (Nat.zero_le _)) rfl .nil⟩
    · rcases Nat.eq_zero_or_pos len with rfl | hpos
      · exact ⟨[], ⟨Nat.zero_le _, by simp⟩, .cons (.sl0 hm) rfl .nil⟩
      · have hget : ∀ k, k < len → ∃ cs' y, W.cells? 0 (a.add (k * n)) n = some cs' ∧ DataW.trod enc P W 0 (fun _ => true) true m E cs' = some y := fun k hk => by
          have he := hel k hk; have hy : elems[k]? = some (elems[k]'(by omega)) := List.getElem?_eq_getElem _; rw [hy, Option.bind_eq_some_iff, hE.size] at he; obtain ⟨cs', h1, h2⟩ := he; exact ⟨cs', _, h1, h2⟩
        obtain ⟨blk, off, spot⟩ := a
        have hspot : spot = none ∧ blk < W.heap.size := by
          obtain ⟨cs', y, h1, h2⟩ := hget 0 hpos; obtain ⟨_, hcl, hcell⟩ := World.cells?_some h1
          obtain ⟨c0, hc0⟩ : ∃ c0, cs'[0]? = some c0 := by
            cases cs' with
            | nil => simp at hcl; omega
            | cons c _ => exact ⟨c, rfl⟩
          have g0 := hcell 0 hn; rw [hc0] at g0; have hs : spot = none := by simpa [Addr.add] using World.cell?_spot g0
          subst hs; refine ⟨rfl, ?_⟩; rcases Nat.lt_or_ge blk W.heap.size with h | h
          · exact h
          · simp [World.cell?, Array.getElem?_eq_none h, Addr.add] at g0
        obtain ⟨rfl, hblk⟩ := hspot
        have key : ∀ k, k ≤ len → ∃ l : List α, l.length = k ∧ (∀ x ∈ l, B x) ∧ ∃ vs, FroL W (okB W) ((l.map e).flatMap LV.cells) vs ∧ Cells W ⟨blk, off, none⟩ vs ∧ vs.length = k * n := by
          intro k
          induction k with
          | zero => intro _; exact ⟨[], rfl, by simp, [], .nil, by intro k v h; simp at h, by simp⟩
          | succ k ih =>
            intro hk; obtain ⟨l, h1, h2, vs, h3, h4, h5⟩ := ih (by omega); obtain ⟨cs', y, hcs, hy⟩ := hget k (by omega); obtain ⟨x, hx, hf⟩ := hE.read enc W m cs' y hy; obtain ⟨_, hcl, hcell⟩ := World.cells?_some hcs; refine ⟨l ++ [x], by simp [h1], ?_, vs ++ cs', ?_, ?_, by rw [List.length_append, h5, hcl, Nat.succ_mul]⟩
            · intro z hz
              rcases List.mem_append.1 hz with hz | hz
              · exact h2 z hz
              · rw [List.mem_singleton.1 hz]; exact hx
            · rw [List.map_append, List.flatMap_append]
              refine h3.append ?_; simpa using hf
            · intro j v hj
              rcases Nat.lt_or_ge j vs.length with hlt | hge
              · exact h4 j v (by rwa [List.getElem?_append_left hlt] at hj)
              · rw [List.getElem?_append_right hge] at hj
                have := hcell (j - vs.length) (by have := (List.getElem?_eq_some_iff.1 hj).1; omega); rw [hj] at this
                have e1 : ((⟨blk, off, none⟩ : Addr).add (k * n)).add (j - vs.length) = (⟨blk, off, none⟩ : Addr).add j := by
                  have e2 : off + k * n + (j - vs.length) = off + j := by omega
                  rw [add_plain, add_plain, add_plain, e2]
                rw [e1] at this; exact this
        obtain ⟨l, h1, h2, vs, h3, h4, h5⟩ := key len (Nat.le_refl _); refine ⟨l, ⟨by omega, h2⟩, ?_⟩; have := Fro.sl (w := W) (ok := okB W) (sz := n) (c := cap) (xs := l.map e) (ad := ⟨blk, off, none⟩) (by intro e0; have := congrArg List.length e0; rw [List.length_map, h1, List.length_nil] at this; omega) (by intro y hy; obtain ⟨b, _, rfl⟩ := List.mem_map.1 hy; exact hE.len b) h3 h4 hblk (by simp; omega) hm; rw [List.length_map, h1] at this; exact .cons this rfl .nil
structure OpnF (P : Program) (fs : List Field) (off tot : Nat) {α : Type} (e : α → List LV) (B : α → Prop) : Prop where
  len : ∀ x, off + (e x).length = tot
  read : ∀ {H : Type} (enc : TypeId × Value → H) (W : World) (fuel : Nat) (cs : List Value), cs.length = tot → (∀ (i : Nat) (f : Field), fs[i]? = some f → ∃ y, DataW.trod enc P W 0 (fun _ => true) true fuel f.type ((cs.drop f.offset).take (P.cellsOf f.type)) = some y) → ∃ a, B a ∧ FroL W (okB W) (e a) (cs.drop off)
theorem opnF_nil {P : Program} {tot : Nat} : OpnF P [] tot tot (fun _ : Unit => []) (fun _ => True) where
  len := fun _ => rfl
  read := fun enc W fuel cs hl _ => ⟨(), trivial, by rw [List.drop_of_length_le (by omega)]; exact .nil⟩
theorem opnF_cons {P : Program} {f : Field} {fs : List Field} {off n tot : Nat} {α β : Type} {e : α → LV} {B : α → Prop} {e' : β → List LV} {B' : β → Prop} (hE : Opn P f.type n e B) (ho : f.offset = off) (hr : OpnF P fs (off + n) tot e' B') :
    OpnF P (f :: fs) off tot (fun p : α × β => (e p.1).cells ++ e' p.2) (fun p => B p.1 ∧ B' p.2) where
  len := fun x => by have := hr.len x.2; have := hE.len x.1; simp; omega
  read := fun enc W fuel cs hl hf => by
    obtain ⟨y, hy⟩ := hf 0 f rfl; rw [hE.size, ho] at hy; obtain ⟨a, ha, h1⟩ := hE.read enc W fuel _ y hy; obtain ⟨b, hb, h2⟩ := hr.read enc W fuel cs hl (fun i g hg => hf (i + 1) g (by simpa using hg)); refine ⟨(a, b), ⟨ha, hb⟩, ?_⟩
    have e1 : cs.drop off = (cs.drop off).take n ++ cs.drop (off + n) := by
      rw [← List.drop_drop]; exact (List.take_append_drop n _).symm
    rw [e1]; exact h1.append h2
theorem opn_struct {P : Program} {T : TypeId} {fs : Array Field} {tot : Nat} {α σ : Type} {e : α → List LV} {B : α → Prop} {eS : σ → LV} {BS : σ → Prop} (g : α → σ) (h : P.underlying T = some (.struct fs)) (hc : P.cellsOf T = tot) (hF : OpnF P fs.toList 0 tot e B)
    (hg : ∀ a, eS (g a) = .agg (e a)) (hl : ∀ s, (eS s).cells.length = tot) (hB : ∀ a, B a → BS (g a)) : Opn P T tot eS BS where
  size := hc
  len := hl
  read := fun enc W fuel cs x ht => by
    obtain ⟨xs, n, _, _, hcl, hxl, hf⟩ := DataW.trod_struct h ht
    obtain ⟨a, ha, hr⟩ := hF.read enc W n cs (hcl.trans hc) (fun i f hi => by
      have hi' : fs[i]? = some f := by rw [← Array.getElem?_toList]; exact hi
      have := hf i f hi'
      have hlt : i < xs.length := by
        have := (List.getElem?_eq_some_iff.1 hi).1; simp at this; omega
      rw [this, List.getElem?_eq_getElem hlt]; exact ⟨_, rfl⟩)
    rw [List.drop_zero] at hr; exact ⟨g a, hB a ha, by rw [hg a]; exact hr⟩
theorem Opn.one {P : Program} {T : TypeId} {α : Type} {e : α → LV} {B : α → Prop} (h : Opn P T 1 e B) (he : ∀ a, (e a).cells = [e a]) {H : Type} {enc : TypeId × Value → H} {W : World} {v : Value} {d : DataW H} {p : List MemPlace} (hd : DataW.Trod enc P W 0 (fun _ => true) true T v d p) (hv : v.cells.toList = [v]) : ∃ a, B a ∧ Fro W (okB W) (e a) v := by
  obtain ⟨fuel, hf⟩ := hd; rw [hv] at hf; obtain ⟨a, ha, h1⟩ := h.read enc W fuel _ _ hf; rw [he a] at h1; cases h1 with
  | cons h2 _ _ => exact ⟨a, ha, h2⟩
theorem Opn.agg {P : Program} {T : TypeId} {n : Nat} {α : Type} {e : α → LV} {B : α → Prop} (h : Opn P T n e B) (he : ∀ a, e a = .agg (e a).cells) {H : Type} {enc : TypeId × Value → H} {W : World} {cs : Array Value} {d : DataW H} {p : List MemPlace} (hd : DataW.Trod enc P W 0 (fun _ => true) true T (.agg cs) d p) : ∃ a, B a ∧ Fro W (okB W) (e a) (.agg cs) := by
  obtain ⟨fuel, hf⟩ := hd; have e1 : (Value.agg cs).cells.toList = cs.toList := rfl; rw [e1] at hf; obtain ⟨a, ha, h1⟩ := h.read enc W fuel _ _ hf; refine ⟨a, ha, ?_⟩; rw [he a]; have := Fro.agg h1; simpa using this
theorem okW_agg {P : Program} {T : TypeId} {fs : Array Field} (h : P.underlying T = some (.struct fs)) {W : World} {r : Reach} {b : Nat} {v : Value} (hv : Value.okWide P W r b T v) : ∃ cs, v = .agg cs := by
  unfold Value.okWide at hv; rw [h] at hv; obtain ⟨cs, rfl, _⟩ := hv; exact ⟨cs, rfl⟩
theorem law_any {P : Program} {f : FuncId} {xs : List LV} (h : Ret P f xs (e_bool true)) (W : World) (vs : List Value) (hv : RepT W (okB W) (fun _ => none) xs vs) :
    Calls P f vs.toArray W fun e w' => e = .returned (.bool true) ∧ Below W.heap.size W w' := by
  have hc := h.2 W vs (okB W) (fun _ => none) (fun _ => []) hv ⟨by simp [hkeys], by simp, by simp [fpsOf], by simp [fpsOf]⟩ (fun _ h => h); refine Calls.mono hc ?_; rintro e w' ⟨v, r, hl', ok', F', fr, rfl, ⟨rfl, rfl⟩, hext, hres, _⟩; refine ⟨?_, ⟨hext.os, hext.tape, hext.output, hext.size, fun k hk => hext.block k hk (by simp [fpsOf, rwOf])⟩⟩; cases hres with
  | fro h => cases h; rfl
end Go.Lift
/- The lifted logic, part 45: calls that read lists of one's own and hand back a list of flat elements. Own work. -/
namespace Go.Lift
open Go.RowKit
theorem immL_append : ∀ {a b : List LV}, LV.noFro.immL a = true → LV.noFro.immL b = true → LV.noFro.immL (a ++ b) = true
  | [], _, _, h => h
  | x :: a, b, h, k => by
    cases x <;> simp [LV.noFro.immL] at h; exact immL_append (a := a) h k
theorem immL_map {α : Type} {e : α → LV} (h : ∀ x, LV.noFro.immL (e x).cells = true) : ∀ l : List α, LV.noFro.immL ((l.map e).flatMap LV.cells) = true
  | [] => rfl
  | x :: l => by rw [List.map_cons, List.flatMap_cons]; exact immL_append (h x) (immL_map h l)
section
variable {P : Program} {E : Ent} {Q : Exit → LState → Prop} {s : LState} {all : Array Oper} {rest : List Oper} {d : Nat} {ty : TypeId} {pos : String} {af : Array Edge}
end
end Go.Lift
/- The lifted logic, part 46: lists that are owned with all that they lead to: what goes into them. Own work. -/
namespace Go.Lift
open Go.RowKit
theorem DeepL.cut {w : World} : ∀ {xs : List LV} {vs : List Value} {f : List Nat} (n : Nat), DeepL w xs vs f → ∃ fA fC, f = fA ++ fC ∧ DeepL w (xs.take n) (vs.take n) fA ∧ DeepL w (xs.drop n) (vs.drop n) fC
  | _, _, _, 0, h => ⟨[], _, rfl, by simpa using DeepL.nil, by simpa using h⟩
  | _, _, _, n + 1, .nil => ⟨[], [], rfl, by simpa using DeepL.nil, by simpa using DeepL.nil⟩
  | _, _, _, n + 1, .cons (f := f) h h1 h2 => by
    obtain ⟨fA, fC, rfl, hA, hC⟩ := DeepL.cut n h2; exact ⟨f ++ fA, fC, by rw [List.append_assoc], by simpa using DeepL.cons h h1 hA, by simpa using hC⟩
theorem DeepL.put {w : World} {xs ys : List LV} {vs us : List Value} {f g : List Nat} (h : DeepL w xs vs f) (q : Nat) (hy : DeepL w ys us g) : ∃ fA fB fC, f = fA ++ (fB ++ fC) ∧ DeepL w (setRange xs q ys) (vs.take q ++ us ++ vs.drop (q + ys.length)) (fA ++ g ++ fC) := by
  obtain ⟨fA, fR, rfl, hA, hR⟩ := h.cut q; obtain ⟨fB, fC, rfl, hB, hC⟩ := hR.cut ys.length; refine ⟨fA, fB, fC, rfl, ?_⟩; rw [List.drop_drop, List.drop_drop] at hC; exact (hA.append hy).append hC
theorem Deep.one {w : World} {x : LV} {v : Value} {f : List Nat} (h : Deep w x v f) (hx : ∃ sz xs, x = .sl sz xs) : v.oneCell' = true := by
  obtain ⟨sz, xs, rfl⟩ := hx; cases h <;> rfl
def hdelL : List Nat → LHeap → LHeap
  | [], h => h
  | k :: ks, h => hdel k (hdelL ks h)
theorem hdelL_sub : ∀ (ks : List Nat) (h : LHeap), (hdelL ks h).Sublist h
  | [], h => List.Sublist.refl _
  | k :: ks, h => (hdel_sub k _).trans (hdelL_sub ks h)
theorem hdelL_key : ∀ (ks : List Nat) (h : LHeap), ∀ k ∈ ks, k ∉ hkeys (hdelL ks h)
  | [], _, _, hk => by simp at hk
  | j :: ks, h, k, hk => by
    rcases List.mem_cons.1 hk with rfl | hk
    · exact hdel_key k _
    · intro hm
      have : k ∈ hkeys (hdelL ks h) := by
        unfold hkeys at hm ⊢; exact ((hdel_sub j _).map _).mem hm
      exact hdelL_key ks h k hk this
section
variable {P : Program} {E : Ent} {Q : Exit → LState → Prop} {s : LState} {all : Array Oper} {rest : List Oper} {d : Nat} {ty : TypeId} {pos : String} {af : Array Edge}
theorem Inv'.pool {a : Act} {w : World} {ok : Nat → Prop} {ρ : Env} {F : Nat → List Nat} (hi : Inv' E s a w ok ρ F) {ks : List Nat} (hn : ks.Nodup) (hin : ∀ k ∈ ks, ∃ obj, hget k s.h = some obj ∧ obj.ro = false) :
    (ks.flatMap F).Nodup ∧ ∀ b ∈ ks.flatMap F, ¬ ok b ∧ b < w.heap.size ∧ b ∉ fpsOf F (hdelL ks s.h) ∧ (b < E.w0.heap.size → b ∈ E.lent) := by
  refine ⟨nodup_keys hi.heap.keys hi.heap.nodup hn (fun k hk => ?_), fun b hb => ?_⟩
  · obtain ⟨obj, ho, _⟩ := hin k hk
    have := hget_mem ho; unfold hkeys; exact List.mem_map.2 ⟨_, this, rfl⟩
  · obtain ⟨k, hk, hb⟩ := List.mem_flatMap.1 hb
    obtain ⟨obj, ho, hro⟩ := hin k hk; have hm := hget_mem ho; have hap := hi.heap.apart b (mem_fpsOf.2 ⟨_, hm, hb⟩); refine ⟨hap.1, hap.2, fun hc => ?_, fun hlt => hi.mine _ hm hro b hb hlt⟩; obtain ⟨p, hp, hb'⟩ := mem_fpsOf.1 hc; have hp' := (hdelL_sub ks s.h).mem hp; refine nodup_apart hi.heap.keys hi.heap.nodup hm hp' (fun e => ?_) b hb hb'; refine hdelL_key ks s.h k hk ?_; unfold hkeys; exact List.mem_map.2 ⟨p, hp, (show p.1 = k from e.symm)⟩
theorem Inv'.touch {a : Act} {w : World} {ok : Nat → Prop} {ρ : Env} {F : Nat → List Nat} (h : Inv' E s a w ok ρ F) {B : Nat} (arr' : Array Value) (h1 : ¬ ok B) (h2 : B ∉ fpsOf F s.h) (h3 : B < E.w0.heap.size → B ∈ E.lent) : Inv' E s a (w.setRow B arr') ok ρ F := by
  have hob : ∀ b, ok b → (w.setRow B arr').heap[b]? = w.heap[b]? := fun b hb => setRow_other w B b arr' (fun e => h1 (e ▸ hb)); refine { defers := h.defers, size := h.size, ext := ?_, okk := fun b hb => ⟨by simpa using (h.okk b hb).1, (h.okk b hb).2⟩, heap := ⟨h.heap.keys, fun q hq => ?_, h.heap.nodup, fun b hb => ⟨(h.heap.apart b hb).1, by simpa using (h.heap.apart b hb).2⟩⟩, mine := h.mine, slots := fun t => (h.slots t).stable hob (fun _ hb => hb) (fun _ _ => rfl), keep := h.keep }
  · refine ⟨h.ext.os, h.ext.tape, h.ext.output, by simpa using h.ext.size, fun k hk hl => ?_, h.ext.drawn⟩
    rw [setRow_other w B k arr' (fun e => hl (e ▸ h3 (e ▸ hk)))]; exact h.ext.block k hk hl
  · refine ObjRep.stable hob (fun _ hb => hb) (fun b hb => setRow_other w B b arr' (fun e => ?_)) rfl (fun _ _ => rfl) (h.heap.objs q hq)
    exact h2 (mem_fpsOf.2 ⟨q, hq, e ▸ hb⟩)
theorem Inv'.remake {a : Act} {w : World} {ok : Nat → Prop} {ρ : Env} {F : Nat → List Nat} (h : Inv' E s a w ok ρ F) {o : Nat} {obj : LObj} {fr : List Nat} (ho : o ∉ hkeys s.h) (hn : fr.Nodup)
    (hb : ∀ b ∈ fr, ¬ ok b ∧ b < w.heap.size ∧ b ∉ fpsOf F s.h ∧ (b < E.w0.heap.size → b ∈ E.lent)) (hobj : ObjRep w ok ρ o obj fr) : Inv' E { s with h := (o, obj) :: s.h } a w ok ρ (upd F o fr) := by
  have hne := not_key ho; have hF : ∀ p ∈ s.h, upd F o fr p.1 = F p.1 := fun p hp => upd_other _ _ (hne p hp)
  have hfps : fpsOf (upd F o fr) ((o, obj) :: s.h) = fr ++ fpsOf F s.h := by
    have e := fpsOf_congr hF; simp only [fpsOf, List.flatMap_cons, upd_same] at e ⊢; rw [e]
  refine { h with heap := ⟨?_, ?_, ?_, ?_⟩, mine := ?_ }
  · simp only [hkeys, List.map_cons, List.nodup_cons]
    exact ⟨ho, h.heap.keys⟩
  · intro p hp
    rcases List.mem_cons.1 hp with rfl | hp
    · simpa using hobj
    · rw [hF p hp]; exact h.heap.objs p hp
  · show (fpsOf (upd F o fr) _).Nodup
    rw [hfps, List.nodup_append]; exact ⟨hn, h.heap.nodup, fun b h1 c h2 e => (hb b h1).2.2.1 (e ▸ h2)⟩
  · intro b hb'
    rw [show ({ s with h := (o, obj) :: s.h } : LState).h = (o, obj) :: s.h from rfl, hfps] at hb'; rcases List.mem_append.1 hb' with h1 | h1
    · exact ⟨(hb b h1).1, (hb b h1).2.1⟩
    · exact h.heap.apart b h1
  · intro p hp hro b hb' hlt
    rcases List.mem_cons.1 hp with rfl | hp
    · rw [upd_same] at hb'; exact (hb b hb').2.2.2 hlt
    · rw [hF p hp] at hb'
      exact h.mine p hp hro b hb' hlt
theorem Inv'.regroup {a : Act} {w : World} {ok : Nat → Prop} {ρ : Env} {F : Nat → List Nat} (hi : Inv' E s a w ok ρ F) {ks : List Nat} (hn : ks.Nodup) (hin : ∀ k ∈ ks, ∃ obj, hget k s.h = some obj ∧ obj.ro = false) {o B : Nat} (ho : o ∈ ks) {obj : LObj} {fr : List Nat} (arr' : Array Value)
    (hB : B ∈ ks.flatMap F) (hfr : fr.Nodup) (hsub : ∀ b ∈ fr, b ∈ ks.flatMap F) (hobj : ObjRep (w.setRow B arr') ok ρ o obj fr) : Inv' E { s with h := (o, obj) :: hdelL ks s.h } a (w.setRow B arr') ok ρ (upd F o fr) := by
  obtain ⟨h1, h2⟩ := hi.pool hn hin; have h3 := h2 B hB
  exact ((hi.sub (hdelL_sub ks s.h)).touch arr' h3.1 h3.2.2.1 h3.2.2.2).remake (hdelL_key ks s.h o ho) hfr (fun b hb => by
    have := h2 b (hsub b hb); exact ⟨this.1, by simpa using this.2.1, this.2.2⟩) hobj
theorem Inv'.regroup0 {a : Act} {w : World} {ok : Nat → Prop} {ρ : Env} {F : Nat → List Nat} (hi : Inv' E s a w ok ρ F) {ks : List Nat} (hn : ks.Nodup) (hin : ∀ k ∈ ks, ∃ obj, hget k s.h = some obj ∧ obj.ro = false) {o : Nat} (ho : o ∈ ks) {obj : LObj} {fr : List Nat}
    (hfr : fr.Nodup) (hsub : ∀ b ∈ fr, b ∈ ks.flatMap F) (hobj : ObjRep w ok ρ o obj fr) : Inv' E { s with h := (o, obj) :: hdelL ks s.h } a w ok ρ (upd F o fr) := by
  obtain ⟨h1, h2⟩ := hi.pool hn hin; exact (hi.sub (hdelL_sub ks s.h)).remake (hdelL_key ks s.h o ho) hfr (fun b hb => h2 b (hsub b hb)) hobj
theorem perm3 {α : Type} (a : α) (x y z : List α) : (a :: (x ++ y ++ z)).Perm ((a :: (x ++ z)) ++ y) := by
  rw [List.cons_append]; refine .cons _ ?_; rw [List.append_assoc, List.append_assoc]; exact (List.Perm.refl x).append List.perm_append_comm
theorem LWo.storeD {T : TypeId} {x v : Operand} {o i j n : Nat} {obj : LObj} {y z : LV} {zs : List LV} {ks : List Nat} (y' : LV) (hz : ∀ w, (sizeOf T).run P w = .ok n w) (hx : s.eval x = .ptr o i j) (hv : s.eval v = z) (hc : z.cellable = true) (hzn : z.cells.length = n)
    (hs : SinkL s.h z.cells zs ks) (hks : (o :: ks).Nodup) (ho : hget o s.h = some obj) (hro : obj.ro = false) (hk : obj.kind = .deep) (hy : obj.elems[i]? = some y) (hj : j + n ≤ y.cells.length) (hy' : y'.cells = setRange y.cells j zs)
    (hn : LWo P E all rest Q { s with h := (o, { obj with elems := obj.elems.set i y' }) :: hdelL (o :: ks) s.h }) :
    LWo P E all ({ dst := none, op := .store T x v, type := ty, pos := pos, after := af, guard := none } :: rest) Q s :=
  LWo.value _ rfl (fun a w ok ρ F hi => by
    have hX := hi.eval x; rw [hx] at hX; obtain ⟨p, hp, hxv⟩ := hX.ptr_inv; have hV := hi.eval v; rw [hv] at hV; have hcl := hV.cells' hc; have hlen := hcl.length; have hzl := hs.length; obtain ⟨g, hg1, hg2⟩ := hs.deep hi hcl; rcases hi.heap.objs _ (hget_mem ho) with ⟨h, _⟩ | ⟨p', arr, t, vs, fps, h, hF, hobj⟩
    · rw [hp] at h; cases h
    · rw [hp] at h; cases h
      have hylen : y.cells.length = obj.sz := hobj.unif y (List.mem_of_getElem? hy)
      have hilt : i < obj.elems.length := by
        rcases Nat.lt_or_ge i obj.elems.length with h | h
        · exact h
        · rw [List.getElem?_eq_none h] at hy; cases hy
      have hcl1 := hcl.ones; have hsz : p.sz = obj.sz := hobj.sz; have hlen2 : obj.elems.length ≤ p.cap := hobj.len; have hF' : F o = p.blk :: fps := hF
      have hfit : i * p.sz + j + n ≤ arr.size := by
        have h1 : p.cap * p.sz ≤ arr.size := hobj.room; have h3 : (i + 1) * p.sz ≤ p.cap * p.sz := Nat.mul_le_mul_right _ (by omega); rw [Nat.succ_mul] at h3; omega
      have hst := run_storeCells_at P p.blk (i * p.sz + j) t (a.eval v).cells.toList 0 arr w hobj.blk (by rw [← hlen, hzn]; omega) hcl1; simp only [Nat.add_zero] at hst; have hcells := hobj.cells; rw [show (o, obj).2.kind = obj.kind from rfl, hk] at hcells; have hcells' : DeepL w (obj.elems.flatMap LV.cells) vs fps := hcells; obtain ⟨fA, fB, fC, hfps, hput⟩ := hcells'.put (i * p.sz + j) hg1
      have hpoolin : ∀ k ∈ o :: ks, ∃ obj, hget k s.h = some obj ∧ obj.ro = false := fun k hk => by
        rcases List.mem_cons.1 hk with rfl | hk
        · exact ⟨_, ho, hro⟩
        · exact hs.inh k hk
      obtain ⟨hpn, hpb⟩ := hi.pool hks hpoolin
      have hsubl : ((p.blk :: (fA ++ fC)) ++ g).Sublist ((o :: ks).flatMap F) := by
        rw [List.flatMap_cons, hF', hfps]; refine List.Sublist.append ?_ hg2; exact ((List.Sublist.refl fA).append (List.sublist_append_right fB fC)).cons_cons _
      have hnd : (p.blk :: (fA ++ g ++ fC)).Nodup := (perm3 p.blk fA g fC).nodup_iff.2 (hsubl.nodup hpn); have hmem : ∀ b ∈ p.blk :: (fA ++ g ++ fC), b ∈ (o :: ks).flatMap F := fun b hb => hsubl.mem ((perm3 p.blk fA g fC).mem_iff.1 hb); have hnp : p.blk ∉ fA ++ g ++ fC := (List.nodup_cons.1 hnd).1; refine ⟨.skip, w.setRow p.blk (arr.toList.take (i * p.sz + j) ++ (a.eval v).cells.toList ++ arr.toList.drop (i * p.sz + j + (a.eval v).cells.toList.length)).toArray, ?_, .inr ⟨rfl, ok, ρ, upd F o (p.blk :: (fA ++ g ++ fC)), ?_⟩⟩
      · have : (a.eval v).cells.size = n := by rw [← Array.length_toList, ← hlen, hzn]
        simp [execOp, Instr.storeAt, Instr.sureAddr, hxv, storeVar, hz w, this]; rw [hst]; simp [this]
      · have hvl : (obj.elems.flatMap LV.cells).length ≤ vs.length := Nat.le_of_eq hcells'.length
        have hfl : (obj.elems.flatMap LV.cells).length = obj.elems.length * obj.sz := flat_len obj.elems obj.sz hobj.unif
        have hvfit : i * p.sz + j + n ≤ vs.length := by
          have h3 : (i + 1) * obj.sz ≤ obj.elems.length * obj.sz := Nat.mul_le_mul_right _ (by omega); rw [Nat.succ_mul] at h3; rw [hsz]; omega
        refine hi.regroup hks hpoolin (List.mem_cons_self ..) (obj := { obj with elems := obj.elems.set i y' }) _ (hmem _ (List.mem_cons_self ..)) hnd hmem ?_; have hset := flat_set obj.elems obj.sz i j y y' zs hobj.unif hy (by omega) hy'; rw [← hobj.sz] at hset; refine .inr ⟨p, _, t, vs.take (i * p.sz + j) ++ (a.eval v).cells.toList ++ vs.drop (i * p.sz + j + zs.length), _, hp, rfl, { sz := hobj.sz, unif := setRange_unif hobj.unif (by rw [hy', ← hylen]; simp [Lift.setRange]; omega), len := by simpa using hobj.len, cap := hobj.cap, blk := setRow_heap w _ _ _ _ _ hobj.blk, room := by have := hobj.room; simp; omega, vals := ?_, cells := ?_ }⟩
        · intro k u hk
          have e : zs.length = (a.eval v).cells.toList.length := hzl.symm.trans hlen; rw [e] at hk; simp only [List.getElem?_toArray]; rw [List.append_assoc] at hk ⊢; have hl1 : (vs.take (i * p.sz + j)).length = i * p.sz + j := by simp; omega
          have hl2 : (arr.toList.take (i * p.sz + j)).length = i * p.sz + j := by simp; omega
          rcases Nat.lt_or_ge k (i * p.sz + j) with hlt | hge
          · rw [List.getElem?_append_left (by omega)] at hk ⊢
            rw [List.getElem?_take, if_pos hlt] at hk ⊢; simpa using hobj.vals k u hk
          · rw [List.getElem?_append_right (by omega), hl1] at hk
            rw [List.getElem?_append_right (by omega), hl2]; rcases Nat.lt_or_ge (k - (i * p.sz + j)) (a.eval v).cells.toList.length with h1 | h1
            · rw [List.getElem?_append_left h1] at hk ⊢; exact hk
            · rw [List.getElem?_append_right h1, List.getElem?_drop] at hk ⊢
              simpa using hobj.vals _ u hk
        · show ObjCells _ _ _ obj.kind ((obj.elems.set i y').flatMap LV.cells) _ _
          rw [hset, hk]; exact DeepL.stable (fun b hb => setRow_other w p.blk b _ (fun e => hnp (e ▸ hb))) hput) hn
end
end Go.Lift
/- The lifted logic, part 47: lists that own: what is taken out and put back, what is made of lists of one's own. Own work. -/
namespace Go.Lift
open Go.RowKit
def dob {α : Type} (sz : Nat) (f : α → LV) (l : List α) : LObj := { kind := .deep, sz := sz, elems := l.map f }
def LV.noOwn : LV → Bool
  | .own .. => false
  | _ => true
theorem DeepL.toD {w : World} {ρ : Env} : ∀ {xs : List LV} {vs : List Value} {f : List Nat}, DeepL w xs vs f → DCells w ρ xs vs f
  | _, _, _, .nil => .nil
  | _, _, _, .cons h h1 h2 => .deep h h1 h2.toD
theorem DCells.append {w : World} {ρ : Env} {xs ys : List LV} {vs us : List Value} {f g : List Nat} (h : DCells w ρ xs vs f) (k : DCells w ρ ys us g) : DCells w ρ (xs ++ ys) (vs ++ us) (f ++ g) := by
  induction h with
  | nil => exact k
  | deep h h1 _ ih => rw [List.append_assoc]; exact .deep h h1 ih
  | own h h1 h2 _ ih => exact .own h h1 h2 ih
  | own0 _ ih => exact .own0 ih
theorem DCells.cut {w : World} {ρ : Env} {xs : List LV} {vs : List Value} {f : List Nat} (h : DCells w ρ xs vs f) : ∀ n : Nat, ∃ fA fC, f = fA ++ fC ∧ DCells w ρ (xs.take n) (vs.take n) fA ∧ DCells w ρ (xs.drop n) (vs.drop n) fC := by
  induction h with
  | nil => intro n; exact ⟨[], [], rfl, by simpa using DCells.nil, by simpa using DCells.nil⟩
  | @deep x v xs vs f g h h1 h2 ih =>
    intro n; cases n with
    | zero => exact ⟨[], _, rfl, by simpa using DCells.nil, by simpa using DCells.deep h h1 h2⟩
    | succ n =>
      obtain ⟨fA, fC, rfl, hA, hC⟩ := ih n; exact ⟨f ++ fA, fC, by rw [List.append_assoc], by simpa using DCells.deep h h1 hA, by simpa using hC⟩
  | own h h1 h2 h3 ih =>
    intro n; cases n with
    | zero => exact ⟨[], _, rfl, by simpa using DCells.nil, by simpa using DCells.own h h1 h2 h3⟩
    | succ n =>
      obtain ⟨fA, fC, rfl, hA, hC⟩ := ih n; exact ⟨fA, fC, rfl, by simpa using DCells.own h h1 h2 hA, by simpa using hC⟩
  | own0 h3 ih =>
    intro n; cases n with
    | zero => exact ⟨[], _, rfl, by simpa using DCells.nil, by simpa using DCells.own0 h3⟩
    | succ n =>
      obtain ⟨fA, fC, rfl, hA, hC⟩ := ih n; exact ⟨fA, fC, rfl, by simpa using DCells.own0 hA, by simpa using hC⟩
theorem DCells.toDeep {w : World} {ρ : Env} {xs : List LV} {vs : List Value} {f : List Nat} (h : DCells w ρ xs vs f) : xs.all LV.noOwn = true → DeepL w xs vs f := by
  induction h with
  | nil => intro _; exact .nil
  | deep h h1 _ ih => intro hn; rw [List.all_cons, Bool.and_eq_true] at hn; exact .cons h h1 (ih hn.2)
  | own _ _ _ _ ih => intro hn; simp [LV.noOwn] at hn
  | own0 _ ih => intro hn; simp [LV.noOwn] at hn
theorem drop_get {α : Type} : ∀ {l : List α} {q : Nat} {x : α}, l[q]? = some x → l.drop q = x :: l.drop (q + 1)
  | [], _, _, h => by simp at h
  | y :: l, 0, x, h => by simp at h; subst h; simp
  | y :: l, q + 1, x, h => by simpa using drop_get (l := l) (by simpa using h)
section
variable {P : Program} {E : Ent} {Q : Exit → LState → Prop} {s : LState} {all : Array Oper} {rest : List Oper} {d : Nat} {ty : TypeId} {pos : String} {af : Array Edge}
theorem settle_at {a : Act} {w : World} {ok : Nat → Prop} {ρ : Env} {F : Nat → List Nat} (hi : Inv' E s a w ok ρ F) (k : Nat) (hkp : E.keep.contains k = false) (hl : Lift.lone k (hdel k s.h) = true) {fr : List Nat} (hn : fr.Nodup)
    (hb : ∀ b ∈ fr, ¬ ok b ∧ b < w.heap.size ∧ b ∉ fpsOf F s.h ∧ (b < E.w0.heap.size → b ∈ E.lent)) (pl : Option Place) (obj : LObj) (ho : ObjRep w ok (upd ρ k pl) k obj fr) :
    Inv' E { tm := kill k s.tm, h := (k, obj) :: hdel k s.h } a w ok (upd ρ k pl) (upd F k fr) := by
  have h' := hi.sub (hdel_sub k s.h); have hne := not_key (hdel_key k s.h); have hF : ∀ p ∈ hdel k s.h, upd F k fr p.1 = F p.1 := fun p hp => upd_other _ _ (hne p hp)
  have hfps : fpsOf (upd F k fr) ((k, obj) :: hdel k s.h) = fr ++ fpsOf F (hdel k s.h) := by
    have e := fpsOf_congr hF; simp only [fpsOf, List.flatMap_cons, upd_same] at e ⊢; rw [e]
  have hdis : ∀ b ∈ fr, b ∉ fpsOf F (hdel k s.h) := fun b hb' hm => (hb b hb').2.2.1 ((fpsOf_sub (hdel_sub k s.h)).mem hm); refine { h' with heap := ⟨?_, ?_, ?_, ?_⟩, mine := ?_, slots := ?_, keep := fun j hj => (upd_other ρ _ (show j ≠ k from fun e => by subst e; simp [hj] at hkp)).trans (hi.keep j hj) }
  · simp only [hkeys, List.map_cons, List.nodup_cons]
    exact ⟨hdel_key k s.h, h'.heap.keys⟩
  · intro p hp
    rcases List.mem_cons.1 hp with rfl | hp
    · simpa using ho
    · rw [hF p hp]
      exact (h'.heap.objs p hp).stable (fun _ _ => rfl) (fun _ hb => hb) (fun _ _ => rfl) (upd_other _ _ (hne p hp)) (fun j hj => upd_other _ _ (fun e => lone_refs hl p hp (e ▸ hj)))
  · show (fpsOf (upd F k fr) _).Nodup
    rw [hfps, List.nodup_append]; exact ⟨hn, h'.heap.nodup, fun b h1 c h2 e => hdis b h1 (e ▸ h2)⟩
  · intro b hb'
    rw [show ({ tm := kill k s.tm, h := (k, obj) :: hdel k s.h } : LState).h = (k, obj) :: hdel k s.h from rfl, hfps] at hb'; rcases List.mem_append.1 hb' with h1 | h1
    · exact ⟨(hb b h1).1, (hb b h1).2.1⟩
    · exact h'.heap.apart b h1
  · intro p hp hro b hb' hlt
    rcases List.mem_cons.1 hp with rfl | hp
    · rw [upd_same] at hb'; exact (hb b hb').2.2.2 hlt
    · rw [hF p hp] at hb'
      exact h'.mine p hp hro b hb' hlt
  · intro t
    show Rep w ok _ (get t (kill k s.tm)) _; refine Rep.stable (w := w) (ρ := ρ) (fun _ _ => rfl) (fun _ hb => hb) (fun o ho => upd_other _ _ (fun e => kill_refs k t s.tm (e ▸ ho))) ?_; rw [get_kill]
    split
    · exact .junk _
    · exact hi.slots t
theorem LWo.loadD {T : TypeId} {x : Operand} {o i j sz2 : Nat} {obj : LObj} {y : LV} {xs2 : List LV} (k2 : Nat) (kd : Kind) (y' : LV) (hg : ∀ w, (isAgg T).run P w = .ok false w) (hx : s.eval x = .ptr o i j) (ho : hget o s.h = some obj) (hro : obj.ro = false) (hk : obj.kind = .deep)
    (hy : obj.elems[i]? = some y) (hc : y.cells[j]? = some (.sl sz2 xs2)) (hy' : y'.cells = setRange y.cells j [.own k2 0 xs2.length]) (hkd : kd = .deep ∨ kd = .fro ∧ immL (xs2.flatMap LV.cells) = true) (hne : k2 ≠ o) (hl : lone k2 (hdel k2 (hdel o s.h)) = true) (hkp : E.keep.contains k2 = false := by exact rfl) (hd : Nat.blt d E.n = true := by exact rfl)
    (hn : LWo P E all rest Q { tm := (d, .own k2 0 xs2.length) :: kill k2 s.tm, h := (o, { kind := .split, sz := obj.sz, elems := obj.elems.set i y' }) :: (k2, { kind := kd, sz := sz2, elems := xs2 }) :: hdel k2 (hdel o s.h) }) :
    LWo P E all ({ dst := some d, op := .load T x, type := ty, pos := pos, after := af, guard := none } :: rest) Q s :=
  LWo.value _ rfl (fun a w ok ρ F hi => by
    have h := hi.eval x; rw [hx] at h; obtain ⟨p, hp, hv⟩ := h.ptr_inv; rcases hi.heap.objs _ (hget_mem ho) with ⟨h4, _⟩ | ⟨p', arr, t, vs, fps, h4, hF, hobj⟩
    · rw [hp] at h4; cases h4
    · rw [hp] at h4; cases h4
      have hF' : F o = p.blk :: fps := hF; have hsz : p.sz = obj.sz := hobj.sz; have hcells := hobj.cells; rw [show (o, obj).2.kind = obj.kind from rfl, hk] at hcells; have hcells' : DeepL w (obj.elems.flatMap LV.cells) vs fps := hcells; have hq := flat_get obj.elems obj.sz i j y _ hobj.unif hy hc; obtain ⟨fA, fR, hfps, hA, hR⟩ := hcells'.cut (i * obj.sz + j); rw [drop_get hq] at hR; generalize hvd : vs.drop (i * obj.sz + j) = vd at hR; have hylen : y.cells.length = obj.sz := hobj.unif y (List.mem_of_getElem? hy)
      have hjlt : j < y.cells.length := by
        rcases Nat.lt_or_ge j y.cells.length with h | h
        · exact h
        · rw [List.getElem?_eq_none h] at hc; cases hc
      cases hR with
      | @cons _ v _ vs' fB fC h5 h6 h7 =>
        have hvs : vs = vs.take (i * obj.sz + j) ++ v :: vs' := by rw [← hvd, List.take_append_drop]
        have hvq : vs[i * obj.sz + j]? = some v := by
          have := congrArg (fun l : List Value => l[0]?) hvd; simpa using this
        have hcell : w.cell? ⟨p.blk, i * p.sz + j, none⟩ = some v := by
          rw [cellQ hobj.blk, hsz]; exact hobj.vals _ _ hvq
        refine ⟨.value v, w, by simp [execOp, Instr.loadAt, hv, Instr.sureAddr, loadVar, hg w, load, Sem.run, hcell], .inl ⟨v, rfl, ?_⟩⟩; obtain ⟨hpn, hpb⟩ := hi.pool (ks := [o]) (by simp) (by intro k hk; simp at hk; subst hk; exact ⟨_, ho, hro⟩); have e0 : [o].flatMap F = p.blk :: (fA ++ (fB ++ fC)) := by simp [hF', hfps]
        rw [e0] at hpn hpb
        have hsubl : ((p.blk :: (fA ++ fC)) ++ fB).Perm (p.blk :: (fA ++ (fB ++ fC))) := by
          have := (perm3 p.blk fA fB fC).symm
          rwa [List.append_assoc] at this
        have hnd := hsubl.nodup_iff.2 hpn; rw [List.nodup_append] at hnd; obtain ⟨n1, n2, n3⟩ := hnd; have hmB : ∀ b ∈ fB, b ∈ p.blk :: (fA ++ (fB ++ fC)) := fun b hb => hsubl.mem_iff.1 (List.mem_append_right _ hb); have hmA : ∀ b ∈ p.blk :: (fA ++ fC), b ∈ p.blk :: (fA ++ (fB ++ fC)) := fun b hb => hsubl.mem_iff.1 (List.mem_append_left _ hb); have hi1 := hi.sub (hdel_sub o s.h)
        have fin : ∀ pl : Option Place, ObjRep w ok (upd ρ k2 pl) k2 { kind := kd, sz := sz2, elems := xs2 } fB → (∀ {xs : List LV} {us : List Value} {g : List Nat}, DCells w (upd ρ k2 pl) xs us g → DCells w (upd ρ k2 pl) (.own k2 0 xs2.length :: xs) (v :: us) g) → Rep w ok (upd ρ k2 pl) (.own k2 0 xs2.length) v →
            Inv E { tm := (d, .own k2 0 xs2.length) :: kill k2 s.tm, h := (o, { kind := .split, sz := obj.sz, elems := obj.elems.set i y' }) :: (k2, { kind := kd, sz := sz2, elems := xs2 }) :: hdel k2 (hdel o s.h) } (a.put (some d) v) w := by
          intro pl g1 g2 g3; have hi2 := settle_at hi1 k2 hkp hl n2 (fun b hb => hpb b (hmB b hb)) pl _ g1
          have hok : o ∉ hkeys ((k2, ({ kind := kd, sz := sz2, elems := xs2 } : LObj)) :: hdel k2 (hdel o s.h)) := by
            simp only [hkeys, List.map_cons, List.mem_cons, not_or]; refine ⟨fun e => hne e.symm, fun hm => hdel_key o s.h ?_⟩; exact ((hdel_sub k2 (hdel o s.h)).map _).mem hm
          have hset := flat_set obj.elems obj.sz i j y y' [.own k2 0 xs2.length] hobj.unif hy (by simp; omega) hy'
          have hDC : DCells w (upd ρ k2 pl) ((obj.elems.set i y').flatMap LV.cells) vs (fA ++ fC) := by
            have h8 := hA.toD.append (g2 h7.toD); rw [← hvs] at h8; rw [hset]; unfold setRange; rw [List.append_assoc]; exact h8
          have hi3 := hi2.remake (o := o) (obj := { kind := .split, sz := obj.sz, elems := obj.elems.set i y' }) (fr := p.blk :: (fA ++ fC)) hok n1 (fun b hb => by
            have h1 := hpb b (hmA b hb); refine ⟨h1.1, h1.2.1, fun hm => ?_, h1.2.2.2⟩; obtain ⟨q, hq, hb'⟩ := mem_fpsOf.1 hm; rcases List.mem_cons.1 hq with rfl | hq
            · rw [upd_same] at hb'
              exact n3 b hb b hb' rfl
            · rw [upd_other F fB (show q.1 ≠ k2 from not_key (hdel_key k2 _) q hq)] at hb'
              exact h1.2.2.1 (mem_fpsOf.2 ⟨q, (hdel_sub k2 _).mem hq, hb'⟩)) (.inr ⟨p, arr, t, vs, fA ++ fC, (upd_other ρ pl (fun e => hne e.symm)).trans hp, rfl, { sz := hobj.sz, unif := setRange_unif hobj.unif (by rw [hy', ← hylen]; simp [Lift.setRange]; omega), len := by simpa using hobj.len, cap := hobj.cap, blk := hobj.blk, room := hobj.room, vals := hobj.vals, cells := hDC }⟩)
          exact ⟨_, _, _, hi3.put hd g3⟩
        cases h5 with
        | sl0 => exact fin none (.inl ⟨by simp, rfl, rfl⟩) (fun h => .own0 h) .own0
        | @sl _ c B _ us arr2 t2 fps2 m1 m2 m3 m4 m5 m6 m7 =>
          refine fin (some ⟨B, c, sz2⟩) (.inr ⟨⟨B, c, sz2⟩, arr2, t2, us, fps2, by simp, rfl, { sz := rfl, unif := m1, len := m6, cap := m7, blk := m3, room := m4, vals := m5, cells := ?_ }⟩) (fun {xs us g} h => ?_) ?_
          · rcases hkd with rfl | ⟨rfl, himm⟩
            · exact m2
            · have : ∀ {xs : List LV} {us : List Value} {g : List Nat}, immL xs = true → DeepL w xs us g → g = [] ∧ FroL w ok xs us := by
                intro xs
                induction xs with
                | nil => intro us g _ h; cases h; exact ⟨rfl, .nil⟩
                | cons x xs ih =>
                  intro us g h1 h2; cases x <;> simp [immL, LV.noFro.immL] at h1; cases h2 with
                  | cons h3 h4 h5 =>
                    cases h3; obtain ⟨rfl, h6⟩ := ih h1 h5; exact ⟨rfl, .cons (.imm _) h4 h6⟩
              exact this himm m2
          · have := DCells.own (w := w) (ρ := upd ρ k2 (some ⟨B, c, sz2⟩)) (o := k2) (off := 0) (n := xs2.length) (c := c) (p := ⟨B, c, sz2⟩) (by simp) (by simp) m6 h
            simpa using this
          · have := Rep.own (w := w) (ok := ok) (ρ := upd ρ k2 (some ⟨B, c, sz2⟩)) (o := k2) (off := 0) (n := xs2.length) (c := c) (p := ⟨B, c, sz2⟩) (by simp) (by simp) m6
            simpa using this) hn
theorem Inv.fold {o k2 i j n : Nat} {obj obj2 : LObj} {y : LV} (y' : LV) (ho : hget o s.h = some obj) (hro : obj.ro = false) (hk : obj.kind = .split) (hy : obj.elems[i]? = some y) (hc : y.cells[j]? = some (.own k2 0 n)) (ho2 : hget k2 s.h = some obj2) (hro2 : obj2.ro = false)
    (hk2 : obj2.kind = .fro ∧ immL (obj2.elems.flatMap LV.cells) = true ∨ obj2.kind = .deep) (hn : n = obj2.elems.length) (hne : k2 ≠ o) (hy' : y'.cells = setRange y.cells j [.sl obj2.sz obj2.elems]) (hno : ((obj.elems.set i y').flatMap LV.cells).all LV.noOwn = true) {a : Act} {w : World} (hi : Inv E s a w) :
    Inv E { s with h := (o, { kind := .deep, sz := obj.sz, elems := obj.elems.set i y' }) :: hdelL [o, k2] s.h } a w := by
  obtain ⟨ok, ρ, F, hi⟩ := hi; rcases hi.heap.objs _ (hget_mem ho) with ⟨_, h4, _⟩ | ⟨p, arr, t, vs, fps, hp, hF, hobj⟩
  · have h4' : obj.elems = [] := h4
    rw [h4'] at hy; simp at hy
  · have hF' : F o = p.blk :: fps := hF
    have hcells := hobj.cells; rw [show (o, obj).2.kind = obj.kind from rfl, hk] at hcells; have hcells' : DCells w ρ (obj.elems.flatMap LV.cells) vs fps := hcells; have hq := flat_get obj.elems obj.sz i j y _ hobj.unif hy hc; obtain ⟨fA, fR, hfps, hA, hR⟩ := hcells'.cut (i * obj.sz + j); rw [drop_get hq] at hR; generalize hvd : vs.drop (i * obj.sz + j) = vd at hR; have hylen : y.cells.length = obj.sz := hobj.unif y (List.mem_of_getElem? hy)
    have hjlt : j < y.cells.length := by
      rcases Nat.lt_or_ge j y.cells.length with h | h
      · exact h
      · rw [List.getElem?_eq_none h] at hc; cases hc
    have hset := flat_set obj.elems obj.sz i j y y' [.sl obj2.sz obj2.elems] hobj.unif hy (by simp; omega) hy'; rw [hset] at hno; unfold setRange at hno; rw [List.all_append, List.all_append, Bool.and_eq_true, Bool.and_eq_true] at hno
    obtain ⟨v, vs', rfl, hrep, hC⟩ : ∃ v vs', vd = v :: vs' ∧ Rep w ok ρ (.own k2 0 n) v ∧ DCells w ρ ((obj.elems.flatMap LV.cells).drop (i * obj.sz + j + 1)) vs' fR := by
      cases hR with
      | deep h _ _ => cases h
      | own h h1 h2 h3 => exact ⟨_, _, rfl, .own h h1 h2, h3⟩
      | own0 h3 => exact ⟨_, _, rfl, .own0, h3⟩
    have hvs : vs = vs.take (i * obj.sz + j) ++ v :: vs' := by rw [← hvd, List.take_append_drop]
    obtain ⟨g, hg1, hg2⟩ := (Sink.own ho2 hro2 hk2 hn).deep hi hrep; have hone := hg1.one ⟨_, _, rfl⟩; have hks : [o, k2].Nodup := by simp; exact fun e => hne e.symm
    have hin : ∀ k ∈ [o, k2], ∃ obj, hget k s.h = some obj ∧ obj.ro = false := by
      intro k hk; simp at hk; rcases hk with rfl | rfl
      · exact ⟨_, ho, hro⟩
      · exact ⟨_, ho2, hro2⟩
    obtain ⟨hpn, hpb⟩ := hi.pool hks hin
    have hsubl : ((p.blk :: (fA ++ fR)) ++ g).Sublist ([o, k2].flatMap F) := by
      rw [List.flatMap_cons, hF', hfps]; exact (List.Sublist.refl _).append hg2
    have hnd : (p.blk :: (fA ++ g ++ fR)).Nodup := (perm3 p.blk fA g fR).nodup_iff.2 (hsubl.nodup hpn); have hmem : ∀ b ∈ p.blk :: (fA ++ g ++ fR), b ∈ [o, k2].flatMap F := fun b hb => hsubl.mem ((perm3 p.blk fA g fR).mem_iff.1 hb); refine ⟨ok, ρ, _, hi.regroup0 hks hin (List.mem_cons_self ..) (fr := p.blk :: (fA ++ g ++ fR)) hnd hmem (.inr ⟨p, arr, t, vs, fA ++ g ++ fR, hp, rfl, { sz := hobj.sz, unif := setRange_unif hobj.unif (by rw [hy', ← hylen]; simp [Lift.setRange]; omega), len := by simpa using hobj.len, cap := hobj.cap, blk := hobj.blk, room := hobj.room, vals := hobj.vals, cells := ?_ }⟩)⟩; show DeepL w ((obj.elems.set i y').flatMap LV.cells) vs (fA ++ g ++ fR); have h8 := (hA.toDeep hno.1.1).append (DeepL.cons hg1 hone (hC.toDeep hno.2)); rw [← hvs] at h8; rw [hset]; unfold setRange; rw [List.append_assoc, List.append_assoc]; exact h8
theorem Inv.gather {o : Nat} {obj : LObj} {ys : List LV} {ks : List Nat} (ho : hget o s.h = some obj) (hro : obj.ro = false) (hk : obj.kind = .fro ∨ obj.kind = .box) (hs : SinkL s.h (obj.elems.flatMap LV.cells) (ys.flatMap LV.cells) ks) (hks : (o :: ks).Nodup) (hyl : ys.length ≤ obj.elems.length) (hyu : ∀ x ∈ ys, x.cells.length = obj.sz)
    {a : Act} {w : World} (hi : Inv E s a w) : Inv E { s with h := (o, { kind := .deep, sz := obj.sz, elems := ys }) :: hdelL (o :: ks) s.h } a w := by
  obtain ⟨ok, ρ, F, hi⟩ := hi
  have hin : ∀ k ∈ o :: ks, ∃ obj, hget k s.h = some obj ∧ obj.ro = false := fun k hk => by
    rcases List.mem_cons.1 hk with rfl | hk
    · exact ⟨_, ho, hro⟩
    · exact hs.inh k hk
  obtain ⟨hpn, hpb⟩ := hi.pool hks hin; rcases hi.heap.objs _ (hget_mem ho) with ⟨h3, h4, _⟩ | ⟨p, arr, t, vs, fps, hp, hF, hobj⟩
  · have h4' : obj.elems = [] := h4
    rw [h4'] at hyl; have : ys = [] := List.eq_nil_of_length_eq_zero (by simpa using hyl); subst this; exact ⟨ok, ρ, _, hi.regroup0 hks hin (List.mem_cons_self ..) (fr := []) (by simp) (by simp) (.inl ⟨h3, rfl, rfl⟩)⟩
  · have hF' : F o = p.blk :: fps := hF
    have hcells := hobj.cells
    have hrep : fps = [] ∧ RepL w ok ρ (obj.elems.flatMap LV.cells) vs := by
      rcases hk with e | e
      · rw [show (o, obj).2.kind = obj.kind from rfl, e] at hcells
        exact ⟨hcells.1, hcells.2.rep⟩
      · rw [show (o, obj).2.kind = obj.kind from rfl, e] at hcells
        exact hcells
    obtain ⟨hf0, hrep⟩ := hrep; obtain ⟨g, hg1, hg2⟩ := hs.deep hi hrep
    have hsubl : (p.blk :: g).Sublist ((o :: ks).flatMap F) := by
      rw [List.flatMap_cons, hF', hf0]; exact hg2.cons_cons _
    exact ⟨ok, ρ, _, hi.regroup0 hks hin (List.mem_cons_self ..) (fr := p.blk :: g) (hsubl.nodup hpn) (fun b hb => hsubl.mem hb) (.inr ⟨p, arr, t, vs, g, hp, rfl, { sz := hobj.sz, unif := hyu, len := Nat.le_trans hyl hobj.len, cap := hobj.cap, blk := hobj.blk, room := hobj.room, vals := hobj.vals, cells := hg1 }⟩)⟩
end
end Go.Lift
/- The lifted logic, part 48: appending to lists that own. Own work. -/
namespace Go.Lift
open Go.RowKit
section
variable {P : Program} {E : Ent} {Q : Exit → LState → Prop} {s : LState} {all : Array Oper} {rest : List Oper} {d : Nat} {ty : TypeId} {pos : String} {af : Array Edge}
theorem Inv'.alloc {a : Act} {w : World} {ok : Nat → Prop} {ρ : Env} {F : Nat → List Nat} (h : Inv' E s a w ok ρ F) (o : Obj) : Inv' E s a (w.alloc o) ok ρ F := by
  have hob : ∀ b, ok b → (w.alloc o).heap[b]? = w.heap[b]? := fun b hb => heap_alloc_lt w _ b (h.okk b hb).1; refine { defers := h.defers, size := h.size, ext := h.ext.alloc _, okk := fun b hb => ⟨by simp; have := (h.okk b hb).1; omega, (h.okk b hb).2⟩, heap := ⟨h.heap.keys, ?_, h.heap.nodup, ?_⟩, mine := h.mine, slots := ?_, keep := h.keep }
  · intro p hp
    exact (h.heap.objs p hp).stable hob (fun _ hb => hb) (fun b hb => heap_alloc_lt w _ b (h.heap.apart b (mem_fpsOf.2 ⟨p, hp, hb⟩)).2) rfl (fun _ _ => rfl)
  · intro b hb
    have := h.heap.apart b hb; exact ⟨this.1, by simp; omega⟩
  · intro t
    exact (h.slots t).stable hob (fun _ hb => hb) (fun _ _ => rfl)
end
end Go.Lift
/- The lifted logic, part 49: lists that own, as mirrors tell them. Own work. -/
namespace Go.Lift
open Go.RowKit
section
variable {P : Program} {E : Ent} {Q : Exit → LState → Prop} {s : LState} {all : Array Oper} {rest : List Oper} {d : Nat} {ty : TypeId} {pos : String} {af : Array Edge}
theorem LWo.indexD {α : Type} {T e : TypeId} {sz o n : Nat} {f : α → LV} {l : List α} {y : α} {x ix : Operand} {k : IntKind} {i : Int} (he : at? l i = some y) (hnl : n = l.length) (hu : P.underlying T = some (.slice e)) (hz : ∀ w, (sizeOf e).run P w = .ok sz w)
    (hx : s.eval x = .own o 0 n) (hi : s.eval ix = .imm (.int k i)) (ho : hget o s.h = some (dob sz f l)) (hd : Nat.blt d E.n = true := by exact rfl) (hn : LWo P E all rest Q (s.put (some d) (.ptr o i.toNat 0))) :
    LWo P E all ({ dst := some d, op := .indexAddr T x ix, type := ty, pos := pos, after := af, guard := none } :: rest) Q s :=
  LWo.indexOwn hu hz hx hi ho rfl (at_0 he) (by rw [hnl]; exact at_lt he) hd (by rw [Nat.zero_add]; exact hn)
theorem LWo.storeDM {α : Type} {T : TypeId} {x v : Operand} {o j n sz : Nat} {i : Int} {f : α → LV} {l : List α} {y : α} {z : LV} {zs : List LV} {ks : List Nat} (y' : α) (he : at? l i = some y) (hz : ∀ w, (sizeOf T).run P w = .ok n w) (hx : s.eval x = .ptr o i.toNat j) (hv : s.eval v = z) (hc : z.cellable = true) (hzn : z.cells.length = n)
    (hs : SinkL s.h z.cells zs ks) (hks : (o :: ks).Nodup) (ho : hget o s.h = some (dob sz f l)) (hj : Nat.ble (j + n) (f y).cells.length = true) (hy' : (f y').cells = setRange (f y).cells j zs)
    (hn : LWo P E all rest Q { s with h := (o, dob sz f (l.set i.toNat y')) :: hdelL (o :: ks) s.h }) :
    LWo P E all ({ dst := none, op := .store T x v, type := ty, pos := pos, after := af, guard := none } :: rest) Q s :=
  LWo.storeD (f y') hz hx hv hc hzn hs hks ho rfl rfl (at_m he) (Nat.le_of_ble_eq_true hj) hy' (by
    have : (l.map f).set i.toNat (f y') = (l.set i.toNat y').map f := by rw [List.map_set]
    show LWo P E all rest Q { s with h := (o, { (dob sz f l) with elems := (l.map f).set i.toNat (f y') }) :: hdelL (o :: ks) s.h }; rw [this]; exact hn)
theorem LWo.takeF {α β : Type} {T : TypeId} {x : Operand} {o j sz sz2 : Nat} {i : Int} {f : α → LV} {g : β → LV} {l : List α} {y : α} {ys : List β} (k2 : Nat) (yo : LV) (he : at? l i = some y) (hg : ∀ w, (isAgg T).run P w = .ok false w) (hx : s.eval x = .ptr o i.toNat j) (ho : hget o s.h = some (dob sz f l))
    (hc : (f y).cells[j]? = some (.sl sz2 (ys.map g))) (hyo : yo.cells = setRange (f y).cells j [.own k2 0 ys.length]) (hfl : ∀ x, LV.noFro.immL (g x).cells = true) (hne : (k2 == o) = false) (hl : lone k2 (hdel k2 (hdel o s.h)) = true) (hkp : E.keep.contains k2 = false := by exact rfl) (hd : Nat.blt d E.n = true := by exact rfl)
    (hn : LWo P E all rest Q { tm := (d, .own k2 0 ys.length) :: kill k2 s.tm, h := (o, { kind := .split, sz := sz, elems := (l.map f).set i.toNat yo }) :: (k2, lob sz2 g ys) :: hdel k2 (hdel o s.h) }) :
    LWo P E all ({ dst := some d, op := .load T x, type := ty, pos := pos, after := af, guard := none } :: rest) Q s :=
  LWo.loadD k2 .fro yo hg hx ho rfl rfl (at_m he) hc (by rw [List.length_map]; exact hyo) (.inr ⟨rfl, immL_map hfl ys⟩) (by simpa using hne) hl hkp hd (by rw [List.length_map]; exact hn)
theorem LWo.takeN {α β : Type} {T : TypeId} {x : Operand} {o j sz sz2 : Nat} {i : Int} {f : α → LV} {g : β → LV} {l : List α} {y : α} {ys : List β} (k2 : Nat) (yo : LV) (he : at? l i = some y) (hg : ∀ w, (isAgg T).run P w = .ok false w) (hx : s.eval x = .ptr o i.toNat j) (ho : hget o s.h = some (dob sz f l))
    (hc : (f y).cells[j]? = some (.sl sz2 (ys.map g))) (hyo : yo.cells = setRange (f y).cells j [.own k2 0 ys.length]) (hne : (k2 == o) = false) (hl : lone k2 (hdel k2 (hdel o s.h)) = true) (hkp : E.keep.contains k2 = false := by exact rfl) (hd : Nat.blt d E.n = true := by exact rfl)
    (hn : LWo P E all rest Q { tm := (d, .own k2 0 ys.length) :: kill k2 s.tm, h := (o, { kind := .split, sz := sz, elems := (l.map f).set i.toNat yo }) :: (k2, dob sz2 g ys) :: hdel k2 (hdel o s.h) }) :
    LWo P E all ({ dst := some d, op := .load T x, type := ty, pos := pos, after := af, guard := none } :: rest) Q s :=
  LWo.loadD k2 .deep yo hg hx ho rfl rfl (at_m he) hc (by rw [List.length_map]; exact hyo) (.inl rfl) (by simpa using hne) hl hkp hd (by rw [List.length_map]; exact hn)
theorem all_map {α : Type} {f : α → LV} (h : ∀ x, (f x).cells.all LV.noOwn = true) : ∀ l : List α, ((l.map f).flatMap LV.cells).all LV.noOwn = true
  | [] => rfl
  | x :: l => by rw [List.map_cons, List.flatMap_cons, List.all_append, h x, all_map h l]; rfl
theorem Inv.foldM {α β : Type} {o k2 j n sz sz2 : Nat} {i : Int} {f : α → LV} {g : β → LV} {l : List α} {y : α} {ys : List β} {yo : LV} {obj2 : LObj} (x' : α) (he : at? l i = some y) (ho : hget o s.h = some { kind := .split, sz := sz, elems := (l.map f).set i.toNat yo }) (ho2 : hget k2 s.h = some obj2) (he2 : obj2.elems = ys.map g) (hs2 : obj2.sz = sz2) (hro2 : obj2.ro = false)
    (hk2 : obj2.kind = .fro ∧ immL (obj2.elems.flatMap LV.cells) = true ∨ obj2.kind = .deep) (hnl : n = ys.length) (hc : yo.cells[j]? = some (.own k2 0 n)) (hy' : (f x').cells = setRange yo.cells j [.sl sz2 (ys.map g)]) (hno : ∀ x, (f x).cells.all LV.noOwn = true) (hne : (k2 == o) = false) {a : Act} {w : World} (hi : Inv E s a w) :
    Inv E { s with h := (o, dob sz f (l.set i.toNat x')) :: hdelL [o, k2] s.h } a w := by
  have hlt : i.toNat < (l.map f).length := by
    have h1 := at_lt he; have h0 := at_0 he; rw [List.length_map]; omega
  have e : (((l.map f).set i.toNat yo).set i.toNat (f x')) = (l.set i.toNat x').map f := by rw [List.set_set, List.map_set]
  have := Inv.fold (i := i.toNat) (j := j) (n := n) (y := yo) (f x') ho rfl rfl (List.getElem?_set_self hlt) hc ho2 hro2 hk2 (by rw [he2, List.length_map]; exact hnl) (by simpa using hne) (by rw [hs2, he2]; exact hy') (by
    show ((((l.map f).set i.toNat yo).set i.toNat (f x')).flatMap LV.cells).all LV.noOwn = true; rw [e]; exact all_map hno _) hi
  rw [show (({ kind := .split, sz := sz, elems := (l.map f).set i.toNat yo } : LObj).elems.set i.toNat (f x')) = (l.set i.toNat x').map f from e] at this; exact this
theorem LWo.foldF {α β : Type} {ops : List Oper} {o k2 n sz sz2 : Nat} {i : Int} {f : α → LV} {g : β → LV} {l : List α} {y : α} {ys : List β} {yo : LV} (j : Nat) (x' : α) (he : at? l i = some y) (ho : hget o s.h = some { kind := .split, sz := sz, elems := (l.map f).set i.toNat yo }) (ho2 : hget k2 s.h = some (lob sz2 g ys)) (hnl : n = ys.length) (hc : yo.cells[j]? = some (.own k2 0 n)) (hy' : (f x').cells = setRange yo.cells j [.sl sz2 (ys.map g)]) (hno : ∀ x, (f x).cells.all LV.noOwn = true) (hfl : ∀ x, LV.noFro.immL (g x).cells = true) (hne : (k2 == o) = false)
    (hn : LWo P E all ops Q { s with h := (o, dob sz f (l.set i.toNat x')) :: hdelL [o, k2] s.h }) : LWo P E all ops Q s :=
  LWo.ghost (fun _ _ hi => Inv.foldM x' he ho ho2 rfl rfl rfl (.inl ⟨rfl, immL_map hfl ys⟩) hnl hc hy' hno hne hi) hn
theorem LWo.foldN {α β : Type} {ops : List Oper} {o k2 n sz sz2 : Nat} {i : Int} {f : α → LV} {g : β → LV} {l : List α} {y : α} {ys : List β} {yo : LV} (j : Nat) (x' : α) (he : at? l i = some y) (ho : hget o s.h = some { kind := .split, sz := sz, elems := (l.map f).set i.toNat yo }) (ho2 : hget k2 s.h = some (dob sz2 g ys)) (hnl : n = ys.length) (hc : yo.cells[j]? = some (.own k2 0 n)) (hy' : (f x').cells = setRange yo.cells j [.sl sz2 (ys.map g)]) (hno : ∀ x, (f x).cells.all LV.noOwn = true) (hne : (k2 == o) = false)
    (hn : LWo P E all ops Q { s with h := (o, dob sz f (l.set i.toNat x')) :: hdelL [o, k2] s.h }) : LWo P E all ops Q s :=
  LWo.ghost (fun _ _ hi => Inv.foldM x' he ho ho2 rfl rfl rfl (.inr rfl) hnl hc hy' hno hne hi) hn
theorem LWo.deep0 {α : Type} {ops : List Oper} {sz : Nat} (f : α → LV) (k : Nat) (ho : hget k s.h = some { kind := .fro, sz := sz, elems := [] })
    (hn : LWo P E all ops Q { s with h := (k, dob sz f []) :: hdel k s.h }) : LWo P E all ops Q s :=
  LWo.ghost (fun _ _ hi => Inv.gather (ys := []) (ks := []) ho rfl (.inl rfl) .nil (by simp) (by simp) (by simp) hi) hn
theorem SinkL.rep {h : LHeap} {cs ds : List LV} (hs : SinkL h cs ds []) : ∀ n : Nat, SinkL h (List.replicate n cs).flatten (List.replicate n ds).flatten []
  | 0 => .nil
  | n + 1 => by
    rw [List.replicate_succ, List.flatten_cons, List.replicate_succ, List.flatten_cons]
    have app : ∀ {a b c e : List LV} {k k' : List Nat}, SinkL h a b k → SinkL h c e k' → SinkL h (a ++ c) (b ++ e) (k ++ k') := by
      intro a
      induction a with
      | nil => intro b c e k k' h1 h2; cases h1; exact h2
      | cons x a ih =>
        intro b c e k k' h1 h2; cases h1 with
        | cons g1 g2 => rw [List.append_assoc]; exact .cons g1 (ih g2 h2)
    exact app hs (SinkL.rep hs n)
theorem LWo.makeDW {α : Type} {T e : TypeId} {z : Value} {zs : List Value} {sz bytes : Nat} {f : α → LV} {y : α} {r : List α} {x c : Operand} {kl kc : IntKind} {m n : Int} (k : Nat) (hr : mk2? m n y = some r) (hu : P.underlying T = some (.slice e))
    (hinfo : (P.info? e).map (fun i => (i.size, i.bytes, i.zero)) = some (sz, bytes, some z)) (hzs : z.cells = zs.toArray) (h1 : zs.all Value.oneCell' = true) (hlen : zs.length = sz) (hs : ∀ h, SinkL h (zs.map LV.imm) (f y).cells []) (hx : s.eval x = .imm (.int kl m)) (hc : s.eval c = .imm (.int kc n)) (hl : lone k (hdel k s.h) = true) (hby : Nat.ble bytes 140 = true) (hkp : E.keep.contains k = false := by exact rfl) (hd : Nat.blt d E.n = true := by exact rfl)
    (hn : LWo P E all rest Q { tm := (d, .own k 0 r.length) :: kill k s.tm, h := (k, dob sz f r) :: hdel k s.h }) :
    LWo P E all ({ dst := some d, op := .makeSlice T x c, type := ty, pos := pos, after := af, guard := none } :: rest) Q s := by
  obtain ⟨hm0, hmn, hn', rfl⟩ := mk2_b hr; refine LWo.makeW (f := fun _ : α => LV.agg (zs.map LV.imm)) (y := y) k hm0 hmn hn' hu hinfo hzs h1 hlen .refl hx hc hl hby hkp hd ?_
  have hfy : (f y).cells.length = sz := by
    rw [← (hs []).length, List.length_map, hlen]
  refine LWo.ghost (fun _ _ hi => Inv.gather (o := k) (ys := (List.replicate m.toNat y).map f) (ks := []) (by simp [hget]; rfl) rfl (.inl rfl) ?_ (by simp) (by simp [lob]) ?_ hi) ?_
  · have e1 : ((List.replicate m.toNat y).map fun _ : α => LV.agg (zs.map LV.imm)).flatMap LV.cells = (List.replicate m.toNat (zs.map LV.imm)).flatten := by simp [List.flatMap_def]
    have e2 : ((List.replicate m.toNat y).map f).flatMap LV.cells = (List.replicate m.toNat (f y).cells).flatten := by simp [List.flatMap_def]
    show SinkL _ (((List.replicate m.toNat y).map fun _ : α => LV.agg (zs.map LV.imm)).flatMap LV.cells) _ []; rw [e1, e2]; exact (hs _).rep _
  · intro x hx
    simp at hx; rw [hx.2]; exact hfy
  · have e : hdelL [k] ((k, lob sz (fun _ : α => LV.agg (zs.map LV.imm)) (List.replicate m.toNat y)) :: hdel k s.h) = hdel k s.h := by
      show hdel k ((k, _) :: hdel k s.h) = _; simp only [hdel, if_true]; exact hdel_idem k s.h
    show LWo P E all rest Q { tm := _, h := (k, dob sz f (List.replicate m.toNat y)) :: hdelL [k] ((k, lob sz (fun _ : α => LV.agg (zs.map LV.imm)) (List.replicate m.toNat y)) :: hdel k s.h) }; rw [e]; exact hn
theorem ArgsOK.viewD {α : Type} {hl : LHeap} {o n sz : Nat} {f : α → LV} {l : List α} {xs ys : List LV} {vw : List Nat} (ho : hget o s.h = some (dob sz f l)) (hnl : n = l.length) (hk : (hkeys hl).contains o = false) (h : ArgsOK s hl xs ys vw) : ArgsOK s hl (.own o 0 n :: xs) (.sl sz (l.map f) :: ys) (o :: vw) := by
  subst hnl; exact .view (obj := dob sz f l) ho (.inr rfl) (by simp [dob]) (by simp [dob, List.take_of_length_le]) (by simpa using hk) h
theorem LWo.ncallD {α : Type} {f : Operand} {ops : List Operand} {ts : Array TypeId} {g : FuncId} {caps vals xs : List LV} {vw : List Nat} {sz : Nat} {e : α → LV} {l : List α} (k : Nat) (hf : s.eval f = .clo g caps) (hv : ops.map s.eval ++ caps = vals)
    (hfn : Ret P g xs (.nw sz (l.map e) true)) (hA : ArgsOK s [] vals xs vw) (hl : Lift.lone k (hdel k s.h) = true) (hkp : E.keep.contains k = false := by exact rfl) (hd : Nat.blt d E.n = true := by exact rfl)
    (hn : LWo P E all rest Q { tm := (d, .own k 0 l.length) :: kill k s.tm, h := (k, dob sz e l) :: hdel k s.h }) :
    LWo P E all ({ dst := some d, op := .call { callee := .value f, args := ops.toArray, argTypes := ts }, type := ty, pos := pos, after := af, guard := none } :: rest) Q s :=
  LWo.ocall (dp := true) (R := fun ys => ys = l.map e) k hf hv (hfn.mono fun r h ⟨h1, h2⟩ => ⟨⟨_, h1, rfl⟩, h2⟩) hA (.inr (by rintro ys rfl; rfl)) hkp hl hd (by
    rintro ys rfl; rw [List.length_map]; exact hn)
theorem LWo.ucallD {α : Type} {f : Operand} {ops : List Operand} {ts : Array TypeId} {g : FuncId} {caps vals xs : List LV} {k sz : Nat} {e : α → LV} {l l' : List α} {v : LV} (hf : s.eval f = .clo g caps) (hv : ops.map s.eval ++ caps = vals)
    (hfn : Does P g xs [(k, dob sz e l)] (fun r h => r = v ∧ h = [(k, dob sz e l')])) (hA : vals = xs) (ho : hget k s.h = some (dob sz e l)) (dst : Option Nat) (hd : (match dst with | some t => Nat.blt t E.n | none => true) = true)
    (hn : LWo P E all rest Q (({ tm := s.tm, h := (k, dob sz e l') :: hdel k s.h } : LState).put dst (settle none v))) :
    LWo P E all ({ dst := dst, op := .call { callee := .value f, args := ops.toArray, argTypes := ts }, type := ty, pos := pos, after := af, guard := none } :: rest) Q s :=
  LWo.call none hf hv hfn (by rw [hA]; exact ArgsOK.allSame) ⟨by simp [hkeys], by intro p hp; simp at hp; subst hp; exact ⟨_, ho, .inl rfl⟩⟩ (fun t ht => by subst ht; exact hd) (fun j hj => by cases hj) (by
    rintro r hl' ⟨rfl, rfl⟩; refine ⟨.inl rfl, (fun j hj => by cases hj), ?_⟩; simpa [afterCall, rwOf, dob, hkeys, hdels] using hn)
theorem ResOf.nwD {α : Type} {h : LHeap} {k n sz : Nat} {e : α → LV} {l : List α} (ho : hget k h = some (dob sz e l)) (hnl : n = l.length) : ResOf h (.own k 0 n) (.nw sz (l.map e) true) [k] [] := by
  have := ResOf.own (n := n) (dp := true) ho rfl (.inr ⟨rfl, rfl⟩) (by simp [dob, hnl]); have e1 : (dob sz e l).elems.take n = l.map e := by simp [dob, hnl, List.take_of_length_le]
  rwa [e1] at this
end
section
variable {P : Program}
theorem Does.nameLD {f : FuncId} {n : Nat} {obj : LObj} {xs : List LV} {R : LV → LObj → Prop} (hk : obj.kind = .deep) (hro : obj.ro = false) (hR : ∀ r o, R r o → o.kind = .deep) (hxs : ∀ k, LV.at?.atL k xs = false) (h : Does P f (.own 0 0 n :: xs) [(0, obj)] (fun r h => ∃ o, R r o ∧ h = [(0, o)])) (k : Nat) :
    Does P f (.own k 0 n :: xs) [(k, obj)] (fun r h => ∃ o, R r o ∧ h = [(k, o)]) := by
  refine ⟨h.1, fun w vs ok ρ F hT hH hok => ?_⟩; have hFe : fpsOf (fun _ => F k) (rwOf [(0, obj)]) = fpsOf F (rwOf [(k, obj)]) := by simp [rwOf, hro, fpsOf]
  have cells : ∀ {w : World} {ok : Nat → Prop} {ρ ρ' : Env} {o : LObj} {vs : List Value} {fps : List Nat}, o.kind = .deep → ObjCells w ok ρ o.kind (o.elems.flatMap LV.cells) vs fps → ObjCells w ok ρ' o.kind (o.elems.flatMap LV.cells) vs fps := by
    intro w ok ρ ρ' o vs fps hb hc; simp only [hb] at hc ⊢; exact hc
  have hT' : RepT w ok (fun _ => ρ k) (.own 0 0 n :: xs) vs := by
    cases hT with
    | cons h1 h2 =>
      refine .cons ?_ ?_
      · rcases h1.own_inv with ⟨p, c, hp, h2, h3, hv⟩ | ⟨rfl, A, hv⟩
        · rw [hv]; exact .own hp h2 h3
        · rw [hv]; exact .own0
      · exact RepT.stable (fun _ _ => rfl) (fun _ hb => hb) (fun o ho => absurd ho (LV.atL_refs o _ (hxs o))) h2
  have hH' : HeapOK w ok (fun _ => ρ k) (fun _ => F k) [(0, obj)] := by
    refine ⟨by simp [hkeys], fun p hp => ?_, ?_, ?_⟩
    · simp at hp; subst hp
      rcases hH.objs (k, obj) (by simp) with ⟨h1, h2, h3⟩ | ⟨p, arr, t, us, fps, h1, h2, h3⟩
      · exact .inl ⟨h1, h2, h3⟩
      · exact .inr ⟨p, arr, t, us, fps, h1, h2, { h3 with cells := cells hk h3.cells }⟩
    · have := hH.nodup; simpa [fpsOf] using this
    · intro b hb
      exact hH.apart b (by simpa [fpsOf] using hb)
  refine (h.2 w vs ok (fun _ => ρ k) (fun _ => F k) hT' hH' hok).mono fun e w' => ?_; rintro ⟨v, r, hl', ok', F', fr, he, ⟨o, hRo, rfl⟩, hext, hres, hk', ho', hn', hb', hok'⟩; have hr2 := hR r o hRo; have hF1 : fpsOf (fun _ => F' 0) [(k, o)] = fpsOf F' [(0, o)] := by simp [fpsOf]
  refine ⟨v, r, [(k, o)], ok', fun _ => F' 0, fr, he, ⟨o, hRo, rfl⟩, hFe ▸ hext, hres, by simp [hkeys], ?_, hF1 ▸ hn', ?_, ?_⟩
  · intro p hp
    simp at hp; subst hp; obtain ⟨g1, g2, g3⟩ := ho' (0, o) (by simp); refine ⟨g1, by simp [rwOf, hro, hkeys], ?_⟩; rcases g3 with ⟨h1, h2, h3⟩ | ⟨p, arr, t, us, fps, h1, h2, h3⟩
    · exact .inl ⟨h1, h2, h3⟩
    · exact .inr ⟨p, arr, t, us, fps, h1, h2, { h3 with cells := cells hr2 h3.cells }⟩
  · rw [← hFe, hF1]; exact hb'
  · rw [← hFe]; exact hok'
theorem Does.nameOD {α : Type} {f : FuncId} {n sz sz' : Nat} {e : α → LV} {l l' : List α} {xs : List LV} {v : LV} (h : Does P f (.own 0 0 n :: xs) [(0, dob sz e l)] (fun r h => r = v ∧ h = [(0, dob sz' e l')])) (hxs : ∀ k, LV.at?.atL k xs = false) (k : Nat) :
    Does P f (.own k 0 n :: xs) [(k, dob sz e l)] (fun r h => r = v ∧ h = [(k, dob sz' e l')]) :=
  (Does.nameLD (R := fun r o => r = v ∧ o = dob sz' e l') rfl rfl (by rintro r o ⟨_, rfl⟩; rfl) hxs (h.mono fun r h ⟨h1, h2⟩ => ⟨_, ⟨h1, rfl⟩, h2⟩) k).mono fun r h ⟨o, ⟨h1, h2⟩, h3⟩ => ⟨h1, by rw [h3, h2]⟩
end
end Go.Lift
/- The lifted logic, part 50: calls that take a list that owns, and hand one back. Own work. -/
namespace Go.Lift
open Go.RowKit
section
variable {P : Program} {E : Ent} {Q : Exit → LState → Prop} {s : LState} {all : Array Oper} {rest : List Oper} {d : Nat} {ty : TypeId} {pos : String} {af : Array Edge}
theorem QRet.own1D {t k n : Nat} {obj : LObj} {Post : LV → LHeap → Prop} {e : Exit} (he : e = .normal ∨ e = .ret) (hx : get t s.tm = .own k 0 n) (ho : hget k s.h = some obj) (hro : obj.ro = false) (hk : obj.kind = .deep) (hn : n ≤ obj.elems.length) (h : Post (.nw obj.sz (obj.elems.take n) true) []) : QRet E [t] Post e s :=
  ⟨he, _, [], ⟨⟨[k], [], .inl ⟨_, rfl, by show ResOf _ (get t s.tm) _ _ _; rw [hx]; exact .own ho hro (.inr ⟨hk, rfl⟩) hn⟩, by simp, by simp⟩, by simp [hkeys], by simp⟩, h⟩
end
end Go.Lift
/- The lifted logic, part 51: structs that own, handed back. Own work. -/
namespace Go.Lift
open Go.RowKit
theorem DeepL.imms {w : World} {ok : Nat → Prop} : ∀ {xs : List LV} {us : List Value} {g : List Nat}, immL xs = true → DeepL w xs us g → g = [] ∧ FroL w ok xs us
  | [], _, _, _, .nil => ⟨rfl, .nil⟩
  | x :: xs, _, _, h1, .cons h3 h4 h5 => by
    cases x <;> simp [immL, LV.noFro.immL] at h1; cases h3; obtain ⟨rfl, h6⟩ := DeepL.imms (ok := ok) h1 h5; exact ⟨rfl, .cons (.imm _) h4 h6⟩
theorem Deep.sl_inv {w : World} {sz : Nat} {zs : List LV} {v : Value} {f : List Nat} (h : Deep w (.sl sz zs) v f) : (zs = [] ∧ f = [] ∧ ∃ a, v = .slice a 0 0) ∨
    ∃ c B vs arr t fps, f = B :: fps ∧ v = .slice (some ⟨B, 0, none⟩) zs.length c ∧ (∀ x ∈ zs, x.cells.length = sz) ∧ DeepL w (zs.flatMap LV.cells) vs fps ∧ w.heap[B]? = some (.cells arr t (0, 0)) ∧ c * sz ≤ arr.size ∧ (∀ (k : Nat) (v : Value), vs[k]? = some v → arr[k]? = some v) ∧ zs.length ≤ c ∧ c ≤ maxLen := by
  cases h with
  | sl0 => exact .inl ⟨rfl, rfl, _, rfl⟩
  | sl h1 h2 h3 h4 h5 h6 h7 => exact .inr ⟨_, _, _, _, _, _, rfl, rfl, h1, h2, h3, h4, h5, h6, h7⟩
section
variable {P : Program} {E : Ent} {Q : Exit → LState → Prop} {s : LState} {all : Array Oper} {rest : List Oper} {d : Nat} {ty : TypeId} {pos : String} {af : Array Edge}
theorem LWo.callS {f : Operand} {ops : List Operand} {ts : Array TypeId} {dst : Option Nat} {g : FuncId} {caps vals xs : List LV} {hl : LHeap} {vw : List Nat} {Post : LV → LHeap → Prop} (hf : s.eval f = .clo g caps) (hv : ops.map s.eval ++ caps = vals)
    (hfn : Does P g xs hl Post) (hA : ArgsOK s hl vals xs vw) (hL : LentOK s hl)
    (hn : ∀ r hl', Post r hl' → (vw = [] ∨ (hl' = [] ∧ r.noFro = true)) ∧ ∃ s', (∀ (a : Act) (w : World) (ok : Nat → Prop) (ρ : Env) (F : Nat → List Nat) (v : Value) (fr : List Nat), Inv' E { tm := s.tm, h := hl' ++ hdels (hkeys (rwOf hl)) s.h } a w ok ρ F → Res w ok r v fr → fr.Nodup →
      (∀ b ∈ fr, ¬ ok b ∧ b < w.heap.size ∧ b ∉ fpsOf F (hl' ++ hdels (hkeys (rwOf hl)) s.h) ∧ (b < E.w0.heap.size → b ∈ E.lent)) → Inv E s' (a.put dst v) w) ∧ LWo P E all rest Q s') :
    LWo P E all ({ dst := dst, op := .call { callee := .value f, args := ops.toArray, argTypes := ts }, type := ty, pos := pos, after := af, guard := none } :: rest) Q s := by
  intro a w ⟨ok, ρ, F, hi⟩; refine wpList_plain rfl fun K hK => ?_; have hF := hi.eval f; rw [hf] at hF; obtain ⟨cv, hfv, hcr⟩ := hF.clo_inv
  have hT : RepT w ok ρ vals (ops.map a.eval ++ cv) := by
    rw [← hv]
    have app : ∀ {xs ys : List LV} {vs us : List Value}, RepT w ok ρ xs vs → RepL w ok ρ ys us → RepT w ok ρ (xs ++ ys) (vs ++ us) := by
      intro xs
      induction xs with
      | nil =>
        intro ys vs us h k; cases h; exact k.toT
      | cons x xs ih => intro ys vs us h k; cases h with | cons h1 h2 => exact .cons h1 (ih h2 k)
    exact app (evalL ops hi) hcr
  have hrun : (execOp a.eval { dst := dst, op := .call { callee := .value f, args := ops.toArray, argTypes := ts }, type := ty, pos := pos, after := af, guard := none }).run P w = .ok (.enter g (ops.map a.eval ++ cv).toArray) w := by
    have he := hfn.1 (ops.map a.eval ++ cv).toArray w; simp only [execOp, resolve, hfv, Deferred.ofValue]; simp [invoke]; simpa using he
  unfold Oper.wp; rw [hrun]; show Calls P g _ w _; have hviews := hA.views
  have hkeyL : ∀ k ∈ hkeys hl, k ∈ hkeys s.h := fun k hk => by
    obtain ⟨o, ho⟩ : ∃ o, (k, o) ∈ hl := by simpa [hkeys] using hk
    obtain ⟨z, hz, _⟩ := hL.here _ ho; have := hget_mem hz; simp [hkeys]; exact ⟨z, this⟩
  have hHeap : HeapOK w (fun b => ok b ∨ ∃ o ∈ vw, b ∈ F o) ρ F hl := by
    refine ⟨hL.keys, ?_, ?_, ?_⟩
    · intro p hp
      obtain ⟨o, ho, ho'⟩ := hL.here p hp; have hob := hi.heap.objs _ (hget_mem ho)
      have hob' : ObjRep w ok ρ p.1 p.2 (F p.1) := by
        rcases ho' with e | e
        · rw [e]; exact hob
        · rw [e]; exact hob.ro true
      exact hob'.stable (fun _ _ => rfl) (fun _ hb => .inl hb) (fun _ _ => rfl) rfl (fun _ _ => rfl)
    · rw [fpsOf_keys]
      exact nodup_keys hi.heap.keys hi.heap.nodup hL.keys hkeyL
    · intro b hb
      rw [fpsOf_keys] at hb; obtain ⟨j, hj, hb⟩ := List.mem_flatMap.1 hb; obtain ⟨o, ho⟩ : ∃ o, (j, o) ∈ s.h := by simpa [hkeys] using hkeyL j hj
      have := hi.heap.apart b (mem_fpsOf.2 ⟨_, ho, hb⟩); refine ⟨?_, this.2⟩; rintro (h1 | ⟨o', ho', h1⟩)
      · exact this.1 h1
      · obtain ⟨hn1, obj', hm'⟩ := hviews o' ho'
        exact nodup_apart hi.heap.keys hi.heap.nodup ho hm' (fun e => hn1 (by have e' : j = o' := e; rw [← e']; exact hj)) b hb h1
  have hokc : ∀ b, (ok b ∨ ∃ o ∈ vw, b ∈ F o) → b < w.heap.size := by
    rintro b (h | ⟨o, ho, h⟩)
    · exact (hi.okk b h).1
    · obtain ⟨_, obj', hm'⟩ := hviews o ho
      exact (hi.heap.apart b (mem_fpsOf.2 ⟨_, hm', h⟩)).2
  refine (hfn.2 w _ (fun b => ok b ∨ ∃ o ∈ vw, b ∈ F o) ρ F (hA.rep hi (fun _ hb => .inl hb) (fun o ho b hb => .inr ⟨o, ho, hb⟩) hT) hHeap hokc).mono ?_; rintro e w' ⟨v, r, hl', ok', F', fr, rfl, hpost, hext, hres, hk1, ho1, hn1, hb1, hok1⟩; obtain ⟨hvw, s', hset, hrest⟩ := hn r hl' hpost; obtain ⟨okn, Does', hI, hR, hnd, hbf⟩ := call_base hi hL hviews hvw hext hres hk1 ho1 hn1 hb1 hok1; exact hK _ _ (hrest _ _ (hset _ _ _ _ _ _ _ hI hR hnd hbf))
theorem LWo.scall {α β : Type} {f : Operand} {ops : List Operand} {ts : Array TypeId} {g : FuncId} {caps vals xs : List LV} {sz : Nat} {e : α → LV} {e2 : β → LV} {y : α} {ys : List β} (k j : Nat) (kd : Kind) (hf : s.eval f = .clo g caps) (hv : ops.map s.eval ++ caps = vals)
    (hfn : Ret P g xs (.dv (e y).cells)) (hA : ArgsOK s [] vals xs []) (hcs : (e y).cells = (e y).cells.take j ++ .sl sz (ys.map e2) :: (e y).cells.drop (j + 1)) (h1 : immL ((e y).cells.take j) = true) (h2 : immL ((e y).cells.drop (j + 1)) = true)
    (hkd : kd = .deep ∨ kd = .fro ∧ immL ((ys.map e2).flatMap LV.cells) = true) (hl : Lift.lone k (hdel k s.h) = true) (hkp : E.keep.contains k = false := by exact rfl) (hd : Nat.blt d E.n = true := by exact rfl)
    (hn : LWo P E all rest Q { tm := (d, .agg ((e y).cells.take j ++ .own k 0 ys.length :: (e y).cells.drop (j + 1))) :: kill k s.tm, h := (k, { kind := kd, sz := sz, elems := ys.map e2 }) :: hdel k s.h }) :
    LWo P E all ({ dst := some d, op := .call { callee := .value f, args := ops.toArray, argTypes := ts }, type := ty, pos := pos, after := af, guard := none } :: rest) Q s := by
  refine LWo.callS hf hv hfn hA ⟨by simp [hkeys], by simp⟩ ?_; rintro r hl' ⟨rfl, rfl⟩; refine ⟨.inl rfl, _, ?_, hn⟩; intro a w ok ρ F v fr hi hr hnd hb; have e0 : ([] : LHeap) ++ hdels (hkeys (rwOf [])) s.h = s.h := by simp [rwOf, hkeys]
  rw [e0] at hi; rw [show ({ tm := s.tm, h := s.h } : LState) = s from rfl] at hi; simp only [e0] at hb; generalize hc : (e y).cells = cs at hr hcs h1 h2 ⊢; cases hr with
  | fro h => cases h
  | dv hD =>
    rename_i vs; rw [hcs] at hD; obtain ⟨fA, fR, hfr, hDA, hDR⟩ := hD.cut (cs.take j).length; rw [List.take_left] at hDA; rw [List.drop_left] at hDR; obtain ⟨rfl, hfA⟩ := DeepL.imms (ok := ok) h1 hDA; generalize hvd : vs.drop (cs.take j).length = vd at hDR; cases hDR with
    | @cons _ v2 _ vs2 fB fC g1 g2 g3 =>
      obtain ⟨rfl, hfC⟩ := DeepL.imms (ok := ok) h2 g3; have hvs : vs = vs.take (cs.take j).length ++ v2 :: vs2 := by rw [← hvd, List.take_append_drop]
      rw [List.nil_append, List.append_nil] at hfr; subst hfr
      have fin : ∀ pl : Option Place, ObjRep w ok (upd ρ k pl) k { kind := kd, sz := sz, elems := ys.map e2 } fr → Rep w ok (upd ρ k pl) (.own k 0 ys.length) v2 → Inv E { tm := (d, .agg (cs.take j ++ .own k 0 ys.length :: cs.drop (j + 1))) :: kill k s.tm, h := (k, { kind := kd, sz := sz, elems := ys.map e2 }) :: hdel k s.h } (a.put (some d) (.agg vs.toArray)) w := by
        intro pl q1 q2; have hi2 := settle_at hi k hkp hl hnd hb pl _ q1; refine ⟨_, _, _, hi2.put hd (.agg ?_)⟩; rw [hvs]; have hA' : RepL w ok (upd ρ k pl) (cs.take j) (vs.take (cs.take j).length) := hfA.rep; exact hA'.append (.cons q2 g2 hfC.rep)
      rcases g1.sl_inv with ⟨q0, q1, A, rfl⟩ | ⟨c, B, us, arr2, t2, fps2, q1, rfl, m1, m2, m3, m4, m5, m6, m7⟩
      · have : ys = [] := by
          have h := congrArg List.length q0; simp at h; exact h
        subst this; subst q1; exact fin none (.inl ⟨by simp, rfl, rfl⟩) .own0
      · subst q1
        refine fin (some ⟨B, c, sz⟩) (.inr ⟨⟨B, c, sz⟩, arr2, t2, us, fps2, by simp, rfl, { sz := rfl, unif := m1, len := m6, cap := m7, blk := m3, room := m4, vals := m5, cells := ?_ }⟩) ?_
        · rcases hkd with rfl | ⟨rfl, himm⟩
          · exact m2
          · exact DeepL.imms himm m2
        · rw [List.length_map] at m6 ⊢
          have := Rep.own (w := w) (ok := ok) (ρ := upd ρ k (some ⟨B, c, sz⟩)) (o := k) (off := 0) (n := ys.length) (c := c) (p := ⟨B, c, sz⟩) (by simp) (by simp) m6; simpa using this
end
end Go.Lift
/- The lifted logic, part 52: calls that hand back a list that owns, and a value. Own work. -/
namespace Go.Lift
open Go.RowKit
section
variable {P : Program} {E : Ent} {Q : Exit → LState → Prop} {s : LState} {all : Array Oper} {rest : List Oper} {d : Nat} {ty : TypeId} {pos : String} {af : Array Edge}
end
end Go.Lift
/- The lifted logic, part 53: structs that own several lists, handed back. Own work. -/
namespace Go.Lift
open Go.RowKit
inductive Outs : List LV → List LV → LHeap → Prop
  | nil : Outs [] [] []
  | imm {v : Value} {xs ys : List LV} {os : LHeap} : Outs xs ys os → Outs (.imm v :: xs) (.imm v :: ys) os
  | sl {k sz n : Nat} {kd : Kind} {zs xs ys : List LV} {os : LHeap} : (kd = .deep ∨ kd = .fro ∧ immL (zs.flatMap LV.cells) = true) → n = zs.length → Outs xs ys os → Outs (.sl sz zs :: xs) (.own k 0 n :: ys) ((k, { kind := kd, sz := sz, elems := zs }) :: os)
def killS : LHeap → Tm → Tm
  | [], t => t
  | (k, _) :: os, t => kill k (killS os t)
def addS : LHeap → LHeap → LHeap
  | [], h => h
  | (k, o) :: os, h => (k, o) :: hdel k (addS os h)
def loneS : LHeap → LHeap → Bool
  | [], _ => true
  | (k, _) :: os, h => lone k (hdel k (addS os h)) && (!(hkeys os).contains k && loneS os h)
theorem Outs.refs {xs ys : List LV} {os : LHeap} (h : Outs xs ys os) : LV.refs.refsL ys = hkeys os := by
  induction h with
  | nil => rfl
  | imm _ ih => simpa [LV.refs.refsL, LV.refs] using ih
  | sl _ _ _ ih => simp [LV.refs.refsL, LV.refs, hkeys] at ih ⊢; exact ih
section
variable {P : Program} {E : Ent} {Q : Exit → LState → Prop} {s : LState} {all : Array Oper} {rest : List Oper} {d : Nat} {ty : TypeId} {pos : String} {af : Array Edge}
theorem Outs.run {a : Act} {w : World} {ok : Nat → Prop} {ρ : Env} {F : Nat → List Nat} (hi : Inv' E s a w ok ρ F) {cs ys : List LV} {os : LHeap} (ho : Outs cs ys os) : ∀ {vs : List Value} {fr : List Nat}, DeepL w cs vs fr → fr.Nodup →
    (∀ b ∈ fr, ¬ ok b ∧ b < w.heap.size ∧ b ∉ fpsOf F s.h ∧ (b < E.w0.heap.size → b ∈ E.lent)) → loneS os s.h = true → (∀ k ∈ hkeys os, E.keep.contains k = false) →
    ∃ ρ' F', Inv' E { tm := killS os s.tm, h := addS os s.h } a w ok ρ' F' ∧ RepL w ok ρ' ys vs ∧ ∀ b ∈ fpsOf F' (addS os s.h), b ∈ fr ∨ b ∈ fpsOf F s.h := by
  induction ho with
  | nil =>
    intro vs fr hD _ _ _ _; cases hD; exact ⟨ρ, F, hi, .nil, fun b hb => .inr hb⟩
  | imm _ ih =>
    intro vs fr hD hn hb hl hk; cases hD with
    | cons h1 h2 h3 =>
      cases h1; obtain ⟨ρ', F', g1, g2, g3⟩ := ih h3 hn hb hl hk; exact ⟨ρ', F', g1, .cons (.fro (.imm _)) h2 g2, g3⟩
  | @sl k sz n kd zs xs ys os hkd hnz hO ih =>
    intro vs fr hD hn hb hl hk; subst hnz; unfold loneS at hl; rw [Bool.and_eq_true, Bool.and_eq_true] at hl; obtain ⟨hl1, hl2, hl3⟩ := hl; cases hD with
    | @cons _ v _ vs' fB g h1 h2 h3 =>
      rw [List.nodup_append] at hn; obtain ⟨n1, n2, n3⟩ := hn; obtain ⟨ρ1, F1, q1, q2, q3⟩ := ih h3 n2 (fun b hb' => hb b (by simp [hb'])) hl3 (fun j hj => hk j (by simp [hkeys] at hj ⊢; exact .inr hj)); have hkk := hk k (by simp [hkeys])
      have hkr : k ∉ LV.refs.refsL ys := by
        rw [hO.refs]; simpa using hl2
      have hbB : ∀ b ∈ fB, ¬ ok b ∧ b < w.heap.size ∧ b ∉ fpsOf F1 (addS os s.h) ∧ (b < E.w0.heap.size → b ∈ E.lent) := fun b hb' => by
        have h := hb b (by simp [hb']); refine ⟨h.1, h.2.1, fun hm => ?_, h.2.2.2⟩; rcases q3 b hm with h4 | h4
        · exact n3 b hb' b h4 rfl
        · exact h.2.2.1 h4
      have fin : ∀ pl : Option Place, ObjRep w ok (upd ρ1 k pl) k { kind := kd, sz := sz, elems := zs } fB → Rep w ok (upd ρ1 k pl) (.own k 0 zs.length) v →
          ∃ ρ' F', Inv' E { tm := killS ((k, { kind := kd, sz := sz, elems := zs }) :: os) s.tm, h := addS ((k, { kind := kd, sz := sz, elems := zs }) :: os) s.h } a w ok ρ' F' ∧ RepL w ok ρ' (.own k 0 zs.length :: ys) (v :: vs') ∧ ∀ b ∈ fpsOf F' (addS ((k, { kind := kd, sz := sz, elems := zs }) :: os) s.h), b ∈ fB ++ g ∨ b ∈ fpsOf F s.h := by
        intro pl p1 p2; have hi2 := settle_at q1 k hkk hl1 n1 hbB pl _ p1; refine ⟨_, _, hi2, .cons p2 h2 (RepL.stable (fun _ _ => rfl) (fun _ hb => hb) (fun o ho => upd_other _ _ (fun e => hkr (e ▸ ho))) q2), fun b hb' => ?_⟩; obtain ⟨q, hq, hb2⟩ := mem_fpsOf.1 hb'; rcases List.mem_cons.1 hq with rfl | hq
        · rw [upd_same] at hb2
          exact .inl (by simp [hb2])
        · rw [upd_other F1 fB (show q.1 ≠ k from not_key (hdel_key k _) q hq)] at hb2
          rcases q3 b (mem_fpsOf.2 ⟨q, (hdel_sub k _).mem hq, hb2⟩) with h4 | h4
          · exact .inl (by simp [h4])
          · exact .inr h4
      rcases h1.sl_inv with ⟨rfl, rfl, A, rfl⟩ | ⟨c, B, us, arr2, t2, fps2, rfl, rfl, m1, m2, m3, m4, m5, m6, m7⟩
      · exact fin none (.inl ⟨by simp, rfl, rfl⟩) .own0
      · refine fin (some ⟨B, c, sz⟩) (.inr ⟨⟨B, c, sz⟩, arr2, t2, us, fps2, by simp, rfl, { sz := rfl, unif := m1, len := m6, cap := m7, blk := m3, room := m4, vals := m5, cells := ?_ }⟩) ?_
        · rcases hkd with rfl | ⟨rfl, himm⟩
          · exact m2
          · exact DeepL.imms himm m2
        · have := Rep.own (w := w) (ok := ok) (ρ := upd ρ1 k (some ⟨B, c, sz⟩)) (o := k) (off := 0) (n := zs.length) (c := c) (p := ⟨B, c, sz⟩) (by simp) (by simp) m6
          simpa using this
theorem LWo.scallM {α : Type} {f : Operand} {ops : List Operand} {ts : Array TypeId} {g : FuncId} {caps vals xs : List LV} {e : α → LV} {y : α} {ys : List LV} (os : LHeap) (hf : s.eval f = .clo g caps) (hv : ops.map s.eval ++ caps = vals)
    (hfn : Ret P g xs (.dv (e y).cells)) (hA : ArgsOK s [] vals xs []) (ho : Outs (e y).cells ys os) (hl : loneS os s.h = true) (hkp : (hkeys os).all (fun k => !E.keep.contains k) = true) (hd : Nat.blt d E.n = true := by exact rfl)
    (hn : LWo P E all rest Q { tm := (d, .agg ys) :: killS os s.tm, h := addS os s.h }) :
    LWo P E all ({ dst := some d, op := .call { callee := .value f, args := ops.toArray, argTypes := ts }, type := ty, pos := pos, after := af, guard := none } :: rest) Q s := by
  refine LWo.callS hf hv hfn hA ⟨by simp [hkeys], by simp⟩ ?_; rintro r hl' ⟨rfl, rfl⟩; refine ⟨.inl rfl, _, ?_, hn⟩; intro a w ok ρ F v fr hi hr hnd hb; have e0 : ([] : LHeap) ++ hdels (hkeys (rwOf [])) s.h = s.h := by simp [rwOf, hkeys]
  rw [e0] at hi; rw [show ({ tm := s.tm, h := s.h } : LState) = s from rfl] at hi; simp only [e0] at hb; cases hr with
  | fro h => cases h
  | dv hD =>
    obtain ⟨ρ', F', g1, g2, _⟩ := ho.run hi hD hnd hb hl (fun k hk => by
      have := List.all_eq_true.1 hkp k hk; simpa using this)
    exact ⟨_, _, _, g1.put hd (.agg g2)⟩
end
end Go.Lift
/- The lifted logic, part 54: a list of one's own lent to be read; what comes back may lead to its elements, never to the list. Own work. -/
namespace Go.Lift
open Go.RowKit
section
variable {P : Program} {E : Ent} {Q : Exit → LState → Prop} {s : LState} {all : Array Oper} {rest : List Oper} {d : Nat} {ty : TypeId} {pos : String} {af : Array Edge}
end
end Go.Lift
/- The lifted logic, part 55: regions of open order in which what leads to what is told until an operation. Own work. -/
namespace Go.Lift
open Go.RowKit
section
variable {P : Program} {E : Ent} {Q : Exit → LState → Prop}
def DSEB (P : Program) (E : Ent) (KB : List ((Nat × Nat) × List Nat)) (all : Array Oper) : List Oper → List (List Nat × List Nat × List (Nat × Nat)) → Nat → List SF → List HF → (List SF → List HF → List Rec → Prop) → Prop
  | o :: os, (rd, hk, KS) :: ps, i, acc, ah, k => (rd.all (hasT · acc) && hk.all (hasH · ah)) = true ∧ ∃ ef : Ef, ef.good KS ∧ (∀ p ∈ KB, p.2.contains i = true ∨ ef.good [p.1]) ∧ (∀ u : LState, Good KS u → AllF u.tm (rd.map (look · acc)) → AllH u.h (hk.map (lookH · ah)) → LWo P E all [o] (fun e t => e = .normal ∧ (t = ef.run u ∨ t.le (ef.run u)) ∧ Good KS t) u) ∧
      DSEB P E KB all os ps (i + 1) (ef.accS i acc) (ef.accH i ah) (fun a b r => k a b (⟨ef, rd.map (look · acc), hk.map (lookH · ah)⟩ :: r))
  | [], [], _, acc, ah, k => k acc ah []
  | _, _, _, _, _, _ => False
theorem DSEB.out {KB : List ((Nat × Nat) × List Nat)} {all : Array Oper} : ∀ {os : List Oper} {ps : List (List Nat × List Nat × List (Nat × Nat))} {i : Nat} {acc : List SF} {ah : List HF} {k : List SF → List HF → List Rec → Prop}, DSEB P E KB all os ps i acc ah k →
    ∃ (acc' : List SF) (ah' : List HF) (recs : List Rec), k acc' ah' recs ∧ recs.length = os.length ∧ (∀ (j : Nat) (o : Oper) (r : Rec), os[j]? = some o → recs[j]? = some r → r.ok P E ((ps.map (·.2.2)).getD j []) all o ∧ ∀ p ∈ KB, p.2.contains (i + j) = true ∨ r.ef.good [p.1]) ∧
      (∀ f ∈ acc, f ∈ acc') ∧ (∀ f ∈ ah, f ∈ ah') ∧
      (∀ f ∈ acc', f ∈ acc ∨ ∃ j r, f.est = some (i + j) ∧ recs[j]? = some r ∧ r.ef.dst = some f.t ∧ (∀ s, get f.t (r.ef.run s).tm = f.v) ∧ f.rf = f.v.refs) ∧
      (∀ f ∈ ah', f ∈ ah ∨ ∃ j r, f.est = some (i + j) ∧ recs[j]? = some r ∧ (∀ s, hget f.k (r.ef.run s).h = some f.obj)) ∧
      (∀ r ∈ recs, (∀ f ∈ r.rs, f ∈ acc') ∧ ∀ f ∈ r.rk, f ∈ ah')
  | o :: os, (rd, hk, KS) :: ps, i, acc, ah, k, ⟨hin, ef, hgood, hb, h1, h2⟩ => by
    obtain ⟨acc', ah', recs, hk', hlen, hok, hsub, hsubH, hnew, hnewH, hreq⟩ := DSEB.out h2; simp only [Bool.and_eq_true] at hin
    have hs1 : ∀ f ∈ acc, f ∈ ef.accS i acc := by
      intro f hf; cases ef with
      | put d y => simp [Ef.accS, hf]
      | upd d y k o => cases d <;> simp [Ef.accS, hf]
      | make d y k o => simp [Ef.accS, hf]
    have hs2 : ∀ f ∈ ah, f ∈ ef.accH i ah := by
      intro f hf; cases ef <;> simp [Ef.accH, hf]
    refine ⟨acc', ah', _, hk', by simp [hlen], ?_, fun f hf => hsub f (hs1 f hf), fun f hf => hsubH f (hs2 f hf), ?_, ?_, ?_⟩
    · intro j o' r ho hr
      cases j with
      | zero =>
        simp at ho hr; subst ho; subst hr; refine ⟨⟨hgood, fun u hu hrs hrk => ?_⟩, by simpa using hb⟩; exact h1 u hu (AllF.of hrs) (AllH.of hrk)
      | succ j =>
        simp at ho hr; obtain ⟨g1, g2⟩ := hok j o' r ho hr; exact ⟨by simpa using g1, by rw [show i + (j + 1) = i + 1 + j from by omega]; exact g2⟩
    · intro f hf
      rcases hnew f hf with h | ⟨j, r, he, hr, h⟩
      · cases ef with
        | put d y =>
          rcases List.mem_cons.1 h with rfl | h
          · exact .inr ⟨0, _, by simp, rfl, rfl, fun s => by simp [Ef.run, LState.put, get], rfl⟩
          · exact .inl h
        | upd d y kk obj =>
          cases d with
          | none => exact .inl h
          | some d =>
            rcases List.mem_cons.1 h with rfl | h
            · exact .inr ⟨0, _, by simp, rfl, rfl, fun s => by simp [Ef.run, LState.put, get], rfl⟩
            · exact .inl h
        | make d y kk obj =>
          rcases List.mem_cons.1 h with rfl | h
          · exact .inr ⟨0, _, by simp, rfl, rfl, fun s => by simp [Ef.run, get], rfl⟩
          · exact .inl h
      · exact .inr ⟨j + 1, r, by rw [he]; congr 1; omega, by simpa using hr, h⟩
    · intro f hf
      rcases hnewH f hf with h | ⟨j, r, he, hr, h⟩
      · cases ef with
        | put d y => exact .inl h
        | upd d y kk obj =>
          rcases List.mem_cons.1 h with rfl | h
          · refine .inr ⟨0, _, by simp, rfl, fun s => ?_⟩
            cases d <;> simp [Ef.run, LState.put, hget]
          · exact .inl h
        | make d y kk obj =>
          rcases List.mem_cons.1 h with rfl | h
          · exact .inr ⟨0, _, by simp, rfl, fun s => by simp [Ef.run, hget]⟩
          · exact .inl h
      · exact .inr ⟨j + 1, r, by rw [he]; congr 1; omega, by simpa using hr, h⟩
    · intro r hr
      rcases List.mem_cons.1 hr with rfl | hr
      · refine ⟨fun f hf => ?_, fun f hf => ?_⟩
        · obtain ⟨t, ht, rfl⟩ := List.mem_map.1 hf
          exact hsub _ (hs1 _ (look_mem (List.all_eq_true.1 hin.1 t ht)))
        · obtain ⟨t, ht, rfl⟩ := List.mem_map.1 hf
          exact hsubH _ (hs2 _ (lookH_mem (List.all_eq_true.1 hin.2 t ht)))
      · exact hreq r hr
  | [], [], i, acc, ah, k, h => ⟨acc, ah, [], h, rfl, by simp, by simp, by simp, fun f hf => .inl hf, fun f hf => .inl hf, by simp⟩
end
end Go.Lift
/- The lifted logic, part 56: lists some of whose parts are owned: taken out, put back, stored. Own work. -/
namespace Go.Lift
open Go.RowKit
theorem MCells.length {w : World} {ok : Nat → Prop} {ρ : Env} {xs : List LV} {vs : List Value} {f : List Nat} (h : MCells w ok ρ xs vs f) : xs.length = vs.length := by
  induction h with
  | nil => rfl
  | cons _ _ _ ih => simp [ih]
theorem MCells.append {w : World} {ok : Nat → Prop} {ρ : Env} {xs ys : List LV} {vs us : List Value} {f g : List Nat} (h : MCells w ok ρ xs vs f) (k : MCells w ok ρ ys us g) : MCells w ok ρ (xs ++ ys) (vs ++ us) (f ++ g) := by
  induction h with
  | nil => exact k
  | cons h h1 _ ih => rw [List.append_assoc]; exact .cons h h1 ih
theorem MCells.cut {w : World} {ok : Nat → Prop} {ρ : Env} {xs : List LV} {vs : List Value} {f : List Nat} (h : MCells w ok ρ xs vs f) : ∀ n : Nat, ∃ fA fC, f = fA ++ fC ∧ MCells w ok ρ (xs.take n) (vs.take n) fA ∧ MCells w ok ρ (xs.drop n) (vs.drop n) fC := by
  induction h with
  | nil => intro n; exact ⟨[], [], rfl, by simpa using MCells.nil, by simpa using MCells.nil⟩
  | @cons x v xs vs f g h h1 h2 ih =>
    intro n; cases n with
    | zero => exact ⟨[], _, rfl, by simpa using MCells.nil, by simpa using MCells.cons h h1 h2⟩
    | succ n =>
      obtain ⟨fA, fC, rfl, hA, hC⟩ := ih n; exact ⟨f ++ fA, fC, by rw [List.append_assoc], by simpa using MCells.cons h h1 hA, by simpa using hC⟩
theorem MCells.put {w : World} {ok : Nat → Prop} {ρ : Env} {xs ys : List LV} {vs us : List Value} {f g : List Nat} (h : MCells w ok ρ xs vs f) (q : Nat) (hy : MCells w ok ρ ys us g) : ∃ fA fB fC, f = fA ++ (fB ++ fC) ∧ MCells w ok ρ (setRange xs q ys) (vs.take q ++ us ++ vs.drop (q + ys.length)) (fA ++ g ++ fC) := by
  obtain ⟨fA, fR, rfl, hA, hR⟩ := h.cut q; obtain ⟨fB, fC, rfl, hB, hC⟩ := hR.cut ys.length; refine ⟨fA, fB, fC, rfl, ?_⟩; rw [List.drop_drop, List.drop_drop] at hC; exact (hA.append hy).append hC
inductive SinkM1 (h : LHeap) : LV → LV → List Nat → Prop
  | imm (v : Value) : SinkM1 h (.imm v) (.imm v) []
  | nilnw {sz : Nat} : SinkM1 h (.imm (.slice none 0 0)) (.nw sz [] false) []
  | fz {x : LV} : x.pure = true → SinkM1 h x (.tup [x]) []
  | own {k n : Nat} {obj : LObj} : hget k h = some obj → obj.ro = false → obj.kind = .fro → n = obj.elems.length → SinkM1 h (.own k 0 n) (.nw obj.sz obj.elems false) [k]
inductive SinkM (h : LHeap) : List LV → List LV → List Nat → Prop
  | nil : SinkM h [] [] []
  | cons {x y : LV} {xs ys : List LV} {ks ks' : List Nat} : SinkM1 h x y ks → SinkM h xs ys ks' → SinkM h (x :: xs) (y :: ys) (ks ++ ks')
theorem SinkM.length {h : LHeap} : ∀ {xs ys : List LV} {ks : List Nat}, SinkM h xs ys ks → xs.length = ys.length
  | _, _, _, .nil => rfl
  | _, _, _, .cons _ h => by simp [h.length]
theorem SinkM1.inh {h : LHeap} {x y : LV} {ks : List Nat} (hs : SinkM1 h x y ks) : ∀ k ∈ ks, ∃ obj, hget k h = some obj ∧ obj.ro = false := by
  cases hs with
  | own ho hro _ _ => intro k hk; simp at hk; subst hk; exact ⟨_, ho, hro⟩
  | _ => simp
theorem SinkM.inh {h : LHeap} : ∀ {xs ys : List LV} {ks : List Nat}, SinkM h xs ys ks → ∀ k ∈ ks, ∃ obj, hget k h = some obj ∧ obj.ro = false
  | _, _, _, .nil, k, hk => by simp at hk
  | _, _, _, .cons h h', k, hk => by
    rcases List.mem_append.1 hk with hk | hk
    · exact h.inh k hk
    · exact h'.inh k hk
section
variable {P : Program} {E : Ent} {Q : Exit → LState → Prop} {s : LState} {all : Array Oper} {rest : List Oper} {d : Nat} {ty : TypeId} {pos : String} {af : Array Edge}
theorem SinkM1.mix {a : Act} {w : World} {ok : Nat → Prop} {ρ : Env} {F : Nat → List Nat} (hi : Inv' E s a w ok ρ F) {x y : LV} {ks : List Nat} (hs : SinkM1 s.h x y ks) {v : Value} (hr : Rep w ok ρ x v) : ∃ g, MCell w ok ρ y v g ∧ g.Sublist (ks.flatMap F) := by
  cases hs with
  | imm u => rw [hr.imm_inv]; exact ⟨[], .imm _, by simp⟩
  | nilnw => rw [hr.imm_inv]; exact ⟨[], .nw0, by simp⟩
  | fz hp => exact ⟨[], .fz (Rep.pure hp hr), by simp⟩
  | @own k n obj ho hro hk hn =>
    rcases hr.own_inv with ⟨p, c, hp, h2, h3, rfl⟩ | ⟨h0, A, rfl⟩
    · rcases hi.heap.objs _ (hget_mem ho) with ⟨h4, _⟩ | ⟨p', arr, t, vs, fps, h4, hF, hobj⟩
      · rw [hp] at h4; cases h4
      · rw [hp] at h4; cases h4
        have hF' : F k = p.blk :: fps := hF; have hsz : p.sz = obj.sz := hobj.sz; have hcells := hobj.cells; rw [show (k, obj).2.kind = obj.kind from rfl, hk] at hcells; have hroom : p.cap * p.sz ≤ arr.size := hobj.room; have hcap : p.cap ≤ maxLen := hobj.cap; refine ⟨[p.blk], ?_, by rw [List.flatMap_cons, hF']; simp⟩; have := MCell.nw (w := w) (ok := ok) (ρ := ρ) (sz := obj.sz) (c := c) (B := p.blk) (ys := obj.elems) hobj.unif hcells.2 hobj.blk (by rw [← hsz]; exact Nat.le_trans (Nat.mul_le_mul_right _ (by omega)) hroom) hobj.vals (by omega) (by omega); rw [← hn] at this; simpa using this
    · rw [h0] at hn
      have : obj.elems = [] := List.eq_nil_of_length_eq_zero hn.symm; rw [this]; exact ⟨[], .nw0, by simp⟩
theorem SinkM.mix {a : Act} {w : World} {ok : Nat → Prop} {ρ : Env} {F : Nat → List Nat} (hi : Inv' E s a w ok ρ F) : ∀ {xs ys : List LV} {ks : List Nat}, SinkM s.h xs ys ks → ∀ {vs : List Value}, RepL w ok ρ xs vs → ∃ g, MCells w ok ρ ys vs g ∧ g.Sublist (ks.flatMap F)
  | _, _, _, .nil, _, .nil => ⟨[], .nil, by simp⟩
  | _, _, _, .cons h h', _, .cons hr h1 hr' => by
    obtain ⟨g1, e1, e2⟩ := h.mix hi hr; obtain ⟨g2, e3, e4⟩ := SinkM.mix hi h' hr'; exact ⟨g1 ++ g2, .cons e1 h1 e3, by rw [List.flatMap_append]; exact e2.append e4⟩
end
end Go.Lift
/- The lifted logic, part 57: lists some of whose parts are owned, as mirrors tell them. Own work. -/
namespace Go.Lift
open Go.RowKit
inductive UnM1 : LV → LV → Prop
  | imm (v : Value) : UnM1 (.imm v) (.imm v)
  | fz (x : LV) : UnM1 (.tup [x]) x
  | nw (sz : Nat) (xs : List LV) : UnM1 (.nw sz xs false) (.sl sz xs)
inductive UnML : List LV → List LV → Prop
  | nil : UnML [] []
  | cons {x y : LV} {xs ys : List LV} : UnM1 x y → UnML xs ys → UnML (x :: xs) (y :: ys)
theorem UnML.append {a b c d : List LV} (h : UnML a b) (k : UnML c d) : UnML (a ++ c) (b ++ d) := by
  induction h with
  | nil => exact k
  | cons h _ ih => exact .cons h ih
theorem UnML.length {a b : List LV} (h : UnML a b) : a.length = b.length := by
  induction h with
  | nil => rfl
  | cons _ _ ih => simp [ih]
theorem UnML.map {α : Type} {f e : α → LV} (h : ∀ a, UnML (f a).cells (e a).cells) : ∀ l : List α, UnML ((l.map f).flatMap LV.cells) ((l.map e).flatMap LV.cells)
  | [] => .nil
  | a :: l => by
    rw [List.map_cons, List.flatMap_cons, List.map_cons, List.flatMap_cons]; exact (h a).append (UnML.map h l)
theorem UnML.fro {w : World} {ok ok' : Nat → Prop} {ρ : Env} (hok : ∀ b, ok b → ok' b) {xs : List LV} {vs : List Value} {fps : List Nat} (h : MCells w ok ρ xs vs fps) : ∀ {ys : List LV}, UnML xs ys → (∀ b ∈ fps, ok' b) → FroL w ok' ys vs := by
  induction h with
  | nil => intro ys hu _; cases hu; exact .nil
  | cons h h1 _ ih =>
    intro ys hu hf; cases hu with
    | cons h2 h3 =>
      refine .cons ?_ h1 (ih h3 (fun b hb => hf b (by simp [hb]))); cases h2 with
      | imm v => cases h; exact .imm _
      | fz x => cases h with | fz h => exact h.stable (fun _ _ => rfl) hok
      | nw sz zs =>
        cases h with
        | nw0 => exact .sl0 (Nat.zero_le _)
        | nw m1 m2 m3 m4 m5 m6 m7 =>
          rcases zs with _ | ⟨z, zs⟩
          · exact .sl0 m7
          · exact .sl (by simp) m1 (m2.stable (fun _ _ => rfl) hok) (cells_of m3 m5) (hf _ (by simp)) m6 m7
inductive MarkD1 : LV → LV → Prop
  | imm (v : Value) : MarkD1 (.imm v) (.imm v)
  | fz (sz : Nat) (xs : List LV) : MarkD1 (.sl sz xs) (.tup [.sl sz xs])
  | nw (sz : Nat) (xs : List LV) : MarkD1 (.sl sz xs) (.nw sz xs false)
inductive MarkDL : List LV → List LV → Prop
  | nil : MarkDL [] []
  | cons {x y : LV} {xs ys : List LV} : MarkD1 x y → MarkDL xs ys → MarkDL (x :: xs) (y :: ys)
theorem MarkDL.append {a b c d : List LV} (h : MarkDL a b) (k : MarkDL c d) : MarkDL (a ++ c) (b ++ d) := by
  induction h with
  | nil => exact k
  | cons h _ ih => exact .cons h ih
theorem MarkDL.length {a b : List LV} (h : MarkDL a b) : a.length = b.length := by
  induction h with
  | nil => rfl
  | cons _ _ ih => simp [ih]
theorem MarkDL.refs {a b : List LV} (h : MarkDL a b) : LV.refs.refsL b = [] := by
  induction h with
  | nil => rfl
  | cons h _ ih =>
    rw [LV.refs.refsL, ih, List.append_nil]; cases h <;> rfl
theorem MarkDL.map {α : Type} {f e : α → LV} (h : ∀ a, MarkDL (e a).cells (f a).cells) : ∀ l : List α, MarkDL ((l.map e).flatMap LV.cells) ((l.map f).flatMap LV.cells)
  | [] => .nil
  | a :: l => by
    rw [List.map_cons, List.flatMap_cons, List.map_cons, List.flatMap_cons]; exact (h a).append (MarkDL.map h l)
theorem MarkDL.cells {w : World} {ρ : Env} : ∀ {xs : List LV} {vs : List Value} {fps : List Nat}, DeepL w xs vs fps → fps.Nodup → ∀ {ys : List LV}, MarkDL xs ys → ∃ g : List Nat, g.Sublist fps ∧ ∀ ok : Nat → Prop, (∀ b ∈ fps, b ∉ g → ok b) → MCells w ok ρ ys vs g
  | _, _, _, .nil, _, _, .nil => ⟨[], by simp, fun _ _ => .nil⟩
  | _, _, _, .cons (v := v) (f := f) (g := g) h h1 h2, hn, _, .cons (y := y) k k2 => by
    rw [List.nodup_append] at hn; obtain ⟨n1, n2, n3⟩ := hn; obtain ⟨g2, s2, c2⟩ := MarkDL.cells (ρ := ρ) h2 n2 k2
    have one : ∃ g1 : List Nat, g1.Sublist f ∧ ∀ ok : Nat → Prop, (∀ b ∈ f, b ∉ g1 → ok b) → MCell w ok ρ y v g1 := by
      cases k with
      | imm v => cases h; exact ⟨[], by simp, fun _ _ => .imm v⟩
      | fz sz xs => exact ⟨[], by simp, fun ok hok => .fz (h.fro (fun b hb => hok b hb (by simp)))⟩
      | nw sz xs =>
        cases h with
        | sl0 => exact ⟨[], by simp, fun _ _ => .nw0⟩
        | @sl _ c B _ us arr t fps1 m1 m2 m3 m4 m5 m6 m7 =>
          refine ⟨[B], by simp, fun ok hok => .nw m1 (m2.fro (fun b hb => hok b (by simp [hb]) ?_)) m3 m4 m5 m6 m7⟩; have := (List.nodup_cons.1 n1).1; simp only [List.mem_singleton]; intro e; exact this (e ▸ hb)
    obtain ⟨g1, s1, c1⟩ := one; refine ⟨g1 ++ g2, s1.append s2, fun ok hok => .cons (c1 ok fun b hb hnb => hok b (by simp [hb]) ?_) h1 (c2 ok fun b hb hnb => hok b (by simp [hb]) ?_)⟩
    · rw [List.mem_append, not_or]
      exact ⟨hnb, fun hm => n3 b hb b (s2.mem hm) rfl⟩
    · rw [List.mem_append, not_or]
      exact ⟨fun hm => n3 b (s1.mem hm) b hb rfl, hnb⟩
section
variable {P : Program} {E : Ent} {Q : Exit → LState → Prop} {s : LState} {all : Array Oper} {rest : List Oper} {d : Nat} {ty : TypeId} {pos : String} {af : Array Edge}
theorem SinkM.rep {h : LHeap} {xs ys : List LV} (hs : SinkM h xs ys []) : ∀ n : Nat, SinkM h (List.replicate n xs).flatten (List.replicate n ys).flatten []
  | 0 => .nil
  | n + 1 => by
    rw [List.replicate_succ, List.flatten_cons, List.replicate_succ, List.flatten_cons]
    have app : ∀ {a b c d : List LV} {ks ks' : List Nat}, SinkM h a b ks → SinkM h c d ks' → SinkM h (a ++ c) (b ++ d) (ks ++ ks') := by
      intro a b c d ks ks' h1 h2
      induction h1 with
      | nil => exact h2
      | cons h h' ih => rw [List.append_assoc]; exact .cons h ih
    exact app hs (hs.rep n)
end
end Go.Lift
/- The lifted logic, part 58: lists some of whose parts are owned: appended to, handed back. Own work. -/
namespace Go.Lift
open Go.RowKit
theorem MCells.ones {w : World} {ok : Nat → Prop} {ρ : Env} {xs : List LV} {vs : List Value} {f : List Nat} (h : MCells w ok ρ xs vs f) : ∀ u ∈ vs, u.oneCell' = true := by
  induction h with
  | nil => simp
  | cons _ h1 _ ih =>
    intro u hu; rcases List.mem_cons.1 hu with rfl | hu
    · exact h1
    · exact ih u hu
section
variable {P : Program} {E : Ent} {Q : Exit → LState → Prop} {s : LState} {all : Array Oper} {rest : List Oper} {d : Nat} {ty : TypeId} {pos : String} {af : Array Edge}
end
end Go.Lift
/- Short forms of steps: what one may leave out. Own work. -/
namespace Go.Lift
open Go.RowKit
variable {P : Program} {E : Ent} {Q : Exit → LState → Prop} {s : LState} {all : Array Oper} {rest : List Oper} {ty : TypeId} {pos : String} {af : Array Edge}
theorem LWo.gN {op : Op} {j d : Nat} {b nw want : Bool} (t : Nat) (h : b = nw) (hn : LWo P E all rest Q (s.put (some d) (.imm undef)))
    (hb : get t s.tm = .imm (.bool b) := by exact rfl) (hd : (all[j]?).bind (·.dst) = some t := by exact rfl) (hlt : Nat.blt d E.n = true := by exact rfl) (hne : nw = !want := by exact rfl) :
    LWo P E all ({ dst := some d, op := op, type := ty, pos := pos, after := af, guard := some (j, want) } :: rest) Q s :=
  LWo.guardNU hb h rfl hd rfl hlt hne hn
theorem LWo.gU {op : Op} {j d : Nat} {want : Bool} (t : Nat) (hn : LWo P E all rest Q (s.put (some d) (.imm undef)))
    (hb : get t s.tm = .imm undef := by exact rfl) (hd : (all[j]?).bind (·.dst) = some t := by exact rfl) (hlt : Nat.blt d E.n = true := by exact rfl) :
    LWo P E all ({ dst := some d, op := op, type := ty, pos := pos, after := af, guard := some (j, want) } :: rest) Q s :=
  LWo.guardU hb rfl hd rfl hlt hn
theorem LWo.gY {dst : Option Nat} {op : Op} {j : Nat} {b want : Bool} (t : Nat) (h : b = want)
    (hn : LWo P E all ({ dst := dst, op := op, type := ty, pos := pos, after := af, guard := none } :: rest) Q s)
    (hb : get t s.tm = .imm (.bool b) := by exact rfl) (hd : (all[j]?).bind (·.dst) = some t := by exact rfl) :
    LWo P E all ({ dst := dst, op := op, type := ty, pos := pos, after := af, guard := some (j, want) } :: rest) Q s :=
  LWo.guardY hb h rfl hd hn
theorem so {α : Type} {a b : α} (h : some a = some b) : a = b := Option.some.inj h
theorem QG.p {t : Nat} {e : Exit} {r' : LV} (h1 : get t s.tm = r' := by exact rfl) (h2 : LV.pure r' = true := by exact rfl) (he : e = .normal ∨ e = .ret := by exact .inr rfl) : QG P E [.tmp t] (fun r h => r = r' ∧ h = []) e s :=
  QG.mk he (.cons (.tmp (x := r') h1) .nil) (RetOK.one0 (.pure h2) (by decide)) rfl rfl
end Go.Lift
/- The lifted logic, part 60: a list that was cut is given up. Own work. -/
namespace Go.Lift
open Go.RowKit
variable {P : Program} {E : Ent} {Q : Exit → LState → Prop} {s : LState} {all : Array Oper} {rest : List Oper}
end Go.Lift
/- The lifted logic, part 61: a state written out anew inside a region. Own work. -/
namespace Go.Lift
open Go.RowKit
variable {P : Program} {E : Ent} {Q : Exit → LState → Prop} {s : LState} {all : Array Oper} {rest : List Oper}
end Go.Lift
/- The lifted logic, part 62: a variable that a closure writes; it is lent under any name. Own work. -/
namespace Go.Lift
open Go.RowKit
section
variable {P : Program}
end
end Go.Lift
/- The lifted logic, part 63: a list without spare room, and what is put behind it. Own work. -/
namespace Go.Lift
open Go.RowKit
section
variable {P : Program} {E : Ent} {Q : Exit → LState → Prop} {s : LState} {all : Array Oper} {rest : List Oper} {d : Nat} {ty : TypeId} {pos : String} {af : Array Edge}
end
end Go.Lift
/- The lifted logic, part 64: a variable is lent, and given up; what comes back takes its name. Own work. -/
namespace Go.Lift
open Go.RowKit
section
variable {P : Program} {E : Ent} {Q : Exit → LState → Prop} {s : LState} {all : Array Oper} {rest : List Oper} {d : Nat} {ty : TypeId} {pos : String} {af : Array Edge}
end
end Go.Lift
/- The lifted logic, part 65: lists that are read and have no spare room. Own work. -/
namespace Go.Lift
open Go.RowKit
section
variable {P : Program} {E : Ent} {Q : Exit → LState → Prop} {s : LState} {all : Array Oper} {rest : List Oper} {d : Nat} {ty : TypeId} {pos : String} {af : Array Edge}
end
end Go.Lift
/- The lifted logic, part 67: method values; variables in memory that are given up. Own work. -/
namespace Go.Lift
open Go.RowKit
section
variable {P : Program} {E : Ent} {Q : Exit → LState → Prop} {s : LState} {all : Array Oper} {rest : List Oper} {d : Nat} {ty : TypeId} {pos : String} {af : Array Edge}
def PtrAt (tm : Tm) (k : Nat) : List Nat → Prop
  | [] => True
  | t :: r => get t tm = .ptr k 0 0 ∧ PtrAt tm k r
theorem PtrAt.mem {tm : Tm} {k j : Nat} : ∀ {ts : List Nat}, PtrAt tm k ts → j ∈ ts → get j tm = .ptr k 0 0
  | t :: r, h, hm => by
    rcases List.mem_cons.1 hm with rfl | hm
    · exact h.1
    · exact h.2.mem hm
end
end Go.Lift
/- The lifted logic, part 68: structs whose lists are lent, or read. Own work. -/
namespace Go.Lift
open Go.RowKit
section
variable {P : Program} {E : Ent} {Q : Exit → LState → Prop} {s : LState} {all : Array Oper} {rest : List Oper} {d : Nat} {ty : TypeId} {pos : String} {af : Array Edge}
theorem ViewL.viewM {α : Type} {hl : LHeap} {o n sz : Nat} {f : α → LV} {l : List α} {xs ys : List LV} {vw : List Nat} (ho : hget o s.h = some (lob sz f l)) (hnl : n = l.length) (hk : (hkeys hl).contains o = false) (h : ViewL s hl xs ys vw) : ViewL s hl (.own o 0 n :: xs) (.sl sz (l.map f) :: ys) (o :: vw) := by
  subst hnl; exact .view (obj := lob sz f l) ho (.inl rfl) (by simp [lob]) (by simp [lob, List.take_of_length_le]) (by simpa using hk) h
theorem ViewL.viewD {α : Type} {hl : LHeap} {o n sz : Nat} {f : α → LV} {l : List α} {xs ys : List LV} {vw : List Nat} (ho : hget o s.h = some (dob sz f l)) (hnl : n = l.length) (hk : (hkeys hl).contains o = false) (h : ViewL s hl xs ys vw) : ViewL s hl (.own o 0 n :: xs) (.sl sz (l.map f) :: ys) (o :: vw) := by
  subst hnl; exact .view (obj := dob sz f l) ho (.inr rfl) (by simp [dob]) (by simp [dob, List.take_of_length_le]) (by simpa using hk) h
end
end Go.Lift
/- The lifted logic, part 69: what stays when a map of one's own turns. Own work. -/
namespace Go.Lift
open Go.RowKit
structure TurnM (w w' : World) (b : Nat) : Prop where
  els : ∀ k, k ≠ b → w'.heap[k]? = w.heap[k]?
  was : ∃ es c, w.heap[b]? = some (.map es c)
theorem TurnM.cells {w w' : World} {b : Nat} (h : TurnM w w' b) {ad : Addr} {vs : List Value} (hc : Cells w ad vs) : Cells w' ad vs := fun k v hk => by
  have h1 := hc k v hk
  by_cases e : (ad.add k).block = b
  · obtain ⟨es, c, hm⟩ := h.was
    rw [← e] at hm; simp [World.cell?, hm] at h1
  · rw [World.cell?_of_block (w := w) (h.els _ e)]; exact h1
theorem TurnM.blk {w w' : World} {b : Nat} (h : TurnM w w' b) {B : Nat} {arr : Array Value} {t : TypeId} {fr : Nat × Nat} (hB : w.heap[B]? = some (.cells arr t fr)) : w'.heap[B]? = some (.cells arr t fr) := by
  rw [h.els B (by
    rintro rfl; obtain ⟨es, c, hm⟩ := h.was; rw [hm] at hB; cases hB)]
  exact hB
mutual
theorem Fro.turnM {w w' : World} {ok : Nat → Prop} {b : Nat} (ht : TurnM w w' b) : ∀ {x : LV} {v : Value}, Fro w ok x v → Fro w' ok x v
  | _, _, .imm v => .imm v
  | _, _, .agg h => .agg (FroL.turnM ht h)
  | _, _, .sl0 h => .sl0 h
  | _, _, .sl h0 h1 h2 h3 h4 h5 h6 => .sl h0 h1 (FroL.turnM ht h2) (ht.cells h3) h4 h5 h6
  | _, _, .mv h => .mv (Fro.turnM ht h)
  | _, _, .slx0 => .slx0
  | _, _, .slx h0 h1 h2 h3 h4 h5 => .slx h0 h1 (FroL.turnM ht h2) (ht.cells h3) h4 h5
  | _, _, .clo h => .clo (FroL.turnM ht h)
theorem FroL.turnM {w w' : World} {ok : Nat → Prop} {b : Nat} (ht : TurnM w w' b) : ∀ {x : List LV} {v : List Value}, FroL w ok x v → FroL w' ok x v
  | _, _, .nil => .nil
  | _, _, .cons h h1 h2 => .cons (Fro.turnM ht h) h1 (FroL.turnM ht h2)
end
mutual
theorem Deep.turnM {w w' : World} {b : Nat} (ht : TurnM w w' b) : ∀ {x : LV} {v : Value} {f : List Nat}, Deep w x v f → Deep w' x v f
  | _, _, _, .imm v => .imm v
  | _, _, _, .sl0 => .sl0
  | _, _, _, .sl h1 h2 h3 h4 h5 h6 h7 => .sl h1 (DeepL.turnM ht h2) (ht.blk h3) h4 h5 h6 h7
theorem DeepL.turnM {w w' : World} {b : Nat} (ht : TurnM w w' b) : ∀ {x : List LV} {v : List Value} {f : List Nat}, DeepL w x v f → DeepL w' x v f
  | _, _, _, .nil => .nil
  | _, _, _, .cons h h1 h2 => .cons (Deep.turnM ht h) h1 (DeepL.turnM ht h2)
end
theorem DCells.turnM {w w' : World} {ρ : Env} {b : Nat} (ht : TurnM w w' b) {xs : List LV} {vs : List Value} {f : List Nat} (h : DCells w ρ xs vs f) : DCells w' ρ xs vs f := by
  induction h with
  | nil => exact .nil
  | deep h h1 _ ih => exact .deep (h.turnM ht) h1 ih
  | own h h1 h2 _ ih => exact .own h h1 h2 ih
  | own0 _ ih => exact .own0 ih
theorem MCells.turnM {w w' : World} {ok : Nat → Prop} {ρ : Env} {b : Nat} (ht : TurnM w w' b) {xs : List LV} {vs : List Value} {f : List Nat} (h : MCells w ok ρ xs vs f) : MCells w' ok ρ xs vs f := by
  induction h with
  | nil => exact .nil
  | cons h h1 _ ih =>
    refine .cons ?_ h1 ih; clear h1 ih; cases h with
    | imm => exact .imm _
    | fz h => exact .fz (h.turnM ht)
    | nw0 => exact .nw0
    | nw h1 h2 h3 h4 h5 h6 h7 => exact .nw h1 (h2.turnM ht) (ht.blk h3) h4 h5 h6 h7
    | own h h1 h2 => exact .own h h1 h2
    | own0 => exact .own0
    | junk => exact .junk _
def LV.noMp : LV → Bool
  | .mp .. => false
  | .agg cs | .tup cs | .clo _ cs => go cs
  | _ => true
where go : List LV → Bool
  | [] => true
  | x :: xs => x.noMp && go xs
mutual
theorem Rep.turnM {w w' : World} {ok : Nat → Prop} {ρ : Env} {b : Nat} (ht : TurnM w w' b) : ∀ {x : LV} {v : Value}, x.noMp = true → Rep w ok ρ x v → Rep w' ok ρ x v
  | _, _, _, .junk v => .junk v
  | _, _, _, .fro h => .fro (h.turnM ht)
  | _, _, hn, .agg h => .agg (RepL.turnM ht (by simpa [LV.noMp] using hn) h)
  | _, _, hn, .tup h => .tup (RepT.turnM ht (by simpa [LV.noMp] using hn) h)
  | _, _, hn, .clo h => .clo (RepL.turnM ht (by simpa [LV.noMp] using hn) h)
  | _, _, _, .fp h h1 h2 => .fp (h.turnM ht) (ht.cells h1) h2
  | _, _, _, .ptr h => .ptr h
  | _, _, _, .own h h1 h2 => .own h h1 h2
  | _, _, _, .own0 => .own0
  | _, _, _, .ownc h h1 h2 => .ownc h h1 h2
  | _, _, _, .ownc0 => .ownc0
  | _, _, hn, .mp .. => by simp [LV.noMp] at hn
theorem RepL.turnM {w w' : World} {ok : Nat → Prop} {ρ : Env} {b : Nat} (ht : TurnM w w' b) : ∀ {x : List LV} {v : List Value}, LV.noMp.go x = true → RepL w ok ρ x v → RepL w' ok ρ x v
  | _, _, _, .nil => .nil
  | _, _, hn, .cons h h1 h2 => by
    simp [LV.noMp.go] at hn; exact .cons (Rep.turnM ht hn.1 h) h1 (RepL.turnM ht hn.2 h2)
theorem RepT.turnM {w w' : World} {ok : Nat → Prop} {ρ : Env} {b : Nat} (ht : TurnM w w' b) : ∀ {x : List LV} {v : List Value}, LV.noMp.go x = true → RepT w ok ρ x v → RepT w' ok ρ x v
  | _, _, _, .nil => .nil
  | _, _, hn, .cons h h2 => by
    simp [LV.noMp.go] at hn; exact .cons (Rep.turnM ht hn.1 h) (RepT.turnM ht hn.2 h2)
end
theorem ObjCells.turnM {w w' : World} {ok : Nat → Prop} {ρ : Env} {b : Nat} (ht : TurnM w w' b) {k : Kind} {cells : List LV} {vs : List Value} {fps : List Nat} (hn : k = .box → LV.noMp.go cells = true) (h : ObjCells w ok ρ k cells vs fps) : ObjCells w' ok ρ k cells vs fps := by
  cases k with
  | fro => exact ⟨h.1, FroL.turnM ht h.2⟩
  | deep => exact DeepL.turnM ht h
  | box => exact ⟨h.1, RepL.turnM ht (hn rfl) h.2⟩
  | split => exact DCells.turnM ht h
  | mix out => exact ⟨MCells.turnM ht h.1, h.2⟩
theorem ObjRep.turnM {w w' : World} {ok : Nat → Prop} {ρ : Env} {b : Nat} (ht : TurnM w w' b) {o : Nat} {obj : LObj} {fp : List Nat} (hn : obj.kind = .box → LV.noMp.go (obj.elems.flatMap LV.cells) = true) (h : ObjRep w ok ρ o obj fp) : ObjRep w' ok ρ o obj fp := by
  rcases h with h | ⟨p, arr, t, vs, fps, h, rfl, h2⟩
  · exact .inl h
  · exact .inr ⟨p, arr, t, vs, fps, h, rfl, { h2 with blk := ht.blk h2.blk, cells := h2.cells.turnM ht hn }⟩
section
variable {P : Program} {E : Ent} {Q : Exit → LState → Prop} {s : LState} {all : Array Oper} {rest : List Oper} {d : Nat} {ty : TypeId} {pos : String} {af : Array Edge}
def boxesNoMp (h : LHeap) : Bool := h.all fun p => p.2.kind != .box || LV.noMp.go (p.2.elems.flatMap LV.cells)
theorem HeapOK.turnM {w w' : World} {ok : Nat → Prop} {ρ : Env} {F : Nat → List Nat} {h : LHeap} {b : Nat} (ht : TurnM w w' b) (hs : w'.heap.size = w.heap.size) (hb : boxesNoMp h = true) (hh : HeapOK w ok ρ F h) : HeapOK w' ok ρ F h :=
  ⟨hh.keys, fun p hp => (hh.objs p hp).turnM ht (fun hk => by
    have := List.all_eq_true.1 hb p hp; simpa [hk] using this), hh.nodup, fun q hq => by rw [hs]; exact hh.apart q hq⟩
end
end Go.Lift
/- The lifted logic, part 70: maps of numbers that a call makes itself. Own work. -/
namespace Go.Lift
open Go.RowKit
theorem findNow_has {n : Int} : ∀ {es : List MapEntry} {ks : List Int} (i : Nat), es.map (fun e => (e.key, e.val)) = ks.map (fun k => (Value.int .i64 k, Value.bool true)) → ks.contains n = true → ∃ j, Instr.findNow (.int .i64) (.int .i64 n) es i = some (some (j, .bool true))
  | [], [], _, _, h => by simp at h
  | [], _ :: _, _, h, _ => by simp at h
  | _ :: _, [], _, h, _ => by simp at h
  | e :: es, k :: ks, i, h, hc => by
    simp only [List.map_cons, List.cons.injEq, Prod.mk.injEq] at h; obtain ⟨⟨h1, h2⟩, h3⟩ := h; unfold Instr.findNow Instr.sameNow; rw [h1, h2]
    by_cases e : n = k
    · subst e; simp
    · have hc' : ks.contains n = true := by
        simp only [List.contains_cons] at hc; simpa [e] using hc
      obtain ⟨j, hj⟩ := findNow_has (i + 1) h3 hc'; exact ⟨j, by simp [hj, show (n == k) = false by simpa using e]⟩
theorem findNow_not {n : Int} : ∀ {es : List MapEntry} {ks : List Int} (i : Nat), es.map (fun e => (e.key, e.val)) = ks.map (fun k => (Value.int .i64 k, Value.bool true)) → ks.contains n = false → Instr.findNow (.int .i64) (.int .i64 n) es i = some none
  | [], [], _, _, h => rfl
  | [], _ :: _, _, h, _ => by simp at h
  | _ :: _, [], _, h, _ => by simp at h
  | e :: es, k :: ks, i, h, hc => by
    simp only [List.map_cons, List.cons.injEq, Prod.mk.injEq] at h; obtain ⟨⟨h1, h2⟩, h3⟩ := h; unfold Instr.findNow Instr.sameNow; rw [h1]; simp only [List.contains_cons, Bool.or_eq_false_iff] at hc; have e : ¬ n = k := by simpa using hc.1
    simp [hc.1, findNow_not (i + 1) h3 hc.2]
section
variable {P : Program} {E : Ent} {Q : Exit → LState → Prop} {s : LState} {all : Array Oper} {rest : List Oper} {d : Nat} {ty : TypeId} {pos : String} {af : Array Edge}
theorem Inv'.reenv {k : Nat} (pl : Option Place) (hkp : E.keep.contains k = false) (hl : Lift.lone k (hdel k s.h) = true) {a : Act} {w : World} {ok : Nat → Prop} {ρ : Env} {F : Nat → List Nat} (h : Inv' E s a w ok ρ F) :
    Inv' E { tm := kill k s.tm, h := hdel k s.h } a w ok (upd ρ k pl) F := by
  have h' := h.sub (hdel_sub k s.h); have hne := not_key (hdel_key k s.h); refine { h' with heap := ⟨h'.heap.keys, ?_, h'.heap.nodup, h'.heap.apart⟩, slots := ?_, keep := fun j hj => (upd_other ρ _ (show j ≠ k from fun e => by subst e; simp [hj] at hkp)).trans (h.keep j hj) }
  · intro p hp
    exact (h'.heap.objs p hp).stable (fun _ _ => rfl) (fun _ hb => hb) (fun _ _ => rfl) (upd_other _ _ (hne p hp)) (fun j hj => upd_other _ _ (fun e => lone_refs hl p hp (e ▸ hj)))
  · intro t'
    refine Rep.stable (fun _ _ => rfl) (fun _ hb => hb) (fun o ho => upd_other _ _ (fun e => kill_refs k t' s.tm (e ▸ ho))) ?_; show Rep w ok ρ (get t' (kill k s.tm)) _; rw [get_kill]
    split
    · exact .junk _
    · exact h.slots t'
theorem LWo.makeMapM {T : TypeId} (k : Nat) (hl : Lift.lone k (hdel k s.h) = true) (hkp : E.keep.contains k = false := by exact rfl) (hd : Nat.blt d E.n = true := by exact rfl)
    (hn : LWo P E all rest Q { tm := (d, .mp k [] E.w0.heap.size) :: kill k s.tm, h := hdel k s.h }) :
    LWo P E all ({ dst := some d, op := .makeMap T none, type := ty, pos := pos, after := af, guard := none } :: rest) Q s :=
  LWo.value (({ tm := kill k s.tm, h := hdel k s.h } : LState).put (some d) (.mp k [] E.w0.heap.size)) rfl (fun a w ok ρ F hi => by
    have h1 := (hi.newFro (.map #[] 0)).reenv (k := k) (some ⟨w.heap.size, 0, 0⟩) hkp hl; refine ⟨.value (.map (some w.heap.size)), w.alloc (.map #[] 0), ?_, .inl ⟨_, rfl, _, _, _, h1.put hd ?_⟩⟩
    · simp [execOp, Instr.makeMap, newObj, Sem.run]
    · exact .mp (p := ⟨w.heap.size, 0, 0⟩) (by simp) (heap_alloc_at w _) (.inr rfl) rfl hi.ext.size) hn
theorem LWo.lookM {T kt et : TypeId} {m x : Operand} {o lim : Nat} {ks : List Int} {n : Int} (hu : P.underlying T = some (.map kt et)) (hk : P.underlying kt = some (.int .i64)) (hz : ∀ w, (zeroValue et).run P w = .ok (.bool false) w) (hm : s.eval m = .mp o ks lim) (hx : s.eval x = .imm (.int .i64 n)) (hd : Nat.blt d E.n = true := by exact rfl)
    (hn : LWo P E all rest Q (s.put (some d) (.imm (.bool (ks.contains n))))) :
    LWo P E all ({ dst := some d, op := .lookup T m x false, type := ty, pos := pos, after := af, guard := none } :: rest) Q s :=
  LWo.still _ hd (fun a w ok ρ F hi => ⟨.bool (ks.contains n), by
    have h := hi.eval m; rw [hm] at h; generalize hv : a.eval m = v at h; cases h with
    | fro h => cases h
    | mp h1 h2 h3 h4 h5 =>
      rename_i p es clk
      have hck : ∀ b w, (Instr.checkKey b 10000 kt (.int .i64 n)).run P w = .ok () w := by
        intro b w; rw [show (10000 : Nat) = 9999 + 1 from rfl, Instr.checkKey]; simp [underlying, hk, program, Sem.run]
      cases hc : ks.contains n with
      | true =>
        obtain ⟨j, hj⟩ := findNow_has 0 h4 hc; simp [execOp, Instr.lookup, underlying, hu, program, hv, hi.imm hx, getObj, h2, hck, Instr.findKey, hk, hj, Sem.run]
      | false =>
        have hj := findNow_not 0 h4 hc; simp [execOp, Instr.lookup, underlying, hu, program, hv, hi.imm hx, getObj, h2, hck, Instr.findKey, hk, hj, hz, Sem.run], .fro (.imm _)⟩) hn
def killM : Tm → Tm
  | [] => []
  | (j, v) :: r => (j, if v.noMp then v else .junk) :: killM r
theorem get_killM (t : Nat) : ∀ tm : Tm, get t (killM tm) = if (get t tm).noMp then get t tm else .junk
  | [] => by simp [killM, get, LV.noMp]
  | (j, v) :: r => by
    simp only [killM, get]
    split
    · rfl
    · exact get_killM t r
def MpAt (tm : Tm) (o : Nat) (ks : List Int) (lim : Nat) : List Nat → Prop
  | [] => True
  | t :: r => get t tm = .mp o ks lim ∧ MpAt tm o ks lim r
theorem MpAt.mem {tm : Tm} {o lim j : Nat} {ks : List Int} : ∀ {ts : List Nat}, MpAt tm o ks lim ts → j ∈ ts → get j tm = .mp o ks lim
  | t :: r, h, hm => by
    rcases List.mem_cons.1 hm with rfl | hm
    · exact h.1
    · exact h.2.mem hm
def mapAdd (ks : List Int) (n : Int) : List Int := bif ks.contains n then ks else ks ++ [n]
theorem findNow_at {n : Int} : ∀ {es : List MapEntry} {ks : List Int} (i : Nat), es.map (fun e => (e.key, e.val)) = ks.map (fun k => (Value.int .i64 k, Value.bool true)) → ks.contains n = true → ∃ j e, Instr.findNow (.int .i64) (.int .i64 n) es i = some (some (i + j, .bool true)) ∧ es[j]? = some e ∧ e.key = .int .i64 n ∧ e.val = .bool true
  | [], [], _, _, h => by simp at h
  | [], _ :: _, _, h, _ => by simp at h
  | _ :: _, [], _, h, _ => by simp at h
  | e :: es, k :: ks, i, h, hc => by
    simp only [List.map_cons, List.cons.injEq, Prod.mk.injEq] at h; obtain ⟨⟨h1, h2⟩, h3⟩ := h; unfold Instr.findNow Instr.sameNow; rw [h1, h2]
    by_cases e0 : n = k
    · subst e0; exact ⟨0, e, by simp, rfl, h1, h2⟩
    · have hc' : ks.contains n = true := by
        simp only [List.contains_cons] at hc; simpa [e0] using hc
      obtain ⟨j, q, hj, hq, hk, hv⟩ := findNow_at (i + 1) h3 hc'; exact ⟨j + 1, q, by simp [hj, show (n == k) = false by simpa using e0]; omega, by simpa using hq, hk, hv⟩
theorem Inv'.mapTurn {ts : List Nat} {o lim : Nat} {ks ks' : List Int} {p : Place} {es es' : Array MapEntry} {clk clk' : Nat} {a : Act} {w : World} {ok : Nat → Prop} {ρ : Env} {F : Nat → List Nat} (hi : Inv' E s a w ok ρ F) (hg : MpAt s.tm o ks lim ts) (hb : boxesNoMp s.h = true) (hp : ρ o = some p) (hw : w.heap[p.blk]? = some (.map es clk)) (hok : ok p.blk) (hlp : lim ≤ p.blk) (hl : E.w0.heap.size ≤ lim) (hm : MapIs es' ks') :
    Inv' E { tm := slT (.mp o ks' lim) (killM s.tm) ts, h := s.h } a { w with heap := w.heap.setIfInBounds p.blk (.map es' clk') } ok ρ F := by
  have hlt : p.blk < w.heap.size := (Array.getElem?_eq_some_iff.1 hw).1
  have ht : TurnM w { w with heap := w.heap.setIfInBounds p.blk (.map es' clk') } p.blk := ⟨fun k hk => by
    show (w.heap.setIfInBounds p.blk _)[k]? = _; rw [Array.getElem?_setIfInBounds, if_neg (fun e => hk e.symm)], ⟨es, clk, hw⟩⟩
  refine { defers := hi.defers, size := hi.size, ext := ⟨hi.ext.os, hi.ext.tape, hi.ext.output, by show _ ≤ (w.heap.setIfInBounds _ _).size; rw [Array.size_setIfInBounds]; exact hi.ext.size, fun k hk hn => ?_, hi.ext.drawn⟩, okk := fun k hk => ⟨by show k < (w.heap.setIfInBounds _ _).size; rw [Array.size_setIfInBounds]; exact (hi.okk k hk).1, (hi.okk k hk).2⟩, heap := hi.heap.turnM ht (by show (w.heap.setIfInBounds _ _).size = _; rw [Array.size_setIfInBounds]) hb, mine := hi.mine, slots := fun t => ?_, keep := hi.keep }
  · exact (ht.els k (by omega)).trans (hi.ext.block k hk hn)
  · show Rep _ ok ρ (get t (slT _ (killM s.tm) ts)) _
    rw [get_slT]
    split
    · rename_i hmem
      have hs := hi.slots t; rw [hg.mem hmem] at hs; generalize a.tmps.getD t undef = v at hs; cases hs with
      | fro h => cases h
      | mp h1 h2 h3 h4 h5 =>
        rw [hp] at h1; cases h1; refine .mp (es := es') (clk := clk') hp ?_ hok hm hlp; show (w.heap.setIfInBounds p.blk _)[p.blk]? = _; rw [Array.getElem?_setIfInBounds, if_pos rfl, if_pos hlt]
    · rw [get_killM]
      split
      · rename_i hn
        exact Rep.turnM ht hn (hi.slots t)
      · exact .junk _
theorem mapIs_mod {es : Array MapEntry} {ks : List Int} {n : Int} {j : Nat} {q : MapEntry} (h : MapIs es ks) (hq : es.toList[j]? = some q) (hk : q.key = .int .i64 n) (hv : q.val = .bool true) : MapIs (es.modify j fun e => { e with key := .int .i64 n, val := .bool true }) ks := by
  unfold MapIs at h ⊢; rw [← h]
  apply List.ext_getElem?
  intro i; rw [List.getElem?_map, List.getElem?_map, Array.getElem?_toList, Array.getElem?_modify, Array.getElem?_toList]
  split
  · rename_i e
    subst e; rw [← Array.getElem?_toList, hq]; simp [hk, hv]
  · rfl
theorem LWo.mapUpdM {T kt et : TypeId} {m x y : Operand} {o lim : Nat} {ks : List Int} {n : Int} (ts : List Nat) (hu : P.underlying T = some (.map kt et)) (hk : P.underlying kt = some (.int .i64)) (hm : s.eval m = .mp o ks lim) (hx : s.eval x = .imm (.int .i64 n)) (hy : s.eval y = .imm (.bool true)) (hg : MpAt s.tm o ks lim ts) (hb : boxesNoMp s.h = true) (hl : E.w0.heap.size ≤ lim)
    (hn : LWo P E all rest Q { tm := slT (.mp o (mapAdd ks n) lim) (killM s.tm) ts, h := s.h }) :
    LWo P E all ({ dst := none, op := .mapUpdate T m x y, type := ty, pos := pos, after := af, guard := none } :: rest) Q s :=
  LWo.value { tm := slT (.mp o (mapAdd ks n) lim) (killM s.tm) ts, h := s.h } rfl (fun a w ok ρ F hi => by
    have h := hi.eval m; rw [hm] at h; generalize hv : a.eval m = v at h; cases h with
    | fro h => cases h
    | mp h1 h2 h3 h4 h5 =>
      rename_i p es clk
      have hck : ∀ b w, (Instr.checkKey b 10000 kt (.int .i64 n)).run P w = .ok () w := by
        intro b w; rw [show (10000 : Nat) = 9999 + 1 from rfl, Instr.checkKey]; simp [underlying, hk, program, Sem.run]
      cases hc : ks.contains n with
      | true =>
        obtain ⟨j, q, hj, hq, hqk, hqv⟩ := findNow_at 0 h4 hc; rw [Nat.zero_add] at hj; have hq' : es[j]? = some q := by rw [← Array.getElem?_toList]; exact hq
        have hs : Instr.sameBits 10000 (.int .i64 n) (.int .i64 n) = true := by
          rw [show (10000 : Nat) = 9999 + 1 from rfl]; simp [Instr.sameBits]
        refine ⟨.skip, { w with heap := w.heap.setIfInBounds p.blk (.map (es.modify j fun e => { e with key := .int .i64 n, val := .bool true }) clk) }, ?_, .inr ⟨rfl, ok, ρ, F, ?_⟩⟩
        · simp [execOp, Instr.mapUpdate, underlying, hu, program, hv, hi.imm hx, hi.imm hy, getObj, setObj, h2, hck, Instr.findKey, hk, hj, hq', hqk, Instr.keyThatStays, hs, Sem.run]
        · have := hi.mapTurn (es' := es.modify j fun e => { e with key := .int .i64 n, val := .bool true }) (clk' := clk) (ks' := mapAdd ks n) hg hb h1 h2 h3 h5 hl (by unfold mapAdd; rw [hc, cond_true]; exact mapIs_mod h4 hq hqk hqv)
          exact this
      | false =>
        have hj := findNow_not 0 h4 hc; refine ⟨.skip, { w with heap := w.heap.setIfInBounds p.blk (.map (es.push { key := .int .i64 n, val := .bool true, born := clk }) (clk + 1)) }, ?_, .inr ⟨rfl, ok, ρ, F, ?_⟩⟩
        · simp [execOp, Instr.mapUpdate, underlying, hu, program, hv, hi.imm hx, hi.imm hy, getObj, setObj, h2, hck, Instr.findKey, hk, hj, Sem.run]
        · have := hi.mapTurn (es' := es.push { key := .int .i64 n, val := .bool true, born := clk }) (clk' := clk + 1) (ks' := mapAdd ks n) hg hb h1 h2 h3 h5 hl (by
            unfold mapAdd MapIs at *; rw [hc, cond_false]; simp [h4])
          exact this) hn
end
end Go.Lift
/- The lifted logic, part 71: structs whose lists are lent, of any kind and number; a list and a value beside lists that are read. Own work. -/
namespace Go.Lift
open Go.RowKit
section
variable {P : Program} {E : Ent} {Q : Exit → LState → Prop} {s : LState} {all : Array Oper} {rest : List Oper} {d : Nat} {ty : TypeId} {pos : String} {af : Array Edge}
def Lents (s : LState) : LHeap → Prop
  | [] => True
  | (k, o) :: r => hget k s.h = some o ∧ (o.kind = .fro ∨ o.kind = .deep) ∧ o.ro = false ∧ Lents s r
theorem Lents.mem {s : LState} : ∀ {hl : LHeap}, Lents s hl → ∀ p ∈ hl, hget p.1 s.h = some p.2 ∧ (p.2.kind = .fro ∨ p.2.kind = .deep) ∧ p.2.ro = false
  | [], _ => by simp
  | (k, o) :: r, ⟨h1, h2, h3, h4⟩ => by
    intro p hp; rcases List.mem_cons.1 hp with rfl | hp
    · exact ⟨h1, h2, h3⟩
    · exact h4.mem p hp
def ndB : List Nat → Bool
  | [] => true
  | k :: r => !(r.contains k) && ndB r
theorem ndB_nodup : ∀ {l : List Nat}, ndB l = true → l.Nodup
  | [], _ => .nil
  | k :: r, h => by
    rw [ndB, Bool.and_eq_true] at h; exact List.nodup_cons.2 ⟨by simpa using h.1, ndB_nodup h.2⟩
theorem LWo.ucallL {f : Operand} {ops : List Operand} {ts : Array TypeId} {g : FuncId} {caps vals xs : List LV} {hl hl' : LHeap} {v : LV} (hf : s.eval f = .clo g caps) (hv : ops.map s.eval ++ caps = vals)
    (hfn : Does P g xs hl (fun r h => r = v ∧ h = hl')) (hA : vals = xs) (hnd : ndB (hkeys hl) = true) (hL : Lents s hl) (dst : Option Nat) (hd : (match dst with | some t => Nat.blt t E.n | none => true) = true)
    (hn : LWo P E all rest Q (({ tm := s.tm, h := hl' ++ hdels (hkeys hl) s.h } : LState).put dst (settle none v))) :
    LWo P E all ({ dst := dst, op := .call { callee := .value f, args := ops.toArray, argTypes := ts }, type := ty, pos := pos, after := af, guard := none } :: rest) Q s := by
  have hrw : rwOf hl = hl := by
    unfold rwOf; rw [List.filter_eq_self]; intro p hp; simp [(hL.mem p hp).2.2]
  refine LWo.call none hf hv hfn (by rw [hA]; exact ArgsOK.allSame) ⟨ndB_nodup hnd, fun p hp => ?_⟩ (fun t ht => by subst ht; exact hd) (fun j hj => by cases hj) (by
    rintro r h2 ⟨rfl, rfl⟩; refine ⟨.inl rfl, (fun j hj => by cases hj), ?_⟩; simpa [afterCall, hrw] using hn)
  have := hL.mem p hp; exact ⟨_, this.1, .inl rfl⟩
def Backs (E : Ent) (s : LState) (ks : List Nat) : LHeap → Prop
  | [] => True
  | (k, o) :: r => ks.contains k = false ∧ hget k s.h = some o ∧ o.ro = false ∧ o.refs = [] ∧ E.keep.contains k = true ∧ Backs E s ks r
theorem Backs.mem {s : LState} {ks : List Nat} : ∀ {hl : LHeap}, Backs E s ks hl → ∀ p ∈ hl, ks.contains p.1 = false ∧ hget p.1 s.h = some p.2 ∧ p.2.ro = false ∧ p.2.refs = [] ∧ E.keep.contains p.1 = true
  | [], _ => by simp
  | (k, o) :: r, ⟨h1, h2, h3, h4, h5, h6⟩ => by
    intro p hp; rcases List.mem_cons.1 hp with rfl | hp
    · exact ⟨h1, h2, h3, h4, h5⟩
    · exact h6.mem p hp
theorem RetOK.oneL {x r : LV} {hl : LHeap} {ks fz : List Nat} (hr : ResOf s.h x r ks fz) (hn : (ks ++ fz).Nodup) (hnd : ndB (hkeys hl) = true) (hB : Backs E s (ks ++ fz) hl) : RetOK E s [x] r hl :=
  ⟨⟨ks, fz, .inl ⟨_, rfl, hr⟩, hn, fun p hp => by simpa using (hB.mem p hp).1⟩, ndB_nodup hnd, fun p hp => by
    obtain ⟨h1, h2, h3, h4, h5⟩ := hB.mem p hp; exact ⟨h2, h3, by simpa using h5, by rw [h4]; simp⟩⟩
theorem LWo.ntcallV {α : Type} {f : Operand} {ops : List Operand} {ts : Array TypeId} {g : FuncId} {caps vals xs : List LV} {vw : List Nat} {sz : Nat} {e : α → LV} {l : List α} {v2 : LV} (k : Nat) (hf : s.eval f = .clo g caps) (hv : ops.map s.eval ++ caps = vals)
    (hfn : Ret P g xs (.tup [.nw sz (l.map e) false, v2])) (hA : ArgsOK s [] vals xs vw) (he : ∀ x, LV.noFro.immL (e x).cells = true) (hv2 : ∃ u, v2 = .imm u) (hl : Lift.lone k (hdel k s.h) = true) (hkp : E.keep.contains k = false := by exact rfl) (hd : Nat.blt d E.n = true := by exact rfl)
    (hn : LWo P E all rest Q { tm := (d, .tup [.own k 0 l.length, v2]) :: kill k s.tm, h := (k, lob sz e l) :: hdel k s.h }) :
    LWo P E all ({ dst := some d, op := .call { callee := .value f, args := ops.toArray, argTypes := ts }, type := ty, pos := pos, after := af, guard := none } :: rest) Q s := by
  obtain ⟨u, rfl⟩ := hv2; refine LWo.callT k hf hv hfn hA ⟨by simp [hkeys], by intro p hp; cases hp⟩ (fun t h => by cases h; exact hd) hkp ?_; rintro r hl' ⟨rfl, rfl⟩; refine ⟨.inr ⟨rfl, ?_⟩, sz, l.map e, .imm u, rfl, rfl, (fun _ h => by cases h), by simpa [rwOf, hkeys] using hl, ?_⟩
  · show ((false || LV.noFro.immL ((l.map e).flatMap LV.cells)) && true) = true
    rw [immL_map he]; rfl
  · simp only [rwOf, hkeys, List.filter_nil, List.map_nil, hdels_nil, List.nil_append, List.length_map, LState.put]
    exact hn
end
end Go.Lift
/- The lifted logic, part 72: a list of one's own that is cut at its beginning, and appended to. Own work. -/
namespace Go.Lift
open Go.RowKit
section
variable {P : Program} {E : Ent} {Q : Exit → LState → Prop} {s : LState} {all : Array Oper} {rest : List Oper} {d : Nat} {ty : TypeId} {pos : String} {af : Array Edge}
end
def wrI (x : Int) : Int := IntKind.i64.wrap x
theorem wrI_of {x : Int} (h0 : -9223372036854775808 ≤ x) (h1 : x ≤ 9223372036854775807) : wrI x = x := wrap64_in h0 h1
theorem add_wr {m n : Int} : intBin .add .i64 m n = some (.int .i64 (wrI (m + n))) := rfl
end Go.Lift
/- Plain lemmas on mirrors: loops over lists, total functions. Own work. -/
namespace Go.Lift
def foldC {α S R : Type} (step : α → S → (S → Option R) → Option R) (J : S → Option R) : List α → S → Option R
  | [], s => J s
  | x :: xs, s => step x s (foldC step J xs)
theorem at_of {α : Type} {l : List α} {k : Nat} {x : α} (h : l[k]? = some x) : at? l (k : Int) = some x := by
  unfold at?; rw [if_pos (by omega)]; simpa using h
theorem lt_of_at {α : Type} {l : List α} {k : Nat} {x : α} (h : l[k]? = some x) : k < l.length := (List.getElem?_eq_some_iff.1 h).1
theorem scanC {α S R : Type} (xs : List α) (L : Nat → Int → S → Option R) (step : α → S → (S → Option R) → Option R) (J : S → Option R)
    (hs : ∀ n (k : Nat) x s, xs[k]? = some x → L (n + 1) (k : Int) s = step x s (fun s' => L n ((k : Int) + 1) s')) (he : ∀ n s, L (n + 1) (xs.length : Int) s = J s)
    (n : Nat) (hn : xs.length < n) (s : S) : L n 0 s = foldC step J xs s := by
  have key : ∀ (ys : List α) (k : Nat) (n : Nat) (s : S), xs.drop k = ys → k ≤ xs.length → ys.length < n → L n (k : Int) s = foldC step J ys s := by
    intro ys
    induction ys with
    | nil =>
      intro k n s hd hk hn
      have : k = xs.length := by
        have := congrArg List.length hd; simp at this; omega
      subst this; obtain ⟨m, rfl⟩ : ∃ m, n = m + 1 := ⟨n - 1, by simp at hn; omega⟩; exact he m s
    | cons y ys ih =>
      intro k n s hd hk hn
      have hlt : k < xs.length := by
        have := congrArg List.length hd; simp at this; omega
      have hy : xs[k]? = some y := by
        have := List.drop_eq_getElem_cons hlt; rw [hd] at this; simp only [List.cons.injEq] at this; rw [List.getElem?_eq_getElem hlt, this.1]
      have hd' : xs.drop (k + 1) = ys := by
        have := List.drop_eq_getElem_cons hlt; rw [hd] at this; simp only [List.cons.injEq] at this; exact this.2.symm
      obtain ⟨m, rfl⟩ : ∃ m, n = m + 1 := ⟨n - 1, by simp at hn; omega⟩; rw [hs m k y s hy]; simp only [foldC]
      congr 1
      funext s'
      have := ih (k + 1) m s' hd' (by omega) (by simp at hn; omega); simpa using this
  have := key xs 0 n s rfl (by omega) hn; simpa using this
theorem foldC_all {α R : Type} {p : α → Bool} {r0 r1 : R} : ∀ {l : List α}, foldC (S := Unit) (fun x s k => bif p x then some r0 else k s) (fun _ => some r1) l () = some (bif l.any p then r0 else r1)
  | [] => rfl
  | x :: l => by
    simp only [foldC, List.any_cons]; cases hp : p x
    · simpa using foldC_all (l := l)
    · simp
theorem scanA {α R : Type} {p : α → Bool} {r0 r1 : R} (xs : List α) (L : Nat → Int → Option R)
    (hs : ∀ n (k : Nat) x, xs[k]? = some x → L (n + 1) (k : Int) = bif p x then some r0 else L n ((k : Int) + 1)) (he : ∀ n, L (n + 1) (xs.length : Int) = some r1)
    (n : Nat) (hn : xs.length < n) : L n 0 = some (bif xs.any p then r0 else r1) := by
  have := scanC xs (fun n k (_ : Unit) => L n k) (fun x s k => bif p x then some r0 else k s) (fun _ => some r1) (fun n k x s hx => hs n k x hx) (fun n s => he n) n hn (); rw [this]; exact foldC_all
def all2 {α β : Type} (q : α → β → Bool) (a : List α) (b : List β) : Bool := (a.zip b).all fun p => q p.1 p.2
theorem scan2 {α β : Type} {q : α → β → Bool} (a : List α) (b : List β) (hl : a.length = b.length) (L : Nat → Int → Option Bool)
    (hs : ∀ n (k : Nat) x y, a[k]? = some x → b[k]? = some y → L (n + 1) (k : Int) = bif q x y then L n ((k : Int) + 1) else some false) (he : ∀ n, L (n + 1) (a.length : Int) = some true)
    (n : Nat) (hn : a.length < n) : L n 0 = some (all2 q a b) := by
  have hz : (a.zip b).length = a.length := by simp [hl]
  have := scanA (p := fun p : α × β => !(q p.1 p.2)) (r0 := false) (r1 := true) (a.zip b) L (by
    intro n k x hx; rw [List.getElem?_zip_eq_some] at hx; rw [hs n k x.1 x.2 hx.1 hx.2]; cases q x.1 x.2 <;> rfl) (by intro n; rw [hz]; exact he n) n (by rw [hz]; exact hn)
  rw [this]; unfold all2
  congr 1
  rw [List.all_eq_not_any_not]; cases (a.zip b).any fun p => !(q p.1 p.2) <;> rfl
theorem all2_eq {α : Type} [DecidableEq α] : ∀ {a b : List α}, a.length = b.length → all2 (fun x y => decide (x = y)) a b = decide (a = b)
  | [], [], _ => rfl
  | x :: a, y :: b, h => by
    have ih := all2_eq (a := a) (b := b) (by simpa using h); unfold all2 at ih ⊢; simp only [List.zip_cons_cons, List.all_cons, ih, List.cons.injEq]; rw [Bool.eq_iff_iff]; simp
theorem scanF {α S R : Type} {f : S → α → S} {J : S → Option R} (I : Nat → S → Prop) (xs : List α) (L : Nat → Int → S → Option R)
    (hs : ∀ n (k : Nat) x s, xs[k]? = some x → I k s → L (n + 1) (k : Int) s = L n ((k : Int) + 1) (f s x) ∧ I (k + 1) (f s x)) (he : ∀ n s, I xs.length s → L (n + 1) (xs.length : Int) s = J s)
    (n : Nat) (hn : xs.length < n) (s : S) (h0 : I 0 s) : L n 0 s = J (xs.foldl f s) ∧ I xs.length (xs.foldl f s) := by
  have key : ∀ (ys : List α) (k n : Nat) (s : S), xs.drop k = ys → k ≤ xs.length → ys.length < n → I k s → L n (k : Int) s = J (ys.foldl f s) ∧ I xs.length (ys.foldl f s) := by
    intro ys
    induction ys with
    | nil =>
      intro k n s hd hk hn hI
      have : k = xs.length := by
        have := congrArg List.length hd; simp at this; omega
      subst this; obtain ⟨m, rfl⟩ : ∃ m, n = m + 1 := ⟨n - 1, by simp at hn; omega⟩; exact ⟨he m s hI, hI⟩
    | cons y ys ih =>
      intro k n s hd hk hn hI
      have hlt : k < xs.length := by
        have := congrArg List.length hd; simp at this; omega
      have hc := List.drop_eq_getElem_cons hlt; rw [hd] at hc; simp only [List.cons.injEq] at hc; obtain ⟨m, rfl⟩ : ∃ m, n = m + 1 := ⟨n - 1, by simp at hn; omega⟩; obtain ⟨h1, h2⟩ := hs m k y s (by rw [List.getElem?_eq_getElem hlt, hc.1]) hI; rw [h1, show ((k : Int) + 1) = ((k + 1 : Nat) : Int) by omega]; exact ih (k + 1) m (f s y) hc.2.symm (by omega) (by simp at hn; omega) h2
  have := key xs 0 n s rfl (by omega) hn h0; simpa using this
theorem dlt {k : Nat} {n : Nat} (h : k < n) : decide ((k : Int) < (n : Int)) = true := by simp; omega
theorem dnlt {n : Nat} : decide ((n : Int) < (n : Int)) = false := by simp
theorem ck1 {k : Nat} (h : k < 1000000000000) : ckI ((k : Int) + 1) = some ((k : Int) + 1) := ckI_of (by omega) (by omega)
theorem beqF {a b : Int} (h : ¬ a = b) : (a == b) = false := by simp [h]
theorem beqF' {a b : Int} (h : ¬ a = b) : (a != b) = true := by simp [h]
theorem fuel0 {n : Nat} : n < (((n : Int) - 0).toNat + 1) := by omega
def Tot {α : Type} (o : Option α) (Q : α → Prop) : Prop := ∃ x, o = some x ∧ Q x
theorem Tot.ret {α : Type} {x : α} {Q : α → Prop} (h : Q x) : Tot (some x) Q := ⟨x, rfl, h⟩
theorem Tot.bind {α β : Type} {o : Option α} {f : α → Option β} {P : α → Prop} {Q : β → Prop} (h : Tot o P) (k : ∀ x, P x → Tot (f x) Q) : Tot (o.bind f) Q := by
  obtain ⟨x, rfl, hx⟩ := h; exact k x hx
theorem Tot.eq {α β : Type} {o : Option α} {x : α} {f : α → Option β} {Q : β → Prop} (h : o = some x) (k : Tot (f x) Q) : Tot (o.bind f) Q := by subst h; exact k
theorem Tot.bif {α : Type} {b : Bool} {x y : Option α} {Q : α → Prop} (h1 : b = true → Tot x Q) (h0 : b = false → Tot y Q) : Tot (bif b then x else y) Q := by cases b; exact h0 rfl; exact h1 rfl
theorem Tot.mono {α : Type} {o : Option α} {P Q : α → Prop} (h : Tot o P) (k : ∀ x, P x → Q x) : Tot o Q := by obtain ⟨x, h1, h2⟩ := h; exact ⟨x, h1, k x h2⟩
theorem Tot.ck {β : Type} {x : Int} {f : Int → Option β} {Q : β → Prop} (h0 : -9223372036854775808 ≤ x) (h1 : x ≤ 9223372036854775807) (k : Tot (f x) Q) : Tot ((ckI x).bind f) Q := Tot.eq (ckI_of h0 h1) k
theorem Tot.at {α β : Type} {l : List α} {i : Int} {f : α → Option β} {Q : β → Prop} (h0 : 0 ≤ i) (h1 : i < l.length) (k : ∀ x ∈ l, Tot (f x) Q) : Tot ((at? l i).bind f) Q :=
  Tot.eq (at_someI h0 (by omega)) (k _ (List.getElem_mem _))
theorem Tot.cut {α β : Type} {l : List α} {lo hi : Int} {f : List α → Option β} {Q : β → Prop} (h : 0 ≤ lo ∧ lo ≤ hi ∧ hi ≤ l.length) (k : Tot (f ((l.take hi.toNat).drop lo.toNat)) Q) : Tot ((cut? l lo hi).bind f) Q :=
  Tot.eq (by unfold cut?; rw [if_pos h]) k
theorem Tot.cat {β : Type} {a b : ByteArray} {f : ByteArray → Option β} {Q : β → Prop} (h : a.size + b.size ≤ 9223372036854775807) (k : Tot (f (a ++ b)) Q) : Tot ((sCat? a b).bind f) Q :=
  Tot.eq (by unfold sCat?; rw [if_pos h]) k
theorem Tot.rem {β : Type} {m n : Int} {f : Int → Option β} {Q : β → Prop} (h : n ≠ 0) (k : Tot (f (m.tmod n)) Q) : Tot ((remI m n).bind f) Q := Tot.eq (by unfold remI; rw [if_neg h]) k
theorem Tot.quo {β : Type} {m n : Int} {f : Int → Option β} {Q : β → Prop} (h : n ≠ 0) (h0 : -9223372036854775808 ≤ m.tdiv n) (h1 : m.tdiv n ≤ 9223372036854775807) (k : Tot (f (m.tdiv n)) Q) : Tot ((quoI m n).bind f) Q := Tot.eq (by unfold quoI; rw [if_neg h, ckI_of h0 h1]) k
end Go.Lift
/- Plain Lean: putting in order by insertion, from the end; what holds of it. Own work. -/
namespace Go.Lift
def OrdB {α : Type} (gt : α → α → Bool) (l : List α) : Prop := l.Pairwise fun a b => gt a b = false
def Adj {α : Type} (bad : α → α → Bool) (l : List α) : Prop := ∀ i x y, l[i]? = some x → l[i + 1]? = some y → bad x y = false
def adjB {α : Type} (bad : α → α → Bool) : List α → Bool
  | [] => true
  | [_] => true
  | x :: y :: l => !bad x y && adjB bad (y :: l)
theorem adjB_iff {α : Type} {bad : α → α → Bool} : ∀ {l : List α}, adjB bad l = true ↔ Adj bad l
  | [] => by simp [adjB, Adj]
  | [x] => by simp [adjB, Adj]
  | x :: y :: l => by
    rw [adjB, Bool.and_eq_true, adjB_iff]; constructor
    · rintro ⟨h1, h2⟩ i a b ha hb
      cases i with
      | zero => simp at ha hb; subst ha hb; simpa using h1
      | succ i => exact h2 i a b (by simpa using ha) (by simpa using hb)
    · intro h
      exact ⟨by simpa using h 0 x y rfl rfl, fun i a b ha hb => h (i + 1) a b (by simpa using ha) (by simpa using hb)⟩
def idxI {α : Type} (q : α → Bool) : List α → Int
  | [] => -1
  | x :: l => if q x then 0 else if idxI q l < 0 then -1 else idxI q l + 1
theorem idxI_pos {α : Type} {q : α → Bool} {x : α} {l : List α} (h : q x = true) : idxI q (x :: l) = 0 := by unfold idxI; rw [if_pos h]
theorem idxI_neg {α : Type} {q : α → Bool} {x : α} {l : List α} (h : q x = false) : idxI q (x :: l) = if idxI q l < 0 then -1 else idxI q l + 1 := by
  rw [idxI]; rw [if_neg (by simp [h])]
theorem idxI_ge {α : Type} (q : α → Bool) : ∀ l : List α, -1 ≤ idxI q l ∧ idxI q l < l.length ∧ (decide (idxI q l ≥ 0) = l.any q)
  | [] => by simp [idxI]
  | x :: l => by
    obtain ⟨h1, h2, h3⟩ := idxI_ge q l; rw [List.any_cons, ← h3, List.length_cons]; cases hq : q x with
    | true => rw [idxI_pos hq]; simp
    | false =>
      rw [idxI_neg hq]
      by_cases h : idxI q l < 0
      · rw [if_pos h]
        have : ¬ idxI q l ≥ 0 := by omega
        simp [this]; omega
      · rw [if_neg h]
        have h4 : idxI q l ≥ 0 := by omega
        have h5 : idxI q l + 1 ≥ 0 := by omega
        simp only [decide_eq_true h4, decide_eq_true h5, Bool.false_or]; exact ⟨by omega, by omega, trivial⟩
theorem scanI {α R : Type} {q : α → Bool} {g : Int → Option R} (xs : List α) (L : Nat → Int → Option R)
    (hs : ∀ n (k : Nat) x, xs[k]? = some x → L (n + 1) (k : Int) = bif q x then g k else L n ((k : Int) + 1)) (he : ∀ n, L (n + 1) (xs.length : Int) = g (-1))
    (n : Nat) (hn : xs.length < n) : L n 0 = g (idxI q xs) := by
  have key : ∀ (ys : List α) (k n : Nat), xs.drop k = ys → k ≤ xs.length → ys.length < n → L n (k : Int) = g (if idxI q ys < 0 then -1 else idxI q ys + k) := by
    intro ys
    induction ys with
    | nil =>
      intro k n hd hk hn
      have : k = xs.length := by
        have := congrArg List.length hd; simp at this; omega
      subst this; obtain ⟨m, rfl⟩ : ∃ m, n = m + 1 := ⟨n - 1, by simp at hn; omega⟩; rw [he, if_pos (by simp [idxI])]
    | cons y ys ih =>
      intro k n hd hk hn
      have hlt : k < xs.length := by
        have := congrArg List.length hd; simp at this; omega
      have hc := List.drop_eq_getElem_cons hlt; rw [hd] at hc; simp only [List.cons.injEq] at hc; obtain ⟨m, rfl⟩ : ∃ m, n = m + 1 := ⟨n - 1, by simp at hn; omega⟩; rw [hs m k y (by rw [List.getElem?_eq_getElem hlt, hc.1])]; cases hq : q y with
      | true => rw [cond_true, idxI_pos hq, if_neg (by omega)]; congr 1; omega
      | false =>
        rw [cond_false, show ((k : Int) + 1) = ((k + 1 : Nat) : Int) by omega, ih (k + 1) m hc.2.symm (by omega) (by simp at hn; omega), idxI_neg hq]; have := idxI_ge q ys
        by_cases h : idxI q ys < 0
        · rw [if_pos h, if_pos h, if_pos (by omega)]
        · rw [if_neg h, if_neg h, if_neg (by omega)]
          congr 1; omega
  have := key xs 0 n rfl (by omega) hn; rw [show ((0 : Nat) : Int) = 0 from rfl] at this; rw [this]; have := idxI_ge q xs
  split
  · congr 1; omega
  · congr 1; omega
theorem dgt0 {j : Nat} : decide (((j + 1 : Nat) : Int) > 0) = true := by rw [decide_eq_true_eq]; omega
theorem dgt00 : decide (((0 : Nat) : Int) > 0) = false := rfl
theorem ckdd {j : Nat} (h : j < 1000000000000) : ckI (((j + 1 : Nat) : Int) - 1) = some (j : Int) := by
  rw [ckI_of (by omega) (by omega)]; congr 1; omega
theorem lenQ_ok {n m : Nat} {β : Type} {x : β} (h : n = m) : lenQ n m x = some x := by unfold lenQ; rw [if_pos h]
end Go.Lift
namespace Go.Lift
theorem ltE {α β : Type} (x : α) (f : α → β) : lt x f = f x := rfl
end Go.Lift
/- Plain Lean: putting in order by blocks that are merged. Own work. -/
namespace Go.Lift
inductive Chk {α : Type} (gt : α → α → Bool) (bs : Nat) : List α → Prop
  | last {X : List α} : X.length ≤ bs → OrdB gt X → Chk gt bs X
  | cons {X R : List α} : X.length = bs → OrdB gt X → Chk gt bs R → Chk gt bs (X ++ R)
end Go.Lift
/- Plain Lean: loops that look at neighbours, that copy, that leave out. Own work. -/
namespace Go.Lift
def chkN {α : Type} (p : α → Bool) (bad : α → α → Bool) : α → List α → Bool
  | _, [] => true
  | y, x :: l => p x && !bad y x && chkN p bad x l
theorem chkN_eq {α : Type} {p : α → Bool} {bad : α → α → Bool} : ∀ (l : List α) (y : α), p y = true → (p y && chkN p bad y l) = ((y :: l).all p && adjB bad (y :: l))
  | [], y, h => by simp [chkN, adjB]
  | x :: l, y, h => by
    simp only [chkN, adjB, List.all_cons, h, Bool.true_and]; cases hx : p x with
    | false => simp
    | true =>
      have := chkN_eq (p := p) (bad := bad) l x hx; simp only [List.all_cons, hx, Bool.true_and] at this; rw [this]; cases bad y x <;> simp
theorem scanPrev {α : Type} {p : α → Bool} {bad : α → α → Bool} {r : Bool} (xs : List α) (L : Nat → Int → Option Bool)
    (h0 : ∀ n x, xs[0]? = some x → L (n + 1) 0 = bif p x then L n 1 else some false)
    (hs : ∀ n (k : Nat) x y, xs[k + 1]? = some x → xs[k]? = some y → p y = true → L (n + 1) ((k + 1 : Nat) : Int) = bif p x && !bad y x then L n ((k + 1 + 1 : Nat) : Int) else some false)
    (he : ∀ n, L (n + 1) (xs.length : Int) = some r) (n : Nat) (hn : xs.length < n) : L n 0 = some (xs.all p && adjB bad xs && r) := by
  have key : ∀ (l pre : List α) (y : α) (n : Nat), xs = pre ++ y :: l → p y = true → l.length < n → L n ((pre.length + 1 : Nat) : Int) = some (chkN p bad y l && r) := by
    intro l
    induction l with
    | nil =>
      intro pre y n hx hy hn; obtain ⟨n, rfl⟩ : ∃ q, n = q + 1 := ⟨n - 1, by omega⟩; have := he n; rw [hx, List.length_append, List.length_singleton] at this; rw [this]; simp [chkN]
    | cons x l ih =>
      intro pre y n hx hy hn; obtain ⟨n, rfl⟩ : ∃ q, n = q + 1 := ⟨n - 1, by omega⟩; rw [hs n pre.length x y (by rw [hx, List.getElem?_append_right (by omega)]; simp) (by rw [hx]; simp) hy]; rw [chkN]; cases hc : (p x && !bad y x) with
      | false => simp
      | true =>
        rw [cond_true, Bool.true_and]; have := ih (pre ++ [y]) x n (by rw [hx]; simp) (by simp at hc; exact hc.1) (by simp at hn; omega); rw [List.length_append, List.length_singleton] at this; exact this
  cases xs with
  | nil =>
    obtain ⟨n, rfl⟩ : ∃ q, n = q + 1 := ⟨n - 1, by omega⟩; have := he n; simpa [adjB] using this
  | cons y l =>
    obtain ⟨n, rfl⟩ : ∃ q, n = q + 1 := ⟨n - 1, by omega⟩; rw [h0 n y rfl]; cases hy : p y with
    | false => simp [hy]
    | true =>
      rw [cond_true]; have := key l [] y n rfl hy (by simp at hn; omega); have e := chkN_eq (p := p) (bad := bad) l y hy; rw [hy, Bool.true_and] at e; rw [← e]; exact this
end Go.Lift
/- Plain Lean: putting in order so that equal ones keep their order. Own work. -/
namespace Go.Lift
structure StP {α κ : Type} (f : κ → α → Bool) (Z W : List α) : Prop where
  perm : Z.Perm W
  st : ∀ v, Z.filter (f v) = W.filter (f v)
theorem StP.refl {α κ : Type} {f : κ → α → Bool} (Z : List α) : StP f Z Z := ⟨.refl _, fun _ => rfl⟩
theorem StP.trans {α κ : Type} {f : κ → α → Bool} {Z W V : List α} (h : StP f Z W) (k : StP f W V) : StP f Z V := ⟨h.perm.trans k.perm, fun v => (h.st v).trans (k.st v)⟩
theorem StP.append {α κ : Type} {f : κ → α → Bool} {Z W Z2 W2 : List α} (h : StP f Z W) (k : StP f Z2 W2) : StP f (Z ++ Z2) (W ++ W2) := ⟨h.perm.append k.perm, fun v => by rw [List.filter_append, List.filter_append, h.st v, k.st v]⟩
theorem StP.mem_iff {α κ : Type} {f : κ → α → Bool} {Z W : List α} (h : StP f Z W) {x : α} : x ∈ Z ↔ x ∈ W := h.perm.mem_iff
end Go.Lift
/- Sizes, conversions and comparisons of arguments: the loops. Own work. -/
namespace Go.Lift
def szR (left : Int) (w : Nat) : Int := if (w : Int) ≤ left then left - w else -1
theorem szR_pos {left : Int} {w : Nat} (h : (w : Int) ≤ left) : szR left w = left - w := if_pos h
theorem szR_neg {left : Int} {w : Nat} (h : ¬ (w : Int) ≤ left) : szR left w = -1 := if_neg h
theorem szR_lt {left : Int} {w : Nat} (h : (w : Int) ≤ left) : decide (szR left w < 0) = false := by rw [szR_pos h]; exact decide_eq_false (by omega)
theorem szR_lt' {left : Int} {w : Nat} (h : ¬ (w : Int) ≤ left) : decide (szR left w < 0) = true := by rw [szR_neg h]; rfl
theorem szR_add {left : Int} {a b : Nat} (h : (a : Int) ≤ left) : szR (szR left a) b = szR left (a + b) := by
  rw [szR_pos h]; unfold szR; split <;> split <;> omega
theorem szR_add' {left : Int} {a b : Nat} (h : ¬ (a : Int) ≤ left) : szR left (a + b) = -1 := szR_neg (by omega)
theorem szR_le {left : Int} {w : Nat} (h : left ≤ 1048576) : szR left w ≤ 1048576 := by unfold szR; split <;> omega
theorem szR_0 {left : Int} {w : Nat} (h : (w : Int) ≤ left) : 0 ≤ szR left w := by rw [szR_pos h]; omega
theorem szC {left : Int} {w w' : Nat} {k : Int → Option Int} (h0 : 0 ≤ left) (h : (w : Int) ≤ left → k (szR left w) = some (szR (szR left w) w')) : (bif decide (szR left w < 0) then some (-1) else k (szR left w)) = some (szR left (w + w')) := by
  by_cases e : (w : Int) ≤ left
  · rw [szR_lt e, cond_false, h e, szR_add e]
  · rw [szR_lt' e, cond_true, szR_add' e]
theorem szE {left : Int} {w : Nat} (h0 : 0 ≤ left) : (bif decide (szR left w < 0) then some (-1) else some (szR left w)) = some (szR left w) := by
  by_cases e : (w : Int) ≤ left
  · rw [szR_lt e, cond_false]
  · rw [szR_lt' e, cond_true, szR_neg e]
theorem ckSz {left : Int} {w : Nat} (h0 : 0 ≤ left) (h1 : left ≤ 1048576) (hw : w ≤ maxLen) {k : Int → Option Int} (hk : ∀ x, (decide (x < 0) = decide (szR left w < 0)) → ((w : Int) ≤ left → x = szR left w) → k x = k (szR left w)) : (ckI (left - (w : Int))).bind k = k (szR left w) := by
  unfold maxLen at hw; rw [ckI_of (by omega) (by omega), Option.bind_some]; refine hk _ ?_ (fun e => (szR_pos e).symm)
  by_cases e : (w : Int) ≤ left
  · rw [szR_pos e]
  · rw [szR_neg e]; rw [decide_eq_decide]; omega
theorem ckSz' {left : Int} {w : Nat} (h0 : 0 ≤ left) (h1 : left ≤ 1048576) (hw : w ≤ maxLen) {g : Int → Option Int} : ((ckI (left - (w : Int))).bind fun x => bif decide (x < 0) then some (-1) else g x) = (bif decide (szR left w < 0) then some (-1) else g (szR left w)) :=
  ckSz (k := fun x => bif decide (x < 0) then some (-1) else g x) h0 h1 hw (fun x h2 h3 => by
    show (bif decide (x < 0) then some (-1) else g x) = _; rw [h2]
    by_cases e : (w : Int) ≤ left
    · rw [h3 e]
    · rw [szR_lt' e]; rfl)
theorem szLoop {α : Type} (wt : α → Nat) (l : List α) (L : Nat → Int → Int → Option Int) (hs : ∀ (f k : Nat) (left : Int) (x : α), l[k]? = some x → k < 900000000000 → 0 ≤ left → left ≤ 1048576 → L (f + 1) left k = (bif decide (szR left (wt x) < 0) then some (-1) else L f (szR left (wt x)) ((k + 1 : Nat) : Int))) (he : ∀ (f : Nat) (left : Int), L (f + 1) left l.length = some left) (hl : l.length ≤ 900000000000) : ∀ (n k f : Nat) (left : Int), k + n = l.length → n < f → 0 ≤ left → left ≤ 1048576 → L f left k = some (szR left ((l.drop k).map wt).sum) := by
  intro n
  induction n with
  | zero =>
    intro k f left hk hf h0 h1; obtain ⟨f, rfl⟩ : ∃ q, f = q + 1 := ⟨f - 1, by omega⟩; obtain rfl : k = l.length := by omega
    rw [he, List.drop_length, List.map_nil, List.sum_nil, szR_pos (by omega)]
    congr 1; omega
  | succ n ih =>
    intro k f left hk hf h0 h1; obtain ⟨f, rfl⟩ : ∃ q, f = q + 1 := ⟨f - 1, by omega⟩; have hx : l[k]? = some l[k] := List.getElem?_eq_getElem (by omega); rw [hs f k left _ hx (by omega) h0 h1, List.drop_eq_getElem_cons (by omega), List.map_cons, List.sum_cons]; exact szC (k := fun z => L f z ((k + 1 : Nat) : Int)) h0 (fun e => ih (k + 1) f _ (by omega) (by omega) (szR_0 e) (szR_le h1))
theorem szLoop0 {α : Type} (wt : α → Nat) (l : List α) (L : Nat → Int → Int → Option Int) (hs : ∀ (f k : Nat) (left : Int) (x : α), l[k]? = some x → k < 900000000000 → 0 ≤ left → left ≤ 1048576 → L (f + 1) left k = (bif decide (szR left (wt x) < 0) then some (-1) else L f (szR left (wt x)) ((k + 1 : Nat) : Int))) (he : ∀ (f : Nat) (left : Int), L (f + 1) left l.length = some left) (hl : l.length ≤ 900000000000) (left : Int) (h0 : 0 ≤ left) (h1 : left ≤ 1048576) : L (((l.length : Int) - (0 : Int)).toNat + 1) left 0 = some (szR left (l.map wt).sum) := by
  have := szLoop wt l L hs he hl l.length 0 (((l.length : Int) - (0 : Int)).toNat + 1) left (by omega) (by omega) h0 h1
  rwa [List.drop_zero] at this
theorem sum_mem {α : Type} {wt : α → Nat} : ∀ {l : List α} {x : α}, x ∈ l → wt x ≤ (l.map wt).sum
  | y :: l, x, h => by
    rw [List.map_cons, List.sum_cons]; rcases List.mem_cons.1 h with rfl | h
    · omega
    · have := sum_mem (wt := wt) h; omega
theorem toLoop {α β : Type} (cv : α → β) (l : List α) (L : Nat → Int → List β → Option (List β)) (hs : ∀ (f k : Nat) (o : List β) (x : α), l[k]? = some x → k < 900000000000 → o.length = l.length → L (f + 1) k o = L f ((k + 1 : Nat) : Int) (o.set k (cv x))) (he : ∀ (f : Nat) (o : List β), L (f + 1) l.length o = some o) (hl : l.length ≤ 900000000000) : ∀ (n k f : Nat) (o : List β), k + n = l.length → n < f → o.length = l.length → L f k o = some (o.take k ++ (l.drop k).map cv) := by
  intro n
  induction n with
  | zero =>
    intro k f o hk hf ho; obtain ⟨f, rfl⟩ : ∃ q, f = q + 1 := ⟨f - 1, by omega⟩; obtain rfl : k = l.length := by omega
    rw [he, List.drop_length, List.map_nil, List.append_nil, List.take_of_length_le (by omega)]
  | succ n ih =>
    intro k f o hk hf ho; obtain ⟨f, rfl⟩ : ∃ q, f = q + 1 := ⟨f - 1, by omega⟩; have hx : l[k]? = some l[k] := List.getElem?_eq_getElem (by omega)
    have e1 : (o.set k (cv l[k])).take (k + 1) = o.take k ++ [cv l[k]] := by
      rw [List.set_eq_take_append_cons_drop, if_pos (by omega)]; have e2 : (o.take k).length = k := by rw [List.length_take]; omega
      rw [List.take_append, e2, List.take_of_length_le (by omega), Nat.add_sub_cancel_left]; rfl
    have e3 : l.drop k = l[k] :: l.drop (k + 1) := List.drop_eq_getElem_cons (by omega); rw [hs f k o _ hx (by omega) ho, ih (k + 1) f _ (by omega) (by omega) (by rw [List.length_set, ho]), e1, e3, List.map_cons, List.append_assoc]; rfl
theorem toLoop0 {α β : Type} (cv : α → β) (l : List α) (z : β) (L : Nat → Int → List β → Option (List β)) (hs : ∀ (f k : Nat) (o : List β) (x : α), l[k]? = some x → k < 900000000000 → o.length = l.length → L (f + 1) k o = L f ((k + 1 : Nat) : Int) (o.set k (cv x))) (he : ∀ (f : Nat) (o : List β), L (f + 1) l.length o = some o) (hl : l.length ≤ 900000000000) : ((mk2? (l.length : Int) (l.length : Int) z).bind fun o => L (((l.length : Int) - (0 : Int)).toNat + 1) 0 o) = some (l.map cv) := by
  unfold mk2?; rw [if_pos (by omega), Option.bind_some]; have := toLoop cv l L hs he hl l.length 0 (((l.length : Int) - (0 : Int)).toNat + 1) (List.replicate (l.length : Int).toNat z) (by omega) (by omega) (by simp); rw [List.take_zero, List.nil_append, List.drop_zero] at this; exact this
theorem eqLoop {α : Type} [DecidableEq α] (a b : List α) (L : Nat → Int → Option Bool) (hs : ∀ (f k : Nat) (x y : α), a[k]? = some x → b[k]? = some y → k < 900000000000 → L (f + 1) k = (bif !(decide (x = y)) then some false else L f ((k + 1 : Nat) : Int))) (he : ∀ f : Nat, L (f + 1) a.length = some true) (hl : a.length ≤ 900000000000) :
    (bif ((a.length : Int) != (b.length : Int)) then some false else L (((a.length : Int) - (0 : Int)).toNat + 1) 0) = some (decide (a = b)) := by
  by_cases e : a.length = b.length
  · rw [show ((a.length : Int) != (b.length : Int)) = false by simp [e], cond_false, ← all2_eq e]
    refine scan2 (q := fun x y => decide (x = y)) a b e L (fun n k x y hx hy => ?_) he _ (by omega); rw [hs n k x y hx hy (by have := lt_of_at hx; omega)]; cases decide (x = y) <;> rfl
  · rw [show ((a.length : Int) != (b.length : Int)) = true by simp; omega, cond_true, decide_eq_false (fun h => e (by rw [h]))]
end Go.Lift
