/- The logic, part four: texts, regions that write, laws over bytes, guards. -/
import Derived.Test.YtdkpmckpcejceaaLc
import Derived.Laws.BytesArg
import Derived.Laws.Cover3
import Derived.OpenShut
import Derived.Laws.MakeOwn
import Derived.Laws.Bits64
import Derived.ChangeArms
import Derived.DataReads
import Derived.WideShapes
import Derived.ChangeShapes
set_option linter.unusedVariables false
set_option linter.unusedSimpArgs false
set_option linter.unnecessarySimpa false
/- The lifted logic, part 31: bytes as a text; literals that are one's own. Own work. -/
namespace Go.Lift
open Go.RowKit
def bStr (l : List UInt8) : ByteArray := ⟨l.toArray⟩
theorem fro_bytes_inv {w : World} {ok : Nat → Prop} : ∀ {l : List UInt8} {vs : List Value}, FroL w ok ((l.map e_uint8).flatMap LV.cells) vs → vs = l.map fun b => Value.int .u8 (b.toNat : Int)
  | [], _, .nil => rfl
  | b :: l, vs, h => by
    have h' : FroL w ok (e_uint8 b :: (l.map e_uint8).flatMap LV.cells) vs := by simpa [e_uint8] using h
    cases h' with
    | cons h1 h2 h3 =>
      cases h1; rw [fro_bytes_inv h3]; rfl
section
variable {P : Program} {E : Ent} {Q : Exit → LState → Prop} {s : LState} {all : Array Oper} {rest : List Oper} {d : Nat} {ty : TypeId} {pos : String} {af : Array Edge}
theorem LWo.strM {src dst e : TypeId} {x : Operand} {l : List UInt8} (hs : P.underlying src = some (.slice e)) (hd' : P.underlying dst = some .string) (he : P.underlying e = some (.int .u8)) (hx : s.eval x = .sl 1 (l.map e_uint8)) (hd : Nat.blt d E.n = true := by exact rfl)
    (hn : LWo P E all rest Q (s.put (some d) (e_string (bStr l)))) :
    LWo P E all ({ dst := some d, op := .convert src dst x, type := ty, pos := pos, after := af, guard := none } :: rest) Q s :=
  LWo.still _ hd (fun a w ok ρ F hi => by
    have h := hi.eval x; rw [hx] at h; refine ⟨.string (bStr l), ?_, .fro (.imm _)⟩
    have hrun : (convert src dst (a.eval x)).run P w = .ok (.string (bStr l)) w := by
      have hf := h.sl_inv; rcases l with _ | ⟨b, l⟩
      · generalize a.eval x = v at hf
        cases hf with
        | sl0 h =>
          rename_i c A; cases A with
          | none => exact run_convert_bytes_nil w src e hs he 0 c dst hd'
          | some A => exact run_convert_bytes_back w src dst e A c [] hs he hd' (by simp)
        | sl h => simp at h
      · generalize hl : b :: l = L at hf ⊢
        have hne : L.map e_uint8 ≠ [] := by rw [← hl]; simp
        generalize a.eval x = v at hf; generalize hM : L.map e_uint8 = M at hf hne; cases hf with
        | sl0 h => exact absurd rfl hne
        | sl h0 h1 h2 h3 h4 h5 h6 =>
          rename_i c vs ad; subst hM; have hv := fro_bytes_inv h2; subst hv; rw [List.length_map]; exact run_convert_bytes_back w src dst e ad c L hs he hd' (fun j hj => h3 j _ (by simp [hj]))
    simp only [execOp]; rw [Sem.run_bind, hrun]; rfl) hn
theorem LWo.litO {α : Type} {T e : TypeId} {sz n : Nat} {z : Value} {ops : List Operand} {f : α → LV} {l : List α} (k : Nat) (hu : P.underlying T = some (.slice e)) (hz : ∀ w, (sizeOf e).run P w = .ok sz w) (hzv : ∀ w, (zeroValue e).run P w = .ok z w)
    (hx : ops.map s.eval = l.map f) (hc : (l.map f).all (fun x => x.cellable && x.cells.length == sz && x.pure) = true) (hlen : ops.length = n) (hm : Nat.ble (n * sz) 16777216 = true) (hsz : Nat.blt 0 sz = true) (hl : lone k (hdel k s.h) = true) (hkp : E.keep.contains k = false := by exact rfl) (hd : Nat.blt d E.n = true := by exact rfl)
    (hn : LWo P E all rest Q { tm := (d, .own k 0 l.length) :: kill k s.tm, h := (k, lob sz f l) :: hdel k s.h }) :
    LWo P E all ({ dst := some d, op := .buildSlice T n ((ops.zipIdx).map fun p => (p.2, p.1)).toArray, type := ty, pos := pos, after := af, guard := none } :: rest) Q s :=
  LWo.make k (lob sz f l) (.own k 0 l.length) hd hkp hl (.inl rfl) (by
      intro x hx'; have := List.all_eq_true.1 hc x hx'; simp at this; exact this.1.2) (fun a w ok ρ F hi => by
    have hall : ∀ x ∈ l.map f, x.cellable = true ∧ x.cells.length = sz ∧ x.pure = true := by
      intro x hx'; have := List.all_eq_true.1 hc x hx'; simp at this; exact ⟨this.1.1, this.1.2, this.2⟩
    have ht := evalL ops hi; rw [hx] at ht; have hs := ht.sizes (fun x hx => ⟨(hall x hx).1, (hall x hx).2.1⟩); have hlen' := ht.length
    have hln : l.length = n := by
      have := congrArg List.length hx; simp at this; omega
    have hmul := Nat.le_of_ble_eq_true hm; have hsz' : 0 < sz := by simpa using hsz
    have hr := run_buildSlice hu hz hzv hs (by rw [← hlen', List.length_map]; exact hln) hmul w; have hflat := ht.flat (fun x hx => (hall x hx).1); refine ⟨.slice (some ⟨w.heap.size, 0, none⟩) n n, (flatV (ops.map a.eval)).toArray, e, flatV (ops.map a.eval), n, w, ?_, .inl rfl, by simp [lob, hln], ?_, ?_, fun k v hk => by simpa using hk, ?_, fun W ok' ρ' hρ => ?_⟩
    · have e1 : (((ops.zipIdx).map fun p => (p.2, p.1)).toArray.map fun x => (x.1, a.eval x.2)) = (((ops.map a.eval).zipIdx).map fun p => (p.2, p.1)).toArray := by
        simp [List.zipIdx_map]
      simp only [execOp]; rw [e1, Sem.run_bind, hr]; simp
    · have : n ≤ n * sz := Nat.le_mul_of_pos_right _ hsz'
      unfold maxLen; omega
    · have := flatV_len (ops.map a.eval) sz hs
      simp only [lob]; rw [List.size_toArray, this, List.length_map, hlen]; exact Nat.le_refl _
    · refine ⟨rfl, ?_⟩
      have hp : LV.pure.pureL ((l.map f).flatMap LV.cells) = true := by
        have : ∀ ys : List LV, (∀ x ∈ ys, x.pure = true) → LV.pure.pureL (ys.flatMap LV.cells) = true := by
          intro ys hy
          have app : ∀ a b : List LV, LV.pure.pureL (a ++ b) = (LV.pure.pureL a && LV.pure.pureL b) := by
            intro a b; induction a with
            | nil => simp [LV.pure.pureL]
            | cons x a ih => simp [LV.pure.pureL, ih, Bool.and_assoc]
          induction ys with
          | nil => rfl
          | cons x ys ih =>
            rw [List.flatMap_cons, app, ih (fun z hz => hy z (by simp [hz]))]; have hx := hy x (by simp); cases x <;> simp_all [LV.cells, LV.pure, LV.pure.pureL]
        exact this _ (fun x hx => (hall x hx).2.2)
      exact hflat.pure hp
    · have hw := Rep.own (w := W) (ok := ok') (ρ := ρ') (off := 0) (n := n) (c := n) hρ (by simp) (Nat.le_refl _)
      simp only [Nat.zero_mul] at hw; rw [hln]; exact hw) hn
theorem LWo.pickTM {c x y : Operand} {b : Bool} (z : LV) (hc : s.eval c = .imm (.bool b)) (h : b = true) (hz : s.eval x = z) (hd : Nat.blt d E.n = true := by exact rfl) (hn : LWo P E all rest Q (s.put (some d) z)) :
    LWo P E all ({ dst := some d, op := .pick c x y, type := ty, pos := pos, after := af, guard := none } :: rest) Q s := LWo.pickT hc h hd (by rw [hz]; exact hn)
theorem LWo.pickFM {c x y : Operand} {b : Bool} (z : LV) (hc : s.eval c = .imm (.bool b)) (h : b = false) (hz : s.eval y = z) (hd : Nat.blt d E.n = true := by exact rfl) (hn : LWo P E all rest Q (s.put (some d) z)) :
    LWo P E all ({ dst := some d, op := .pick c x y, type := ty, pos := pos, after := af, guard := none } :: rest) Q s := LWo.pickF hc h hd (by rw [hz]; exact hn)
end
end Go.Lift
/- The lifted logic, part 32: regions of open order whose operations may write. Own work. -/
namespace Go.Lift
open Go.RowKit
def lookH (k : Nat) : List HF → HF
  | [] => ⟨k, { kind := .fro, sz := 0, elems := [] }, none⟩
  | f :: r => if f.k = k then f else lookH k r
def hasH (k : Nat) (l : List HF) : Bool := l.any (·.k == k)
def AllH (h : LHeap) : List HF → Prop
  | [] => True
  | f :: r => hget f.k h = some f.obj ∧ AllH h r
theorem AllH.of {h : LHeap} : ∀ {l : List HF}, (∀ f ∈ l, hget f.k h = some f.obj) → AllH h l
  | [], _ => trivial
  | f :: r, hh => ⟨hh f (by simp), AllH.of fun g hg => hh g (by simp [hg])⟩
theorem lookH_k (k : Nat) : ∀ l, (lookH k l).k = k
  | [] => rfl
  | f :: r => by
    simp only [lookH]
    split
    · assumption
    · exact lookH_k k r
theorem lookH_mem {k : Nat} : ∀ {l}, hasH k l = true → lookH k l ∈ l
  | f :: r, h => by
    simp only [lookH]
    split
    · simp
    · rename_i e
      simp [hasH, e] at h; exact List.mem_cons_of_mem _ (lookH_mem (l := r) (by simpa [hasH] using h))
def Ef.accS (i : Nat) (acc : List SF) : Ef → List SF
  | .put d y => ⟨d, y, some i, y.refs⟩ :: acc
  | .upd (some d) y _ _ => ⟨d, y, some i, y.refs⟩ :: acc
  | .upd none _ _ _ => acc
  | .make d y _ _ => ⟨d, y, some i, y.refs⟩ :: acc
  | .gen (some d) y _ _ _ => ⟨d, y, some i, y.refs⟩ :: acc
  | .gen none _ _ _ _ => acc
def Ef.accH (i : Nat) (ah : List HF) : Ef → List HF
  | .put _ _ => ah
  | .upd _ _ k obj => ⟨k, obj, some i⟩ :: ah
  | .make _ _ k obj => ⟨k, obj, some i⟩ :: ah
  | .gen _ _ add _ _ => (add.map fun p => ⟨p.1, p.2, some i⟩) ++ ah
section
variable {P : Program} {E : Ent} {Q : Exit → LState → Prop}
def DSE (P : Program) (E : Ent) (KS : List (Nat × Nat)) (all : Array Oper) : List Oper → List (List Nat × List Nat) → Nat → List SF → List HF → (List SF → List HF → List Rec → Prop) → Prop
  | o :: os, (rd, hk) :: ps, i, acc, ah, k => (rd.all (hasT · acc) && hk.all (hasH · ah)) = true ∧ ∃ ef : Ef, ef.good KS ∧ (∀ u : LState, Good KS u → AllF u.tm (rd.map (look · acc)) → AllH u.h (hk.map (lookH · ah)) → LWo P E all [o] (fun e t => e = .normal ∧ (t = ef.run u ∨ t.le (ef.run u)) ∧ Good KS t) u) ∧
      DSE P E KS all os ps (i + 1) (ef.accS i acc) (ef.accH i ah) (fun a b r => k a b (⟨ef, rd.map (look · acc), hk.map (lookH · ah)⟩ :: r))
  | [], [], _, acc, ah, k => k acc ah []
  | _, _, _, _, _, _ => False
theorem DSE.out {KS : List (Nat × Nat)} {all : Array Oper} : ∀ {os : List Oper} {ps : List (List Nat × List Nat)} {i : Nat} {acc : List SF} {ah : List HF} {k : List SF → List HF → List Rec → Prop}, DSE P E KS all os ps i acc ah k →
    ∃ (acc' : List SF) (ah' : List HF) (recs : List Rec), k acc' ah' recs ∧ recs.length = os.length ∧ (∀ (j : Nat) (o : Oper) (r : Rec), os[j]? = some o → recs[j]? = some r → r.ok P E KS all o) ∧
      (∀ f ∈ acc, f ∈ acc') ∧ (∀ f ∈ ah, f ∈ ah') ∧
      (∀ f ∈ acc', f ∈ acc ∨ ∃ j r, f.est = some (i + j) ∧ recs[j]? = some r ∧ r.ef.dst = some f.t ∧ (∀ s, get f.t (r.ef.run s).tm = f.v) ∧ f.rf = f.v.refs) ∧
      (∀ f ∈ ah', f ∈ ah ∨ ∃ j r, f.est = some (i + j) ∧ recs[j]? = some r ∧ (∀ s, hget f.k (r.ef.run s).h = some f.obj)) ∧
      (∀ r ∈ recs, (∀ f ∈ r.rs, f ∈ acc') ∧ ∀ f ∈ r.rk, f ∈ ah')
  | o :: os, (rd, hk) :: ps, i, acc, ah, k, ⟨hin, ef, hgood, h1, h2⟩ => by
    obtain ⟨acc', ah', recs, hk', hlen, hok, hsub, hsubH, hnew, hnewH, hreq⟩ := DSE.out h2; simp only [Bool.and_eq_true] at hin
    have hs1 : ∀ f ∈ acc, f ∈ ef.accS i acc := by
      intro f hf; cases ef with
      | put d y => simp [Ef.accS, hf]
      | upd d y k o => cases d <;> simp [Ef.accS, hf]
      | make d y k o => simp [Ef.accS, hf]
      | gen d y add del kil => cases d <;> simp [Ef.accS, hf]
    have hs2 : ∀ f ∈ ah, f ∈ ef.accH i ah := by
      intro f hf; cases ef <;> simp [Ef.accH, hf]
    refine ⟨acc', ah', _, hk', by simp [hlen], ?_, fun f hf => hsub f (hs1 f hf), fun f hf => hsubH f (hs2 f hf), ?_, ?_, ?_⟩
    · intro j o' r ho hr
      cases j with
      | zero =>
        simp at ho hr; subst ho; subst hr; refine ⟨hgood, fun u hu hrs hrk => ?_⟩; exact h1 u hu (AllF.of hrs) (AllH.of hrk)
      | succ j => simp at ho hr; exact hok j o' r ho hr
    · intro f hf
      rcases hnew f hf with h | ⟨j, r, he, hr, h⟩
      · cases ef with
        | put d y =>
          rcases List.mem_cons.1 h with rfl | h
          · exact .inr ⟨0, _, by simp, rfl, rfl, fun s => by simp [Ef.run, LState.put, get], rfl⟩
          · exact .inl h
        | upd d y kk obj =>
          cases d with
          | none => exact .inl h
          | some d =>
            rcases List.mem_cons.1 h with rfl | h
            · exact .inr ⟨0, _, by simp, rfl, rfl, fun s => by simp [Ef.run, LState.put, get], rfl⟩
            · exact .inl h
        | make d y kk obj =>
          rcases List.mem_cons.1 h with rfl | h
          · exact .inr ⟨0, _, by simp, rfl, rfl, fun s => by simp [Ef.run, get], rfl⟩
          · exact .inl h
        | gen d y add del kil =>
          cases d with
          | none => exact .inl h
          | some d =>
            rcases List.mem_cons.1 h with rfl | h
            · exact .inr ⟨0, _, by simp, rfl, rfl, fun s => by simp [Ef.run, LState.put, get], rfl⟩
            · exact .inl h
      · exact .inr ⟨j + 1, r, by rw [he]; congr 1; omega, by simpa using hr, h⟩
    · intro f hf
      rcases hnewH f hf with h | ⟨j, r, he, hr, h⟩
      · cases ef with
        | put d y => exact .inl h
        | upd d y kk obj =>
          rcases List.mem_cons.1 h with rfl | h
          · refine .inr ⟨0, _, by simp, rfl, fun s => ?_⟩
            cases d <;> simp [Ef.run, LState.put, hget]
          · exact .inl h
        | make d y kk obj =>
          rcases List.mem_cons.1 h with rfl | h
          · exact .inr ⟨0, _, by simp, rfl, fun s => by simp [Ef.run, hget]⟩
          · exact .inl h
        | gen d y add del kil =>
          rcases List.mem_append.1 h with h | h
          · obtain ⟨q, hq, rfl⟩ := List.mem_map.1 h
            refine .inr ⟨0, _, by simp, rfl, fun s => ?_⟩; have := hget_app_mem (b := hdelN (hkeys add ++ del) s.h) (ndB_nodup hgood.1) hq; cases d <;> exact this
          · exact .inl h
      · exact .inr ⟨j + 1, r, by rw [he]; congr 1; omega, by simpa using hr, h⟩
    · intro r hr
      rcases List.mem_cons.1 hr with rfl | hr
      · refine ⟨fun f hf => ?_, fun f hf => ?_⟩
        · obtain ⟨t, ht, rfl⟩ := List.mem_map.1 hf
          exact hsub _ (hs1 _ (look_mem (List.all_eq_true.1 hin.1 t ht)))
        · obtain ⟨t, ht, rfl⟩ := List.mem_map.1 hf
          exact hsubH _ (hs2 _ (lookH_mem (List.all_eq_true.1 hin.2 t ht)))
      · exact hreq r hr
  | [], [], i, acc, ah, k, h => ⟨acc, ah, [], h, rfl, by simp, by simp, by simp, fun f hf => .inl hf, fun f hf => .inl hf, by simp⟩
theorem LWP.drawE {id : Nat} {l : List Oper} {s : LState} (KS : List (Nat × Nat)) (U : List Nat) (plan : List (List Nat × List Nat)) (out outH : List Nat) (hm : P.follows .mixedOrders = true)
    (hedge : (l.zipIdx.all fun (o, i) => (edgesOf o).all fun j => decide (j < i)) = true) (hgood : KS.all (fun p => lone p.1 (hdel p.2 s.h)) = true) (hnd : outH.Nodup)
    (h : DSE P E KS l.toArray l plan 0 (base s U) (heapF s.h) (fun acc ah recs => (out.all (hasT · acc) && outH.all (hasH · ah)) = true ∧ drawOK (preAll l []) (recs.map Rec.info) ((out.map (look · acc)).map fun f => (f.t, f.est, f.rf)) ((outH.map (lookH · ah)).map fun f => (f.k, f.est)) = true ∧ Q .normal ⟨out.map fun t => (t, (look t acc).v), outH.map fun k => (k, (lookH k ah).obj)⟩)) :
    LWP P E (.region id l.toArray true) Q s := by
  intro a w hi; have hnk : (hkeys s.h).Nodup := by obtain ⟨ok, ρ, F, h⟩ := hi; exact h.heap.keys
  obtain ⟨acc, ah, recs, ⟨hout, hc, hq⟩, hlen, hok, hsub, hsubH, hnew, hnewH, hreq⟩ := h.out; simp only [Bool.and_eq_true] at hout; refine LWP.draw (Q := Q) KS recs acc ah _ hm hlen hedge (fun k hk => List.all_eq_true.1 hgood k hk) (fun i o r ho hr => hok i o r ho hr) ?_ ?_ hreq (out.map (look · acc)) (outH.map (lookH · ah)) ?_ ?_ ?_ rfl hc ?_ a w hi
  · intro f hf
    rcases hnew f hf with h | ⟨j, r, he, hr, h1, h2, h3⟩
    · obtain ⟨t, ht, rfl⟩ := List.mem_map.1 h
      exact ⟨fun k hk => LV.refs_at? k _ hk, rfl⟩
    · refine ⟨fun k hk => LV.refs_at? k _ (h3 ▸ hk), ?_⟩
      rw [he]; simp only [Nat.zero_add]; exact ⟨r, hr, h1, h2⟩
  · intro f hf
    rcases hnewH f hf with h | ⟨j, r, he, hr, h1⟩
    · obtain ⟨p, hp, rfl⟩ := List.mem_map.1 h
      exact hget_of_mem hnk hp
    · rw [he]
      simp only [Nat.zero_add]; exact ⟨r, hr, h1⟩
  · intro f hf
    obtain ⟨t, ht, rfl⟩ := List.mem_map.1 hf; exact look_mem (List.all_eq_true.1 hout.1 t ht)
  · intro f hf
    obtain ⟨t, ht, rfl⟩ := List.mem_map.1 hf; exact lookH_mem (List.all_eq_true.1 hout.2 t ht)
  · rw [List.map_map]
    simpa [Function.comp_def, lookH_k] using hnd
  · have e1 : List.map (fun f : SF => (f.t, f.v)) (List.map (fun x => look x acc) out) = out.map fun t => (t, (look t acc).v) := by
      rw [List.map_map]; exact List.map_congr_left fun t _ => by simp [look_t]
    have e2 : List.map (fun f : HF => (f.k, f.obj)) (List.map (fun x => lookH x ah) outH) = outH.map fun k => (k, (lookH k ah).obj) := by
      rw [List.map_map]; exact List.map_congr_left fun t _ => by simp [lookH_k]
    rw [e1, e2]; exact hq
theorem lone_of {k : Nat} {KS : List (Nat × Nat)} {u : LState} (h : Good KS u) (hk : KS.contains (k, k) = true) : lone k (hdel k u.h) = true := h (k, k) (by simpa using hk)
theorem goodN {j : Nat} {obj : LObj} : ∀ k ∈ ([] : List (Nat × Nat)), (j == k.2 || !obj.at? k.1) = true := fun _ h => by cases h
theorem goodC {j : Nat} {obj : LObj} {a : Nat × Nat} {l : List (Nat × Nat)} (h : (j == a.2 || !obj.at? a.1) = true) (h2 : ∀ k ∈ l, (j == k.2 || !obj.at? k.1) = true) : ∀ k ∈ a :: l, (j == k.2 || !obj.at? k.1) = true := fun k hk => by
  rcases List.mem_cons.1 hk with rfl | hk
  · exact h
  · exact h2 k hk
theorem LWo.rekey {all : Array Oper} {ops : List Oper} {s : LState} (t o k : Nat) {off n : Nat} {obj : LObj} (hg : get t s.tm = .own o off n) (ho : hget o s.h = some obj) (hk : obj.kind = .fro) (hne : (o == k) = false) (hkp : E.keep.contains k = false) (hl : lone k (hdel k (hdel o s.h)) = true)
    (hn : LWo P E all ops Q (Lift.rekey s t o k off n obj)) : LWo P E all ops Q s := LWo.ghost (fun _ _ hi => hi.rekey hg ho hk hne hkp hl) hn
theorem LWo.bcallM {α : Type} {f : Operand} {ops : List Operand} {ts : Array TypeId} {g : FuncId} {caps vals xs : List LV} {sz : Nat} {e : α → LV} {v : α} {all : Array Oper} {rest : List Oper} {d : Nat} {ty : TypeId} {pos : String} {af : Array Edge} {s : LState} (k : Nat) (hf : s.eval f = .clo g caps) (hv : ops.map s.eval ++ caps = vals)
    (hfn : Ret P g xs (.nb (e v).cells)) (hA : ArgsOK s [] vals xs []) (hag : e v = .agg (e v).cells) (hsz : (e v).cells.length = sz) (hl : Lift.lone k (hdel k s.h) = true) (hkp : E.keep.contains k = false := by exact rfl) (hd : Nat.blt d E.n = true := by exact rfl)
    (hn : LWo P E all rest Q { tm := (d, .ptr k 0 0) :: kill k s.tm, h := (k, vob sz e v) :: hdel k s.h }) :
    LWo P E all ({ dst := some d, op := .call { callee := .value f, args := ops.toArray, argTypes := ts }, type := ty, pos := pos, after := af, guard := none } :: rest) Q s :=
  LWo.bcall (R := fun cs => cs = (e v).cells) k hf hv (hfn.mono fun r h ⟨h1, h2⟩ => ⟨⟨_, h1, rfl⟩, h2⟩) hA hkp hl hd (by
    rintro cs rfl; rw [← hag, hsz]; exact hn)
end
end Go.Lift
/- The lifted logic, part 33: a law over bytes, out of its contract. Own work. -/
namespace Go.Lift
open Go.RowKit
theorem u8_back {n : Int} (h : (Lit.int .u8 n).wf = true) : ((UInt8.ofNat n.toNat).toNat : Int) = n := by
  have hb := bounds_u8 h; rw [UInt8.toNat_ofNat']; omega
theorem law_bytes {P : Program} {f : FuncId} (h : ∀ l : List UInt8, Ret P f [.sl 1 (l.map e_uint8)] (e_bool true)) (W : World) (a : Option Addr) (len cap : Nat) (zs : List Int)
    (hz : (a = none ∧ len = 0 ∧ cap = 0 ∧ zs = []) ∨ ∃ x, a = some x ∧ len ≤ cap ∧ cap ≤ maxLen ∧ zs.length = cap ∧ (∀ i, i < zs.length → W.cell? (x.add i) = some (.int .u8 (zs.getD i 0))) ∧ ∀ n ∈ zs, (Lit.int .u8 n).wf = true) (hb : ∀ x, a = some x → 0 < len → x.block < W.heap.size) :
    Calls P f #[.slice a len cap] W fun e w' => e = .returned (.bool true) ∧ Below W.heap.size W w' := by
  obtain ⟨l, hl⟩ : ∃ l : List UInt8, Fro W (fun k => k < W.heap.size) (.sl 1 (l.map e_uint8)) (.slice a len cap) := by
    rcases hz with ⟨rfl, rfl, rfl, rfl⟩ | ⟨x, rfl, h1, h2, h3, h4, h5⟩
    · exact ⟨[], .sl0 (by decide)⟩
    · refine ⟨(zs.take len).map fun n => UInt8.ofNat n.toNat, ?_⟩
      have hlen : (((zs.take len).map fun n => UInt8.ofNat n.toNat).map e_uint8).length = len := by simp; omega
      rcases Nat.eq_zero_or_pos len with rfl | hpos
      · simpa using Fro.sl0 h2
      · have hfr : ∀ ys : List Int, (∀ n ∈ ys, (Lit.int .u8 n).wf = true) → FroL W (fun k => k < W.heap.size) (((ys.map fun n => UInt8.ofNat n.toNat).map e_uint8).flatMap LV.cells) (ys.map (Value.int .u8)) := by
          intro ys
          induction ys with
          | nil => intro _; exact .nil
          | cons y ys ih =>
            intro hy; refine .cons ?_ rfl (ih fun n hn => hy n (by simp [hn])); show Fro W _ (.imm (.int .u8 ((UInt8.ofNat y.toNat).toNat : Int))) _; rw [u8_back (hy y (by simp))]; exact .imm _
        have := Fro.sl (w := W) (ok := fun k => k < W.heap.size) (sz := 1) (c := cap) (xs := ((zs.take len).map fun n => UInt8.ofNat n.toNat).map e_uint8) (ad := x) (by intro e; rw [e] at hlen; simp at hlen; omega)
          (by intro y hy; obtain ⟨b, _, rfl⟩ := List.mem_map.1 hy; rfl) (hfr (zs.take len) (fun n hn => h5 n (List.mem_of_mem_take hn))) (by
            intro k v hk; simp only [List.getElem?_map, List.getElem?_take] at hk
            split at hk
            · rename_i hlt
              rw [h4 k (by omega)]; simp [List.getD_eq_getElem?_getD]; cases hz : zs[k]? with
              | none => rw [hz] at hk; simp at hk
              | some u => rw [hz] at hk; simpa using hk
            · simp at hk) (hb x rfl hpos) (by omega) h2
        rw [hlen] at this; exact this
  have hc := (h l).2 W [.slice a len cap] (fun k => k < W.heap.size) (fun _ => none) (fun _ => []) (.cons (.fro hl) .nil) ⟨by simp [hkeys], by simp, by simp [fpsOf], by simp [fpsOf]⟩ (fun _ h => h); refine Calls.mono hc ?_; rintro e w' ⟨v, r, hl', ok', F', fr, rfl, ⟨rfl, rfl⟩, hext, hres, _⟩; refine ⟨?_, ⟨hext.os, hext.tape, hext.output, hext.size, fun k hk => hext.block k hk (by simp [fpsOf, rwOf])⟩⟩; cases hres with
  | fro h => cases h; rfl
end Go.Lift
/- The lifted logic, part 34: guards whose own guard is not wanted; lists made at once; one's own list lent under any name. Own work. -/
namespace Go.Lift
open Go.RowKit
section
variable {P : Program} {E : Ent} {Q : Exit → LState → Prop} {s : LState} {all : Array Oper} {rest : List Oper} {d : Nat} {ty : TypeId} {pos : String} {af : Array Edge}
theorem LWo.skip {o : Oper} (d : Nat) (ho : o.dst = some d) (hlt : Nat.blt d E.n = true) (hw : ∀ a w ok ρ F, Inv' E s a w ok ρ F → Region.wanted o (yielded all a.tmps) = false)
    (hn : LWo P E all rest Q (s.put (some d) (.imm undef))) : LWo P E all (o :: rest) Q s := by
  intro a w ⟨ok, ρ, F, hi⟩; unfold wpList; rw [if_neg (by rw [hw a w ok ρ F hi]; simp)]; refine hn _ _ ⟨ok, ρ, F, ?_⟩; rw [ho]; exact hi.put hlt (.fro (.imm _))
theorem LWo.guardNU {o : Oper} {j t d : Nat} {b nw want : Bool} (hb : get t s.tm = .imm (.bool b)) (h : b = nw) (hg : o.guard = some (j, want)) (hd : (all[j]?).bind (·.dst) = some t) (ho : o.dst = some d) (hlt : Nat.blt d E.n = true) (hne : nw = !want)
    (hn : LWo P E all rest Q (s.put (some d) (.imm undef))) : LWo P E all (o :: rest) Q s :=
  LWo.skip d ho hlt (fun a w ok ρ F hi => by
    have hy := yielded_of hi hd hb; subst h hne; simp only [Region.wanted, hg, hy]; cases want <;> rfl) hn
theorem LWo.guardU {o : Oper} {j t d : Nat} {want : Bool} (hb : get t s.tm = .imm undef) (hg : o.guard = some (j, want)) (hd : (all[j]?).bind (·.dst) = some t) (ho : o.dst = some d) (hlt : Nat.blt d E.n = true)
    (hn : LWo P E all rest Q (s.put (some d) (.imm undef))) : LWo P E all (o :: rest) Q s :=
  LWo.skip d ho hlt (fun a w ok ρ F hi => by
    have hs := hi.slots t; rw [hb] at hs; have hv := hs.imm_inv
    have hy : yielded all a.tmps j = none := by
      rw [Array.getD_eq_getD_getElem?] at hv; cases h : a.tmps[t]? with
      | none => simp [yielded, hd, h]
      | some v =>
        rw [h] at hv; simp only [Option.getD_some] at hv; subst hv; simp [yielded, hd, h, undef]
    simp [Region.wanted, hg, hy]) hn
end
end Go.Lift
/- The lifted logic, part 35: a call with a variable lent whose list is one's own. Own work. -/
namespace Go.Lift
open Go.RowKit
section
variable {P : Program} {E : Ent} {Q : Exit → LState → Prop} {s : LState} {all : Array Oper} {rest : List Oper} {d : Nat} {ty : TypeId} {pos : String} {af : Array Edge}
theorem LWo.lncall {α : Type} {f : Operand} {ops : List Operand} {ts : Array TypeId} {g : FuncId} {caps vals xs : List LV} {lk sz : Nat} {obj obj' : LObj} {e : α → LV} {l : List α} (k : Nat) (hf : s.eval f = .clo g caps) (hv : ops.map s.eval ++ caps = vals)
    (hfn : Does P g xs [(lk, obj)] (fun r h => r = .nw sz (l.map e) false ∧ h = [(lk, obj')])) (hA : vals = xs) (ho : hget lk s.h = some obj) (hro : obj.ro = false) (hl : Lift.lone k (hdel k ((lk, obj') :: hdel lk s.h)) = true) (hkp : E.keep.contains k = false := by exact rfl) (hd : Nat.blt d E.n = true := by exact rfl)
    (hn : LWo P E all rest Q { tm := (d, .own k 0 l.length) :: kill k s.tm, h := (k, lob sz e l) :: hdel k ((lk, obj') :: hdel lk s.h) }) :
    LWo P E all ({ dst := some d, op := .call { callee := .value f, args := ops.toArray, argTypes := ts }, type := ty, pos := pos, after := af, guard := none } :: rest) Q s :=
  LWo.call (some k) hf hv hfn (by rw [hA]; exact ArgsOK.allSame) ⟨by simp [hkeys], by intro p hp; simp at hp; subst hp; exact ⟨_, ho, .inl rfl⟩⟩ (fun t ht => by cases ht; exact hd) (fun j hj => by cases hj; exact hkp) (by
    rintro r hl' ⟨rfl, rfl⟩; refine ⟨.inl rfl, (fun j hj => by cases hj; simpa [rwOf, hro, hkeys, hdels] using hl), ?_⟩; have : rwOf [(lk, obj)] = [(lk, obj)] := by simp [rwOf, hro]
    have e2 : hdels [lk] s.h = hdel lk s.h := by simp
    simp only [afterCall, this, hkeys, List.map_cons, List.map_nil, List.length_map, LState.put]; rw [e2]; exact hn)
end
end Go.Lift
/- The lifted logic, part 36: cuts of one's own list that stay one's own; clear. Own work. -/
namespace Go.Lift
open Go.RowKit
section
variable {P : Program} {E : Ent} {Q : Exit → LState → Prop} {s : LState} {all : Array Oper} {rest : List Oper} {d : Nat} {ty : TypeId} {pos : String} {af : Array Edge}
def rng? (lo hi : Int) (n : Nat) : Option Unit := if 0 ≤ lo ∧ lo ≤ hi ∧ hi ≤ n then some () else none
theorem rng_b {lo hi : Int} {n : Nat} {u : Unit} (h : rng? lo hi n = some u) : 0 ≤ lo ∧ lo ≤ hi ∧ hi ≤ n := by
  unfold rng? at h
  split at h
  · assumption
  · cases h
def leN (n m : Nat) : Option Unit := if n ≤ m then some () else none
theorem leN_b {n m : Nat} {u : Unit} (h : leN n m = some u) : n ≤ m := by
  unfold leN at h
  split at h
  · assumption
  · cases h
theorem LWo.cutOM {α : Type} {T e : TypeId} {sz o off n : Nat} {f : α → LV} {l : List α} {lo hi : Int} {u : Unit} {x : Operand} {lx hx' : Option Operand} (he : rng? lo hi n = some u) (hu : P.underlying T = some (.slice e)) (hz : ∀ w, (sizeOf e).run P w = .ok sz w)
    (hx : s.eval x = .own o off n) (ho : hget o s.h = some (lob sz f l)) (hl : match lx with | none => lo = 0 | some o => ∃ k, s.eval o = .imm (.int k lo)) (hh : match hx' with | none => hi = n | some o => ∃ k, s.eval o = .imm (.int k hi)) (hd : Nat.blt d E.n = true := by exact rfl)
    (hn : LWo P E all rest Q (s.put (some d) (.own o (off + lo.toNat) (hi.toNat - lo.toNat)))) :
    LWo P E all ({ dst := some d, op := .slice T x lx hx' none, type := ty, pos := pos, after := af, guard := none } :: rest) Q s := by
  obtain ⟨h0, h1, h2⟩ := rng_b he; refine LWo.cutOwn (l := lo.toNat) (h := hi.toNat) hu hz hx ho rfl ?_ ?_ trivial (.inl rfl) (by omega) (by omega) rfl rfl hd hn
  · cases lx with
    | none => simp only at hl; subst hl; rfl
    | some o => obtain ⟨k, hk⟩ := hl; exact ⟨k, by rw [hk, Int.toNat_of_nonneg h0]⟩
  · cases hx' with
    | none => simp only at hh; subst hh; simp [Bound]
    | some o => obtain ⟨k, hk⟩ := hh; exact ⟨k, by rw [hk, Int.toNat_of_nonneg (by omega)]⟩
inductive SrcT {α : Type} (s : LState) (y : Operand) (sz : Nat) (f : α → LV) (l : List α) : Prop
  | m : SrcM s y sz f l → SrcT s y sz f l
  | cut {o off n : Nat} {L : List α} : s.eval y = .own o off n → off + n ≤ L.length → hget o s.h = some (lob sz f L) → (L.drop off).take n = l → SrcT s y sz f l
theorem SrcT.is {α : Type} {y : Operand} {sz : Nat} {f : α → LV} {l : List α} (h : SrcT s y sz f l) : SrcIs s y sz (l.map f) := by
  cases h with
  | m h => exact h.is
  | cut h h1 h2 h3 =>
    subst h3; rename_i o off n L
    refine .inr (.inr (.inl ⟨_, off, _, by rw [List.length_map, List.length_take, List.length_drop, show min n (L.length - off) = n by omega]; exact h, h2, rfl, rfl, by simp [lob]; omega, by
      simp [lob, show min n (L.length - off) = n by omega, List.map_take, List.map_drop]⟩))
end
end Go.Lift
namespace Go.Lift
open Go.RowKit
section
variable {P : Program} {E : Ent} {Q : Exit → LState → Prop} {s : LState} {all : Array Oper}
end
end Go.Lift
/- The lifted logic, part 37: append in place, where the room is known. Own work. -/
namespace Go.Lift
open Go.RowKit
section
variable {P : Program} {E : Ent} {Q : Exit → LState → Prop} {s : LState} {all : Array Oper} {rest : List Oper} {d : Nat} {ty : TypeId} {pos : String} {af : Array Edge}
end
end Go.Lift
/- The lifted logic, part 38: a call that hands back a list of its own and something beside it. Own work. -/
namespace Go.Lift
open Go.RowKit
section
variable {P : Program} {E : Ent} {Q : Exit → LState → Prop} {s : LState} {all : Array Oper} {rest : List Oper} {d : Nat} {ty : TypeId} {pos : String} {af : Array Edge}
theorem LWo.max3 {x y z : Operand} {T T' T2 : TypeId} {k : IntKind} {m n q : Int} (hx : s.eval x = .imm (.int k m)) (hy : s.eval y = .imm (.int k n)) (hz : s.eval z = .imm (.int k q)) (hd : Nat.blt d E.n = true := by exact rfl)
    (hn : LWo P E all rest Q (s.put (some d) (.imm (.int k (maxI (maxI m n) q))))) :
    LWo P E all ({ dst := some d, op := .call { callee := .builtin .max, args := #[x, y, z], argTypes := #[T, T', T2] }, type := ty, pos := pos, after := af, guard := none } :: rest) Q s :=
  LWo.still _ hd (fun a w ok ρ F hi => ⟨.int k (maxI (maxI m n) q), by
    simp [execOp, resolve, invoke, builtin, Builtin.max_, Builtin.max2, hi.imm hx, hi.imm hy, hi.imm hz]; rfl, .fro (.imm _)⟩) hn
end
end Go.Lift
/- The lifted logic, part 39: a call whose list that comes back is not wanted. Own work. -/
namespace Go.Lift
open Go.RowKit
section
variable {P : Program} {E : Ent} {Q : Exit → LState → Prop} {s s' : LState} {all : Array Oper} {rest : List Oper} {d : Nat} {ty : TypeId} {pos : String} {af : Array Edge}
end
end Go.Lift
/- The lifted logic, part 40: short forms of the steps of a region of open order. Own work. -/
namespace Go.Lift
theorem zn {α β : Type} {a : α} {c : β} {R G : Prop} (hg : G) : a = a ∧ (c = c ∨ R) ∧ G := ⟨rfl, .inl rfl, hg⟩
section
variable {P : Program} {E : Ent}
theorem dq {KS : List (Nat × Nat)} {all : Array Oper} {o : Oper} {os : List Oper} {rd hk : List Nat} {ps : List (List Nat × List Nat)} {i : Nat} {acc : List SF} {ah : List HF} {k : List SF → List HF → List Rec → Prop} (d : Nat) {y : LV} (hin : (rd.all (hasT · acc) && hk.all (hasH · ah)) = true)
    (h1 : ∀ u : LState, Good KS u → AllF u.tm (rd.map (look · acc)) → AllH u.h (hk.map (lookH · ah)) → LWo P E all [o] (fun e t => e = .normal ∧ (t = (Ef.put d y).run u ∨ t.le ((Ef.put d y).run u)) ∧ Good KS t) u)
    (h2 : DSE P E KS all os ps (i + 1) ((Ef.put d y).accS i acc) ((Ef.put d y).accH i ah) (fun a b r => k a b (⟨.put d y, rd.map (look · acc), hk.map (lookH · ah)⟩ :: r))) : DSE P E KS all (o :: os) ((rd, hk) :: ps) i acc ah k := ⟨hin, .put d y, trivial, h1, h2⟩
end
def ins1 (x : Nat) (l : List Nat) : List Nat := bif l.contains x then l else x :: l
def preD : List Oper → List (List Nat) → List (List Nat)
  | [], acc => acc
  | o :: r, acc => preD r (acc ++ [(edgesOf o).foldl (fun l j => ins1 j ((acc.getD j []).foldl (fun l x => ins1 x l) l)) []])
theorem mem_ins1 {x y : Nat} {l : List Nat} : y ∈ ins1 x l ↔ y = x ∨ y ∈ l := by
  unfold ins1; cases h : l.contains x with
  | true =>
    have : x ∈ l := by simpa using h
    rw [cond_true]; exact ⟨.inr, fun h => h.elim (fun e => e ▸ this) id⟩
  | false => rw [cond_false, List.mem_cons]
theorem mem_foldI {y : Nat} : ∀ (xs l : List Nat), y ∈ xs.foldl (fun l x => ins1 x l) l ↔ y ∈ xs ∨ y ∈ l
  | [], l => by simp
  | x :: xs, l => by rw [List.foldl_cons, mem_foldI xs, mem_ins1, List.mem_cons]; grind
theorem preD_mem : ∀ (ops : List Oper) (a b : List (List Nat)), a.length = b.length → (∀ j x, x ∈ a.getD j [] ↔ x ∈ b.getD j []) → ∀ j x, x ∈ (preD ops a).getD j [] ↔ x ∈ (preAll ops b).getD j []
  | [], a, b, _, h => h
  | o :: r, a, b, hl, h => by
    rw [preD, preAll]
    have hx : ∀ x, x ∈ (edgesOf o).foldl (fun l j => ins1 j ((a.getD j []).foldl (fun l x => ins1 x l) l)) [] ↔ x ∈ (edgesOf o).flatMap fun j => j :: b.getD j [] := by
      intro x
      have key : ∀ (es l : List Nat), x ∈ es.foldl (fun l j => ins1 j ((a.getD j []).foldl (fun l x => ins1 x l) l)) l ↔ (x ∈ es.flatMap fun j => j :: b.getD j []) ∨ x ∈ l := by
        intro es
        induction es with
        | nil => intro l; simp
        | cons e es ih =>
          intro l; rw [List.foldl_cons, ih, mem_ins1, mem_foldI, h e x, List.flatMap_cons, List.mem_append, List.mem_cons]
          grind
      rw [key]; simp
    refine preD_mem r _ _ (by simp [hl]) ?_; intro j x; rcases Nat.lt_trichotomy j a.length with h1 | h1 | h1
    · rw [List.getD_eq_getElem?_getD, List.getElem?_append_left h1, List.getD_eq_getElem?_getD, List.getElem?_append_left (hl ▸ h1), ← List.getD_eq_getElem?_getD, ← List.getD_eq_getElem?_getD]
      exact h j x
    · subst h1
      rw [List.getD_eq_getElem?_getD, List.getElem?_append_right (Nat.le_refl _), List.getD_eq_getElem?_getD, hl, List.getElem?_append_right (Nat.le_refl _)]; simpa using hx x
    · rw [List.getD_eq_getElem?_getD, List.getElem?_eq_none (by simp; omega), List.getD_eq_getElem?_getD, List.getElem?_eq_none (by simp; omega)]
theorem ahead_D (l : List Oper) (i j : Nat) : ahead (preD l []) i j = ahead (preAll l []) i j := by
  unfold ahead; rw [Bool.eq_iff_iff, List.contains_iff_mem, List.contains_iff_mem]; exact preD_mem l [] [] rfl (fun _ _ => Iff.rfl) j i
theorem drawOK_D {l : List Oper} {T : List OI} {FS : List (Nat × Option Nat × List Nat)} {FH : List (Nat × Option Nat)} (h : drawOK (preD l []) T FS FH = true) : drawOK (preAll l []) T FS FH = true := by
  unfold drawOK harmless at *; simp only [ahead_D] at h; exact h
theorem DSE.mono {P : Program} {E : Ent} {KS : List (Nat × Nat)} {all : Array Oper} : ∀ {os : List Oper} {ps : List (List Nat × List Nat)} {i : Nat} {acc : List SF} {ah : List HF} {k k' : List SF → List HF → List Rec → Prop}, (∀ a b r, k a b r → k' a b r) → DSE P E KS all os ps i acc ah k → DSE P E KS all os ps i acc ah k'
  | [], [], _, _, _, _, _, hk, h => hk _ _ _ h
  | o :: os, (rd, hkk) :: ps, i, acc, ah, k, k', hk, ⟨h0, ef, h1, h2, h3⟩ => ⟨h0, ef, h1, h2, DSE.mono (fun a b r h => hk a b _ h) h3⟩
  | [], _ :: _, _, _, _, _, _, _, h => h
  | _ :: _, [], _, _, _, _, _, _, h => h
section
variable {P : Program} {E : Ent} {Q : Exit → LState → Prop}
theorem LWP.drawF {id : Nat} {l : List Oper} {s : LState} (KS : List (Nat × Nat)) (U : List Nat) (plan : List (List Nat × List Nat)) (out outH : List Nat) (hm : P.follows .mixedOrders = true)
    (hedge : (l.zipIdx.all fun (o, i) => (edgesOf o).all fun j => decide (j < i)) = true) (hgood : KS.all (fun p => lone p.1 (hdel p.2 s.h)) = true) (hnd : outH.Nodup)
    (h : DSE P E KS l.toArray l plan 0 (base s U) (heapF s.h) (fun acc ah recs => (out.all (hasT · acc) && outH.all (hasH · ah)) = true ∧ drawOK (preD l []) (recs.map Rec.info) ((out.map (look · acc)).map fun f => (f.t, f.est, f.rf)) ((outH.map (lookH · ah)).map fun f => (f.k, f.est)) = true ∧ Q .normal ⟨out.map fun t => (t, (look t acc).v), outH.map fun k => (k, (lookH k ah).obj)⟩)) :
    LWP P E (.region id l.toArray true) Q s := LWP.drawE KS U plan out outH hm hedge hgood hnd (DSE.mono (fun a b r ⟨h1, h2, h3⟩ => ⟨h1, drawOK_D h2, h3⟩) h)
end
end Go.Lift
/- The lifted logic, part 41: variables in memory whose fields hold lists of one's own. Own work. -/
namespace Go.Lift
open Go.RowKit
def ovr (cs : List LV) (os : List (Nat × LV)) : List LV := os.foldl (fun cs p => cs.set p.1 p.2) cs
def xob {α : Type} (sz : Nat) (f : α → LV) (y : α) (os : List (Nat × LV)) : LObj := { kind := .box, sz := sz, elems := [.agg (ovr (f y).cells os)] }
section
variable {P : Program} {E : Ent} {Q : Exit → LState → Prop} {s : LState} {all : Array Oper} {rest : List Oper} {d : Nat} {ty : TypeId} {pos : String} {af : Array Edge}
theorem Inv'.cellsO {k sz : Nat} {cs cs' : List LV} (ho : hget k s.h = some { kind := .box, sz := sz, elems := [.agg cs] }) (hl : cs'.length = cs.length) {a : Act} {w : World} {ok : Nat → Prop} {ρ : Env} {F : Nat → List Nat}
    (himp : ∀ vs, RepL w ok ρ cs vs → RepL w ok ρ cs' vs) (hi : Inv' E s a w ok ρ F) : Inv' E { tm := s.tm, h := (k, { kind := .box, sz := sz, elems := [.agg cs'] }) :: hdel k s.h } a w ok ρ F := by
  have hp := hput_perm (x := { kind := .box, sz := sz, elems := [.agg cs'] }) hi.heap.keys ho
  have key : Inv' E { tm := s.tm, h := hput k { kind := .box, sz := sz, elems := [.agg cs'] } s.h } a w ok ρ F := by
    refine { hi with heap := ⟨by rw [hput_keys]; exact hi.heap.keys, ?_, ?_, ?_⟩, mine := ?_ }
    · intro p hp
      rcases mem_hput hp with ⟨e1, e2⟩ | ⟨_, hm⟩
      · obtain ⟨pk, po⟩ := p
        simp only at e1 e2; subst e1; subst e2; rcases hi.heap.objs _ (hget_mem ho) with ⟨_, h2, _⟩ | ⟨p, arr, t, vs, fps, h1, h2, h3⟩
        · simp at h2
        · refine .inr ⟨p, arr, t, vs, fps, h1, h2, ⟨h3.sz, ?_, by simpa using h3.len, h3.cap, h3.blk, h3.room, h3.vals, ?_⟩⟩
          · intro z hz
            simp at hz; subst hz; rw [LV.cells_agg, hl]; exact h3.unif (.agg cs) (by simp)
          · obtain ⟨h4, h5⟩ := h3.cells
            refine ⟨h4, ?_⟩; simp only [List.flatMap_cons, List.flatMap_nil, List.append_nil, LV.cells_agg] at h5 ⊢; exact himp _ h5
      · exact hi.heap.objs p hm
    · rw [fpsOf_keys, hput_keys, ← fpsOf_keys]; exact hi.heap.nodup
    · intro b hb
      rw [fpsOf_keys, hput_keys, ← fpsOf_keys] at hb; exact hi.heap.apart b hb
    · intro p hp hro b hb hlt
      rcases mem_hput hp with ⟨e1, e2⟩ | ⟨_, hm⟩
      · obtain ⟨pk, po⟩ := p
        simp only at e1 e2; subst e1; subst e2; exact hi.mine _ (hget_mem ho) rfl b hb hlt
      · exact hi.mine p hm hro b hb hlt
  exact key.perm hp
theorem RepL.set1 {w : World} {ok : Nat → Prop} {ρ : Env} {y z : LV} (hy : ∀ v, Rep w ok ρ y v → Rep w ok ρ z v) : ∀ {cs : List LV} {vs : List Value} {j : Nat}, cs[j]? = some y → RepL w ok ρ cs vs → RepL w ok ρ (cs.set j z) vs
  | _, _, 0, hj, .cons h h1 h2 => by simp at hj; subst hj; exact .cons (hy _ h) h1 h2
  | _, _, j + 1, hj, .cons h h1 h2 => by simp at hj; exact .cons h h1 (RepL.set1 hy hj h2)
theorem Inv.junkX {α : Type} {k j sz : Nat} {f : α → LV} {y : α} {os : List (Nat × LV)} (os' : List (Nat × LV)) {z : LV} (ho : hget k s.h = some (xob sz f y os)) (hj : (ovr (f y).cells os)[j]? = some z) (he : ovr (f y).cells os' = (ovr (f y).cells os).set j .junk)
    {a : Act} {w : World} (hi : Inv E s a w) : Inv E { tm := s.tm, h := (k, xob sz f y os') :: hdel k s.h } a w := by
  obtain ⟨ok, ρ, F, hi⟩ := hi; exact ⟨ok, ρ, F, hi.cellsO (cs' := ovr (f y).cells os') ho (by rw [he, List.length_set]) (fun vs h => by rw [he]; exact h.set1 (fun v _ => .junk v) hj)⟩
theorem LWo.junkX {α : Type} {ops : List Oper} {sz : Nat} {f : α → LV} {y : α} {os : List (Nat × LV)} {z : LV} (k j : Nat) (os' : List (Nat × LV)) (ho : hget k s.h = some (xob sz f y os)) (hj : (ovr (f y).cells os)[j]? = some z) (he : ovr (f y).cells os' = (ovr (f y).cells os).set j .junk)
    (hn : LWo P E all ops Q { tm := s.tm, h := (k, xob sz f y os') :: hdel k s.h }) : LWo P E all ops Q s := LWo.ghost (fun _ _ hi => hi.junkX os' ho hj he) hn
theorem LWP.junkX {α : Type} {c : Code} {sz : Nat} {f : α → LV} {y : α} {os : List (Nat × LV)} {z : LV} (k j : Nat) (os' : List (Nat × LV)) (ho : hget k s.h = some (xob sz f y os)) (hj : (ovr (f y).cells os)[j]? = some z) (he : ovr (f y).cells os' = (ovr (f y).cells os).set j .junk)
    (hn : LWP P E c Q { tm := s.tm, h := (k, xob sz f y os') :: hdel k s.h }) : LWP P E c Q s := LWP.ghost (fun _ _ hi => hi.junkX os' ho hj he) hn
theorem LWo.storeX {α : Type} {T : TypeId} {x v : Operand} {o j n sz : Nat} {f : α → LV} {y : α} {os : List (Nat × LV)} {z : LV} (y' : α) (os' : List (Nat × LV)) (hz : ∀ w, (sizeOf T).run P w = .ok n w) (hx : s.eval x = .ptr o 0 j) (hv : s.eval v = z) (hc : z.cellable = true) (hzn : z.cells.length = n)
    (ho : hget o s.h = some (xob sz f y os)) (hj : Nat.ble (j + n) (ovr (f y).cells os).length = true) (he : ovr (f y').cells os' = setRange (ovr (f y).cells os) j z.cells)
    (hn : LWo P E all rest Q { s with h := (o, xob sz f y' os') :: hdel o s.h }) :
    LWo P E all ({ dst := none, op := .store T x v, type := ty, pos := pos, after := af, guard := none } :: rest) Q s :=
  LWo.store (y := .agg (ovr (f y).cells os)) (.agg (ovr (f y').cells os')) hz hx hv hc hzn ho rfl (.inr rfl) rfl (Nat.le_of_ble_eq_true hj) he hn
theorem Inv'.newNil {k sz : Nat} (hkp : E.keep.contains k = false) (hl : Lift.lone k (hdel k s.h) = true) {a : Act} {w : World} {ok : Nat → Prop} {ρ : Env} {F : Nat → List Nat} (h : Inv' E s a w ok ρ F) :
    Inv' E { tm := kill k s.tm, h := (k, { kind := .fro, sz := sz, elems := [] }) :: hdel k s.h } a w ok (upd ρ k none) (upd F k []) := by
  have h' := h.sub (hdel_sub k s.h); have hne := not_key (hdel_key k s.h); refine { h' with heap := ⟨?_, ?_, ?_, ?_⟩, mine := ?_, slots := ?_, keep := fun j hj => (upd_other ρ _ (show j ≠ k from fun e => by subst e; simp [hj] at hkp)).trans (h.keep j hj) }
  · simp only [hkeys, List.map_cons, List.nodup_cons]
    exact ⟨hdel_key k s.h, h'.heap.keys⟩
  · intro p hp
    rcases List.mem_cons.1 hp with rfl | hp
    · exact .inl ⟨by simp, rfl, by simp⟩
    · show ObjRep _ _ _ p.1 p.2 (upd F k [] p.1)
      rw [upd_other _ _ (hne p hp)]; exact (h'.heap.objs p hp).stable (fun _ _ => rfl) (fun _ hb => hb) (fun _ _ => rfl) (upd_other _ _ (hne p hp)) (fun j hj => upd_other _ _ (fun e => lone_refs hl p hp (e ▸ hj)))
  · have : fpsOf (upd F k []) ((k, ({ kind := .fro, sz := sz, elems := [] } : LObj)) :: hdel k s.h) = fpsOf F (hdel k s.h) := by
      simp only [fpsOf, List.flatMap_cons, upd_same, List.nil_append]; exact fpsOf_congr (fun p hp => upd_other _ _ (hne p hp))
    show (fpsOf (upd F k []) ((k, ({ kind := .fro, sz := sz, elems := [] } : LObj)) :: hdel k s.h)).Nodup; rw [this]; exact h'.heap.nodup
  · intro b hb
    obtain ⟨p, hp, hb⟩ := mem_fpsOf.1 hb; rcases List.mem_cons.1 hp with rfl | hp
    · simp at hb
    · rw [upd_other _ _ (hne p hp)] at hb
      exact h'.heap.apart b (mem_fpsOf.2 ⟨p, hp, hb⟩)
  · intro p hp hro b hb
    rcases List.mem_cons.1 hp with rfl | hp
    · simp at hb
    · rw [upd_other _ _ (hne p hp)] at hb
      exact h'.mine p hp hro b hb
  · intro t'
    refine Rep.stable (fun _ _ => rfl) (fun _ hb => hb) (fun o ho => upd_other _ _ (fun e => kill_refs k t' s.tm (e ▸ ho))) ?_; show Rep w ok ρ (get t' (kill k s.tm)) _; rw [get_kill]
    split
    · exact .junk _
    · exact h.slots t'
theorem hget_other {k j : Nat} {o : LObj} (h : (j == k) = false) {hp : LHeap} : hget k ((j, o) :: hdel j hp) = hget k hp := by
  have : j ≠ k := by simpa using h
  simp only [hget]; rw [if_neg this, hget_del (fun e => this e.symm)]
theorem Inv.nilX {α : Type} {o k j sz sz' : Nat} {f : α → LV} {y : α} {os : List (Nat × LV)} (os' : List (Nat × LV)) (hkp : E.keep.contains k = false) (hne : (k == o) = false) (ho : hget o s.h = some (xob sz f y os)) (hj : (ovr (f y).cells os)[j]? = some (.imm (.slice none 0 0)))
    (he : ovr (f y).cells os' = (ovr (f y).cells os).set j (.own k 0 0)) (hl : Lift.lone k (hdel k s.h) = true) {a : Act} {w : World} (hi : Inv E s a w) :
    Inv E { tm := kill k s.tm, h := (o, xob sz f y os') :: (k, { kind := .fro, sz := sz', elems := [] }) :: hdel o (hdel k s.h) } a w := by
  obtain ⟨ok, ρ, F, hi⟩ := hi; have h1 := hi.newNil (sz := sz') hkp hl
  have h2 := h1.cellsO (k := o) (cs' := ovr (f y).cells os') (sz := sz) (cs := ovr (f y).cells os) ((hget_other hne).trans ho) (by rw [he, List.length_set]) (fun vs h => by
    rw [he]; exact h.set1 (fun v hv => by rw [hv.imm_inv]; exact .own0) hj)
  have e : hdel o ((k, ({ kind := .fro, sz := sz', elems := [] } : LObj)) :: hdel k s.h) = (k, { kind := .fro, sz := sz', elems := [] }) :: hdel o (hdel k s.h) := by
    simp only [hdel]; rw [if_neg (by simpa using hne)]
  rw [e] at h2; exact ⟨_, _, _, h2⟩
theorem LWo.nilX {α : Type} {ops : List Oper} {sz : Nat} {f : α → LV} {y : α} {os : List (Nat × LV)} (o k j sz' : Nat) (os' : List (Nat × LV)) (ho : hget o s.h = some (xob sz f y os)) (hj : (ovr (f y).cells os)[j]? = some (.imm (.slice none 0 0)))
    (he : ovr (f y).cells os' = (ovr (f y).cells os).set j (.own k 0 0)) (hl : Lift.lone k (hdel k s.h) = true) (hne : (k == o) = false := by exact rfl) (hkp : E.keep.contains k = false := by exact rfl)
    (hn : LWo P E all ops Q { tm := kill k s.tm, h := (o, xob sz f y os') :: (k, { kind := .fro, sz := sz', elems := [] }) :: hdel o (hdel k s.h) }) : LWo P E all ops Q s := LWo.ghost (fun _ _ hi => hi.nilX os' hkp hne ho hj he hl) hn
theorem LWo.weakX {α : Type} {ops : List Oper} {sz : Nat} {f : α → LV} {y : α} {os : List (Nat × LV)} (o j sz' : Nat) (os' : List (Nat × LV)) (ho : hget o s.h = some (xob sz f y os)) (hj : (ovr (f y).cells os)[j]? = some (.imm (.slice none 0 0)))
    (he : ovr (f y).cells os' = (ovr (f y).cells os).set j (.sl sz' [])) (hn : LWo P E all ops Q { tm := s.tm, h := (o, xob sz f y os') :: hdel o s.h }) : LWo P E all ops Q s := LWo.ghost (fun _ _ hi => by
    obtain ⟨ok, ρ, F, hi⟩ := hi; exact ⟨ok, ρ, F, hi.cellsO (cs' := ovr (f y).cells os') ho (by rw [he, List.length_set]) (fun vs h => by rw [he]; exact h.set1 (fun v hv => by rw [hv.imm_inv]; exact .fro (.sl0 (by decide))) hj)⟩) hn
theorem Inv.frzX {α β : Type} {o k j n sz sz' : Nat} {ts : List Nat} {f : α → LV} {g : β → LV} {l : List β} {y : α} {os : List (Nat × LV)} (y' : α) (os' : List (Nat × LV)) (hne : (k == o) = false) (ho : hget o s.h = some (xob sz f y os)) (hk : hget k s.h = some (lob sz' g l)) (hnl : n = l.length)
    (hj : (ovr (f y).cells os)[j]? = some (.own k 0 n)) (he : ovr (f y').cells os' = (ovr (f y).cells os).set j (.sl sz' (l.map g))) (hg : OwnAt s.tm k n ts) {a : Act} {w : World} (hi : Inv E s a w) :
    Inv E { tm := slT (.sl sz' (l.map g)) (kill k s.tm) ts, h := (o, xob sz f y' os') :: hdel o (hdel k s.h) } a w := by
  obtain ⟨ok, ρ, F, hi⟩ := hi; have h1 := hi.freeze hk (.inl rfl) rfl; have hle : n ≤ (lob sz' g l).elems.length := by simp [lob, hnl]
  have etk : ((lob sz' g l).elems.drop 0).take n = l.map g := by simp [lob, hnl, List.take_of_length_le]
  have h2 := h1.cellsO (k := o) (cs' := ovr (f y').cells os') (sz := sz) (cs := ovr (f y).cells os) (show hget o (hdel k s.h) = _ from (hget_del (fun e => by simp [e] at hne) _).trans ho) (by rw [he, List.length_set]) (fun vs h => by
    rw [he]; refine h.set1 (fun v hv => ?_) hj
    have hv' : Rep w ok ρ (.own k 0 n) v := by
      rcases hv.own_inv with ⟨p, c, hp, h3, h4, rfl⟩ | ⟨h0, A, rfl⟩
      · exact .own hp h3 h4
      · rw [h0]; exact .own0
    have := Rep.view (ok' := fun b => ok b ∨ b ∈ F k) hi hk (.inl rfl) (by simpa using hle) (fun _ hb => .inl hb) (fun _ hb => .inr hb) hv'; rw [etk] at this; exact .fro this)
  refine ⟨_, _, _, { h2 with slots := fun j => ?_ }⟩; have hj := h2.slots j; have e : get j (freezeTm k (lob sz' g l) s.tm) = (get j s.tm).freeze k (lob sz' g l) := get_freeze k j _ s.tm; have hj' : Rep w (fun b => ok b ∨ b ∈ F k) ρ ((get j s.tm).freeze k (lob sz' g l)) (a.tmps.getD j undef) := e ▸ hj; show Rep w _ ρ (get j (slT _ (kill k s.tm) ts)) _; rw [get_slT]
  split
  · rename_i hm
    rw [hg.mem hm] at hj'; simp only [LV.freeze, if_true] at hj'; rw [if_pos (by simpa using hle), etk] at hj'; exact hj'
  · rw [get_kill]
    split
    · exact .junk _
    · rename_i hat
      have : (get j s.tm).freeze k (lob sz' g l) = get j s.tm := by
        have hat' : (get j s.tm).at? k = false := by simpa using hat
        unfold LV.freeze
        split
        · rename_i o off' n' e3
          rw [e3] at hat'; have : o ≠ k := by simpa [LV.at?] using hat'
          rw [if_neg this]
        · rw [hat']; rfl
      rwa [this] at hj'
theorem LWo.frzX {α β : Type} {ops : List Oper} {n sz sz' : Nat} {f : α → LV} {g : β → LV} {l : List β} {y : α} {os : List (Nat × LV)} (ts : List Nat) (o k j : Nat) (y' : α) (os' : List (Nat × LV)) (ho : hget o s.h = some (xob sz f y os)) (hk : hget k s.h = some (lob sz' g l)) (hnl : n = l.length)
    (hj : (ovr (f y).cells os)[j]? = some (.own k 0 n)) (he : ovr (f y').cells os' = (ovr (f y).cells os).set j (.sl sz' (l.map g))) (hg : OwnAt s.tm k n ts) (hne : (k == o) = false := by exact rfl)
    (hn : LWo P E all ops Q { tm := slT (.sl sz' (l.map g)) (kill k s.tm) ts, h := (o, xob sz f y' os') :: hdel o (hdel k s.h) }) : LWo P E all ops Q s := LWo.ghost (fun _ _ hi => hi.frzX y' os' hne ho hk hnl hj he hg) hn
theorem LWP.frzX {α β : Type} {c : Code} {n sz sz' : Nat} {f : α → LV} {g : β → LV} {l : List β} {y : α} {os : List (Nat × LV)} (ts : List Nat) (o k j : Nat) (y' : α) (os' : List (Nat × LV)) (ho : hget o s.h = some (xob sz f y os)) (hk : hget k s.h = some (lob sz' g l)) (hnl : n = l.length)
    (hj : (ovr (f y).cells os)[j]? = some (.own k 0 n)) (he : ovr (f y').cells os' = (ovr (f y).cells os).set j (.sl sz' (l.map g))) (hg : OwnAt s.tm k n ts) (hne : (k == o) = false := by exact rfl)
    (hn : LWP P E c Q { tm := slT (.sl sz' (l.map g)) (kill k s.tm) ts, h := (o, xob sz f y' os') :: hdel o (hdel k s.h) }) : LWP P E c Q s := LWP.ghost (fun _ _ hi => hi.frzX y' os' hne ho hk hnl hj he hg) hn
theorem LWo.allocX {α : Type} {T : TypeId} {z : Value} {zs : List Value} {sz : Nat} {f : α → LV} {y : α} (os : List (Nat × LV)) (k : Nat) (hz : ∀ w, (zeroValue T).run P w = .ok z w) (hzs : z = .agg zs.toArray) (h1 : zs.all Value.oneCell' = true) (hlen : zs.length = sz) (hy : ovr (f y).cells os = zs.map LV.imm) (hl : lone k (hdel k s.h) = true) (hkp : E.keep.contains k = false := by exact rfl) (hd : Nat.blt d E.n = true := by exact rfl)
    (hn : LWo P E all rest Q { tm := (d, .ptr k 0 0) :: kill k s.tm, h := (k, xob sz f y os) :: hdel k s.h }) :
    LWo P E all ({ dst := some d, op := .alloc T, type := ty, pos := pos, after := af, guard := none } :: rest) Q s :=
  LWo.alloc k (.agg (zs.map LV.imm)) hz (.inl ⟨zs, hzs, rfl, by simpa using h1⟩) hkp hl hd (by
    have e : xob sz f y os = { kind := .box, sz := (LV.agg (zs.map LV.imm)).cells.length, elems := [.agg (zs.map LV.imm)] } := by
      unfold xob; rw [hy, LV.cells_agg, List.length_map, hlen]
    rw [← e]; exact hn)
end
end Go.Lift
/- The lifted logic, part 42: a list of one's own lent at any place, and a tuple that comes back. Own work. -/
namespace Go.Lift
open Go.RowKit
section
variable {P : Program} {E : Ent} {Q : Exit → LState → Prop} {s : LState} {all : Array Oper} {rest : List Oper} {d : Nat} {ty : TypeId} {pos : String} {af : Array Edge}
end
end Go.Lift
/- The lifted logic, part 43: arguments of any type, as values that are read. Own work. -/
namespace Go.Lift
open Go.RowKit Go.ChangeShapes Go.WideShapes
def okB (W : World) : Nat → Prop := fun k => k < W.heap.size
structure Opn (P : Program) (T : TypeId) (n : Nat) {α : Type} (e : α → LV) (B : α → Prop) : Prop where
  size : P.cellsOf T = n
  len : ∀ x, (e x).cells.length = n
  read : ∀ {H : Type} (enc : TypeId × Value → H) (W : World) (fuel : Nat) (cs : List Value) (x : DataW H × List MemPlace), DataW.trod enc P W 0 (fun _ => true) true fuel T cs = some x → ∃ a, B a ∧ FroL W (okB W) (e a).cells cs
def B_int (n : Int) : Prop := -9223372036854775808 ≤ n ∧ n ≤ 9223372036854775807
def B_bool (b : Bool) : Prop := True
def B_string (b : ByteArray) : Prop := b.size ≤ maxLen
def B_list {α : Type} (B : α → Prop) (l : List α) : Prop := l.length ≤ maxLen ∧ ∀ x ∈ l, B x
structure OpnF (P : Program) (fs : List Field) (off tot : Nat) {α : Type} (e : α → List LV) (B : α → Prop) : Prop where
  len : ∀ x, off + (e x).length = tot
  read : ∀ {H : Type} (enc : TypeId × Value → H) (W : World) (fuel : Nat) (cs : List Value), cs.length = tot → (∀ (i : Nat) (f : Field), fs[i]? = some f → ∃ y, DataW.trod enc P W 0 (fun _ => true) true fuel f.type ((cs.drop f.offset).take (P.cellsOf f.type)) = some y) → ∃ a, B a ∧ FroL W (okB W) (e a) (cs.drop off)
theorem Opn.one {P : Program} {T : TypeId} {α : Type} {e : α → LV} {B : α → Prop} (h : Opn P T 1 e B) (he : ∀ a, (e a).cells = [e a]) {H : Type} {enc : TypeId × Value → H} {W : World} {v : Value} {d : DataW H} {p : List MemPlace} (hd : DataW.Trod enc P W 0 (fun _ => true) true T v d p) (hv : v.cells.toList = [v]) : ∃ a, B a ∧ Fro W (okB W) (e a) v := by
  obtain ⟨fuel, hf⟩ := hd; rw [hv] at hf; obtain ⟨a, ha, h1⟩ := h.read enc W fuel _ _ hf; rw [he a] at h1; cases h1 with
  | cons h2 _ _ => exact ⟨a, ha, h2⟩
theorem Opn.agg {P : Program} {T : TypeId} {n : Nat} {α : Type} {e : α → LV} {B : α → Prop} (h : Opn P T n e B) (he : ∀ a, e a = .agg (e a).cells) {H : Type} {enc : TypeId × Value → H} {W : World} {cs : Array Value} {d : DataW H} {p : List MemPlace} (hd : DataW.Trod enc P W 0 (fun _ => true) true T (.agg cs) d p) : ∃ a, B a ∧ Fro W (okB W) (e a) (.agg cs) := by
  obtain ⟨fuel, hf⟩ := hd; have e1 : (Value.agg cs).cells.toList = cs.toList := rfl; rw [e1] at hf; obtain ⟨a, ha, h1⟩ := h.read enc W fuel _ _ hf; refine ⟨a, ha, ?_⟩; rw [he a]; have := Fro.agg h1; simpa using this
end Go.Lift
/- The lifted logic, part 45: calls that read lists of one's own and hand back a list of flat elements. Own work. -/
namespace Go.Lift
open Go.RowKit
section
variable {P : Program} {E : Ent} {Q : Exit → LState → Prop} {s : LState} {all : Array Oper} {rest : List Oper} {d : Nat} {ty : TypeId} {pos : String} {af : Array Edge}
end
end Go.Lift
/- The lifted logic, part 46: lists that are owned with all that they lead to: what goes into them. Own work. -/
namespace Go.Lift
open Go.RowKit
theorem DeepL.cut {w : World} : ∀ {xs : List LV} {vs : List Value} {f : List Nat} (n : Nat), DeepL w xs vs f → ∃ fA fC, f = fA ++ fC ∧ DeepL w (xs.take n) (vs.take n) fA ∧ DeepL w (xs.drop n) (vs.drop n) fC
  | _, _, _, 0, h => ⟨[], _, rfl, by simpa using DeepL.nil, by simpa using h⟩
  | _, _, _, n + 1, .nil => ⟨[], [], rfl, by simpa using DeepL.nil, by simpa using DeepL.nil⟩
  | _, _, _, n + 1, .cons (f := f) h h1 h2 => by
    obtain ⟨fA, fC, rfl, hA, hC⟩ := DeepL.cut n h2; exact ⟨f ++ fA, fC, by rw [List.append_assoc], by simpa using DeepL.cons h h1 hA, by simpa using hC⟩
theorem DeepL.put {w : World} {xs ys : List LV} {vs us : List Value} {f g : List Nat} (h : DeepL w xs vs f) (q : Nat) (hy : DeepL w ys us g) : ∃ fA fB fC, f = fA ++ (fB ++ fC) ∧ DeepL w (setRange xs q ys) (vs.take q ++ us ++ vs.drop (q + ys.length)) (fA ++ g ++ fC) := by
  obtain ⟨fA, fR, rfl, hA, hR⟩ := h.cut q; obtain ⟨fB, fC, rfl, hB, hC⟩ := hR.cut ys.length; refine ⟨fA, fB, fC, rfl, ?_⟩; rw [List.drop_drop, List.drop_drop] at hC; exact (hA.append hy).append hC
theorem Deep.one {w : World} {x : LV} {v : Value} {f : List Nat} (h : Deep w x v f) (hx : ∃ sz xs, x = .sl sz xs) : v.oneCell' = true := by
  obtain ⟨sz, xs, rfl⟩ := hx; cases h <;> rfl
section
variable {P : Program} {E : Ent} {Q : Exit → LState → Prop} {s : LState} {all : Array Oper} {rest : List Oper} {d : Nat} {ty : TypeId} {pos : String} {af : Array Edge}
end
end Go.Lift
/- The lifted logic, part 47: lists that own: what is taken out and put back, what is made of lists of one's own. Own work. -/
namespace Go.Lift
open Go.RowKit
theorem DCells.append {w : World} {ρ : Env} {xs ys : List LV} {vs us : List Value} {f g : List Nat} (h : DCells w ρ xs vs f) (k : DCells w ρ ys us g) : DCells w ρ (xs ++ ys) (vs ++ us) (f ++ g) := by
  induction h with
  | nil => exact k
  | deep h h1 _ ih => rw [List.append_assoc]; exact .deep h h1 ih
  | own h h1 h2 _ ih => exact .own h h1 h2 ih
  | own0 _ ih => exact .own0 ih
theorem DCells.cut {w : World} {ρ : Env} {xs : List LV} {vs : List Value} {f : List Nat} (h : DCells w ρ xs vs f) : ∀ n : Nat, ∃ fA fC, f = fA ++ fC ∧ DCells w ρ (xs.take n) (vs.take n) fA ∧ DCells w ρ (xs.drop n) (vs.drop n) fC := by
  induction h with
  | nil => intro n; exact ⟨[], [], rfl, by simpa using DCells.nil, by simpa using DCells.nil⟩
  | @deep x v xs vs f g h h1 h2 ih =>
    intro n; cases n with
    | zero => exact ⟨[], _, rfl, by simpa using DCells.nil, by simpa using DCells.deep h h1 h2⟩
    | succ n =>
      obtain ⟨fA, fC, rfl, hA, hC⟩ := ih n; exact ⟨f ++ fA, fC, by rw [List.append_assoc], by simpa using DCells.deep h h1 hA, by simpa using hC⟩
  | own h h1 h2 h3 ih =>
    intro n; cases n with
    | zero => exact ⟨[], _, rfl, by simpa using DCells.nil, by simpa using DCells.own h h1 h2 h3⟩
    | succ n =>
      obtain ⟨fA, fC, rfl, hA, hC⟩ := ih n; exact ⟨fA, fC, rfl, by simpa using DCells.own h h1 h2 hA, by simpa using hC⟩
  | own0 h3 ih =>
    intro n; cases n with
    | zero => exact ⟨[], _, rfl, by simpa using DCells.nil, by simpa using DCells.own0 h3⟩
    | succ n =>
      obtain ⟨fA, fC, rfl, hA, hC⟩ := ih n; exact ⟨fA, fC, rfl, by simpa using DCells.own0 hA, by simpa using hC⟩
section
variable {P : Program} {E : Ent} {Q : Exit → LState → Prop} {s : LState} {all : Array Oper} {rest : List Oper} {d : Nat} {ty : TypeId} {pos : String} {af : Array Edge}
theorem settle_at {a : Act} {w : World} {ok : Nat → Prop} {ρ : Env} {F : Nat → List Nat} (hi : Inv' E s a w ok ρ F) (k : Nat) (hkp : E.keep.contains k = false) (hl : Lift.lone k (hdel k s.h) = true) {fr : List Nat} (hn : fr.Nodup)
    (hb : ∀ b ∈ fr, ¬ ok b ∧ b < w.heap.size ∧ b ∉ fpsOf F s.h ∧ (b < E.w0.heap.size → b ∈ E.lent)) (pl : Option Place) (obj : LObj) (ho : ObjRep w ok (upd ρ k pl) k obj fr) :
    Inv' E { tm := kill k s.tm, h := (k, obj) :: hdel k s.h } a w ok (upd ρ k pl) (upd F k fr) := by
  have h' := hi.sub (hdel_sub k s.h); have hne := not_key (hdel_key k s.h); have hF : ∀ p ∈ hdel k s.h, upd F k fr p.1 = F p.1 := fun p hp => upd_other _ _ (hne p hp)
  have hfps : fpsOf (upd F k fr) ((k, obj) :: hdel k s.h) = fr ++ fpsOf F (hdel k s.h) := by
    have e := fpsOf_congr hF; simp only [fpsOf, List.flatMap_cons, upd_same] at e ⊢; rw [e]
  have hdis : ∀ b ∈ fr, b ∉ fpsOf F (hdel k s.h) := fun b hb' hm => (hb b hb').2.2.1 ((fpsOf_sub (hdel_sub k s.h)).mem hm); refine { h' with heap := ⟨?_, ?_, ?_, ?_⟩, mine := ?_, slots := ?_, keep := fun j hj => (upd_other ρ _ (show j ≠ k from fun e => by subst e; simp [hj] at hkp)).trans (hi.keep j hj) }
  · simp only [hkeys, List.map_cons, List.nodup_cons]
    exact ⟨hdel_key k s.h, h'.heap.keys⟩
  · intro p hp
    rcases List.mem_cons.1 hp with rfl | hp
    · simpa using ho
    · rw [hF p hp]
      exact (h'.heap.objs p hp).stable (fun _ _ => rfl) (fun _ hb => hb) (fun _ _ => rfl) (upd_other _ _ (hne p hp)) (fun j hj => upd_other _ _ (fun e => lone_refs hl p hp (e ▸ hj)))
  · show (fpsOf (upd F k fr) _).Nodup
    rw [hfps, List.nodup_append]; exact ⟨hn, h'.heap.nodup, fun b h1 c h2 e => hdis b h1 (e ▸ h2)⟩
  · intro b hb'
    rw [show ({ tm := kill k s.tm, h := (k, obj) :: hdel k s.h } : LState).h = (k, obj) :: hdel k s.h from rfl, hfps] at hb'; rcases List.mem_append.1 hb' with h1 | h1
    · exact ⟨(hb b h1).1, (hb b h1).2.1⟩
    · exact h'.heap.apart b h1
  · intro p hp hro b hb' hlt
    rcases List.mem_cons.1 hp with rfl | hp
    · rw [upd_same] at hb'; exact (hb b hb').2.2.2 hlt
    · rw [hF p hp] at hb'
      exact h'.mine p hp hro b hb' hlt
  · intro t
    show Rep w ok _ (get t (kill k s.tm)) _; refine Rep.stable (w := w) (ρ := ρ) (fun _ _ => rfl) (fun _ hb => hb) (fun o ho => upd_other _ _ (fun e => kill_refs k t s.tm (e ▸ ho))) ?_; rw [get_kill]
    split
    · exact .junk _
    · exact hi.slots t
end
end Go.Lift
/- The lifted logic, part 48: appending to lists that own. Own work. -/
namespace Go.Lift
open Go.RowKit
section
variable {P : Program} {E : Ent} {Q : Exit → LState → Prop} {s : LState} {all : Array Oper} {rest : List Oper} {d : Nat} {ty : TypeId} {pos : String} {af : Array Edge}
theorem Inv'.alloc {a : Act} {w : World} {ok : Nat → Prop} {ρ : Env} {F : Nat → List Nat} (h : Inv' E s a w ok ρ F) (o : Obj) : Inv' E s a (w.alloc o) ok ρ F := by
  have hob : ∀ b, ok b → (w.alloc o).heap[b]? = w.heap[b]? := fun b hb => heap_alloc_lt w _ b (h.okk b hb).1; refine { defers := h.defers, size := h.size, ext := h.ext.alloc _, okk := fun b hb => ⟨by simp; have := (h.okk b hb).1; omega, (h.okk b hb).2⟩, heap := ⟨h.heap.keys, ?_, h.heap.nodup, ?_⟩, mine := h.mine, slots := ?_, keep := h.keep }
  · intro p hp
    exact (h.heap.objs p hp).stable hob (fun _ hb => hb) (fun b hb => heap_alloc_lt w _ b (h.heap.apart b (mem_fpsOf.2 ⟨p, hp, hb⟩)).2) rfl (fun _ _ => rfl)
  · intro b hb
    have := h.heap.apart b hb; exact ⟨this.1, by simp; omega⟩
  · intro t
    exact (h.slots t).stable hob (fun _ hb => hb) (fun _ _ => rfl)
end
end Go.Lift
/- The lifted logic, part 49: lists that own, as mirrors tell them. Own work. -/
namespace Go.Lift
open Go.RowKit
section
variable {P : Program} {E : Ent} {Q : Exit → LState → Prop} {s : LState} {all : Array Oper} {rest : List Oper} {d : Nat} {ty : TypeId} {pos : String} {af : Array Edge}
theorem SinkL.rep {h : LHeap} {cs ds : List LV} (hs : SinkL h cs ds []) : ∀ n : Nat, SinkL h (List.replicate n cs).flatten (List.replicate n ds).flatten []
  | 0 => .nil
  | n + 1 => by
    rw [List.replicate_succ, List.flatten_cons, List.replicate_succ, List.flatten_cons]
    have app : ∀ {a b c e : List LV} {k k' : List Nat}, SinkL h a b k → SinkL h c e k' → SinkL h (a ++ c) (b ++ e) (k ++ k') := by
      intro a
      induction a with
      | nil => intro b c e k k' h1 h2; cases h1; exact h2
      | cons x a ih =>
        intro b c e k k' h1 h2; cases h1 with
        | cons g1 g2 => rw [List.append_assoc]; exact .cons g1 (ih g2 h2)
    exact app hs (SinkL.rep hs n)
end
section
variable {P : Program}
end
end Go.Lift
/- The lifted logic, part 50: calls that take a list that owns, and hand one back. Own work. -/
namespace Go.Lift
open Go.RowKit
section
variable {P : Program} {E : Ent} {Q : Exit → LState → Prop} {s : LState} {all : Array Oper} {rest : List Oper} {d : Nat} {ty : TypeId} {pos : String} {af : Array Edge}
end
end Go.Lift
/- The lifted logic, part 51: structs that own, handed back. Own work. -/
namespace Go.Lift
open Go.RowKit
theorem DeepL.imms {w : World} {ok : Nat → Prop} : ∀ {xs : List LV} {us : List Value} {g : List Nat}, immL xs = true → DeepL w xs us g → g = [] ∧ FroL w ok xs us
  | [], _, _, _, .nil => ⟨rfl, .nil⟩
  | x :: xs, _, _, h1, .cons h3 h4 h5 => by
    cases x <;> simp [immL, LV.noFro.immL] at h1; cases h3; obtain ⟨rfl, h6⟩ := DeepL.imms (ok := ok) h1 h5; exact ⟨rfl, .cons (.imm _) h4 h6⟩
theorem Deep.sl_inv {w : World} {sz : Nat} {zs : List LV} {v : Value} {f : List Nat} (h : Deep w (.sl sz zs) v f) : (zs = [] ∧ f = [] ∧ ∃ a, v = .slice a 0 0) ∨
    ∃ c B vs arr t fps, f = B :: fps ∧ v = .slice (some ⟨B, 0, none⟩) zs.length c ∧ (∀ x ∈ zs, x.cells.length = sz) ∧ DeepL w (zs.flatMap LV.cells) vs fps ∧ w.heap[B]? = some (.cells arr t (0, 0)) ∧ c * sz ≤ arr.size ∧ (∀ (k : Nat) (v : Value), vs[k]? = some v → arr[k]? = some v) ∧ zs.length ≤ c ∧ c ≤ maxLen := by
  cases h with
  | sl0 => exact .inl ⟨rfl, rfl, _, rfl⟩
  | sl h1 h2 h3 h4 h5 h6 h7 => exact .inr ⟨_, _, _, _, _, _, rfl, rfl, h1, h2, h3, h4, h5, h6, h7⟩
section
variable {P : Program} {E : Ent} {Q : Exit → LState → Prop} {s : LState} {all : Array Oper} {rest : List Oper} {d : Nat} {ty : TypeId} {pos : String} {af : Array Edge}
theorem LWo.callS {f : Operand} {ops : List Operand} {ts : Array TypeId} {dst : Option Nat} {g : FuncId} {caps vals xs : List LV} {hl : LHeap} {vw : List Nat} {Post : LV → LHeap → Prop} (hf : s.eval f = .clo g caps) (hv : ops.map s.eval ++ caps = vals)
    (hfn : Does P g xs hl Post) (hA : ArgsOK s hl vals xs vw) (hL : LentOK s hl)
    (hn : ∀ r hl', Post r hl' → (vw = [] ∨ (hl' = [] ∧ r.noFro = true)) ∧ ∃ s', (∀ (a : Act) (w : World) (ok : Nat → Prop) (ρ : Env) (F : Nat → List Nat) (v : Value) (fr : List Nat), Inv' E { tm := s.tm, h := hl' ++ hdels (hkeys (rwOf hl)) s.h } a w ok ρ F → Res w ok r v fr → fr.Nodup →
      (∀ b ∈ fr, ¬ ok b ∧ b < w.heap.size ∧ b ∉ fpsOf F (hl' ++ hdels (hkeys (rwOf hl)) s.h) ∧ (b < E.w0.heap.size → b ∈ E.lent)) → Inv E s' (a.put dst v) w) ∧ LWo P E all rest Q s') :
    LWo P E all ({ dst := dst, op := .call { callee := .value f, args := ops.toArray, argTypes := ts }, type := ty, pos := pos, after := af, guard := none } :: rest) Q s := by
  intro a w ⟨ok, ρ, F, hi⟩; refine wpList_plain rfl fun K hK => ?_; have hF := hi.eval f; rw [hf] at hF; obtain ⟨cv, hfv, hcr⟩ := hF.clo_inv
  have hT : RepT w ok ρ vals (ops.map a.eval ++ cv) := by
    rw [← hv]
    have app : ∀ {xs ys : List LV} {vs us : List Value}, RepT w ok ρ xs vs → RepL w ok ρ ys us → RepT w ok ρ (xs ++ ys) (vs ++ us) := by
      intro xs
      induction xs with
      | nil =>
        intro ys vs us h k; cases h; exact k.toT
      | cons x xs ih => intro ys vs us h k; cases h with | cons h1 h2 => exact .cons h1 (ih h2 k)
    exact app (evalL ops hi) hcr
  have hrun : (execOp a.eval { dst := dst, op := .call { callee := .value f, args := ops.toArray, argTypes := ts }, type := ty, pos := pos, after := af, guard := none }).run P w = .ok (.enter g (ops.map a.eval ++ cv).toArray) w := by
    have he := hfn.1 (ops.map a.eval ++ cv).toArray w; simp only [execOp, resolve, hfv, Deferred.ofValue]; simp [invoke]; simpa using he
  unfold Oper.wp; rw [hrun]; show Calls P g _ w _; have hviews := hA.views
  have hkeyL : ∀ k ∈ hkeys hl, k ∈ hkeys s.h := fun k hk => by
    obtain ⟨o, ho⟩ : ∃ o, (k, o) ∈ hl := by simpa [hkeys] using hk
    obtain ⟨z, hz, _⟩ := hL.here _ ho; have := hget_mem hz; simp [hkeys]; exact ⟨z, this⟩
  have hHeap : HeapOK w (fun b => ok b ∨ ∃ o ∈ vw, b ∈ F o) ρ F hl := by
    refine ⟨hL.keys, ?_, ?_, ?_⟩
    · intro p hp
      obtain ⟨o, ho, ho'⟩ := hL.here p hp; have hob := hi.heap.objs _ (hget_mem ho)
      have hob' : ObjRep w ok ρ p.1 p.2 (F p.1) := by
        rcases ho' with e | e
        · rw [e]; exact hob
        · rw [e]; exact hob.ro true
      exact hob'.stable (fun _ _ => rfl) (fun _ hb => .inl hb) (fun _ _ => rfl) rfl (fun _ _ => rfl)
    · rw [fpsOf_keys]
      exact nodup_keys hi.heap.keys hi.heap.nodup hL.keys hkeyL
    · intro b hb
      rw [fpsOf_keys] at hb; obtain ⟨j, hj, hb⟩ := List.mem_flatMap.1 hb; obtain ⟨o, ho⟩ : ∃ o, (j, o) ∈ s.h := by simpa [hkeys] using hkeyL j hj
      have := hi.heap.apart b (mem_fpsOf.2 ⟨_, ho, hb⟩); refine ⟨?_, this.2⟩; rintro (h1 | ⟨o', ho', h1⟩)
      · exact this.1 h1
      · obtain ⟨hn1, obj', hm'⟩ := hviews o' ho'
        exact nodup_apart hi.heap.keys hi.heap.nodup ho hm' (fun e => hn1 (by have e' : j = o' := e; rw [← e']; exact hj)) b hb h1
  have hokc : ∀ b, (ok b ∨ ∃ o ∈ vw, b ∈ F o) → b < w.heap.size := by
    rintro b (h | ⟨o, ho, h⟩)
    · exact (hi.okk b h).1
    · obtain ⟨_, obj', hm'⟩ := hviews o ho
      exact (hi.heap.apart b (mem_fpsOf.2 ⟨_, hm', h⟩)).2
  refine (hfn.2 w _ (fun b => ok b ∨ ∃ o ∈ vw, b ∈ F o) ρ F (hA.rep hi (fun _ hb => .inl hb) (fun o ho b hb => .inr ⟨o, ho, hb⟩) hT) hHeap hokc).mono ?_; rintro e w' ⟨v, r, hl', ok', F', fr, rfl, hpost, hext, hres, hk1, ho1, hn1, hb1, hok1⟩; obtain ⟨hvw, s', hset, hrest⟩ := hn r hl' hpost; obtain ⟨okn, Does', hI, hR, hnd, hbf⟩ := call_base hi hL hviews hvw hext hres hk1 ho1 hn1 hb1 hok1; exact hK _ _ (hrest _ _ (hset _ _ _ _ _ _ _ hI hR hnd hbf))
end
end Go.Lift
/- The lifted logic, part 52: calls that hand back a list that owns, and a value. Own work. -/
namespace Go.Lift
open Go.RowKit
section
variable {P : Program} {E : Ent} {Q : Exit → LState → Prop} {s : LState} {all : Array Oper} {rest : List Oper} {d : Nat} {ty : TypeId} {pos : String} {af : Array Edge}
end
end Go.Lift
/- The lifted logic, part 53: structs that own several lists, handed back. Own work. -/
namespace Go.Lift
open Go.RowKit
inductive Outs : List LV → List LV → LHeap → Prop
  | nil : Outs [] [] []
  | imm {v : Value} {xs ys : List LV} {os : LHeap} : Outs xs ys os → Outs (.imm v :: xs) (.imm v :: ys) os
  | sl {k sz n : Nat} {kd : Kind} {zs xs ys : List LV} {os : LHeap} : (kd = .deep ∨ kd = .fro ∧ immL (zs.flatMap LV.cells) = true) → n = zs.length → Outs xs ys os → Outs (.sl sz zs :: xs) (.own k 0 n :: ys) ((k, { kind := kd, sz := sz, elems := zs }) :: os)
def killS : LHeap → Tm → Tm
  | [], t => t
  | (k, _) :: os, t => kill k (killS os t)
def addS : LHeap → LHeap → LHeap
  | [], h => h
  | (k, o) :: os, h => (k, o) :: hdel k (addS os h)
def loneS : LHeap → LHeap → Bool
  | [], _ => true
  | (k, _) :: os, h => lone k (hdel k (addS os h)) && (!(hkeys os).contains k && loneS os h)
theorem Outs.refs {xs ys : List LV} {os : LHeap} (h : Outs xs ys os) : LV.refs.refsL ys = hkeys os := by
  induction h with
  | nil => rfl
  | imm _ ih => simpa [LV.refs.refsL, LV.refs] using ih
  | sl _ _ _ ih => simp [LV.refs.refsL, LV.refs, hkeys] at ih ⊢; exact ih
section
variable {P : Program} {E : Ent} {Q : Exit → LState → Prop} {s : LState} {all : Array Oper} {rest : List Oper} {d : Nat} {ty : TypeId} {pos : String} {af : Array Edge}
theorem Outs.run {a : Act} {w : World} {ok : Nat → Prop} {ρ : Env} {F : Nat → List Nat} (hi : Inv' E s a w ok ρ F) {cs ys : List LV} {os : LHeap} (ho : Outs cs ys os) : ∀ {vs : List Value} {fr : List Nat}, DeepL w cs vs fr → fr.Nodup →
    (∀ b ∈ fr, ¬ ok b ∧ b < w.heap.size ∧ b ∉ fpsOf F s.h ∧ (b < E.w0.heap.size → b ∈ E.lent)) → loneS os s.h = true → (∀ k ∈ hkeys os, E.keep.contains k = false) →
    ∃ ρ' F', Inv' E { tm := killS os s.tm, h := addS os s.h } a w ok ρ' F' ∧ RepL w ok ρ' ys vs ∧ ∀ b ∈ fpsOf F' (addS os s.h), b ∈ fr ∨ b ∈ fpsOf F s.h := by
  induction ho with
  | nil =>
    intro vs fr hD _ _ _ _; cases hD; exact ⟨ρ, F, hi, .nil, fun b hb => .inr hb⟩
  | imm _ ih =>
    intro vs fr hD hn hb hl hk; cases hD with
    | cons h1 h2 h3 =>
      cases h1; obtain ⟨ρ', F', g1, g2, g3⟩ := ih h3 hn hb hl hk; exact ⟨ρ', F', g1, .cons (.fro (.imm _)) h2 g2, g3⟩
  | @sl k sz n kd zs xs ys os hkd hnz hO ih =>
    intro vs fr hD hn hb hl hk; subst hnz; unfold loneS at hl; rw [Bool.and_eq_true, Bool.and_eq_true] at hl; obtain ⟨hl1, hl2, hl3⟩ := hl; cases hD with
    | @cons _ v _ vs' fB g h1 h2 h3 =>
      rw [List.nodup_append] at hn; obtain ⟨n1, n2, n3⟩ := hn; obtain ⟨ρ1, F1, q1, q2, q3⟩ := ih h3 n2 (fun b hb' => hb b (by simp [hb'])) hl3 (fun j hj => hk j (by simp [hkeys] at hj ⊢; exact .inr hj)); have hkk := hk k (by simp [hkeys])
      have hkr : k ∉ LV.refs.refsL ys := by
        rw [hO.refs]; simpa using hl2
      have hbB : ∀ b ∈ fB, ¬ ok b ∧ b < w.heap.size ∧ b ∉ fpsOf F1 (addS os s.h) ∧ (b < E.w0.heap.size → b ∈ E.lent) := fun b hb' => by
        have h := hb b (by simp [hb']); refine ⟨h.1, h.2.1, fun hm => ?_, h.2.2.2⟩; rcases q3 b hm with h4 | h4
        · exact n3 b hb' b h4 rfl
        · exact h.2.2.1 h4
      have fin : ∀ pl : Option Place, ObjRep w ok (upd ρ1 k pl) k { kind := kd, sz := sz, elems := zs } fB → Rep w ok (upd ρ1 k pl) (.own k 0 zs.length) v →
          ∃ ρ' F', Inv' E { tm := killS ((k, { kind := kd, sz := sz, elems := zs }) :: os) s.tm, h := addS ((k, { kind := kd, sz := sz, elems := zs }) :: os) s.h } a w ok ρ' F' ∧ RepL w ok ρ' (.own k 0 zs.length :: ys) (v :: vs') ∧ ∀ b ∈ fpsOf F' (addS ((k, { kind := kd, sz := sz, elems := zs }) :: os) s.h), b ∈ fB ++ g ∨ b ∈ fpsOf F s.h := by
        intro pl p1 p2; have hi2 := settle_at q1 k hkk hl1 n1 hbB pl _ p1; refine ⟨_, _, hi2, .cons p2 h2 (RepL.stable (fun _ _ => rfl) (fun _ hb => hb) (fun o ho => upd_other _ _ (fun e => hkr (e ▸ ho))) q2), fun b hb' => ?_⟩; obtain ⟨q, hq, hb2⟩ := mem_fpsOf.1 hb'; rcases List.mem_cons.1 hq with rfl | hq
        · rw [upd_same] at hb2
          exact .inl (by simp [hb2])
        · rw [upd_other F1 fB (show q.1 ≠ k from not_key (hdel_key k _) q hq)] at hb2
          rcases q3 b (mem_fpsOf.2 ⟨q, (hdel_sub k _).mem hq, hb2⟩) with h4 | h4
          · exact .inl (by simp [h4])
          · exact .inr h4
      rcases h1.sl_inv with ⟨rfl, rfl, A, rfl⟩ | ⟨c, B, us, arr2, t2, fps2, rfl, rfl, m1, m2, m3, m4, m5, m6, m7⟩
      · exact fin none (.inl ⟨by simp, rfl, rfl⟩) .own0
      · refine fin (some ⟨B, c, sz⟩) (.inr ⟨⟨B, c, sz⟩, arr2, t2, us, fps2, by simp, rfl, { sz := rfl, unif := m1, len := m6, cap := m7, blk := m3, room := m4, vals := m5, cells := ?_ }⟩) ?_
        · rcases hkd with rfl | ⟨rfl, himm⟩
          · exact m2
          · exact DeepL.imms himm m2
        · have := Rep.own (w := w) (ok := ok) (ρ := upd ρ1 k (some ⟨B, c, sz⟩)) (o := k) (off := 0) (n := zs.length) (c := c) (p := ⟨B, c, sz⟩) (by simp) (by simp) m6
          simpa using this
end
end Go.Lift
/- The lifted logic, part 54: a list of one's own lent to be read; what comes back may lead to its elements, never to the list. Own work. -/
namespace Go.Lift
open Go.RowKit
section
variable {P : Program} {E : Ent} {Q : Exit → LState → Prop} {s : LState} {all : Array Oper} {rest : List Oper} {d : Nat} {ty : TypeId} {pos : String} {af : Array Edge}
end
end Go.Lift
/- The lifted logic, part 55: regions of open order in which what leads to what is told until an operation. Own work. -/
namespace Go.Lift
open Go.RowKit
section
variable {P : Program} {E : Ent} {Q : Exit → LState → Prop}
theorem LWP.drawB {id : Nat} {l : List Oper} {s : LState} (KB : List ((Nat × Nat) × List Nat)) (kss : List (List (Nat × Nat))) (recs : List Rec) (FS : List SF) (FH : List HF) (s' : LState) (hm : P.follows .mixedOrders = true)
    (hlen : recs.length = l.length) (hedge : (l.zipIdx.all fun (o, i) => (edgesOf o).all fun j => decide (j < i)) = true) (hgood : Good (KB.map (·.1)) s)
    (hrec : ∀ (i : Nat) (o : Oper) (r : Rec), l[i]? = some o → recs[i]? = some r → r.ok P E (kss.getD i []) l.toArray o)
    (hbrk : ∀ (i : Nat) (r : Rec), recs[i]? = some r → ∀ p ∈ KB, p.2.contains i = true ∨ r.ef.good [p.1])
    (huse : ∀ (i : Nat), i < l.length → ∀ p ∈ kss.getD i [], ∃ q ∈ KB, q.1 = p ∧ ∀ x ∈ q.2, ahead (preAll l []) i x = true ∨ x = i)
    (hbl : ∀ p ∈ KB, ∀ x ∈ p.2, x < l.length)
    (hS : ∀ f ∈ FS, (∀ k, k ∉ f.rf → f.v.at? k = false) ∧ (match f.est with | none => get f.t s.tm = f.v | some e => ∃ r, recs[e]? = some r ∧ r.ef.dst = some f.t ∧ (∀ s, get f.t (r.ef.run s).tm = f.v)))
    (hH : ∀ f ∈ FH, (match f.est with | none => hget f.k s.h = some f.obj | some e => ∃ r, recs[e]? = some r ∧ (∀ s, hget f.k (r.ef.run s).h = some f.obj)))
    (hreq : ∀ r ∈ recs, (∀ f ∈ r.rs, f ∈ FS) ∧ ∀ f ∈ r.rk, f ∈ FH)
    (fS : List SF) (fH : List HF) (hfS : ∀ f ∈ fS, f ∈ FS) (hfH : ∀ f ∈ fH, f ∈ FH) (hkH : (fH.map (·.k)).Nodup)
    (hs' : s' = { tm := fS.map fun f => (f.t, f.v), h := fH.map fun f => (f.k, f.obj) })
    (hcheck : drawOK (preAll l []) (recs.map Rec.info) (fS.map fun f => (f.t, f.est, f.rf)) (fH.map fun f => (f.k, f.est)) = true)
    (hn : Q .normal s') : LWP P E (.region id l.toArray true) Q s := by
  intro a w hi0; refine wp_region_any hm ?_; have hsz : l.toArray.size = l.length := by simp
  rw [hsz]
  let pre := preAll l []
  let T := recs.map Rec.info
  have hT : ∀ (x : Nat) (r : Rec), recs[x]? = some r → T[x]? = some r.info := fun x r h => by simp [T, h]
  simp only [drawOK, Bool.and_eq_true, List.all_eq_true] at hcheck; obtain ⟨⟨hc1, hc2⟩, hc3⟩ := hcheck
  have hed : ∀ (i : Nat) (o : Oper), l[i]? = some o → ∀ j ∈ edgesOf o, j < i := by
    intro i o ho j hj; have := List.all_eq_true.1 hedge (o, i) (by rw [List.mem_zipIdx_iff_getElem?]; exact ho); simpa using List.all_eq_true.1 this j hj
  have hpre : ∀ (i : Nat) (o : Oper), l[i]? = some o → pre.getD i [] = (edgesOf o).flatMap fun j => j :: pre.getD j [] := by
    intro i o ho; have := preAll_at l [] i o ho (fun j hj => by have := hed i o ho j hj; simpa using this); simpa [pre] using this
  have hTx : ∀ (x : Nat) (z : OI), (z, x) ∈ T.zipIdx ↔ T[x]? = some z := fun x z => by rw [List.mem_zipIdx_iff_getElem?]
  -- what holds when L is listed
  let inL : Array Bool → Nat → Prop := fun L i => L.getD i false = true
  let validS : Array Bool → SF → Prop := fun L f => (∀ e, f.est = some e → inL L e) ∧ ∀ x z, T[x]? = some z → inL L x → harmless pre f.est x (z.keepS f.t f.rf) = true
  let validH : Array Bool → HF → Prop := fun L f => (∀ e, f.est = some e → inL L e) ∧ ∀ x z, T[x]? = some z → inL L x → harmless pre f.est x (z.keepH f.k) = true
  let Sat : Array Bool → Act → World → Prop := fun L a w => ∃ u, Inv E u a w ∧ (∀ p ∈ KB, (∀ x ∈ p.2, ¬ inL L x) → lone p.1.1 (hdel p.1.2 u.h) = true) ∧ (∀ f ∈ FS, validS L f → get f.t u.tm = f.v) ∧ ∀ f ∈ FH, validH L f → hget f.k u.h = some f.obj
  let closed : Array Bool → Prop := fun L => ∀ (i : Nat) (o : Oper), l[i]? = some o → inL L i → ∀ j ∈ edgesOf o, inL L j
  have hclo : ∀ L, closed L → ∀ (i : Nat), i < l.length → inL L i → ∀ j ∈ pre.getD i [], inL L j := by
    intro L hL i
    induction i using Nat.strongRecOn with
    | _ i ih =>
      intro hi hin j hj; have ho : l[i]? = some l[i] := by simp [hi]
      rw [hpre i _ ho] at hj; obtain ⟨q, hq, hj⟩ := List.mem_flatMap.1 hj; have hqi := hed i _ ho q hq; have hqL := hL i _ ho hin q hq; rcases List.mem_cons.1 hj with rfl | hj
      · exact hqL
      · exact ih q hqi (by omega) hqL j hj
  have fin : ∀ L a w, Sat L a w → (∀ i, i < l.length → inL L i) → QC E Q .normal a w := by
    rintro L a w ⟨u, hu, _, huS, huH⟩ hall; refine ⟨s', ?_, hn⟩
    have hxl : ∀ x z, T[x]? = some z → x < l.length := fun x z h => by
      have : x < T.length := by
        rcases Nat.lt_or_ge x T.length with h' | h'
        · exact h'
        · rw [List.getElem?_eq_none h'] at h; cases h
      simpa [T, hlen] using this
    refine hu.le ⟨?_, ?_, ?_⟩
    · rw [hs']
      intro p hp; obtain ⟨f, hf, rfl⟩ := List.mem_map.1 hp; refine .inl (huS f (hfS f hf) ⟨fun e he => ?_, fun x z hz hx => ?_⟩)
      · have := hc2 (f.t, f.est, f.rf) (List.mem_map.2 ⟨f, hf, rfl⟩)
        rw [he] at this; simp only [decide_eq_true_eq] at this; exact hall e (by simpa [hlen] using this.1)
      · have := (hc2 (f.t, f.est, f.rf) (List.mem_map.2 ⟨f, hf, rfl⟩)).2 (z, x) ((hTx x z).2 hz)
        exact this
    · rw [hs']
      simp only [hkeys, List.map_map]; exact hkH
    · rw [hs']
      intro p hp; obtain ⟨f, hf, rfl⟩ := List.mem_map.1 hp; refine huH f (hfH f hf) ⟨fun e he => ?_, fun x z hz hx => ?_⟩
      · have := hc3 (f.k, f.est) (List.mem_map.2 ⟨f, hf, rfl⟩)
        rw [he] at this; simp only [decide_eq_true_eq] at this; exact hall e (by simpa [hlen] using this.1)
      · have := (hc3 (f.k, f.est) (List.mem_map.2 ⟨f, hf, rfl⟩)).2 (z, x) ((hTx x z).2 hz)
        exact this
  have readyIff : ∀ L i, i ∈ Region.ready .any l.toArray L → ∃ o, l[i]? = some o ∧ L.getD i true = false ∧ ∀ j ∈ edgesOf o, inL L j := by
    intro L i h; simp only [Region.ready, List.mem_filter, List.mem_range, Bool.and_eq_true, Bool.not_eq_true'] at h; obtain ⟨h1, h2, h3⟩ := h; have hlt : i < l.length := by simpa using h1
    have ho : l[i]? = some l[i] := by simp [hlt]
    refine ⟨l[i], ho, h2, ?_⟩; have ho' : l.toArray[i]? = some l[i] := by simp
    rw [ho'] at h3; simp only [Option.map_some, Option.getD_some, Array.all_eq_true_iff_forall_mem, Bool.or_eq_true, Bool.not_eq_true'] at h3; intro j hj; simp only [edgesOf, List.mem_map, List.mem_filter, Array.mem_toList_iff] at hj; obtain ⟨e, ⟨he1, he2⟩, rfl⟩ := hj; rcases h3 e he1 with h | h
    · rw [he2] at h; cases h
    · exact h
  have notready : ∀ L, L.size = l.length → Region.ready .any l.toArray L = [] → ∀ i, i < l.length → inL L i := by
    intro L hLs hr i
    induction i using Nat.strongRecOn with
    | _ i ih =>
      intro hi; have ho : l[i]? = some l[i] := by simp [hi]
      rcases hb : L.getD i false with _ | _
      · exfalso
        have hmem : i ∈ Region.ready .any l.toArray L := by
          simp only [Region.ready, List.mem_filter, List.mem_range, Bool.and_eq_true, Bool.not_eq_true']; refine ⟨by simpa using hi, ?_, ?_⟩
          · have : i < L.size := by omega
            simp [Array.getD, this] at hb ⊢; exact hb
          · have ho' : l.toArray[i]? = some l[i] := by simp
            rw [ho']; simp only [Option.map_some, Option.getD_some, Array.all_eq_true_iff_forall_mem, Bool.or_eq_true, Bool.not_eq_true']; intro e he
            by_cases hbd : Region.binds .any e = true
            · right
              have hj : e.on ∈ edgesOf l[i] := by
                simp only [edgesOf, List.mem_map, List.mem_filter, Array.mem_toList_iff]; exact ⟨e, ⟨he, hbd⟩, rfl⟩
              have hlt := hed i _ ho e.on hj; exact ih e.on hlt (by omega)
            · left; simpa using hbd
        rw [hr] at hmem; cases hmem
      · exact hb
  have step : ∀ fuel L a w, L.size = l.length → closed L → Sat L a w → ((List.range l.length).filter fun i => !L.getD i false).length ≤ fuel → wpAny P .any l.toArray (QC E Q) fuel L a w := by
    intro fuel
    induction fuel with
    | zero =>
      intro L a w hLs hcl hsat hf
      have hall : ∀ i, i < l.length → inL L i := by
        intro i hi; have he : (List.range l.length).filter (fun i => !L.getD i false) = [] := List.eq_nil_of_length_eq_zero (by omega); rw [List.filter_eq_nil_iff] at he; have := he i (by simpa using hi); simpa [inL] using this
      refine ⟨?_, fin L a w hsat hall⟩; rcases hr : Region.ready .any l.toArray L with _ | ⟨i, r⟩
      · rfl
      · obtain ⟨o, ho, h1, _⟩ := readyIff L i (by rw [hr]; simp)
        have hi : i < l.length := by
          rcases Nat.lt_or_ge i l.length with h | h
          · exact h
          · rw [List.getElem?_eq_none h] at ho; cases ho
        have := hall i hi; have hlt : i < L.size := by omega
        simp [inL, Array.getD, hlt] at this h1; rw [this] at h1; cases h1
    | succ fuel ih =>
      intro L a w hLs hcl hsat hf; refine ⟨fun hr => fin L a w hsat (notready L hLs hr), ?_⟩; intro i hir; obtain ⟨o, ho, hni, hej⟩ := readyIff L i hir
      have hi : i < l.length := by
        rcases Nat.lt_or_ge i l.length with h | h
        · exact h
        · rw [List.getElem?_eq_none h] at ho; cases ho
      have hrl : i < recs.length := by omega
      obtain ⟨r, hr⟩ : ∃ r, recs[i]? = some r := ⟨recs[i], by simp [hrl]⟩; have hok := hrec i o r ho hr; obtain ⟨u, hu, hug, huS, huH⟩ := hsat
      have hnot : ¬ inL L i := by
        have hlt : i < L.size := by omega
        simp [inL, Array.getD, hlt] at hni ⊢; exact hni
      have hpin : ∀ j ∈ pre.getD i [], inL L j := by
        intro j hj; rw [hpre i o ho] at hj; obtain ⟨q, hq, hj⟩ := List.mem_flatMap.1 hj; rcases List.mem_cons.1 hj with rfl | hj
        · exact hej _ hq
        · exact hclo L hcl q (by have := hed i o ho q hq; omega) (hej q hq) j hj
      have hmemr : r ∈ recs := List.mem_of_getElem? hr; have hci := hc1 (r.info, i) ((hTx i r.info).2 (hT i r hr))
      have hxL : ∀ x, ahead pre i x = true → x < l.length → ¬ inL L x := by
        intro x hx hxl hin; simp only [ahead, List.contains_iff_mem] at hx; exact hnot (hclo L hcl x hxl hin i hx)
      have hxlen : ∀ x z, T[x]? = some z → x < l.length := fun x z h => by
        have : x < T.length := by
          rcases Nat.lt_or_ge x T.length with h' | h'
          · exact h'
          · rw [List.getElem?_eq_none h'] at h; cases h
        simpa [T, hlen] using this
      have h1 : ∀ f ∈ r.rs, get f.t u.tm = f.v := by
        intro f hf; obtain ⟨h2, h3⟩ := hci.1 (f.t, f.est, f.rf) (List.mem_map.2 ⟨f, hf, rfl⟩); refine huS f ((hreq r hmemr).1 f hf) ⟨fun e he => ?_, fun x z hz hx => ?_⟩
        · simp only [he, ahead, List.contains_iff_mem] at h2
          exact hpin e h2
        · have := h3 (z, x) ((hTx x z).2 hz)
          simp only [Bool.or_eq_true, beq_iff_eq] at this; rcases this with (h | h) | h
          · subst h; exact absurd hx hnot
          · exact h
          · exact absurd hx (hxL x h (hxlen x z hz))
      have h2 : ∀ f ∈ r.rk, hget f.k u.h = some f.obj := by
        intro f hf; obtain ⟨h2, h3⟩ := hci.2 (f.k, f.est) (List.mem_map.2 ⟨f, hf, rfl⟩); refine huH f ((hreq r hmemr).2 f hf) ⟨fun e he => ?_, fun x z hz hx => ?_⟩
        · simp only [he, ahead, List.contains_iff_mem] at h2
          exact hpin e h2
        · have := h3 (z, x) ((hTx x z).2 hz)
          simp only [Bool.or_eq_true, beq_iff_eq] at this; rcases this with (h | h) | h
          · subst h; exact absurd hx hnot
          · exact h
          · exact absurd hx (hxL x h (hxlen x z hz))
      have hugi : Good (kss.getD i []) u := by
        intro p hp; obtain ⟨q, hq, rfl, hx⟩ := huse i hi p hp; refine hug q hq fun x hxq hin => ?_; rcases hx x hxq with h | h
        · exact hxL x h (hbl q hq x hxq) hin
        · subst h; exact hnot hin
      refine wpOp_of ho (fun a' w' hq => ?_) (fun e a w he hq => ?_) (hok.2 u hugi h1 h2 a w hu)
      · obtain ⟨t, hit, _, hle, hgt⟩ := hq
        have hset : ∀ j, inL (L.setIfInBounds i true) j ↔ inL L j ∨ j = i := by
          intro j; simp only [inL, Array.getD_eq_getD_getElem?, Array.getElem?_setIfInBounds]
          by_cases hij : i = j
          · subst hij
            have : i < L.size := by omega
            simp [this]
          · simp [hij, Ne.symm hij]
        refine ih _ a' w' (by simpa using hLs) ?_ ⟨r.ef.run u, hle.elim (fun e => e ▸ hit) (fun h => hit.le h), (fun p hp hx => by
          rcases hbrk i r hr p hp with h | h
          · exact absurd ((hset i).2 (.inr rfl)) (hx i (by simpa using h))
          · exact Ef.good_ok (KS := [p.1]) h (s := u) (fun k hk => by simp at hk; subst hk; exact hug p hp (fun x hxp hin => hx x hxp ((hset x).2 (.inl hin)))) p.1 (by simp)), ?_, ?_⟩ ?_
        · intro q oq hoq hin j hj
          rcases (hset q).1 hin with h | rfl
          · exact (hset j).2 (.inl (hcl q oq hoq h j hj))
          · rw [ho] at hoq; cases hoq
            exact (hset j).2 (.inl (hej j hj))
        · intro f hf hv
          obtain ⟨hrf, hest⟩ := hS f hf
          by_cases he : f.est = some i
          · rw [he] at hest
            obtain ⟨r', hr', _, hr2⟩ := hest; rw [hr] at hr'; cases hr'; exact hr2 u
          · have hvL : validS L f := by
              refine ⟨fun e hee => ?_, fun x z hz hx => hv.2 x z hz ((hset x).2 (.inl hx))⟩; rcases (hset e).1 (hv.1 e hee) with h | rfl
              · exact h
              · exact absurd hee he
            have hk := hv.2 i r.info (hT i r hr) ((hset i).2 (.inr rfl))
            have hkeep : r.info.keepS f.t f.rf = true := by
              simp only [harmless, Bool.or_eq_true] at hk; rcases hk with (h | h) | h
              · exact h
              · exact absurd (by simpa using h) he
              · exfalso
                cases hee : f.est with
                | none => rw [hee] at h; cases h
                | some e =>
                  rw [hee] at h; have hin := hvL.1 e hee
                  have helt : e < l.length := by
                    rcases Nat.lt_or_ge e l.length with h' | h'
                    · exact h'
                    · have : L.size ≤ e := by omega
                      simp [inL, Array.getD] at hin; obtain ⟨h'', _⟩ := hin; omega
                  simp only [ahead, List.contains_iff_mem] at h; exact hnot (hclo L hcl e helt hin i h)
            exact Ef.keepS_ok hrf hkeep (huS f hf hvL)
        · intro f hf hv
          have hest := hH f hf
          by_cases he : f.est = some i
          · rw [he] at hest
            obtain ⟨r', hr', hr2⟩ := hest; rw [hr] at hr'; cases hr'; exact hr2 u
          · have hvL : validH L f := by
              refine ⟨fun e hee => ?_, fun x z hz hx => hv.2 x z hz ((hset x).2 (.inl hx))⟩; rcases (hset e).1 (hv.1 e hee) with h | rfl
              · exact h
              · exact absurd hee he
            have hk := hv.2 i r.info (hT i r hr) ((hset i).2 (.inr rfl))
            have hkeep : r.info.keepH f.k = true := by
              simp only [harmless, Bool.or_eq_true] at hk; rcases hk with (h | h) | h
              · exact h
              · exact absurd (by simpa using h) he
              · exfalso
                cases hee : f.est with
                | none => rw [hee] at h; cases h
                | some e =>
                  rw [hee] at h; have hin := hvL.1 e hee
                  have helt : e < l.length := by
                    rcases Nat.lt_or_ge e l.length with h' | h'
                    · exact h'
                    · have : L.size ≤ e := by omega
                      simp [inL, Array.getD] at hin; obtain ⟨h'', _⟩ := hin; omega
                  simp only [ahead, List.contains_iff_mem] at h; exact hnot (hclo L hcl e helt hin i h)
            exact Ef.keepH_ok hkeep (huH f hf hvL)
        · have hlt : i ∈ (List.range l.length).filter fun j => !L.getD j false := by
            simp only [List.mem_filter, List.mem_range, Bool.not_eq_true']; refine ⟨hi, ?_⟩; simpa [inL] using hnot
          have hsub : ((List.range l.length).filter fun j => !(L.setIfInBounds i true).getD j false) = ((List.range l.length).filter fun j => !L.getD j false).filter fun j => j != i := by
            rw [List.filter_filter]; refine List.filter_congr fun j _ => ?_; have := hset j; simp only [inL] at this; cases h5 : (L.setIfInBounds i true).getD j false <;> cases h6 : L.getD j false <;> simp_all
          rw [hsub]
          have : (((List.range l.length).filter fun j => !L.getD j false).filter fun j => j != i).length < ((List.range l.length).filter fun j => !L.getD j false).length :=
            List.length_filter_lt_length_iff_exists.2 ⟨i, hlt, by simp⟩
          omega
      · obtain ⟨_, _, h, _⟩ := hq
        exact he h
  have hinit : ∀ j, ¬ inL (Array.replicate l.length false) j := by
    intro j h; simp only [inL, Array.getD_eq_getD_getElem?, Array.getElem?_replicate] at h
    split at h <;> simp at h
  refine step l.length _ a _ (by simp) ?_ ⟨s, ?_, (fun p hp _ => hgood p.1 (List.mem_map.2 ⟨p, hp, rfl⟩)), ?_, ?_⟩ ?_
  · intro i o ho hin
    exact absurd hin (hinit i)
  · obtain ⟨ok, ρ, F, h⟩ := hi0
    exact ⟨ok, ρ, F, h.drew⟩
  · intro f hf hv
    have hest := (hS f hf).2; cases he : f.est with
    | none => rw [he] at hest; exact hest
    | some e =>
      exact absurd (hv.1 e he) (hinit e)
  · intro f hf hv
    have hest := hH f hf; cases he : f.est with
    | none => rw [he] at hest; exact hest
    | some e =>
      exact absurd (hv.1 e he) (hinit e)
  · exact Nat.le_trans (List.length_filter_le _ _) (by simp)
def DSEB (P : Program) (E : Ent) (KB : List ((Nat × Nat) × List Nat)) (all : Array Oper) : List Oper → List (List Nat × List Nat × List (Nat × Nat)) → Nat → List SF → List HF → (List SF → List HF → List Rec → Prop) → Prop
  | o :: os, (rd, hk, KS) :: ps, i, acc, ah, k => (rd.all (hasT · acc) && hk.all (hasH · ah)) = true ∧ ∃ ef : Ef, ef.good KS ∧ (∀ p ∈ KB, p.2.contains i = true ∨ ef.good [p.1]) ∧ (∀ u : LState, Good KS u → AllF u.tm (rd.map (look · acc)) → AllH u.h (hk.map (lookH · ah)) → LWo P E all [o] (fun e t => e = .normal ∧ (t = ef.run u ∨ t.le (ef.run u)) ∧ Good KS t) u) ∧
      DSEB P E KB all os ps (i + 1) (ef.accS i acc) (ef.accH i ah) (fun a b r => k a b (⟨ef, rd.map (look · acc), hk.map (lookH · ah)⟩ :: r))
  | [], [], _, acc, ah, k => k acc ah []
  | _, _, _, _, _, _ => False
theorem DSEB.out {KB : List ((Nat × Nat) × List Nat)} {all : Array Oper} : ∀ {os : List Oper} {ps : List (List Nat × List Nat × List (Nat × Nat))} {i : Nat} {acc : List SF} {ah : List HF} {k : List SF → List HF → List Rec → Prop}, DSEB P E KB all os ps i acc ah k →
    ∃ (acc' : List SF) (ah' : List HF) (recs : List Rec), k acc' ah' recs ∧ recs.length = os.length ∧ (∀ (j : Nat) (o : Oper) (r : Rec), os[j]? = some o → recs[j]? = some r → r.ok P E ((ps.map (·.2.2)).getD j []) all o ∧ ∀ p ∈ KB, p.2.contains (i + j) = true ∨ r.ef.good [p.1]) ∧
      (∀ f ∈ acc, f ∈ acc') ∧ (∀ f ∈ ah, f ∈ ah') ∧
      (∀ f ∈ acc', f ∈ acc ∨ ∃ j r, f.est = some (i + j) ∧ recs[j]? = some r ∧ r.ef.dst = some f.t ∧ (∀ s, get f.t (r.ef.run s).tm = f.v) ∧ f.rf = f.v.refs) ∧
      (∀ f ∈ ah', f ∈ ah ∨ ∃ j r, f.est = some (i + j) ∧ recs[j]? = some r ∧ (∀ s, hget f.k (r.ef.run s).h = some f.obj)) ∧
      (∀ r ∈ recs, (∀ f ∈ r.rs, f ∈ acc') ∧ ∀ f ∈ r.rk, f ∈ ah')
  | o :: os, (rd, hk, KS) :: ps, i, acc, ah, k, ⟨hin, ef, hgood, hb, h1, h2⟩ => by
    obtain ⟨acc', ah', recs, hk', hlen, hok, hsub, hsubH, hnew, hnewH, hreq⟩ := DSEB.out h2; simp only [Bool.and_eq_true] at hin
    have hs1 : ∀ f ∈ acc, f ∈ ef.accS i acc := by
      intro f hf; cases ef with
      | put d y => simp [Ef.accS, hf]
      | upd d y k o => cases d <;> simp [Ef.accS, hf]
      | make d y k o => simp [Ef.accS, hf]
      | gen d y add del kil => cases d <;> simp [Ef.accS, hf]
    have hs2 : ∀ f ∈ ah, f ∈ ef.accH i ah := by
      intro f hf; cases ef <;> simp [Ef.accH, hf]
    refine ⟨acc', ah', _, hk', by simp [hlen], ?_, fun f hf => hsub f (hs1 f hf), fun f hf => hsubH f (hs2 f hf), ?_, ?_, ?_⟩
    · intro j o' r ho hr
      cases j with
      | zero =>
        simp at ho hr; subst ho; subst hr; refine ⟨⟨hgood, fun u hu hrs hrk => ?_⟩, by simpa using hb⟩; exact h1 u hu (AllF.of hrs) (AllH.of hrk)
      | succ j =>
        simp at ho hr; obtain ⟨g1, g2⟩ := hok j o' r ho hr; exact ⟨by simpa using g1, by rw [show i + (j + 1) = i + 1 + j from by omega]; exact g2⟩
    · intro f hf
      rcases hnew f hf with h | ⟨j, r, he, hr, h⟩
      · cases ef with
        | put d y =>
          rcases List.mem_cons.1 h with rfl | h
          · exact .inr ⟨0, _, by simp, rfl, rfl, fun s => by simp [Ef.run, LState.put, get], rfl⟩
          · exact .inl h
        | upd d y kk obj =>
          cases d with
          | none => exact .inl h
          | some d =>
            rcases List.mem_cons.1 h with rfl | h
            · exact .inr ⟨0, _, by simp, rfl, rfl, fun s => by simp [Ef.run, LState.put, get], rfl⟩
            · exact .inl h
        | make d y kk obj =>
          rcases List.mem_cons.1 h with rfl | h
          · exact .inr ⟨0, _, by simp, rfl, rfl, fun s => by simp [Ef.run, get], rfl⟩
          · exact .inl h
        | gen d y add del kil =>
          cases d with
          | none => exact .inl h
          | some d =>
            rcases List.mem_cons.1 h with rfl | h
            · exact .inr ⟨0, _, by simp, rfl, rfl, fun s => by simp [Ef.run, LState.put, get], rfl⟩
            · exact .inl h
      · exact .inr ⟨j + 1, r, by rw [he]; congr 1; omega, by simpa using hr, h⟩
    · intro f hf
      rcases hnewH f hf with h | ⟨j, r, he, hr, h⟩
      · cases ef with
        | put d y => exact .inl h
        | upd d y kk obj =>
          rcases List.mem_cons.1 h with rfl | h
          · refine .inr ⟨0, _, by simp, rfl, fun s => ?_⟩
            cases d <;> simp [Ef.run, LState.put, hget]
          · exact .inl h
        | make d y kk obj =>
          rcases List.mem_cons.1 h with rfl | h
          · exact .inr ⟨0, _, by simp, rfl, fun s => by simp [Ef.run, hget]⟩
          · exact .inl h
        | gen d y add del kil =>
          rcases List.mem_append.1 h with h | h
          · obtain ⟨q, hq, rfl⟩ := List.mem_map.1 h
            refine .inr ⟨0, _, by simp, rfl, fun s => ?_⟩; have := hget_app_mem (b := hdelN (hkeys add ++ del) s.h) (ndB_nodup hgood.1) hq; cases d <;> exact this
          · exact .inl h
      · exact .inr ⟨j + 1, r, by rw [he]; congr 1; omega, by simpa using hr, h⟩
    · intro r hr
      rcases List.mem_cons.1 hr with rfl | hr
      · refine ⟨fun f hf => ?_, fun f hf => ?_⟩
        · obtain ⟨t, ht, rfl⟩ := List.mem_map.1 hf
          exact hsub _ (hs1 _ (look_mem (List.all_eq_true.1 hin.1 t ht)))
        · obtain ⟨t, ht, rfl⟩ := List.mem_map.1 hf
          exact hsubH _ (hs2 _ (lookH_mem (List.all_eq_true.1 hin.2 t ht)))
      · exact hreq r hr
  | [], [], i, acc, ah, k, h => ⟨acc, ah, [], h, rfl, by simp, by simp, by simp, fun f hf => .inl hf, fun f hf => .inl hf, by simp⟩
theorem LWP.drawG {id : Nat} {l : List Oper} {s : LState} (KB : List ((Nat × Nat) × List Nat)) (U : List Nat) (plan : List (List Nat × List Nat × List (Nat × Nat))) (out outH : List Nat) (hm : P.follows .mixedOrders = true)
    (hedge : (l.zipIdx.all fun (o, i) => (edgesOf o).all fun j => decide (j < i)) = true) (hgood : KB.all (fun p => lone p.1.1 (hdel p.1.2 s.h)) = true) (huse : (plan.zipIdx.all fun (q, i) => q.2.2.all fun p => KB.any fun r => r.1 == p && r.2.all fun x => ahead (preD l []) i x || x == i) = true) (hbl : KB.all (fun p => p.2.all fun x => decide (x < l.length)) = true) (hnd : outH.Nodup)
    (h : DSEB P E KB l.toArray l plan 0 (base s U) (heapF s.h) (fun acc ah recs => (out.all (hasT · acc) && outH.all (hasH · ah)) = true ∧ drawOK (preD l []) (recs.map Rec.info) ((out.map (look · acc)).map fun f => (f.t, f.est, f.rf)) ((outH.map (lookH · ah)).map fun f => (f.k, f.est)) = true ∧ Q .normal ⟨out.map fun t => (t, (look t acc).v), outH.map fun k => (k, (lookH k ah).obj)⟩)) :
    LWP P E (.region id l.toArray true) Q s := by
  intro a w hi; have hnk : (hkeys s.h).Nodup := by obtain ⟨ok, ρ, F, h⟩ := hi; exact h.heap.keys
  obtain ⟨acc, ah, recs, ⟨hout, hc, hq⟩, hlen, hok, hsub, hsubH, hnew, hnewH, hreq⟩ := h.out; simp only [Bool.and_eq_true] at hout; refine LWP.drawB (Q := Q) KB (plan.map (·.2.2)) recs acc ah _ hm hlen hedge (fun k hk => by obtain ⟨p, hp, rfl⟩ := List.mem_map.1 hk; exact List.all_eq_true.1 hgood p hp) (fun i o r ho hr => (hok i o r ho hr).1) (fun i r hr p hp => ?_) (fun i hi p hp => ?_) (fun p hp x hx => by simpa using List.all_eq_true.1 (List.all_eq_true.1 hbl p hp) x hx) ?_ ?_ hreq (out.map (look · acc)) (outH.map (lookH · ah)) ?_ ?_ ?_ rfl (drawOK_D hc) ?_ a w hi
  · have hil : i < l.length := by
      rcases Nat.lt_or_ge i recs.length with h | h
      · omega
      · rw [List.getElem?_eq_none h] at hr; cases hr
    simpa using (hok i l[i] r (by simp [hil]) hr).2 p hp
  · have hi2 : (plan.map (·.2.2)).getD i [] = ((plan[i]?).map (·.2.2)).getD [] := by rw [List.getD_eq_getElem?_getD, List.getElem?_map]
    rw [hi2] at hp; cases hpl : plan[i]? with
    | none => rw [hpl] at hp; simp at hp
    | some q =>
      rw [hpl] at hp; have h1 := List.all_eq_true.1 huse (q, i) (by rw [List.mem_zipIdx_iff_getElem?]; exact hpl); have h2 := List.all_eq_true.1 h1 p (by simpa using hp); obtain ⟨r, hr, h3⟩ := List.any_eq_true.1 h2; simp only [Bool.and_eq_true, beq_iff_eq] at h3; refine ⟨r, hr, h3.1, fun x hx => ?_⟩; have h4 := List.all_eq_true.1 h3.2 x hx; simp only [Bool.or_eq_true, beq_iff_eq] at h4; rw [ahead_D] at h4; exact h4
  · intro f hf
    rcases hnew f hf with h | ⟨j, r, he, hr, h1, h2, h3⟩
    · obtain ⟨t, ht, rfl⟩ := List.mem_map.1 h
      exact ⟨fun k hk => LV.refs_at? k _ hk, rfl⟩
    · refine ⟨fun k hk => LV.refs_at? k _ (h3 ▸ hk), ?_⟩
      rw [he]; simp only [Nat.zero_add]; exact ⟨r, hr, h1, h2⟩
  · intro f hf
    rcases hnewH f hf with h | ⟨j, r, he, hr, h1⟩
    · obtain ⟨p, hp, rfl⟩ := List.mem_map.1 h
      exact hget_of_mem hnk hp
    · rw [he]
      simp only [Nat.zero_add]; exact ⟨r, hr, h1⟩
  · intro f hf
    obtain ⟨t, ht, rfl⟩ := List.mem_map.1 hf; exact look_mem (List.all_eq_true.1 hout.1 t ht)
  · intro f hf
    obtain ⟨t, ht, rfl⟩ := List.mem_map.1 hf; exact lookH_mem (List.all_eq_true.1 hout.2 t ht)
  · rw [List.map_map]
    simpa [Function.comp_def, lookH_k] using hnd
  · have e1 : List.map (fun f : SF => (f.t, f.v)) (List.map (fun x => look x acc) out) = out.map fun t => (t, (look t acc).v) := by
      rw [List.map_map]; exact List.map_congr_left fun t _ => by simp [look_t]
    have e2 : List.map (fun f : HF => (f.k, f.obj)) (List.map (fun x => lookH x ah) outH) = outH.map fun k => (k, (lookH k ah).obj) := by
      rw [List.map_map]; exact List.map_congr_left fun t _ => by simp [lookH_k]
    rw [e1, e2]; exact hq
theorem dqB {KB : List ((Nat × Nat) × List Nat)} {all : Array Oper} {o : Oper} {os : List Oper} {rd hk : List Nat} {ps : List (List Nat × List Nat × List (Nat × Nat))} {i : Nat} {acc : List SF} {ah : List HF} {k : List SF → List HF → List Rec → Prop} (d : Nat) {y : LV} (hin : (rd.all (hasT · acc) && hk.all (hasH · ah)) = true)
    (h1 : ∀ u : LState, Good [] u → AllF u.tm (rd.map (look · acc)) → AllH u.h (hk.map (lookH · ah)) → LWo P E all [o] (fun e t => e = .normal ∧ (t = (Ef.put d y).run u ∨ t.le ((Ef.put d y).run u)) ∧ Good [] t) u)
    (h2 : DSEB P E KB all os ps (i + 1) ((Ef.put d y).accS i acc) ((Ef.put d y).accH i ah) (fun a b r => k a b (⟨.put d y, rd.map (look · acc), hk.map (lookH · ah)⟩ :: r))) : DSEB P E KB all (o :: os) ((rd, hk, []) :: ps) i acc ah k := ⟨hin, .put d y, trivial, fun _ _ => .inr trivial, h1, h2⟩
theorem kbN {i : Nat} {ef : Ef} : ∀ p ∈ ([] : List ((Nat × Nat) × List Nat)), p.2.contains i = true ∨ ef.good [p.1] := fun _ h => by cases h
theorem kbI {i : Nat} {ef : Ef} {a : (Nat × Nat) × List Nat} {l : List ((Nat × Nat) × List Nat)} (h : a.2.contains i = true) (h2 : ∀ p ∈ l, p.2.contains i = true ∨ ef.good [p.1]) : ∀ p ∈ a :: l, p.2.contains i = true ∨ ef.good [p.1] := fun p hp => by
  rcases List.mem_cons.1 hp with rfl | hp
  · exact .inl h
  · exact h2 p hp
theorem kbC {i : Nat} {ef : Ef} {a : (Nat × Nat) × List Nat} {l : List ((Nat × Nat) × List Nat)} (h : ef.good [a.1]) (h2 : ∀ p ∈ l, p.2.contains i = true ∨ ef.good [p.1]) : ∀ p ∈ a :: l, p.2.contains i = true ∨ ef.good [p.1] := fun p hp => by
  rcases List.mem_cons.1 hp with rfl | hp
  · exact .inr h
  · exact h2 p hp
end
end Go.Lift
/- The lifted logic, part 56: lists some of whose parts are owned: taken out, put back, stored. Own work. -/
namespace Go.Lift
open Go.RowKit
theorem MCells.length {w : World} {ok : Nat → Prop} {ρ : Env} {xs : List LV} {vs : List Value} {f : List Nat} (h : MCells w ok ρ xs vs f) : xs.length = vs.length := by
  induction h with
  | nil => rfl
  | cons _ _ _ ih => simp [ih]
theorem MCells.append {w : World} {ok : Nat → Prop} {ρ : Env} {xs ys : List LV} {vs us : List Value} {f g : List Nat} (h : MCells w ok ρ xs vs f) (k : MCells w ok ρ ys us g) : MCells w ok ρ (xs ++ ys) (vs ++ us) (f ++ g) := by
  induction h with
  | nil => exact k
  | cons h h1 _ ih => rw [List.append_assoc]; exact .cons h h1 ih
theorem MCells.cut {w : World} {ok : Nat → Prop} {ρ : Env} {xs : List LV} {vs : List Value} {f : List Nat} (h : MCells w ok ρ xs vs f) : ∀ n : Nat, ∃ fA fC, f = fA ++ fC ∧ MCells w ok ρ (xs.take n) (vs.take n) fA ∧ MCells w ok ρ (xs.drop n) (vs.drop n) fC := by
  induction h with
  | nil => intro n; exact ⟨[], [], rfl, by simpa using MCells.nil, by simpa using MCells.nil⟩
  | @cons x v xs vs f g h h1 h2 ih =>
    intro n; cases n with
    | zero => exact ⟨[], _, rfl, by simpa using MCells.nil, by simpa using MCells.cons h h1 h2⟩
    | succ n =>
      obtain ⟨fA, fC, rfl, hA, hC⟩ := ih n; exact ⟨f ++ fA, fC, by rw [List.append_assoc], by simpa using MCells.cons h h1 hA, by simpa using hC⟩
theorem MCells.put {w : World} {ok : Nat → Prop} {ρ : Env} {xs ys : List LV} {vs us : List Value} {f g : List Nat} (h : MCells w ok ρ xs vs f) (q : Nat) (hy : MCells w ok ρ ys us g) : ∃ fA fB fC, f = fA ++ (fB ++ fC) ∧ MCells w ok ρ (setRange xs q ys) (vs.take q ++ us ++ vs.drop (q + ys.length)) (fA ++ g ++ fC) := by
  obtain ⟨fA, fR, rfl, hA, hR⟩ := h.cut q; obtain ⟨fB, fC, rfl, hB, hC⟩ := hR.cut ys.length; refine ⟨fA, fB, fC, rfl, ?_⟩; rw [List.drop_drop, List.drop_drop] at hC; exact (hA.append hy).append hC
section
variable {P : Program} {E : Ent} {Q : Exit → LState → Prop} {s : LState} {all : Array Oper} {rest : List Oper} {d : Nat} {ty : TypeId} {pos : String} {af : Array Edge}
end
end Go.Lift
/- The lifted logic, part 57: lists some of whose parts are owned, as mirrors tell them. Own work. -/
namespace Go.Lift
open Go.RowKit
theorem pure_refs : ∀ {x : LV}, x.pure = true → x.refs = []
  | .imm _, _ => rfl
  | .sl _ _, _ => rfl
  | .slx _ _, _ => rfl
  | .mv _ _, _ => rfl
  | .agg cs, h => by simpa [LV.refs] using pureL_refs (cs := cs) (by simpa [LV.pure] using h)
  | .clo _ cs, h => by simpa [LV.refs] using pureL_refs (cs := cs) (by simpa [LV.pure] using h)
  | .junk, h => by simp [LV.pure] at h
  | .tup _, h => by simp [LV.pure] at h
  | .fp _, h => by simp [LV.pure] at h
  | .ptr .., h => by simp [LV.pure] at h
  | .own .., h => by simp [LV.pure] at h
  | .ownc .., h => by simp [LV.pure] at h
  | .nw .., h => by simp [LV.pure] at h
  | .nb _, h => by simp [LV.pure] at h
  | .dv _, h => by simp [LV.pure] at h
  | .mx .., h => by simp [LV.pure] at h
  | .ms .., h => by simp [LV.pure] at h
where
  pureL_refs : ∀ {cs : List LV}, LV.pure.pureL cs = true → LV.refs.refsL cs = []
  | [], _ => rfl
  | x :: cs, h => by
    simp [LV.pure.pureL] at h; rw [LV.refs.refsL, pure_refs h.1, pureL_refs h.2]; rfl
inductive UnM1 : LV → LV → Prop
  | imm (v : Value) : UnM1 (.imm v) (.imm v)
  | fz (x : LV) : UnM1 (.tup [x]) x
  | nw (sz : Nat) (xs : List LV) : UnM1 (.nw sz xs false) (.sl sz xs)
inductive UnML : List LV → List LV → Prop
  | nil : UnML [] []
  | cons {x y : LV} {xs ys : List LV} : UnM1 x y → UnML xs ys → UnML (x :: xs) (y :: ys)
theorem UnML.append {a b c d : List LV} (h : UnML a b) (k : UnML c d) : UnML (a ++ c) (b ++ d) := by
  induction h with
  | nil => exact k
  | cons h _ ih => exact .cons h ih
theorem UnML.length {a b : List LV} (h : UnML a b) : a.length = b.length := by
  induction h with
  | nil => rfl
  | cons _ _ ih => simp [ih]
theorem UnML.map {α : Type} {f e : α → LV} (h : ∀ a, UnML (f a).cells (e a).cells) : ∀ l : List α, UnML ((l.map f).flatMap LV.cells) ((l.map e).flatMap LV.cells)
  | [] => .nil
  | a :: l => by
    rw [List.map_cons, List.flatMap_cons, List.map_cons, List.flatMap_cons]; exact (h a).append (UnML.map h l)
theorem UnML.fro {w : World} {ok ok' : Nat → Prop} {ρ : Env} (hok : ∀ b, ok b → ok' b) {xs : List LV} {vs : List Value} {fps : List Nat} (h : MCells w ok ρ xs vs fps) : ∀ {ys : List LV}, UnML xs ys → (∀ b ∈ fps, ok' b) → FroL w ok' ys vs := by
  induction h with
  | nil => intro ys hu _; cases hu; exact .nil
  | cons h h1 _ ih =>
    intro ys hu hf; cases hu with
    | cons h2 h3 =>
      refine .cons ?_ h1 (ih h3 (fun b hb => hf b (by simp [hb]))); cases h2 with
      | imm v => cases h; exact .imm _
      | fz x => cases h with | fz h => exact h.stable (fun _ _ => rfl) hok
      | nw sz zs =>
        cases h with
        | nw0 => exact .sl0 (Nat.zero_le _)
        | nw m1 m2 m3 m4 m5 m6 m7 =>
          rcases zs with _ | ⟨z, zs⟩
          · exact .sl0 m7
          · exact .sl (by simp) m1 (m2.stable (fun _ _ => rfl) hok) (cells_of m3 m5) (hf _ (by simp)) m6 m7
inductive MarkD1 : LV → LV → Prop
  | imm (v : Value) : MarkD1 (.imm v) (.imm v)
  | fz (sz : Nat) (xs : List LV) : MarkD1 (.sl sz xs) (.tup [.sl sz xs])
  | nw (sz : Nat) (xs : List LV) : MarkD1 (.sl sz xs) (.nw sz xs false)
inductive MarkDL : List LV → List LV → Prop
  | nil : MarkDL [] []
  | cons {x y : LV} {xs ys : List LV} : MarkD1 x y → MarkDL xs ys → MarkDL (x :: xs) (y :: ys)
theorem MarkDL.append {a b c d : List LV} (h : MarkDL a b) (k : MarkDL c d) : MarkDL (a ++ c) (b ++ d) := by
  induction h with
  | nil => exact k
  | cons h _ ih => exact .cons h ih
theorem MarkDL.length {a b : List LV} (h : MarkDL a b) : a.length = b.length := by
  induction h with
  | nil => rfl
  | cons _ _ ih => simp [ih]
theorem MarkDL.refs {a b : List LV} (h : MarkDL a b) : LV.refs.refsL b = [] := by
  induction h with
  | nil => rfl
  | cons h _ ih =>
    rw [LV.refs.refsL, ih, List.append_nil]; cases h <;> rfl
theorem MarkDL.map {α : Type} {f e : α → LV} (h : ∀ a, MarkDL (e a).cells (f a).cells) : ∀ l : List α, MarkDL ((l.map e).flatMap LV.cells) ((l.map f).flatMap LV.cells)
  | [] => .nil
  | a :: l => by
    rw [List.map_cons, List.flatMap_cons, List.map_cons, List.flatMap_cons]; exact (h a).append (MarkDL.map h l)
theorem MarkDL.cells {w : World} {ρ : Env} : ∀ {xs : List LV} {vs : List Value} {fps : List Nat}, DeepL w xs vs fps → fps.Nodup → ∀ {ys : List LV}, MarkDL xs ys → ∃ g : List Nat, g.Sublist fps ∧ ∀ ok : Nat → Prop, (∀ b ∈ fps, b ∉ g → ok b) → MCells w ok ρ ys vs g
  | _, _, _, .nil, _, _, .nil => ⟨[], by simp, fun _ _ => .nil⟩
  | _, _, _, .cons (v := v) (f := f) (g := g) h h1 h2, hn, _, .cons (y := y) k k2 => by
    rw [List.nodup_append] at hn; obtain ⟨n1, n2, n3⟩ := hn; obtain ⟨g2, s2, c2⟩ := MarkDL.cells (ρ := ρ) h2 n2 k2
    have one : ∃ g1 : List Nat, g1.Sublist f ∧ ∀ ok : Nat → Prop, (∀ b ∈ f, b ∉ g1 → ok b) → MCell w ok ρ y v g1 := by
      cases k with
      | imm v => cases h; exact ⟨[], by simp, fun _ _ => .imm v⟩
      | fz sz xs => exact ⟨[], by simp, fun ok hok => .fz (h.fro (fun b hb => hok b hb (by simp)))⟩
      | nw sz xs =>
        cases h with
        | sl0 => exact ⟨[], by simp, fun _ _ => .nw0⟩
        | @sl _ c B _ us arr t fps1 m1 m2 m3 m4 m5 m6 m7 =>
          refine ⟨[B], by simp, fun ok hok => .nw m1 (m2.fro (fun b hb => hok b (by simp [hb]) ?_)) m3 m4 m5 m6 m7⟩; have := (List.nodup_cons.1 n1).1; simp only [List.mem_singleton]; intro e; exact this (e ▸ hb)
    obtain ⟨g1, s1, c1⟩ := one; refine ⟨g1 ++ g2, s1.append s2, fun ok hok => .cons (c1 ok fun b hb hnb => hok b (by simp [hb]) ?_) h1 (c2 ok fun b hb hnb => hok b (by simp [hb]) ?_)⟩
    · rw [List.mem_append, not_or]
      exact ⟨hnb, fun hm => n3 b hb b (s2.mem hm) rfl⟩
    · rw [List.mem_append, not_or]
      exact ⟨fun hm => n3 b (s1.mem hm) b hb rfl, hnb⟩
section
variable {P : Program} {E : Ent} {Q : Exit → LState → Prop} {s : LState} {all : Array Oper} {rest : List Oper} {d : Nat} {ty : TypeId} {pos : String} {af : Array Edge}
theorem SinkM.rep {h : LHeap} {xs ys : List LV} (hs : SinkM h xs ys []) : ∀ n : Nat, SinkM h (List.replicate n xs).flatten (List.replicate n ys).flatten []
  | 0 => .nil
  | n + 1 => by
    rw [List.replicate_succ, List.flatten_cons, List.replicate_succ, List.flatten_cons]
    have app : ∀ {a b c d : List LV} {ks ks' : List Nat}, SinkM h a b ks → SinkM h c d ks' → SinkM h (a ++ c) (b ++ d) (ks ++ ks') := by
      intro a b c d ks ks' h1 h2
      induction h1 with
      | nil => exact h2
      | cons h h' ih => rw [List.append_assoc]; exact .cons h ih
    exact app hs (hs.rep n)
end
end Go.Lift
/- The lifted logic, part 58: lists some of whose parts are owned: appended to, handed back. Own work. -/
namespace Go.Lift
open Go.RowKit
theorem MCells.ones {w : World} {ok : Nat → Prop} {ρ : Env} {xs : List LV} {vs : List Value} {f : List Nat} (h : MCells w ok ρ xs vs f) : ∀ u ∈ vs, u.oneCell' = true := by
  induction h with
  | nil => simp
  | cons _ h1 _ ih =>
    intro u hu; rcases List.mem_cons.1 hu with rfl | hu
    · exact h1
    · exact ih u hu
section
variable {P : Program} {E : Ent} {Q : Exit → LState → Prop} {s : LState} {all : Array Oper} {rest : List Oper} {d : Nat} {ty : TypeId} {pos : String} {af : Array Edge}
end
end Go.Lift
/- Short forms of steps: what one may leave out. Own work. -/
namespace Go.Lift
open Go.RowKit
variable {P : Program} {E : Ent} {Q : Exit → LState → Prop} {s : LState} {all : Array Oper} {rest : List Oper} {ty : TypeId} {pos : String} {af : Array Edge}
theorem LWo.gN {op : Op} {j d : Nat} {b nw want : Bool} (t : Nat) (h : b = nw) (hn : LWo P E all rest Q (s.put (some d) (.imm undef)))
    (hb : get t s.tm = .imm (.bool b) := by exact rfl) (hd : (all[j]?).bind (·.dst) = some t := by exact rfl) (hlt : Nat.blt d E.n = true := by exact rfl) (hne : nw = !want := by exact rfl) :
    LWo P E all ({ dst := some d, op := op, type := ty, pos := pos, after := af, guard := some (j, want) } :: rest) Q s :=
  LWo.guardNU hb h rfl hd rfl hlt hne hn
theorem LWo.gU {op : Op} {j d : Nat} {want : Bool} (t : Nat) (hn : LWo P E all rest Q (s.put (some d) (.imm undef)))
    (hb : get t s.tm = .imm undef := by exact rfl) (hd : (all[j]?).bind (·.dst) = some t := by exact rfl) (hlt : Nat.blt d E.n = true := by exact rfl) :
    LWo P E all ({ dst := some d, op := op, type := ty, pos := pos, after := af, guard := some (j, want) } :: rest) Q s :=
  LWo.guardU hb rfl hd rfl hlt hn
theorem LWo.gY {dst : Option Nat} {op : Op} {j : Nat} {b want : Bool} (t : Nat) (h : b = want)
    (hn : LWo P E all ({ dst := dst, op := op, type := ty, pos := pos, after := af, guard := none } :: rest) Q s)
    (hb : get t s.tm = .imm (.bool b) := by exact rfl) (hd : (all[j]?).bind (·.dst) = some t := by exact rfl) :
    LWo P E all ({ dst := dst, op := op, type := ty, pos := pos, after := af, guard := some (j, want) } :: rest) Q s :=
  LWo.guardY hb h rfl hd hn
theorem so {α : Type} {a b : α} (h : some a = some b) : a = b := Option.some.inj h
theorem QG.p {t : Nat} {e : Exit} {r' : LV} (h1 : get t s.tm = r' := by exact rfl) (h2 : LV.pure r' = true := by exact rfl) (he : e = .normal ∨ e = .ret := by exact .inr rfl) : QG P E [.tmp t] (fun r h => r = r' ∧ h = []) e s :=
  QG.mk he (.cons (.tmp (x := r') h1) .nil) (RetOK.one0 (.pure h2) (by decide)) rfl rfl
end Go.Lift
/- The lifted logic, part 60: a list that was cut is given up. Own work. -/
namespace Go.Lift
open Go.RowKit
variable {P : Program} {E : Ent} {Q : Exit → LState → Prop} {s : LState} {all : Array Oper} {rest : List Oper}
end Go.Lift
/- The lifted logic, part 61: a state written out anew inside a region. Own work. -/
namespace Go.Lift
open Go.RowKit
variable {P : Program} {E : Ent} {Q : Exit → LState → Prop} {s : LState} {all : Array Oper} {rest : List Oper}
end Go.Lift
/- The lifted logic, part 62: a variable that a closure writes; it is lent under any name. Own work. -/
namespace Go.Lift
open Go.RowKit
section
variable {P : Program}
end
end Go.Lift
/- The lifted logic, part 63: a list without spare room, and what is put behind it. Own work. -/
namespace Go.Lift
open Go.RowKit
section
variable {P : Program} {E : Ent} {Q : Exit → LState → Prop} {s : LState} {all : Array Oper} {rest : List Oper} {d : Nat} {ty : TypeId} {pos : String} {af : Array Edge}
end
end Go.Lift
/- The lifted logic, part 64: a variable is lent, and given up; what comes back takes its name. Own work. -/
namespace Go.Lift
open Go.RowKit
section
variable {P : Program} {E : Ent} {Q : Exit → LState → Prop} {s : LState} {all : Array Oper} {rest : List Oper} {d : Nat} {ty : TypeId} {pos : String} {af : Array Edge}
end
end Go.Lift
/- The lifted logic, part 65: lists that are read and have no spare room. Own work. -/
namespace Go.Lift
open Go.RowKit
section
variable {P : Program} {E : Ent} {Q : Exit → LState → Prop} {s : LState} {all : Array Oper} {rest : List Oper} {d : Nat} {ty : TypeId} {pos : String} {af : Array Edge}
end
end Go.Lift
/- The lifted logic, part 67: method values; variables in memory that are given up. Own work. -/
namespace Go.Lift
open Go.RowKit
section
variable {P : Program} {E : Ent} {Q : Exit → LState → Prop} {s : LState} {all : Array Oper} {rest : List Oper} {d : Nat} {ty : TypeId} {pos : String} {af : Array Edge}
def PtrAt (tm : Tm) (k : Nat) : List Nat → Prop
  | [] => True
  | t :: r => get t tm = .ptr k 0 0 ∧ PtrAt tm k r
theorem PtrAt.mem {tm : Tm} {k j : Nat} : ∀ {ts : List Nat}, PtrAt tm k ts → j ∈ ts → get j tm = .ptr k 0 0
  | t :: r, h, hm => by
    rcases List.mem_cons.1 hm with rfl | hm
    · exact h.1
    · exact h.2.mem hm
end
end Go.Lift
/- The lifted logic, part 68: structs whose lists are lent, or read. Own work. -/
namespace Go.Lift
open Go.RowKit
section
variable {P : Program} {E : Ent} {Q : Exit → LState → Prop} {s : LState} {all : Array Oper} {rest : List Oper} {d : Nat} {ty : TypeId} {pos : String} {af : Array Edge}
end
end Go.Lift
/- The lifted logic, part 69: what stays when a map of one's own turns. Own work. -/
namespace Go.Lift
open Go.RowKit
structure TurnM (w w' : World) (b : Nat) : Prop where
  els : ∀ k, k ≠ b → w'.heap[k]? = w.heap[k]?
  was : ∃ es c, w.heap[b]? = some (.map es c)
theorem TurnM.cells {w w' : World} {b : Nat} (h : TurnM w w' b) {ad : Addr} {vs : List Value} (hc : Cells w ad vs) : Cells w' ad vs := fun k v hk => by
  have h1 := hc k v hk
  by_cases e : (ad.add k).block = b
  · obtain ⟨es, c, hm⟩ := h.was
    rw [← e] at hm; simp [World.cell?, hm] at h1
  · rw [World.cell?_of_block (w := w) (h.els _ e)]; exact h1
theorem TurnM.blk {w w' : World} {b : Nat} (h : TurnM w w' b) {B : Nat} {arr : Array Value} {t : TypeId} {fr : Nat × Nat} (hB : w.heap[B]? = some (.cells arr t fr)) : w'.heap[B]? = some (.cells arr t fr) := by
  rw [h.els B (by
    rintro rfl; obtain ⟨es, c, hm⟩ := h.was; rw [hm] at hB; cases hB)]
  exact hB
mutual
theorem Fro.turnM {w w' : World} {ok : Nat → Prop} {b : Nat} (ht : TurnM w w' b) : ∀ {x : LV} {v : Value}, Fro w ok x v → Fro w' ok x v
  | _, _, .imm v => .imm v
  | _, _, .agg h => .agg (FroL.turnM ht h)
  | _, _, .sl0 h => .sl0 h
  | _, _, .sl h0 h1 h2 h3 h4 h5 h6 => .sl h0 h1 (FroL.turnM ht h2) (ht.cells h3) h4 h5 h6
  | _, _, .mv h => .mv (Fro.turnM ht h)
  | _, _, .slx0 => .slx0
  | _, _, .slx h0 h1 h2 h3 h4 h5 => .slx h0 h1 (FroL.turnM ht h2) (ht.cells h3) h4 h5
  | _, _, .clo h => .clo (FroL.turnM ht h)
theorem FroL.turnM {w w' : World} {ok : Nat → Prop} {b : Nat} (ht : TurnM w w' b) : ∀ {x : List LV} {v : List Value}, FroL w ok x v → FroL w' ok x v
  | _, _, .nil => .nil
  | _, _, .cons h h1 h2 => .cons (Fro.turnM ht h) h1 (FroL.turnM ht h2)
end
mutual
theorem Deep.turnM {w w' : World} {b : Nat} (ht : TurnM w w' b) : ∀ {x : LV} {v : Value} {f : List Nat}, Deep w x v f → Deep w' x v f
  | _, _, _, .imm v => .imm v
  | _, _, _, .sl0 => .sl0
  | _, _, _, .sl h1 h2 h3 h4 h5 h6 h7 => .sl h1 (DeepL.turnM ht h2) (ht.blk h3) h4 h5 h6 h7
theorem DeepL.turnM {w w' : World} {b : Nat} (ht : TurnM w w' b) : ∀ {x : List LV} {v : List Value} {f : List Nat}, DeepL w x v f → DeepL w' x v f
  | _, _, _, .nil => .nil
  | _, _, _, .cons h h1 h2 => .cons (Deep.turnM ht h) h1 (DeepL.turnM ht h2)
end
theorem DCells.turnM {w w' : World} {ρ : Env} {b : Nat} (ht : TurnM w w' b) {xs : List LV} {vs : List Value} {f : List Nat} (h : DCells w ρ xs vs f) : DCells w' ρ xs vs f := by
  induction h with
  | nil => exact .nil
  | deep h h1 _ ih => exact .deep (h.turnM ht) h1 ih
  | own h h1 h2 _ ih => exact .own h h1 h2 ih
  | own0 _ ih => exact .own0 ih
theorem MCells.turnM {w w' : World} {ok : Nat → Prop} {ρ : Env} {b : Nat} (ht : TurnM w w' b) {xs : List LV} {vs : List Value} {f : List Nat} (h : MCells w ok ρ xs vs f) : MCells w' ok ρ xs vs f := by
  induction h with
  | nil => exact .nil
  | cons h h1 _ ih =>
    refine .cons ?_ h1 ih; clear h1 ih; cases h with
    | imm => exact .imm _
    | fz h => exact .fz (h.turnM ht)
    | nw0 => exact .nw0
    | nw h1 h2 h3 h4 h5 h6 h7 => exact .nw h1 (h2.turnM ht) (ht.blk h3) h4 h5 h6 h7
    | own h h1 h2 => exact .own h h1 h2
    | own0 => exact .own0
    | junk => exact .junk _
def LV.noMp : LV → Bool
  | .mp .. => false
  | .agg cs | .tup cs | .clo _ cs => go cs
  | _ => true
where go : List LV → Bool
  | [] => true
  | x :: xs => x.noMp && go xs
mutual
theorem Rep.turnM {w w' : World} {ok : Nat → Prop} {ρ : Env} {b : Nat} (ht : TurnM w w' b) : ∀ {x : LV} {v : Value}, x.noMp = true → Rep w ok ρ x v → Rep w' ok ρ x v
  | _, _, _, .junk v => .junk v
  | _, _, _, .fro h => .fro (h.turnM ht)
  | _, _, hn, .agg h => .agg (RepL.turnM ht (by simpa [LV.noMp] using hn) h)
  | _, _, hn, .tup h => .tup (RepT.turnM ht (by simpa [LV.noMp] using hn) h)
  | _, _, hn, .clo h => .clo (RepL.turnM ht (by simpa [LV.noMp] using hn) h)
  | _, _, _, .fp h h1 h2 => .fp (h.turnM ht) (ht.cells h1) h2
  | _, _, _, .ptr h => .ptr h
  | _, _, _, .own h h1 h2 => .own h h1 h2
  | _, _, _, .own0 => .own0
  | _, _, _, .ownc h h1 h2 => .ownc h h1 h2
  | _, _, _, .ownc0 => .ownc0
  | _, _, hn, .mp .. => by simp [LV.noMp] at hn
theorem RepL.turnM {w w' : World} {ok : Nat → Prop} {ρ : Env} {b : Nat} (ht : TurnM w w' b) : ∀ {x : List LV} {v : List Value}, LV.noMp.go x = true → RepL w ok ρ x v → RepL w' ok ρ x v
  | _, _, _, .nil => .nil
  | _, _, hn, .cons h h1 h2 => by
    simp [LV.noMp.go] at hn; exact .cons (Rep.turnM ht hn.1 h) h1 (RepL.turnM ht hn.2 h2)
theorem RepT.turnM {w w' : World} {ok : Nat → Prop} {ρ : Env} {b : Nat} (ht : TurnM w w' b) : ∀ {x : List LV} {v : List Value}, LV.noMp.go x = true → RepT w ok ρ x v → RepT w' ok ρ x v
  | _, _, _, .nil => .nil
  | _, _, hn, .cons h h2 => by
    simp [LV.noMp.go] at hn; exact .cons (Rep.turnM ht hn.1 h) (RepT.turnM ht hn.2 h2)
end
theorem ObjCells.turnM {w w' : World} {ok : Nat → Prop} {ρ : Env} {b : Nat} (ht : TurnM w w' b) {k : Kind} {cells : List LV} {vs : List Value} {fps : List Nat} (hn : k = .box → LV.noMp.go cells = true) (h : ObjCells w ok ρ k cells vs fps) : ObjCells w' ok ρ k cells vs fps := by
  cases k with
  | fro => exact ⟨h.1, FroL.turnM ht h.2⟩
  | deep => exact DeepL.turnM ht h
  | box => exact ⟨h.1, RepL.turnM ht (hn rfl) h.2⟩
  | split => exact DCells.turnM ht h
  | mix out => exact ⟨MCells.turnM ht h.1, h.2⟩
theorem ObjRep.turnM {w w' : World} {ok : Nat → Prop} {ρ : Env} {b : Nat} (ht : TurnM w w' b) {o : Nat} {obj : LObj} {fp : List Nat} (hn : obj.kind = .box → LV.noMp.go (obj.elems.flatMap LV.cells) = true) (h : ObjRep w ok ρ o obj fp) : ObjRep w' ok ρ o obj fp := by
  rcases h with h | ⟨p, arr, t, vs, fps, h, rfl, h2⟩
  · exact .inl h
  · exact .inr ⟨p, arr, t, vs, fps, h, rfl, { h2 with blk := ht.blk h2.blk, cells := h2.cells.turnM ht hn }⟩
section
variable {P : Program} {E : Ent} {Q : Exit → LState → Prop} {s : LState} {all : Array Oper} {rest : List Oper} {d : Nat} {ty : TypeId} {pos : String} {af : Array Edge}
def boxesNoMp (h : LHeap) : Bool := h.all fun p => p.2.kind != .box || LV.noMp.go (p.2.elems.flatMap LV.cells)
theorem HeapOK.turnM {w w' : World} {ok : Nat → Prop} {ρ : Env} {F : Nat → List Nat} {h : LHeap} {b : Nat} (ht : TurnM w w' b) (hs : w'.heap.size = w.heap.size) (hb : boxesNoMp h = true) (hh : HeapOK w ok ρ F h) : HeapOK w' ok ρ F h :=
  ⟨hh.keys, fun p hp => (hh.objs p hp).turnM ht (fun hk => by
    have := List.all_eq_true.1 hb p hp; simpa [hk] using this), hh.nodup, fun q hq => by rw [hs]; exact hh.apart q hq⟩
end
end Go.Lift
/- The lifted logic, part 70: maps of numbers that a call makes itself. Own work. -/
namespace Go.Lift
open Go.RowKit
theorem findNow_has {n : Int} : ∀ {es : List MapEntry} {ks : List Int} (i : Nat), es.map (fun e => (e.key, e.val)) = ks.map (fun k => (Value.int .i64 k, Value.bool true)) → ks.contains n = true → ∃ j, Instr.findNow (.int .i64) (.int .i64 n) es i = some (some (j, .bool true))
  | [], [], _, _, h => by simp at h
  | [], _ :: _, _, h, _ => by simp at h
  | _ :: _, [], _, h, _ => by simp at h
  | e :: es, k :: ks, i, h, hc => by
    simp only [List.map_cons, List.cons.injEq, Prod.mk.injEq] at h; obtain ⟨⟨h1, h2⟩, h3⟩ := h; unfold Instr.findNow Instr.sameNow; rw [h1, h2]
    by_cases e : n = k
    · subst e; simp
    · have hc' : ks.contains n = true := by
        simp only [List.contains_cons] at hc; simpa [e] using hc
      obtain ⟨j, hj⟩ := findNow_has (i + 1) h3 hc'; exact ⟨j, by simp [hj, show (n == k) = false by simpa using e]⟩
theorem findNow_not {n : Int} : ∀ {es : List MapEntry} {ks : List Int} (i : Nat), es.map (fun e => (e.key, e.val)) = ks.map (fun k => (Value.int .i64 k, Value.bool true)) → ks.contains n = false → Instr.findNow (.int .i64) (.int .i64 n) es i = some none
  | [], [], _, _, h => rfl
  | [], _ :: _, _, h, _ => by simp at h
  | _ :: _, [], _, h, _ => by simp at h
  | e :: es, k :: ks, i, h, hc => by
    simp only [List.map_cons, List.cons.injEq, Prod.mk.injEq] at h; obtain ⟨⟨h1, h2⟩, h3⟩ := h; unfold Instr.findNow Instr.sameNow; rw [h1]; simp only [List.contains_cons, Bool.or_eq_false_iff] at hc; have e : ¬ n = k := by simpa using hc.1
    simp [hc.1, findNow_not (i + 1) h3 hc.2]
section
variable {P : Program} {E : Ent} {Q : Exit → LState → Prop} {s : LState} {all : Array Oper} {rest : List Oper} {d : Nat} {ty : TypeId} {pos : String} {af : Array Edge}
theorem Inv'.reenv {k : Nat} (pl : Option Place) (hkp : E.keep.contains k = false) (hl : Lift.lone k (hdel k s.h) = true) {a : Act} {w : World} {ok : Nat → Prop} {ρ : Env} {F : Nat → List Nat} (h : Inv' E s a w ok ρ F) :
    Inv' E { tm := kill k s.tm, h := hdel k s.h } a w ok (upd ρ k pl) F := by
  have h' := h.sub (hdel_sub k s.h); have hne := not_key (hdel_key k s.h); refine { h' with heap := ⟨h'.heap.keys, ?_, h'.heap.nodup, h'.heap.apart⟩, slots := ?_, keep := fun j hj => (upd_other ρ _ (show j ≠ k from fun e => by subst e; simp [hj] at hkp)).trans (h.keep j hj) }
  · intro p hp
    exact (h'.heap.objs p hp).stable (fun _ _ => rfl) (fun _ hb => hb) (fun _ _ => rfl) (upd_other _ _ (hne p hp)) (fun j hj => upd_other _ _ (fun e => lone_refs hl p hp (e ▸ hj)))
  · intro t'
    refine Rep.stable (fun _ _ => rfl) (fun _ hb => hb) (fun o ho => upd_other _ _ (fun e => kill_refs k t' s.tm (e ▸ ho))) ?_; show Rep w ok ρ (get t' (kill k s.tm)) _; rw [get_kill]
    split
    · exact .junk _
    · exact h.slots t'
theorem LWo.makeMapM {T : TypeId} (k : Nat) (hl : Lift.lone k (hdel k s.h) = true) (hkp : E.keep.contains k = false := by exact rfl) (hd : Nat.blt d E.n = true := by exact rfl)
    (hn : LWo P E all rest Q { tm := (d, .mp k [] E.w0.heap.size) :: kill k s.tm, h := hdel k s.h }) :
    LWo P E all ({ dst := some d, op := .makeMap T none, type := ty, pos := pos, after := af, guard := none } :: rest) Q s :=
  LWo.value (({ tm := kill k s.tm, h := hdel k s.h } : LState).put (some d) (.mp k [] E.w0.heap.size)) rfl (fun a w ok ρ F hi => by
    have h1 := (hi.newFro (.map #[] 0)).reenv (k := k) (some ⟨w.heap.size, 0, 0⟩) hkp hl; refine ⟨.value (.map (some w.heap.size)), w.alloc (.map #[] 0), ?_, .inl ⟨_, rfl, _, _, _, h1.put hd ?_⟩⟩
    · simp [execOp, Instr.makeMap, newObj, Sem.run]
    · exact .mp (p := ⟨w.heap.size, 0, 0⟩) (by simp) (heap_alloc_at w _) (.inr rfl) rfl hi.ext.size) hn
theorem LWo.lookM {T kt et : TypeId} {m x : Operand} {o lim : Nat} {ks : List Int} {n : Int} (hu : P.underlying T = some (.map kt et)) (hk : P.underlying kt = some (.int .i64)) (hz : ∀ w, (zeroValue et).run P w = .ok (.bool false) w) (hm : s.eval m = .mp o ks lim) (hx : s.eval x = .imm (.int .i64 n)) (hd : Nat.blt d E.n = true := by exact rfl)
    (hn : LWo P E all rest Q (s.put (some d) (.imm (.bool (ks.contains n))))) :
    LWo P E all ({ dst := some d, op := .lookup T m x false, type := ty, pos := pos, after := af, guard := none } :: rest) Q s :=
  LWo.still _ hd (fun a w ok ρ F hi => ⟨.bool (ks.contains n), by
    have h := hi.eval m; rw [hm] at h; generalize hv : a.eval m = v at h; cases h with
    | fro h => cases h
    | mp h1 h2 h3 h4 h5 =>
      rename_i p es clk
      have hck : ∀ b w, (Instr.checkKey b 10000 kt (.int .i64 n)).run P w = .ok () w := by
        intro b w; rw [show (10000 : Nat) = 9999 + 1 from rfl, Instr.checkKey]; simp [underlying, hk, program, Sem.run]
      cases hc : ks.contains n with
      | true =>
        obtain ⟨j, hj⟩ := findNow_has 0 h4 hc; simp [execOp, Instr.lookup, underlying, hu, program, hv, hi.imm hx, getObj, h2, hck, Instr.findKey, hk, hj, Sem.run]
      | false =>
        have hj := findNow_not 0 h4 hc; simp [execOp, Instr.lookup, underlying, hu, program, hv, hi.imm hx, getObj, h2, hck, Instr.findKey, hk, hj, hz, Sem.run], .fro (.imm _)⟩) hn
def killM : Tm → Tm
  | [] => []
  | (j, v) :: r => (j, if v.noMp then v else .junk) :: killM r
theorem get_killM (t : Nat) : ∀ tm : Tm, get t (killM tm) = if (get t tm).noMp then get t tm else .junk
  | [] => by simp [killM, get, LV.noMp]
  | (j, v) :: r => by
    simp only [killM, get]
    split
    · rfl
    · exact get_killM t r
def MpAt (tm : Tm) (o : Nat) (ks : List Int) (lim : Nat) : List Nat → Prop
  | [] => True
  | t :: r => get t tm = .mp o ks lim ∧ MpAt tm o ks lim r
theorem MpAt.mem {tm : Tm} {o lim j : Nat} {ks : List Int} : ∀ {ts : List Nat}, MpAt tm o ks lim ts → j ∈ ts → get j tm = .mp o ks lim
  | t :: r, h, hm => by
    rcases List.mem_cons.1 hm with rfl | hm
    · exact h.1
    · exact h.2.mem hm
def mapAdd (ks : List Int) (n : Int) : List Int := bif ks.contains n then ks else ks ++ [n]
theorem findNow_at {n : Int} : ∀ {es : List MapEntry} {ks : List Int} (i : Nat), es.map (fun e => (e.key, e.val)) = ks.map (fun k => (Value.int .i64 k, Value.bool true)) → ks.contains n = true → ∃ j e, Instr.findNow (.int .i64) (.int .i64 n) es i = some (some (i + j, .bool true)) ∧ es[j]? = some e ∧ e.key = .int .i64 n ∧ e.val = .bool true
  | [], [], _, _, h => by simp at h
  | [], _ :: _, _, h, _ => by simp at h
  | _ :: _, [], _, h, _ => by simp at h
  | e :: es, k :: ks, i, h, hc => by
    simp only [List.map_cons, List.cons.injEq, Prod.mk.injEq] at h; obtain ⟨⟨h1, h2⟩, h3⟩ := h; unfold Instr.findNow Instr.sameNow; rw [h1, h2]
    by_cases e0 : n = k
    · subst e0; exact ⟨0, e, by simp, rfl, h1, h2⟩
    · have hc' : ks.contains n = true := by
        simp only [List.contains_cons] at hc; simpa [e0] using hc
      obtain ⟨j, q, hj, hq, hk, hv⟩ := findNow_at (i + 1) h3 hc'; exact ⟨j + 1, q, by simp [hj, show (n == k) = false by simpa using e0]; omega, by simpa using hq, hk, hv⟩
theorem Inv'.mapTurn {ts : List Nat} {o lim : Nat} {ks ks' : List Int} {p : Place} {es es' : Array MapEntry} {clk clk' : Nat} {a : Act} {w : World} {ok : Nat → Prop} {ρ : Env} {F : Nat → List Nat} (hi : Inv' E s a w ok ρ F) (hg : MpAt s.tm o ks lim ts) (hb : boxesNoMp s.h = true) (hp : ρ o = some p) (hw : w.heap[p.blk]? = some (.map es clk)) (hok : ok p.blk) (hlp : lim ≤ p.blk) (hl : E.w0.heap.size ≤ lim) (hm : MapIs es' ks') :
    Inv' E { tm := slT (.mp o ks' lim) (killM s.tm) ts, h := s.h } a { w with heap := w.heap.setIfInBounds p.blk (.map es' clk') } ok ρ F := by
  have hlt : p.blk < w.heap.size := (Array.getElem?_eq_some_iff.1 hw).1
  have ht : TurnM w { w with heap := w.heap.setIfInBounds p.blk (.map es' clk') } p.blk := ⟨fun k hk => by
    show (w.heap.setIfInBounds p.blk _)[k]? = _; rw [Array.getElem?_setIfInBounds, if_neg (fun e => hk e.symm)], ⟨es, clk, hw⟩⟩
  refine { defers := hi.defers, size := hi.size, ext := ⟨hi.ext.os, hi.ext.tape, hi.ext.output, by show _ ≤ (w.heap.setIfInBounds _ _).size; rw [Array.size_setIfInBounds]; exact hi.ext.size, fun k hk hn => ?_, hi.ext.drawn⟩, okk := fun k hk => ⟨by show k < (w.heap.setIfInBounds _ _).size; rw [Array.size_setIfInBounds]; exact (hi.okk k hk).1, (hi.okk k hk).2⟩, heap := hi.heap.turnM ht (by show (w.heap.setIfInBounds _ _).size = _; rw [Array.size_setIfInBounds]) hb, mine := hi.mine, slots := fun t => ?_, keep := hi.keep }
  · exact (ht.els k (by omega)).trans (hi.ext.block k hk hn)
  · show Rep _ ok ρ (get t (slT _ (killM s.tm) ts)) _
    rw [get_slT]
    split
    · rename_i hmem
      have hs := hi.slots t; rw [hg.mem hmem] at hs; generalize a.tmps.getD t undef = v at hs; cases hs with
      | fro h => cases h
      | mp h1 h2 h3 h4 h5 =>
        rw [hp] at h1; cases h1; refine .mp (es := es') (clk := clk') hp ?_ hok hm hlp; show (w.heap.setIfInBounds p.blk _)[p.blk]? = _; rw [Array.getElem?_setIfInBounds, if_pos rfl, if_pos hlt]
    · rw [get_killM]
      split
      · rename_i hn
        exact Rep.turnM ht hn (hi.slots t)
      · exact .junk _
theorem mapIs_mod {es : Array MapEntry} {ks : List Int} {n : Int} {j : Nat} {q : MapEntry} (h : MapIs es ks) (hq : es.toList[j]? = some q) (hk : q.key = .int .i64 n) (hv : q.val = .bool true) : MapIs (es.modify j fun e => { e with key := .int .i64 n, val := .bool true }) ks := by
  unfold MapIs at h ⊢; rw [← h]
  apply List.ext_getElem?
  intro i; rw [List.getElem?_map, List.getElem?_map, Array.getElem?_toList, Array.getElem?_modify, Array.getElem?_toList]
  split
  · rename_i e
    subst e; rw [← Array.getElem?_toList, hq]; simp [hk, hv]
  · rfl
theorem LWo.mapUpdM {T kt et : TypeId} {m x y : Operand} {o lim : Nat} {ks : List Int} {n : Int} (ts : List Nat) (hu : P.underlying T = some (.map kt et)) (hk : P.underlying kt = some (.int .i64)) (hm : s.eval m = .mp o ks lim) (hx : s.eval x = .imm (.int .i64 n)) (hy : s.eval y = .imm (.bool true)) (hg : MpAt s.tm o ks lim ts) (hb : boxesNoMp s.h = true) (hl : E.w0.heap.size ≤ lim)
    (hn : LWo P E all rest Q { tm := slT (.mp o (mapAdd ks n) lim) (killM s.tm) ts, h := s.h }) :
    LWo P E all ({ dst := none, op := .mapUpdate T m x y, type := ty, pos := pos, after := af, guard := none } :: rest) Q s :=
  LWo.value { tm := slT (.mp o (mapAdd ks n) lim) (killM s.tm) ts, h := s.h } rfl (fun a w ok ρ F hi => by
    have h := hi.eval m; rw [hm] at h; generalize hv : a.eval m = v at h; cases h with
    | fro h => cases h
    | mp h1 h2 h3 h4 h5 =>
      rename_i p es clk
      have hck : ∀ b w, (Instr.checkKey b 10000 kt (.int .i64 n)).run P w = .ok () w := by
        intro b w; rw [show (10000 : Nat) = 9999 + 1 from rfl, Instr.checkKey]; simp [underlying, hk, program, Sem.run]
      cases hc : ks.contains n with
      | true =>
        obtain ⟨j, q, hj, hq, hqk, hqv⟩ := findNow_at 0 h4 hc; rw [Nat.zero_add] at hj; have hq' : es[j]? = some q := by rw [← Array.getElem?_toList]; exact hq
        have hs : Instr.sameBits 10000 (.int .i64 n) (.int .i64 n) = true := by
          rw [show (10000 : Nat) = 9999 + 1 from rfl]; simp [Instr.sameBits]
        refine ⟨.skip, { w with heap := w.heap.setIfInBounds p.blk (.map (es.modify j fun e => { e with key := .int .i64 n, val := .bool true }) clk) }, ?_, .inr ⟨rfl, ok, ρ, F, ?_⟩⟩
        · simp [execOp, Instr.mapUpdate, underlying, hu, program, hv, hi.imm hx, hi.imm hy, getObj, setObj, h2, hck, Instr.findKey, hk, hj, hq', hqk, Instr.keyThatStays, hs, Sem.run]
        · have := hi.mapTurn (es' := es.modify j fun e => { e with key := .int .i64 n, val := .bool true }) (clk' := clk) (ks' := mapAdd ks n) hg hb h1 h2 h3 h5 hl (by unfold mapAdd; rw [hc, cond_true]; exact mapIs_mod h4 hq hqk hqv)
          exact this
      | false =>
        have hj := findNow_not 0 h4 hc; refine ⟨.skip, { w with heap := w.heap.setIfInBounds p.blk (.map (es.push { key := .int .i64 n, val := .bool true, born := clk }) (clk + 1)) }, ?_, .inr ⟨rfl, ok, ρ, F, ?_⟩⟩
        · simp [execOp, Instr.mapUpdate, underlying, hu, program, hv, hi.imm hx, hi.imm hy, getObj, setObj, h2, hck, Instr.findKey, hk, hj, Sem.run]
        · have := hi.mapTurn (es' := es.push { key := .int .i64 n, val := .bool true, born := clk }) (clk' := clk + 1) (ks' := mapAdd ks n) hg hb h1 h2 h3 h5 hl (by
            unfold mapAdd MapIs at *; rw [hc, cond_false]; simp [h4])
          exact this) hn
end
end Go.Lift
/- The lifted logic, part 71: structs whose lists are lent, of any kind and number; a list and a value beside lists that are read. Own work. -/
namespace Go.Lift
open Go.RowKit
section
variable {P : Program} {E : Ent} {Q : Exit → LState → Prop} {s : LState} {all : Array Oper} {rest : List Oper} {d : Nat} {ty : TypeId} {pos : String} {af : Array Edge}
def Lents (s : LState) : LHeap → Prop
  | [] => True
  | (k, o) :: r => hget k s.h = some o ∧ (o.kind = .fro ∨ o.kind = .deep) ∧ o.ro = false ∧ Lents s r
theorem Lents.mem {s : LState} : ∀ {hl : LHeap}, Lents s hl → ∀ p ∈ hl, hget p.1 s.h = some p.2 ∧ (p.2.kind = .fro ∨ p.2.kind = .deep) ∧ p.2.ro = false
  | [], _ => by simp
  | (k, o) :: r, ⟨h1, h2, h3, h4⟩ => by
    intro p hp; rcases List.mem_cons.1 hp with rfl | hp
    · exact ⟨h1, h2, h3⟩
    · exact h4.mem p hp
def Backs (E : Ent) (s : LState) (ks : List Nat) : LHeap → Prop
  | [] => True
  | (k, o) :: r => ks.contains k = false ∧ hget k s.h = some o ∧ o.ro = false ∧ o.refs = [] ∧ E.keep.contains k = true ∧ Backs E s ks r
theorem Backs.mem {s : LState} {ks : List Nat} : ∀ {hl : LHeap}, Backs E s ks hl → ∀ p ∈ hl, ks.contains p.1 = false ∧ hget p.1 s.h = some p.2 ∧ p.2.ro = false ∧ p.2.refs = [] ∧ E.keep.contains p.1 = true
  | [], _ => by simp
  | (k, o) :: r, ⟨h1, h2, h3, h4, h5, h6⟩ => by
    intro p hp; rcases List.mem_cons.1 hp with rfl | hp
    · exact ⟨h1, h2, h3, h4, h5⟩
    · exact h6.mem p hp
end
end Go.Lift
/- The lifted logic, part 72: a list of one's own that is cut at its beginning, and appended to. Own work. -/
namespace Go.Lift
open Go.RowKit
section
variable {P : Program} {E : Ent} {Q : Exit → LState → Prop} {s : LState} {all : Array Oper} {rest : List Oper} {d : Nat} {ty : TypeId} {pos : String} {af : Array Edge}
end
def wrI (x : Int) : Int := IntKind.i64.wrap x
theorem wrI_of {x : Int} (h0 : -9223372036854775808 ≤ x) (h1 : x ≤ 9223372036854775807) : wrI x = x := wrap64_in h0 h1
theorem add_wr {m n : Int} : intBin .add .i64 m n = some (.int .i64 (wrI (m + n))) := rfl
end Go.Lift
/- The lifted logic, part 73: several objects made at once, in regions of open order too. Own work. -/
namespace Go.Lift
open Go.RowKit
theorem goodGN {add : LHeap} : ∀ k ∈ ([] : List (Nat × Nat)), (add.all fun p => p.1 == k.2 || !p.2.at? k.1) = true := fun _ h => by cases h
theorem goodGC {add : LHeap} {a : Nat × Nat} {l : List (Nat × Nat)} (h : (add.all fun p => p.1 == a.2 || !p.2.at? a.1) = true) (h2 : ∀ k ∈ l, (add.all fun p => p.1 == k.2 || !p.2.at? k.1) = true) : ∀ k ∈ a :: l, (add.all fun p => p.1 == k.2 || !p.2.at? k.1) = true := fun k hk => by
  rcases List.mem_cons.1 hk with rfl | hk
  · exact h
  · exact h2 k hk
theorem lone_addS {k : Nat} : ∀ {os : LHeap} {h : LHeap}, (∀ p ∈ os, p.2.at? k = false) → lone k (hdel k h) = true → lone k (hdel k (addS os h)) = true
  | [], _, _, h => h
  | (j, o) :: os, h, ha, hl => by
    have ih := lone_addS (os := os) (h := h) (fun p hp => ha p (by simp [hp])) hl; refine lone_put ?_ ih; rw [ha (j, o) (by simp)]; simp
theorem loneS_of {KS : List (Nat × Nat)} {s : LState} (g : Good KS s) : ∀ {os : LHeap}, ((os.all fun p => KS.contains (p.1, p.1)) && ((os.all fun p => os.all fun q => !p.2.at? q.1) && ndB (hkeys os))) = true → loneS os s.h = true
  | [], _ => rfl
  | (k, o) :: os, h => by
    simp only [Bool.and_eq_true, List.all_eq_true, List.contains_iff_mem, Bool.not_eq_true'] at h; obtain ⟨h1, h2, h3⟩ := h; simp only [hkeys, List.map_cons, ndB, Bool.and_eq_true, Bool.not_eq_true'] at h3; simp only [loneS, Bool.and_eq_true, Bool.not_eq_true']; refine ⟨lone_addS (fun p hp => h2 p (by simp [hp]) (k, o) (by simp)) (g (k, k) (h1 (k, o) (by simp))), h3.1, loneS_of g ?_⟩; simp only [Bool.and_eq_true, List.all_eq_true, List.contains_iff_mem, Bool.not_eq_true']; exact ⟨fun p hp => h1 p (by simp [hp]), fun p hp q hq => h2 p (by simp [hp]) q (by simp [hq]), h3.2⟩
theorem lobLen {α : Type} (sz : Nat) (f : α → LV) (l : List α) : l.length = (lob sz f l).elems.length := (List.length_map f).symm
section
variable {P : Program} {E : Ent} {Q : Exit → LState → Prop} {s : LState} {all : Array Oper} {rest : List Oper} {d : Nat} {ty : TypeId} {pos : String} {af : Array Edge}
theorem LWP.postG {c : Code} (h : LWP P E c (fun e t => e = .normal ∧ LWo P E #[] [] Q t) s) : LWP P E c Q s := fun a w hi =>
  wp_mono (h a w hi) fun e a w ⟨t, ht, he, hq⟩ => by
    subst he; exact hq a w ht
theorem LWo.frzCut {α : Type} {ops : List Oper} {sz off n : Nat} {f : α → LV} {l r : List α} (t k : Nat) (hg : get t s.tm = .own k off n) (ho : hget k s.h = some (lob sz f l)) (hle : off + n ≤ l.length) (hr : (l.drop off).take n = r)
    (hn : LWo P E all ops Q { tm := (t, .sl sz (r.map f)) :: kill k s.tm, h := hdel k s.h }) : LWo P E all ops Q s :=
  LWo.frz t k hg ho (.inl rfl) rfl (by simpa [lob] using hle) (by
    have e : ((lob sz f l).elems.drop off).take n = r.map f := by rw [← hr]; simp [lob, List.map_take, List.map_drop]
    rw [e]; exact hn)
end
end Go.Lift
/- The lifted logic, part 74: structs some of whose lists are owned while their elements are read. Own work. -/
namespace Go.Lift
open Go.RowKit
inductive OutsM : List LV → List LV → LHeap → Prop
  | nil : OutsM [] [] []
  | imm {v : Value} {xs ys : List LV} {os : LHeap} : OutsM xs ys os → OutsM (.imm v :: xs) (.imm v :: ys) os
  | fz {x : LV} {xs ys : List LV} {os : LHeap} : x.pure = true → OutsM xs ys os → OutsM (.tup [x] :: xs) (x :: ys) os
  | nw {k sz n : Nat} {zs xs ys : List LV} {os : LHeap} : n = zs.length → OutsM xs ys os → OutsM (.nw sz zs false :: xs) (.own k 0 n :: ys) ((k, { kind := .fro, sz := sz, elems := zs }) :: os)
theorem OutsM.refs {xs ys : List LV} {os : LHeap} (h : OutsM xs ys os) : LV.refs.refsL ys = hkeys os := by
  induction h with
  | nil => rfl
  | imm _ ih => simpa [LV.refs.refsL, LV.refs] using ih
  | fz hp _ ih => rw [LV.refs.refsL, pure_refs hp, List.nil_append]; exact ih
  | nw _ _ ih => simp [LV.refs.refsL, LV.refs, hkeys] at ih ⊢; exact ih
section
variable {P : Program} {E : Ent} {Q : Exit → LState → Prop} {s : LState} {all : Array Oper} {rest : List Oper} {d : Nat} {ty : TypeId} {pos : String} {af : Array Edge}
theorem OutsM.run {a : Act} {w : World} {ok : Nat → Prop} {ρ : Env} {F : Nat → List Nat} (hi : Inv' E s a w ok ρ F) {cs ys : List LV} {os : LHeap} (ho : OutsM cs ys os) : ∀ {vs : List Value} {fr : List Nat}, MCells w ok ρ cs vs fr → fr.Nodup →
    (∀ b ∈ fr, ¬ ok b ∧ b < w.heap.size ∧ b ∉ fpsOf F s.h ∧ (b < E.w0.heap.size → b ∈ E.lent)) → loneS os s.h = true → (∀ k ∈ hkeys os, E.keep.contains k = false) →
    ∃ ρ' F', Inv' E { tm := killS os s.tm, h := addS os s.h } a w ok ρ' F' ∧ RepL w ok ρ' ys vs ∧ ∀ b ∈ fpsOf F' (addS os s.h), b ∈ fr ∨ b ∈ fpsOf F s.h := by
  induction ho with
  | nil =>
    intro vs fr hD _ _ _ _; cases hD; exact ⟨ρ, F, hi, .nil, fun b hb => .inr hb⟩
  | imm _ ih =>
    intro vs fr hD hn hb hl hk; cases hD with
    | cons h1 h2 h3 =>
      cases h1; obtain ⟨ρ', F', g1, g2, g3⟩ := ih h3 hn hb hl hk; exact ⟨ρ', F', g1, .cons (.fro (.imm _)) h2 g2, g3⟩
  | fz _ _ ih =>
    intro vs fr hD hn hb hl hk; cases hD with
    | cons h1 h2 h3 =>
      cases h1 with
      | fz hf =>
        obtain ⟨ρ', F', g1, g2, g3⟩ := ih h3 hn hb hl hk; exact ⟨ρ', F', g1, .cons (.fro hf) h2 g2, g3⟩
  | @nw k sz n zs xs ys os hnz hO ih =>
    intro vs fr hD hn hb hl hk; subst hnz; unfold loneS at hl; rw [Bool.and_eq_true, Bool.and_eq_true] at hl; obtain ⟨hl1, hl2, hl3⟩ := hl; cases hD with
    | @cons _ v _ vs' fB g h1 h2 h3 =>
      rw [List.nodup_append] at hn; obtain ⟨n1, n2, n3⟩ := hn; obtain ⟨ρ1, F1, q1, q2, q3⟩ := ih h3 n2 (fun b hb' => hb b (by simp [hb'])) hl3 (fun j hj => hk j (by simp [hkeys] at hj ⊢; exact .inr hj)); have hkk := hk k (by simp [hkeys])
      have hkr : k ∉ LV.refs.refsL ys := by
        rw [hO.refs]; simpa using hl2
      have hbB : ∀ b ∈ fB, ¬ ok b ∧ b < w.heap.size ∧ b ∉ fpsOf F1 (addS os s.h) ∧ (b < E.w0.heap.size → b ∈ E.lent) := fun b hb' => by
        have h := hb b (by simp [hb']); refine ⟨h.1, h.2.1, fun hm => ?_, h.2.2.2⟩; rcases q3 b hm with h4 | h4
        · exact n3 b hb' b h4 rfl
        · exact h.2.2.1 h4
      have fin : ∀ pl : Option Place, ObjRep w ok (upd ρ1 k pl) k { kind := .fro, sz := sz, elems := zs } fB → Rep w ok (upd ρ1 k pl) (.own k 0 zs.length) v →
          ∃ ρ' F', Inv' E { tm := killS ((k, { kind := .fro, sz := sz, elems := zs }) :: os) s.tm, h := addS ((k, { kind := .fro, sz := sz, elems := zs }) :: os) s.h } a w ok ρ' F' ∧ RepL w ok ρ' (.own k 0 zs.length :: ys) (v :: vs') ∧ ∀ b ∈ fpsOf F' (addS ((k, { kind := .fro, sz := sz, elems := zs }) :: os) s.h), b ∈ fB ++ g ∨ b ∈ fpsOf F s.h := by
        intro pl p1 p2; have hi2 := settle_at q1 k hkk hl1 n1 hbB pl _ p1; refine ⟨_, _, hi2, .cons p2 h2 (RepL.stable (fun _ _ => rfl) (fun _ hb => hb) (fun o ho => upd_other _ _ (fun e => hkr (e ▸ ho))) q2), fun b hb' => ?_⟩; obtain ⟨q, hq, hb2⟩ := mem_fpsOf.1 hb'; rcases List.mem_cons.1 hq with rfl | hq
        · rw [upd_same] at hb2
          exact .inl (by simp [hb2])
        · rw [upd_other F1 fB (show q.1 ≠ k from not_key (hdel_key k _) q hq)] at hb2
          rcases q3 b (mem_fpsOf.2 ⟨q, (hdel_sub k _).mem hq, hb2⟩) with h4 | h4
          · exact .inl (by simp [h4])
          · exact .inr h4
      cases h1 with
      | nw0 => exact fin none (.inl ⟨by simp, rfl, rfl⟩) .own0
      | @nw _ c B _ us arr2 t2 m1 m2 m3 m4 m5 m6 m7 =>
        refine fin (some ⟨B, c, sz⟩) (.inr ⟨⟨B, c, sz⟩, arr2, t2, us, [], by simp, rfl, { sz := rfl, unif := m1, len := m6, cap := m7, blk := m3, room := m4, vals := m5, cells := ⟨rfl, m2⟩ }⟩) ?_; have := Rep.own (w := w) (ok := ok) (ρ := upd ρ1 k (some ⟨B, c, sz⟩)) (o := k) (off := 0) (n := zs.length) (c := c) (p := ⟨B, c, sz⟩) (by simp) (by simp) m6; simpa using this
theorem LWo.mscallM {α : Type} {f : Operand} {ops : List Operand} {ts : Array TypeId} {g : FuncId} {caps vals xs : List LV} {e : α → LV} {y : α} {ys : List LV} (os : LHeap) (hf : s.eval f = .clo g caps) (hv : ops.map s.eval ++ caps = vals)
    (hfn : Ret P g xs (.ms (e y).cells)) (hA : ArgsOK s [] vals xs []) (ho : OutsM (e y).cells ys os) (hl : loneS os s.h = true) (hkp : (hkeys os).all (fun k => !E.keep.contains k) = true) (hd : Nat.blt d E.n = true := by exact rfl)
    (hn : LWo P E all rest Q { tm := (d, .agg ys) :: killS os s.tm, h := addS os s.h }) :
    LWo P E all ({ dst := some d, op := .call { callee := .value f, args := ops.toArray, argTypes := ts }, type := ty, pos := pos, after := af, guard := none } :: rest) Q s := by
  refine LWo.callS hf hv hfn hA ⟨by simp [hkeys], by simp⟩ ?_; rintro r hl' ⟨rfl, rfl⟩; refine ⟨.inl rfl, _, ?_, hn⟩; intro a w ok ρ F v fr hi hr hnd hb; have e0 : ([] : LHeap) ++ hdels (hkeys (rwOf [])) s.h = s.h := by simp [rwOf, hkeys]
  rw [e0] at hi; rw [show ({ tm := s.tm, h := s.h } : LState) = s from rfl] at hi; simp only [e0] at hb; cases hr with
  | fro h => cases h
  | ms hD _ =>
    obtain ⟨ρ', F', g1, g2, _⟩ := ho.run hi (hD ρ) hnd hb hl (fun k hk => by
      have := List.all_eq_true.1 hkp k hk; simpa using this)
    exact ⟨_, _, _, g1.put hd (.agg g2)⟩
theorem LWo.tmscallM {α : Type} {f : Operand} {ops : List Operand} {ts : Array TypeId} {g : FuncId} {caps vals xs : List LV} {e : α → LV} {y : α} {ys : List LV} {v2 : LV} (os : LHeap) (hf : s.eval f = .clo g caps) (hv : ops.map s.eval ++ caps = vals)
    (hfn : Ret P g xs (.tup [.ms (e y).cells, v2])) (hA : ArgsOK s [] vals xs []) (hv2 : ∃ u, v2 = .imm u) (ho : OutsM (e y).cells ys os) (hl : loneS os s.h = true) (hkp : (hkeys os).all (fun k => !E.keep.contains k) = true) (hd : Nat.blt d E.n = true := by exact rfl)
    (hn : LWo P E all rest Q { tm := (d, .tup [.agg ys, v2]) :: killS os s.tm, h := addS os s.h }) :
    LWo P E all ({ dst := some d, op := .call { callee := .value f, args := ops.toArray, argTypes := ts }, type := ty, pos := pos, after := af, guard := none } :: rest) Q s := by
  obtain ⟨u, rfl⟩ := hv2; refine LWo.callS hf hv hfn hA ⟨by simp [hkeys], by simp⟩ ?_; rintro r hl' ⟨rfl, rfl⟩; refine ⟨.inl rfl, _, ?_, hn⟩; intro a w ok ρ F v fr hi hr hnd hb; have e0 : ([] : LHeap) ++ hdels (hkeys (rwOf [])) s.h = s.h := by simp [rwOf, hkeys]
  rw [e0] at hi; rw [show ({ tm := s.tm, h := s.h } : LState) = s from rfl] at hi; simp only [e0] at hb; cases hr with
  | fro h => cases h
  | tup hr =>
    cases hr with
    | cons _ h1 hr2 =>
      cases hr2 with
      | cons _ h2 h3 =>
        cases h3; cases h2 with
        | fro hf2 =>
          cases hf2; rw [List.append_nil, List.append_nil] at hnd hb; cases h1 with
          | fro h => cases h
          | ms hD _ =>
            obtain ⟨ρ', F', g1, g2, _⟩ := ho.run hi (hD ρ) hnd hb hl (fun k hk => by
              have := List.all_eq_true.1 hkp k hk; simpa using this)
            exact ⟨_, _, _, g1.put hd (.tup (.cons (.agg g2) (.cons (.fro (.imm _)) .nil)))⟩
theorem LWP.nilX {α : Type} {c : Code} {sz : Nat} {f : α → LV} {y : α} {os : List (Nat × LV)} (o k j sz' : Nat) (os' : List (Nat × LV)) (ho : hget o s.h = some (xob sz f y os)) (hj : (ovr (f y).cells os)[j]? = some (.imm (.slice none 0 0)))
    (he : ovr (f y).cells os' = (ovr (f y).cells os).set j (.own k 0 0)) (hl : Lift.lone k (hdel k s.h) = true) (hne : (k == o) = false := by exact rfl) (hkp : E.keep.contains k = false := by exact rfl)
    (hn : LWP P E c Q { tm := kill k s.tm, h := (o, xob sz f y os') :: (k, { kind := .fro, sz := sz', elems := [] }) :: hdel o (hdel k s.h) }) : LWP P E c Q s := LWP.ghost (fun _ _ hi => hi.nilX os' hkp hne ho hj he hl) hn
theorem LWo.lmscall {α : Type} {f : Operand} {ops : List Operand} {ts : Array TypeId} {g : FuncId} {caps vals xs : List LV} {lk : Nat} {obj obj' : LObj} {e : α → LV} {y : α} {ys : List LV} (os : LHeap) (hf : s.eval f = .clo g caps) (hv : ops.map s.eval ++ caps = vals)
    (hfn : Does P g xs [(lk, obj)] (fun r h => r = .ms (e y).cells ∧ h = [(lk, obj')])) (hA : vals = xs) (ho : hget lk s.h = some obj) (hro : obj.ro = false) (hou : OutsM (e y).cells ys os) (hl : loneS os ((lk, obj') :: hdel lk s.h) = true) (hkp : (hkeys os).all (fun k => !E.keep.contains k) = true) (hd : Nat.blt d E.n = true := by exact rfl)
    (hn : LWo P E all rest Q { tm := (d, .agg ys) :: killS os s.tm, h := addS os ((lk, obj') :: hdel lk s.h) }) :
    LWo P E all ({ dst := some d, op := .call { callee := .value f, args := ops.toArray, argTypes := ts }, type := ty, pos := pos, after := af, guard := none } :: rest) Q s := by
  refine LWo.callS hf hv hfn (by rw [hA]; exact ArgsOK.allSame) ⟨by simp [hkeys], by intro p hp; simp at hp; subst hp; exact ⟨_, ho, .inl rfl⟩⟩ ?_; rintro r hl' ⟨rfl, rfl⟩; refine ⟨.inl rfl, _, ?_, hn⟩; intro a w ok ρ F v fr hi hr hnd hb; have e1 : rwOf [(lk, obj)] = [(lk, obj)] := by simp [rwOf, hro]
  have e0 : ([(lk, obj')] : LHeap) ++ hdels (hkeys (rwOf [(lk, obj)])) s.h = (lk, obj') :: hdel lk s.h := by rw [e1]; simp [hkeys]
  rw [e0] at hi; simp only [e0] at hb; cases hr with
  | fro h => cases h
  | ms hD _ =>
    obtain ⟨ρ', F', g1, g2, _⟩ := hou.run (s := { tm := s.tm, h := (lk, obj') :: hdel lk s.h }) hi (hD ρ) hnd hb hl (fun k hk => by
      have := List.all_eq_true.1 hkp k hk; simpa using this)
    exact ⟨_, _, _, g1.put hd (.agg g2)⟩
theorem lvn {s : LState} : ([] : List Operand).map s.eval = [] := rfl
theorem lvc {s : LState} {x : Operand} {a : LV} {ops : List Operand} {as : List LV} (h : s.eval x = a) (h2 : ops.map s.eval = as) : (x :: ops).map s.eval = a :: as := by rw [List.map_cons, h, h2]
end
end Go.Lift
/- Plain lemmas on mirrors: loops over lists, total functions. Own work. -/
namespace Go.Lift
def foldC {α S R : Type} (step : α → S → (S → Option R) → Option R) (J : S → Option R) : List α → S → Option R
  | [], s => J s
  | x :: xs, s => step x s (foldC step J xs)
theorem at_of {α : Type} {l : List α} {k : Nat} {x : α} (h : l[k]? = some x) : at? l (k : Int) = some x := by
  unfold at?; rw [if_pos (by omega)]; simpa using h
theorem lt_of_at {α : Type} {l : List α} {k : Nat} {x : α} (h : l[k]? = some x) : k < l.length := (List.getElem?_eq_some_iff.1 h).1
theorem scanC {α S R : Type} (xs : List α) (L : Nat → Int → S → Option R) (step : α → S → (S → Option R) → Option R) (J : S → Option R)
    (hs : ∀ n (k : Nat) x s, xs[k]? = some x → L (n + 1) (k : Int) s = step x s (fun s' => L n ((k : Int) + 1) s')) (he : ∀ n s, L (n + 1) (xs.length : Int) s = J s)
    (n : Nat) (hn : xs.length < n) (s : S) : L n 0 s = foldC step J xs s := by
  have key : ∀ (ys : List α) (k : Nat) (n : Nat) (s : S), xs.drop k = ys → k ≤ xs.length → ys.length < n → L n (k : Int) s = foldC step J ys s := by
    intro ys
    induction ys with
    | nil =>
      intro k n s hd hk hn
      have : k = xs.length := by
        have := congrArg List.length hd; simp at this; omega
      subst this; obtain ⟨m, rfl⟩ : ∃ m, n = m + 1 := ⟨n - 1, by simp at hn; omega⟩; exact he m s
    | cons y ys ih =>
      intro k n s hd hk hn
      have hlt : k < xs.length := by
        have := congrArg List.length hd; simp at this; omega
      have hy : xs[k]? = some y := by
        have := List.drop_eq_getElem_cons hlt; rw [hd] at this; simp only [List.cons.injEq] at this; rw [List.getElem?_eq_getElem hlt, this.1]
      have hd' : xs.drop (k + 1) = ys := by
        have := List.drop_eq_getElem_cons hlt; rw [hd] at this; simp only [List.cons.injEq] at this; exact this.2.symm
      obtain ⟨m, rfl⟩ : ∃ m, n = m + 1 := ⟨n - 1, by simp at hn; omega⟩; rw [hs m k y s hy]; simp only [foldC]
      congr 1
      funext s'
      have := ih (k + 1) m s' hd' (by omega) (by simp at hn; omega); simpa using this
  have := key xs 0 n s rfl (by omega) hn; simpa using this
theorem foldC_all {α R : Type} {p : α → Bool} {r0 r1 : R} : ∀ {l : List α}, foldC (S := Unit) (fun x s k => bif p x then some r0 else k s) (fun _ => some r1) l () = some (bif l.any p then r0 else r1)
  | [] => rfl
  | x :: l => by
    simp only [foldC, List.any_cons]; cases hp : p x
    · simpa using foldC_all (l := l)
    · simp
theorem scanA {α R : Type} {p : α → Bool} {r0 r1 : R} (xs : List α) (L : Nat → Int → Option R)
    (hs : ∀ n (k : Nat) x, xs[k]? = some x → L (n + 1) (k : Int) = bif p x then some r0 else L n ((k : Int) + 1)) (he : ∀ n, L (n + 1) (xs.length : Int) = some r1)
    (n : Nat) (hn : xs.length < n) : L n 0 = some (bif xs.any p then r0 else r1) := by
  have := scanC xs (fun n k (_ : Unit) => L n k) (fun x s k => bif p x then some r0 else k s) (fun _ => some r1) (fun n k x s hx => hs n k x hx) (fun n s => he n) n hn (); rw [this]; exact foldC_all
theorem scanF {α S R : Type} {f : S → α → S} {J : S → Option R} (I : Nat → S → Prop) (xs : List α) (L : Nat → Int → S → Option R)
    (hs : ∀ n (k : Nat) x s, xs[k]? = some x → I k s → L (n + 1) (k : Int) s = L n ((k : Int) + 1) (f s x) ∧ I (k + 1) (f s x)) (he : ∀ n s, I xs.length s → L (n + 1) (xs.length : Int) s = J s)
    (n : Nat) (hn : xs.length < n) (s : S) (h0 : I 0 s) : L n 0 s = J (xs.foldl f s) ∧ I xs.length (xs.foldl f s) := by
  have key : ∀ (ys : List α) (k n : Nat) (s : S), xs.drop k = ys → k ≤ xs.length → ys.length < n → I k s → L n (k : Int) s = J (ys.foldl f s) ∧ I xs.length (ys.foldl f s) := by
    intro ys
    induction ys with
    | nil =>
      intro k n s hd hk hn hI
      have : k = xs.length := by
        have := congrArg List.length hd; simp at this; omega
      subst this; obtain ⟨m, rfl⟩ : ∃ m, n = m + 1 := ⟨n - 1, by simp at hn; omega⟩; exact ⟨he m s hI, hI⟩
    | cons y ys ih =>
      intro k n s hd hk hn hI
      have hlt : k < xs.length := by
        have := congrArg List.length hd; simp at this; omega
      have hc := List.drop_eq_getElem_cons hlt; rw [hd] at hc; simp only [List.cons.injEq] at hc; obtain ⟨m, rfl⟩ : ∃ m, n = m + 1 := ⟨n - 1, by simp at hn; omega⟩; obtain ⟨h1, h2⟩ := hs m k y s (by rw [List.getElem?_eq_getElem hlt, hc.1]) hI; rw [h1, show ((k : Int) + 1) = ((k + 1 : Nat) : Int) by omega]; exact ih (k + 1) m (f s y) hc.2.symm (by omega) (by simp at hn; omega) h2
  have := key xs 0 n s rfl (by omega) hn h0; simpa using this
theorem dlt {k : Nat} {n : Nat} (h : k < n) : decide ((k : Int) < (n : Int)) = true := by simp; omega
theorem dnlt {n : Nat} : decide ((n : Int) < (n : Int)) = false := by simp
theorem ck1 {k : Nat} (h : k < 1000000000000) : ckI ((k : Int) + 1) = some ((k : Int) + 1) := ckI_of (by omega) (by omega)
theorem beqF {a b : Int} (h : ¬ a = b) : (a == b) = false := by simp [h]
theorem beqF' {a b : Int} (h : ¬ a = b) : (a != b) = true := by simp [h]
theorem fuel0 {n : Nat} : n < (((n : Int) - 0).toNat + 1) := by omega
def Tot {α : Type} (o : Option α) (Q : α → Prop) : Prop := ∃ x, o = some x ∧ Q x
theorem Tot.ret {α : Type} {x : α} {Q : α → Prop} (h : Q x) : Tot (some x) Q := ⟨x, rfl, h⟩
theorem Tot.bind {α β : Type} {o : Option α} {f : α → Option β} {P : α → Prop} {Q : β → Prop} (h : Tot o P) (k : ∀ x, P x → Tot (f x) Q) : Tot (o.bind f) Q := by
  obtain ⟨x, rfl, hx⟩ := h; exact k x hx
theorem Tot.eq {α β : Type} {o : Option α} {x : α} {f : α → Option β} {Q : β → Prop} (h : o = some x) (k : Tot (f x) Q) : Tot (o.bind f) Q := by subst h; exact k
theorem Tot.bif {α : Type} {b : Bool} {x y : Option α} {Q : α → Prop} (h1 : b = true → Tot x Q) (h0 : b = false → Tot y Q) : Tot (bif b then x else y) Q := by cases b; exact h0 rfl; exact h1 rfl
theorem Tot.lt {α β : Type} {x : α} {f : α → Option β} {Q : β → Prop} (h : Tot (f x) Q) : Tot (lt x f) Q := h
theorem Tot.mono {α : Type} {o : Option α} {P Q : α → Prop} (h : Tot o P) (k : ∀ x, P x → Q x) : Tot o Q := by obtain ⟨x, h1, h2⟩ := h; exact ⟨x, h1, k x h2⟩
theorem Tot.ck {β : Type} {x : Int} {f : Int → Option β} {Q : β → Prop} (h0 : -9223372036854775808 ≤ x) (h1 : x ≤ 9223372036854775807) (k : Tot (f x) Q) : Tot ((ckI x).bind f) Q := Tot.eq (ckI_of h0 h1) k
theorem Tot.app {α β : Type} {l r : List α} {f : List α → Option β} {Q : β → Prop} (h : l.length + r.length ≤ 1000000000000) (k : Tot (f (l ++ r)) Q) : Tot ((app? l r).bind f) Q := Tot.eq (app_of h) k
theorem Tot.at {α β : Type} {l : List α} {i : Int} {f : α → Option β} {Q : β → Prop} (h0 : 0 ≤ i) (h1 : i < l.length) (k : ∀ x ∈ l, Tot (f x) Q) : Tot ((at? l i).bind f) Q :=
  Tot.eq (at_someI h0 (by omega)) (k _ (List.getElem_mem _))
theorem Tot.cut {α β : Type} {l : List α} {lo hi : Int} {f : List α → Option β} {Q : β → Prop} (h : 0 ≤ lo ∧ lo ≤ hi ∧ hi ≤ l.length) (k : Tot (f ((l.take hi.toNat).drop lo.toNat)) Q) : Tot ((cut? l lo hi).bind f) Q :=
  Tot.eq (by unfold cut?; rw [if_pos h]) k
theorem Tot.cat {β : Type} {a b : ByteArray} {f : ByteArray → Option β} {Q : β → Prop} (h : a.size + b.size ≤ 9223372036854775807) (k : Tot (f (a ++ b)) Q) : Tot ((sCat? a b).bind f) Q :=
  Tot.eq (by unfold sCat?; rw [if_pos h]) k
theorem Tot.rem {β : Type} {m n : Int} {f : Int → Option β} {Q : β → Prop} (h : n ≠ 0) (k : Tot (f (m.tmod n)) Q) : Tot ((remI m n).bind f) Q := Tot.eq (by unfold remI; rw [if_neg h]) k
theorem Tot.quo {β : Type} {m n : Int} {f : Int → Option β} {Q : β → Prop} (h : n ≠ 0) (h0 : -9223372036854775808 ≤ m.tdiv n) (h1 : m.tdiv n ≤ 9223372036854775807) (k : Tot (f (m.tdiv n)) Q) : Tot ((quoI m n).bind f) Q := Tot.eq (by unfold quoI; rw [if_neg h, ckI_of h0 h1]) k
theorem Tot.xor {β : Type} {m n : Int} {f : Int → Option β} {Q : β → Prop} (h : 0 ≤ m ∧ m < 4611686018427387904 ∧ 0 ≤ n ∧ n < 4611686018427387904) (k : ∀ z, 0 ≤ z → z < 4611686018427387904 → Tot (f z) Q) : Tot ((xorI m n).bind f) Q :=
  Tot.eq (by unfold xorI; rw [if_pos h]) (k _ (by omega) (by
    have h1 : m.toNat < 2 ^ 62 := by omega
    have h2 : n.toNat < 2 ^ 62 := by omega
    have := Nat.xor_lt_two_pow h1 h2; omega))
theorem Tot.down {R : Type} {Q : R → Prop} {S : Type} (L : Nat → Int → S → Option R) (I : Int → S → Prop)
    (h0 : ∀ n s, I 0 s → Tot (L (n + 1) 0 s) Q) (h : ∀ n t s, 0 < t → I t s → (∀ s', I (t - 1) s' → Tot (L n (t - 1) s') Q) → Tot (L (n + 1) t s) Q) : ∀ (n : Nat) (t : Int) s, 0 ≤ t → t < n → I t s → Tot (L n t s) Q := by
  intro n
  induction n with
  | zero => intro t s h1 h2; omega
  | succ n ih =>
    intro t s h1 h2 hI; rcases Int.lt_or_le 0 t with hp | hp
    · exact h n t s hp hI fun s' hs' => ih (t - 1) s' (by omega) (by omega) hs'
    · have : t = 0 := by omega
      subst this; exact h0 n s hI
theorem Tot.up {R : Type} {Q : R → Prop} {S : Type} (m : Int) (L : Nat → Int → S → Option R) (I : Int → S → Prop)
    (h0 : ∀ n s, I m s → Tot (L (n + 1) m s) Q) (h : ∀ n t s, 0 ≤ t → t < m → I t s → (∀ s', I (t + 1) s' → Tot (L n (t + 1) s') Q) → Tot (L (n + 1) t s) Q) : ∀ (n : Nat) (t : Int) s, 0 ≤ t → t ≤ m → m - t < n → I t s → Tot (L n t s) Q := by
  intro n
  induction n with
  | zero => intro t s h1 h2; omega
  | succ n ih =>
    intro t s h1 h2 h3 hI; rcases Int.lt_or_le t m with hp | hp
    · exact h n t s h1 hp hI fun s' hs' => ih (t + 1) s' (by omega) (by omega) (by omega) hs'
    · have : t = m := by omega
      subst this; exact h0 n s hI
end Go.Lift
/- Plain Lean: putting in order by insertion, from the end; what holds of it. Own work. -/
namespace Go.Lift
def OrdB {α : Type} (gt : α → α → Bool) (l : List α) : Prop := l.Pairwise fun a b => gt a b = false
def Adj {α : Type} (bad : α → α → Bool) (l : List α) : Prop := ∀ i x y, l[i]? = some x → l[i + 1]? = some y → bad x y = false
def adjB {α : Type} (bad : α → α → Bool) : List α → Bool
  | [] => true
  | [_] => true
  | x :: y :: l => !bad x y && adjB bad (y :: l)
theorem adjB_iff {α : Type} {bad : α → α → Bool} : ∀ {l : List α}, adjB bad l = true ↔ Adj bad l
  | [] => by simp [adjB, Adj]
  | [x] => by simp [adjB, Adj]
  | x :: y :: l => by
    rw [adjB, Bool.and_eq_true, adjB_iff]; constructor
    · rintro ⟨h1, h2⟩ i a b ha hb
      cases i with
      | zero => simp at ha hb; subst ha hb; simpa using h1
      | succ i => exact h2 i a b (by simpa using ha) (by simpa using hb)
    · intro h
      exact ⟨by simpa using h 0 x y rfl rfl, fun i a b ha hb => h (i + 1) a b (by simpa using ha) (by simpa using hb)⟩
theorem OrdB.adj {α : Type} {bad : α → α → Bool} {l : List α} (h : OrdB bad l) : Adj bad l := by
  intro i x y hx hy; obtain ⟨h1, rfl⟩ := List.getElem?_eq_some_iff.1 hx; obtain ⟨h2, rfl⟩ := List.getElem?_eq_some_iff.1 hy; exact List.pairwise_iff_getElem.1 h i (i + 1) h1 h2 (by omega)
theorem Adj.ord {α : Type} {bad : α → α → Bool} (ht : ∀ x y z, bad x y = false → bad y z = false → bad x z = false) : ∀ {l : List α}, Adj bad l → OrdB bad l
  | [], _ => List.Pairwise.nil
  | [x], _ => List.pairwise_singleton _ _
  | x :: y :: l, h => by
    have h1 : OrdB bad (y :: l) := Adj.ord ht fun i a b ha hb => h (i + 1) a b (by simpa using ha) (by simpa using hb); refine List.pairwise_cons.2 ⟨?_, h1⟩; intro z hz; have hxy := h 0 x y rfl rfl; rcases List.mem_cons.1 hz with rfl | hz
    · exact hxy
    · exact ht x y z hxy ((List.pairwise_cons.1 h1).1 z hz)
def idxI {α : Type} (q : α → Bool) : List α → Int
  | [] => -1
  | x :: l => if q x then 0 else if idxI q l < 0 then -1 else idxI q l + 1
theorem idxI_pos {α : Type} {q : α → Bool} {x : α} {l : List α} (h : q x = true) : idxI q (x :: l) = 0 := by unfold idxI; rw [if_pos h]
theorem idxI_neg {α : Type} {q : α → Bool} {x : α} {l : List α} (h : q x = false) : idxI q (x :: l) = if idxI q l < 0 then -1 else idxI q l + 1 := by
  rw [idxI]; rw [if_neg (by simp [h])]
theorem idxI_ge {α : Type} (q : α → Bool) : ∀ l : List α, -1 ≤ idxI q l ∧ idxI q l < l.length ∧ (decide (idxI q l ≥ 0) = l.any q)
  | [] => by simp [idxI]
  | x :: l => by
    obtain ⟨h1, h2, h3⟩ := idxI_ge q l; rw [List.any_cons, ← h3, List.length_cons]; cases hq : q x with
    | true => rw [idxI_pos hq]; simp
    | false =>
      rw [idxI_neg hq]
      by_cases h : idxI q l < 0
      · rw [if_pos h]
        have : ¬ idxI q l ≥ 0 := by omega
        simp [this]; omega
      · rw [if_neg h]
        have h4 : idxI q l ≥ 0 := by omega
        have h5 : idxI q l + 1 ≥ 0 := by omega
        simp only [decide_eq_true h4, decide_eq_true h5, Bool.false_or]; exact ⟨by omega, by omega, trivial⟩
theorem scanI {α R : Type} {q : α → Bool} {g : Int → Option R} (xs : List α) (L : Nat → Int → Option R)
    (hs : ∀ n (k : Nat) x, xs[k]? = some x → L (n + 1) (k : Int) = bif q x then g k else L n ((k : Int) + 1)) (he : ∀ n, L (n + 1) (xs.length : Int) = g (-1))
    (n : Nat) (hn : xs.length < n) : L n 0 = g (idxI q xs) := by
  have key : ∀ (ys : List α) (k n : Nat), xs.drop k = ys → k ≤ xs.length → ys.length < n → L n (k : Int) = g (if idxI q ys < 0 then -1 else idxI q ys + k) := by
    intro ys
    induction ys with
    | nil =>
      intro k n hd hk hn
      have : k = xs.length := by
        have := congrArg List.length hd; simp at this; omega
      subst this; obtain ⟨m, rfl⟩ : ∃ m, n = m + 1 := ⟨n - 1, by simp at hn; omega⟩; rw [he, if_pos (by simp [idxI])]
    | cons y ys ih =>
      intro k n hd hk hn
      have hlt : k < xs.length := by
        have := congrArg List.length hd; simp at this; omega
      have hc := List.drop_eq_getElem_cons hlt; rw [hd] at hc; simp only [List.cons.injEq] at hc; obtain ⟨m, rfl⟩ : ∃ m, n = m + 1 := ⟨n - 1, by simp at hn; omega⟩; rw [hs m k y (by rw [List.getElem?_eq_getElem hlt, hc.1])]; cases hq : q y with
      | true => rw [cond_true, idxI_pos hq, if_neg (by omega)]; congr 1; omega
      | false =>
        rw [cond_false, show ((k : Int) + 1) = ((k + 1 : Nat) : Int) by omega, ih (k + 1) m hc.2.symm (by omega) (by simp at hn; omega), idxI_neg hq]; have := idxI_ge q ys
        by_cases h : idxI q ys < 0
        · rw [if_pos h, if_pos h, if_pos (by omega)]
        · rw [if_neg h, if_neg h, if_neg (by omega)]
          congr 1; omega
  have := key xs 0 n rfl (by omega) hn; rw [show ((0 : Nat) : Int) = 0 from rfl] at this; rw [this]; have := idxI_ge q xs
  split
  · congr 1; omega
  · congr 1; omega
theorem dgt0 {j : Nat} : decide (((j + 1 : Nat) : Int) > 0) = true := by rw [decide_eq_true_eq]; omega
theorem dgt00 : decide (((0 : Nat) : Int) > 0) = false := rfl
theorem ckdd {j : Nat} (h : j < 1000000000000) : ckI (((j + 1 : Nat) : Int) - 1) = some (j : Int) := by
  rw [ckI_of (by omega) (by omega)]; congr 1; omega
end Go.Lift
namespace Go.Lift
theorem ltE {α β : Type} (x : α) (f : α → β) : lt x f = f x := rfl
end Go.Lift
/- Plain Lean: putting in order by blocks that are merged. Own work. -/
namespace Go.Lift
inductive Chk {α : Type} (gt : α → α → Bool) (bs : Nat) : List α → Prop
  | last {X : List α} : X.length ≤ bs → OrdB gt X → Chk gt bs X
  | cons {X R : List α} : X.length = bs → OrdB gt X → Chk gt bs R → Chk gt bs (X ++ R)
theorem Chk.ord {α : Type} {gt : α → α → Bool} {bs : Nat} {l : List α} (h : Chk gt bs l) (hl : l.length ≤ bs) : OrdB gt l := by
  cases h with
  | last h1 h2 => exact h2
  | cons h1 h2 h3 =>
    rename_i X R; have : R = [] := List.length_eq_zero_iff.1 (by rw [List.length_append] at hl; omega); subst this; rw [List.append_nil]; exact h2
end Go.Lift
/- Plain Lean: loops that look at neighbours, that copy, that leave out. Own work. -/
namespace Go.Lift
def chkN {α : Type} (p : α → Bool) (bad : α → α → Bool) : α → List α → Bool
  | _, [] => true
  | y, x :: l => p x && !bad y x && chkN p bad x l
theorem chkN_eq {α : Type} {p : α → Bool} {bad : α → α → Bool} : ∀ (l : List α) (y : α), p y = true → (p y && chkN p bad y l) = ((y :: l).all p && adjB bad (y :: l))
  | [], y, h => by simp [chkN, adjB]
  | x :: l, y, h => by
    simp only [chkN, adjB, List.all_cons, h, Bool.true_and]; cases hx : p x with
    | false => simp
    | true =>
      have := chkN_eq (p := p) (bad := bad) l x hx; simp only [List.all_cons, hx, Bool.true_and] at this; rw [this]; cases bad y x <;> simp
theorem scanPrev {α : Type} {p : α → Bool} {bad : α → α → Bool} {r : Bool} (xs : List α) (L : Nat → Int → Option Bool)
    (h0 : ∀ n x, xs[0]? = some x → L (n + 1) 0 = bif p x then L n 1 else some false)
    (hs : ∀ n (k : Nat) x y, xs[k + 1]? = some x → xs[k]? = some y → p y = true → L (n + 1) ((k + 1 : Nat) : Int) = bif p x && !bad y x then L n ((k + 1 + 1 : Nat) : Int) else some false)
    (he : ∀ n, L (n + 1) (xs.length : Int) = some r) (n : Nat) (hn : xs.length < n) : L n 0 = some (xs.all p && adjB bad xs && r) := by
  have key : ∀ (l pre : List α) (y : α) (n : Nat), xs = pre ++ y :: l → p y = true → l.length < n → L n ((pre.length + 1 : Nat) : Int) = some (chkN p bad y l && r) := by
    intro l
    induction l with
    | nil =>
      intro pre y n hx hy hn; obtain ⟨n, rfl⟩ : ∃ q, n = q + 1 := ⟨n - 1, by omega⟩; have := he n; rw [hx, List.length_append, List.length_singleton] at this; rw [this]; simp [chkN]
    | cons x l ih =>
      intro pre y n hx hy hn; obtain ⟨n, rfl⟩ : ∃ q, n = q + 1 := ⟨n - 1, by omega⟩; rw [hs n pre.length x y (by rw [hx, List.getElem?_append_right (by omega)]; simp) (by rw [hx]; simp) hy]; rw [chkN]; cases hc : (p x && !bad y x) with
      | false => simp
      | true =>
        rw [cond_true, Bool.true_and]; have := ih (pre ++ [y]) x n (by rw [hx]; simp) (by simp at hc; exact hc.1) (by simp at hn; omega); rw [List.length_append, List.length_singleton] at this; exact this
  cases xs with
  | nil =>
    obtain ⟨n, rfl⟩ : ∃ q, n = q + 1 := ⟨n - 1, by omega⟩; have := he n; simpa [adjB] using this
  | cons y l =>
    obtain ⟨n, rfl⟩ : ∃ q, n = q + 1 := ⟨n - 1, by omega⟩; rw [h0 n y rfl]; cases hy : p y with
    | false => simp [hy]
    | true =>
      rw [cond_true]; have := key l [] y n rfl hy (by simp at hn; omega); have e := chkN_eq (p := p) (bad := bad) l y hy; rw [hy, Bool.true_and] at e; rw [← e]; exact this
theorem scanM {α β R : Type} {f : α → β} {J : List β → Option R} (xs : List α) (L : Nat → Int → List β → Option R)
    (hs : ∀ n (k : Nat) x o, xs[k]? = some x → o.length = k → L (n + 1) (k : Int) o = L n ((k : Int) + 1) (o ++ [f x])) (he : ∀ n o, o.length = xs.length → L (n + 1) (xs.length : Int) o = J o)
    (n : Nat) (hn : xs.length < n) : L n 0 [] = J (xs.map f) := by
  have := (scanF (f := fun o x => o ++ [f x]) (J := J) (fun k o => o.length = k) xs L (fun n k x o hx ho => ⟨hs n k x o hx ho, by simp [ho]⟩) (fun n o ho => he n o ho) n hn [] rfl).1; rw [this]
  congr 1
  have key : ∀ (l : List α) (a : List β), l.foldl (fun o x => o ++ [f x]) a = a ++ l.map f := by
    intro l
    induction l with
    | nil => intro a; simp
    | cons x l ih => intro a; rw [List.foldl_cons, ih]; simp
  rw [key]; simp
end Go.Lift
/- Plain Lean: putting in order so that equal ones keep their order. Own work. -/
namespace Go.Lift
structure StP {α κ : Type} (f : κ → α → Bool) (Z W : List α) : Prop where
  perm : Z.Perm W
  st : ∀ v, Z.filter (f v) = W.filter (f v)
theorem StP.refl {α κ : Type} {f : κ → α → Bool} (Z : List α) : StP f Z Z := ⟨.refl _, fun _ => rfl⟩
theorem StP.trans {α κ : Type} {f : κ → α → Bool} {Z W V : List α} (h : StP f Z W) (k : StP f W V) : StP f Z V := ⟨h.perm.trans k.perm, fun v => (h.st v).trans (k.st v)⟩
theorem StP.append {α κ : Type} {f : κ → α → Bool} {Z W Z2 W2 : List α} (h : StP f Z W) (k : StP f Z2 W2) : StP f (Z ++ Z2) (W ++ W2) := ⟨h.perm.append k.perm, fun v => by rw [List.filter_append, List.filter_append, h.st v, k.st v]⟩
theorem StP.length_eq {α κ : Type} {f : κ → α → Bool} {Z W : List α} (h : StP f Z W) : Z.length = W.length := h.perm.length_eq
theorem StP.mem_iff {α κ : Type} {f : κ → α → Bool} {Z W : List α} (h : StP f Z W) {x : α} : x ∈ Z ↔ x ∈ W := h.perm.mem_iff
end Go.Lift
/- Sizes, conversions and comparisons of arguments: the loops. Own work. -/
namespace Go.Lift
end Go.Lift
