/- The logic, part four: texts, regions that write, laws over bytes, guards. -/
import Derived.Test.YtjmeoggmdnlicaaLc
import Derived.Laws.BytesArg
import Derived.Laws.Cover3
import Derived.OpenShut
import Derived.Laws.MakeOwn
import Derived.Laws.Bits64
import Derived.ChangeArms
import Derived.DataReads
import Derived.WideShapes
import Derived.ChangeShapes
set_option linter.unusedVariables false
set_option linter.unusedSimpArgs false
set_option linter.unnecessarySimpa false
/- The lifted logic, part 31: bytes as a text; literals that are one's own. Own work. -/
namespace Go.Lift
open Go.RowKit
def bStr (l : List UInt8) : ByteArray := ⟨l.toArray⟩
theorem fro_bytes_inv {w : World} {ok : Nat → Prop} : ∀ {l : List UInt8} {vs : List Value}, FroL w ok ((l.map e_uint8).flatMap LV.cells) vs → vs = l.map fun b => Value.int .u8 (b.toNat : Int)
  | [], _, .nil => rfl
  | b :: l, vs, h => by
    have h' : FroL w ok (e_uint8 b :: (l.map e_uint8).flatMap LV.cells) vs := by simpa [e_uint8] using h
    cases h' with
    | cons h1 h2 h3 =>
      cases h1; rw [fro_bytes_inv h3]; rfl
section
variable {P : Program} {E : Ent} {Q : Exit → LState → Prop} {s : LState} {all : Array Oper} {rest : List Oper} {d : Nat} {ty : TypeId} {pos : String} {af : Array Edge}
theorem LWo.strM {src dst e : TypeId} {x : Operand} {l : List UInt8} (hs : P.underlying src = some (.slice e)) (hd' : P.underlying dst = some .string) (he : P.underlying e = some (.int .u8)) (hx : s.eval x = .sl 1 (l.map e_uint8)) (hd : Nat.blt d E.n = true := by exact rfl)
    (hn : LWo P E all rest Q (s.put (some d) (e_string (bStr l)))) :
    LWo P E all ({ dst := some d, op := .convert src dst x, type := ty, pos := pos, after := af, guard := none } :: rest) Q s :=
  LWo.still _ hd (fun a w ok ρ F hi => by
    have h := hi.eval x; rw [hx] at h; refine ⟨.string (bStr l), ?_, .fro (.imm _)⟩
    have hrun : (convert src dst (a.eval x)).run P w = .ok (.string (bStr l)) w := by
      have hf := h.sl_inv; rcases l with _ | ⟨b, l⟩
      · generalize a.eval x = v at hf
        cases hf with
        | sl0 h =>
          rename_i c A; cases A with
          | none => exact run_convert_bytes_nil w src e hs he 0 c dst hd'
          | some A => exact run_convert_bytes_back w src dst e A c [] hs he hd' (by simp)
        | sl h => simp at h
      · generalize hl : b :: l = L at hf ⊢
        have hne : L.map e_uint8 ≠ [] := by rw [← hl]; simp
        generalize a.eval x = v at hf; generalize hM : L.map e_uint8 = M at hf hne; cases hf with
        | sl0 h => exact absurd rfl hne
        | sl h0 h1 h2 h3 h4 h5 h6 =>
          rename_i c vs ad; subst hM; have hv := fro_bytes_inv h2; subst hv; rw [List.length_map]; exact run_convert_bytes_back w src dst e ad c L hs he hd' (fun j hj => h3 j _ (by simp [hj]))
    simp only [execOp]; rw [Sem.run_bind, hrun]; rfl) hn
theorem LWo.litO {α : Type} {T e : TypeId} {sz n : Nat} {z : Value} {ops : List Operand} {f : α → LV} {l : List α} (k : Nat) (hu : P.underlying T = some (.slice e)) (hz : ∀ w, (sizeOf e).run P w = .ok sz w) (hzv : ∀ w, (zeroValue e).run P w = .ok z w)
    (hx : ops.map s.eval = l.map f) (hc : (l.map f).all (fun x => x.cellable && x.cells.length == sz && x.pure) = true) (hlen : ops.length = n) (hm : Nat.ble (n * sz) 16777216 = true) (hsz : Nat.blt 0 sz = true) (hl : lone k (hdel k s.h) = true) (hkp : E.keep.contains k = false := by exact rfl) (hd : Nat.blt d E.n = true := by exact rfl)
    (hn : LWo P E all rest Q { tm := (d, .own k 0 l.length) :: kill k s.tm, h := (k, lob sz f l) :: hdel k s.h }) :
    LWo P E all ({ dst := some d, op := .buildSlice T n ((ops.zipIdx).map fun p => (p.2, p.1)).toArray, type := ty, pos := pos, after := af, guard := none } :: rest) Q s :=
  LWo.make k (lob sz f l) (.own k 0 l.length) hd hkp hl (.inl rfl) (by
      intro x hx'; have := List.all_eq_true.1 hc x hx'; simp at this; exact this.1.2) (fun a w ok ρ F hi => by
    have hall : ∀ x ∈ l.map f, x.cellable = true ∧ x.cells.length = sz ∧ x.pure = true := by
      intro x hx'; have := List.all_eq_true.1 hc x hx'; simp at this; exact ⟨this.1.1, this.1.2, this.2⟩
    have ht := evalL ops hi; rw [hx] at ht; have hs := ht.sizes (fun x hx => ⟨(hall x hx).1, (hall x hx).2.1⟩); have hlen' := ht.length
    have hln : l.length = n := by
      have := congrArg List.length hx; simp at this; omega
    have hmul := Nat.le_of_ble_eq_true hm; have hsz' : 0 < sz := by simpa using hsz
    have hr := run_buildSlice hu hz hzv hs (by rw [← hlen', List.length_map]; exact hln) hmul w; have hflat := ht.flat (fun x hx => (hall x hx).1); refine ⟨.slice (some ⟨w.heap.size, 0, none⟩) n n, (flatV (ops.map a.eval)).toArray, e, flatV (ops.map a.eval), n, w, ?_, .inl rfl, by simp [lob, hln], ?_, ?_, fun k v hk => by simpa using hk, ?_, fun W ok' ρ' hρ => ?_⟩
    · have e1 : (((ops.zipIdx).map fun p => (p.2, p.1)).toArray.map fun x => (x.1, a.eval x.2)) = (((ops.map a.eval).zipIdx).map fun p => (p.2, p.1)).toArray := by
        simp [List.zipIdx_map]
      simp only [execOp]; rw [e1, Sem.run_bind, hr]; simp
    · have : n ≤ n * sz := Nat.le_mul_of_pos_right _ hsz'
      unfold maxLen; omega
    · have := flatV_len (ops.map a.eval) sz hs
      simp only [lob]; rw [List.size_toArray, this, List.length_map, hlen]; exact Nat.le_refl _
    · refine ⟨rfl, ?_⟩
      have hp : LV.pure.pureL ((l.map f).flatMap LV.cells) = true := by
        have : ∀ ys : List LV, (∀ x ∈ ys, x.pure = true) → LV.pure.pureL (ys.flatMap LV.cells) = true := by
          intro ys hy
          have app : ∀ a b : List LV, LV.pure.pureL (a ++ b) = (LV.pure.pureL a && LV.pure.pureL b) := by
            intro a b; induction a with
            | nil => simp [LV.pure.pureL]
            | cons x a ih => simp [LV.pure.pureL, ih, Bool.and_assoc]
          induction ys with
          | nil => rfl
          | cons x ys ih =>
            rw [List.flatMap_cons, app, ih (fun z hz => hy z (by simp [hz]))]; have hx := hy x (by simp); cases x <;> simp_all [LV.cells, LV.pure, LV.pure.pureL]
        exact this _ (fun x hx => (hall x hx).2.2)
      exact hflat.pure hp
    · have hw := Rep.own (w := W) (ok := ok') (ρ := ρ') (off := 0) (n := n) (c := n) hρ (by simp) (Nat.le_refl _)
      simp only [Nat.zero_mul] at hw; rw [hln]; exact hw) hn
theorem LWo.pickTM {c x y : Operand} {b : Bool} (z : LV) (hc : s.eval c = .imm (.bool b)) (h : b = true) (hz : s.eval x = z) (hd : Nat.blt d E.n = true := by exact rfl) (hn : LWo P E all rest Q (s.put (some d) z)) :
    LWo P E all ({ dst := some d, op := .pick c x y, type := ty, pos := pos, after := af, guard := none } :: rest) Q s := LWo.pickT hc h hd (by rw [hz]; exact hn)
theorem LWo.pickFM {c x y : Operand} {b : Bool} (z : LV) (hc : s.eval c = .imm (.bool b)) (h : b = false) (hz : s.eval y = z) (hd : Nat.blt d E.n = true := by exact rfl) (hn : LWo P E all rest Q (s.put (some d) z)) :
    LWo P E all ({ dst := some d, op := .pick c x y, type := ty, pos := pos, after := af, guard := none } :: rest) Q s := LWo.pickF hc h hd (by rw [hz]; exact hn)
end
end Go.Lift
/- The lifted logic, part 32: regions of open order whose operations may write. Own work. -/
namespace Go.Lift
open Go.RowKit
def lookH (k : Nat) : List HF → HF
  | [] => ⟨k, { kind := .fro, sz := 0, elems := [] }, none⟩
  | f :: r => if f.k = k then f else lookH k r
def hasH (k : Nat) (l : List HF) : Bool := l.any (·.k == k)
def AllH (h : LHeap) : List HF → Prop
  | [] => True
  | f :: r => hget f.k h = some f.obj ∧ AllH h r
theorem AllH.of {h : LHeap} : ∀ {l : List HF}, (∀ f ∈ l, hget f.k h = some f.obj) → AllH h l
  | [], _ => trivial
  | f :: r, hh => ⟨hh f (by simp), AllH.of fun g hg => hh g (by simp [hg])⟩
theorem lookH_k (k : Nat) : ∀ l, (lookH k l).k = k
  | [] => rfl
  | f :: r => by
    simp only [lookH]
    split
    · assumption
    · exact lookH_k k r
theorem lookH_mem {k : Nat} : ∀ {l}, hasH k l = true → lookH k l ∈ l
  | f :: r, h => by
    simp only [lookH]
    split
    · simp
    · rename_i e
      simp [hasH, e] at h; exact List.mem_cons_of_mem _ (lookH_mem (l := r) (by simpa [hasH] using h))
def Ef.accS (i : Nat) (acc : List SF) : Ef → List SF
  | .put d y => ⟨d, y, some i, y.refs⟩ :: acc
  | .upd (some d) y _ _ => ⟨d, y, some i, y.refs⟩ :: acc
  | .upd none _ _ _ => acc
  | .make d y _ _ => ⟨d, y, some i, y.refs⟩ :: acc
def Ef.accH (i : Nat) (ah : List HF) : Ef → List HF
  | .put _ _ => ah
  | .upd _ _ k obj => ⟨k, obj, some i⟩ :: ah
  | .make _ _ k obj => ⟨k, obj, some i⟩ :: ah
section
variable {P : Program} {E : Ent} {Q : Exit → LState → Prop}
def DSE (P : Program) (E : Ent) (KS : List (Nat × Nat)) (all : Array Oper) : List Oper → List (List Nat × List Nat) → Nat → List SF → List HF → (List SF → List HF → List Rec → Prop) → Prop
  | o :: os, (rd, hk) :: ps, i, acc, ah, k => (rd.all (hasT · acc) && hk.all (hasH · ah)) = true ∧ ∃ ef : Ef, ef.good KS ∧ (∀ u : LState, Good KS u → AllF u.tm (rd.map (look · acc)) → AllH u.h (hk.map (lookH · ah)) → LWo P E all [o] (fun e t => e = .normal ∧ (t = ef.run u ∨ t.le (ef.run u)) ∧ Good KS t) u) ∧
      DSE P E KS all os ps (i + 1) (ef.accS i acc) (ef.accH i ah) (fun a b r => k a b (⟨ef, rd.map (look · acc), hk.map (lookH · ah)⟩ :: r))
  | [], [], _, acc, ah, k => k acc ah []
  | _, _, _, _, _, _ => False
theorem DSE.out {KS : List (Nat × Nat)} {all : Array Oper} : ∀ {os : List Oper} {ps : List (List Nat × List Nat)} {i : Nat} {acc : List SF} {ah : List HF} {k : List SF → List HF → List Rec → Prop}, DSE P E KS all os ps i acc ah k →
    ∃ (acc' : List SF) (ah' : List HF) (recs : List Rec), k acc' ah' recs ∧ recs.length = os.length ∧ (∀ (j : Nat) (o : Oper) (r : Rec), os[j]? = some o → recs[j]? = some r → r.ok P E KS all o) ∧
      (∀ f ∈ acc, f ∈ acc') ∧ (∀ f ∈ ah, f ∈ ah') ∧
      (∀ f ∈ acc', f ∈ acc ∨ ∃ j r, f.est = some (i + j) ∧ recs[j]? = some r ∧ r.ef.dst = some f.t ∧ (∀ s, get f.t (r.ef.run s).tm = f.v) ∧ f.rf = f.v.refs) ∧
      (∀ f ∈ ah', f ∈ ah ∨ ∃ j r, f.est = some (i + j) ∧ recs[j]? = some r ∧ (∀ s, hget f.k (r.ef.run s).h = some f.obj)) ∧
      (∀ r ∈ recs, (∀ f ∈ r.rs, f ∈ acc') ∧ ∀ f ∈ r.rk, f ∈ ah')
  | o :: os, (rd, hk) :: ps, i, acc, ah, k, ⟨hin, ef, hgood, h1, h2⟩ => by
    obtain ⟨acc', ah', recs, hk', hlen, hok, hsub, hsubH, hnew, hnewH, hreq⟩ := DSE.out h2; simp only [Bool.and_eq_true] at hin
    have hs1 : ∀ f ∈ acc, f ∈ ef.accS i acc := by
      intro f hf; cases ef with
      | put d y => simp [Ef.accS, hf]
      | upd d y k o => cases d <;> simp [Ef.accS, hf]
      | make d y k o => simp [Ef.accS, hf]
    have hs2 : ∀ f ∈ ah, f ∈ ef.accH i ah := by
      intro f hf; cases ef <;> simp [Ef.accH, hf]
    refine ⟨acc', ah', _, hk', by simp [hlen], ?_, fun f hf => hsub f (hs1 f hf), fun f hf => hsubH f (hs2 f hf), ?_, ?_, ?_⟩
    · intro j o' r ho hr
      cases j with
      | zero =>
        simp at ho hr; subst ho; subst hr; refine ⟨hgood, fun u hu hrs hrk => ?_⟩; exact h1 u hu (AllF.of hrs) (AllH.of hrk)
      | succ j => simp at ho hr; exact hok j o' r ho hr
    · intro f hf
      rcases hnew f hf with h | ⟨j, r, he, hr, h⟩
      · cases ef with
        | put d y =>
          rcases List.mem_cons.1 h with rfl | h
          · exact .inr ⟨0, _, by simp, rfl, rfl, fun s => by simp [Ef.run, LState.put, get], rfl⟩
          · exact .inl h
        | upd d y kk obj =>
          cases d with
          | none => exact .inl h
          | some d =>
            rcases List.mem_cons.1 h with rfl | h
            · exact .inr ⟨0, _, by simp, rfl, rfl, fun s => by simp [Ef.run, LState.put, get], rfl⟩
            · exact .inl h
        | make d y kk obj =>
          rcases List.mem_cons.1 h with rfl | h
          · exact .inr ⟨0, _, by simp, rfl, rfl, fun s => by simp [Ef.run, get], rfl⟩
          · exact .inl h
      · exact .inr ⟨j + 1, r, by rw [he]; congr 1; omega, by simpa using hr, h⟩
    · intro f hf
      rcases hnewH f hf with h | ⟨j, r, he, hr, h⟩
      · cases ef with
        | put d y => exact .inl h
        | upd d y kk obj =>
          rcases List.mem_cons.1 h with rfl | h
          · refine .inr ⟨0, _, by simp, rfl, fun s => ?_⟩
            cases d <;> simp [Ef.run, LState.put, hget]
          · exact .inl h
        | make d y kk obj =>
          rcases List.mem_cons.1 h with rfl | h
          · exact .inr ⟨0, _, by simp, rfl, fun s => by simp [Ef.run, hget]⟩
          · exact .inl h
      · exact .inr ⟨j + 1, r, by rw [he]; congr 1; omega, by simpa using hr, h⟩
    · intro r hr
      rcases List.mem_cons.1 hr with rfl | hr
      · refine ⟨fun f hf => ?_, fun f hf => ?_⟩
        · obtain ⟨t, ht, rfl⟩ := List.mem_map.1 hf
          exact hsub _ (hs1 _ (look_mem (List.all_eq_true.1 hin.1 t ht)))
        · obtain ⟨t, ht, rfl⟩ := List.mem_map.1 hf
          exact hsubH _ (hs2 _ (lookH_mem (List.all_eq_true.1 hin.2 t ht)))
      · exact hreq r hr
  | [], [], i, acc, ah, k, h => ⟨acc, ah, [], h, rfl, by simp, by simp, by simp, fun f hf => .inl hf, fun f hf => .inl hf, by simp⟩
theorem LWP.drawE {id : Nat} {l : List Oper} {s : LState} (KS : List (Nat × Nat)) (U : List Nat) (plan : List (List Nat × List Nat)) (out outH : List Nat) (hm : P.follows .mixedOrders = true)
    (hedge : (l.zipIdx.all fun (o, i) => (edgesOf o).all fun j => decide (j < i)) = true) (hgood : KS.all (fun p => lone p.1 (hdel p.2 s.h)) = true) (hnd : outH.Nodup)
    (h : DSE P E KS l.toArray l plan 0 (base s U) (heapF s.h) (fun acc ah recs => (out.all (hasT · acc) && outH.all (hasH · ah)) = true ∧ drawOK (preAll l []) (recs.map Rec.info) ((out.map (look · acc)).map fun f => (f.t, f.est, f.rf)) ((outH.map (lookH · ah)).map fun f => (f.k, f.est)) = true ∧ Q .normal ⟨out.map fun t => (t, (look t acc).v), outH.map fun k => (k, (lookH k ah).obj)⟩)) :
    LWP P E (.region id l.toArray true) Q s := by
  intro a w hi; have hnk : (hkeys s.h).Nodup := by obtain ⟨ok, ρ, F, h⟩ := hi; exact h.heap.keys
  obtain ⟨acc, ah, recs, ⟨hout, hc, hq⟩, hlen, hok, hsub, hsubH, hnew, hnewH, hreq⟩ := h.out; simp only [Bool.and_eq_true] at hout; refine LWP.draw (Q := Q) KS recs acc ah _ hm hlen hedge (fun k hk => List.all_eq_true.1 hgood k hk) (fun i o r ho hr => hok i o r ho hr) ?_ ?_ hreq (out.map (look · acc)) (outH.map (lookH · ah)) ?_ ?_ ?_ rfl hc ?_ a w hi
  · intro f hf
    rcases hnew f hf with h | ⟨j, r, he, hr, h1, h2, h3⟩
    · obtain ⟨t, ht, rfl⟩ := List.mem_map.1 h
      exact ⟨fun k hk => LV.refs_at? k _ hk, rfl⟩
    · refine ⟨fun k hk => LV.refs_at? k _ (h3 ▸ hk), ?_⟩
      rw [he]; simp only [Nat.zero_add]; exact ⟨r, hr, h1, h2⟩
  · intro f hf
    rcases hnewH f hf with h | ⟨j, r, he, hr, h1⟩
    · obtain ⟨p, hp, rfl⟩ := List.mem_map.1 h
      exact hget_of_mem hnk hp
    · rw [he]
      simp only [Nat.zero_add]; exact ⟨r, hr, h1⟩
  · intro f hf
    obtain ⟨t, ht, rfl⟩ := List.mem_map.1 hf; exact look_mem (List.all_eq_true.1 hout.1 t ht)
  · intro f hf
    obtain ⟨t, ht, rfl⟩ := List.mem_map.1 hf; exact lookH_mem (List.all_eq_true.1 hout.2 t ht)
  · rw [List.map_map]
    simpa [Function.comp_def, lookH_k] using hnd
  · have e1 : List.map (fun f : SF => (f.t, f.v)) (List.map (fun x => look x acc) out) = out.map fun t => (t, (look t acc).v) := by
      rw [List.map_map]; exact List.map_congr_left fun t _ => by simp [look_t]
    have e2 : List.map (fun f : HF => (f.k, f.obj)) (List.map (fun x => lookH x ah) outH) = outH.map fun k => (k, (lookH k ah).obj) := by
      rw [List.map_map]; exact List.map_congr_left fun t _ => by simp [lookH_k]
    rw [e1, e2]; exact hq
theorem lone_of {k : Nat} {KS : List (Nat × Nat)} {u : LState} (h : Good KS u) (hk : KS.contains (k, k) = true) : lone k (hdel k u.h) = true := h (k, k) (by simpa using hk)
theorem goodN {j : Nat} {obj : LObj} : ∀ k ∈ ([] : List (Nat × Nat)), (j == k.2 || !obj.at? k.1) = true := fun _ h => by cases h
theorem goodC {j : Nat} {obj : LObj} {a : Nat × Nat} {l : List (Nat × Nat)} (h : (j == a.2 || !obj.at? a.1) = true) (h2 : ∀ k ∈ l, (j == k.2 || !obj.at? k.1) = true) : ∀ k ∈ a :: l, (j == k.2 || !obj.at? k.1) = true := fun k hk => by
  rcases List.mem_cons.1 hk with rfl | hk
  · exact h
  · exact h2 k hk
theorem LWo.rekey {all : Array Oper} {ops : List Oper} {s : LState} (t o k : Nat) {off n : Nat} {obj : LObj} (hg : get t s.tm = .own o off n) (ho : hget o s.h = some obj) (hk : obj.kind = .fro) (hne : (o == k) = false) (hkp : E.keep.contains k = false) (hl : lone k (hdel k (hdel o s.h)) = true)
    (hn : LWo P E all ops Q (Lift.rekey s t o k off n obj)) : LWo P E all ops Q s := LWo.ghost (fun _ _ hi => hi.rekey hg ho hk hne hkp hl) hn
def nilM {α R : Type} [DecidableEq R] (l : List α) (f : Bool → Option R) : Option R :=
  match l with
  | [] => match f true, f false with
    | some a, some b => if a = b then some a else none
    | _, _ => none
  | _ :: _ => f false
theorem LWo.nilEq {α : Type} {T e t' : TypeId} {x y : Operand} {sz : Nat} {f : α → LV} {l : List α} {all : Array Oper} {rest : List Oper} {d : Nat} {ty : TypeId} {pos : String} {af : Array Edge} {s : LState} (hu : P.underlying T = some (.slice e)) (hx : s.eval x = .sl sz (l.map f)) (hy : s.eval y = .imm (.slice none 0 0)) (hd : Nat.blt d E.n = true := by exact rfl)
    (hn : ∀ b : Bool, (b = true → l = []) → LWo P E all rest Q (s.put (some d) (.imm (.bool b)))) :
    LWo P E all ({ dst := some d, op := .binOp .eql T x y t', type := ty, pos := pos, after := af, guard := none } :: rest) Q s := by
  intro a w hi; obtain ⟨ok, ρ, F, hi'⟩ := hi; have h := hi'.eval x; rw [hx] at h; have hy' : a.eval y = .slice none 0 0 := hi'.imm hy
  have hv : ∃ A n c, a.eval x = .slice A n c ∧ (A.isNone = true → l = []) := by
    have hf := h.sl_inv; generalize a.eval x = v at hf; generalize hM : l.map f = M at hf; cases hf with
    | sl0 h0 => exact ⟨_, _, _, rfl, fun _ => by simpa using hM⟩
    | sl h0 => exact ⟨_, _, _, rfl, fun h => by simp at h⟩
  obtain ⟨A, n, c, hv, hA⟩ := hv
  have hr : (execOp a.eval { dst := some d, op := .binOp .eql T x y t', type := ty, pos := pos, after := af, guard := none }).run P w = .ok (.value (.bool A.isNone)) w := by
    simp [execOp, hv, hy', guard_sl, binOp, run_equal_slice_nil w T e A n c hu]
  refine wpList_plain rfl fun K hK => ?_; unfold Oper.wp; rw [hr]; exact hK _ _ (hn A.isNone hA _ _ ⟨ok, ρ, F, hi'.put hd (.fro (.imm _))⟩)
def cut3? {α : Type} (l : List α) (lo hi mx : Int) : Option (List α) := if 0 ≤ lo ∧ lo ≤ hi ∧ hi ≤ mx ∧ mx ≤ l.length then some ((l.take hi.toNat).drop lo.toNat) else none
theorem LWo.cutM3 {α : Type} {T e : TypeId} {sz : Nat} {f : α → LV} {l r : List α} {lo hi mx : Int} {x : Operand} {lx : Option Operand} {hx' mx' : Operand} {all : Array Oper} {rest : List Oper} {d : Nat} {ty : TypeId} {pos : String} {af : Array Edge} {s : LState} (he : cut3? l lo hi mx = some r) (hu : P.underlying T = some (.slice e)) (hz : ∀ w, (sizeOf e).run P w = .ok sz w)
    (hx : s.eval x = .sl sz (l.map f)) (hl : match lx with | none => lo = 0 | some o => ∃ k, s.eval o = .imm (.int k lo)) (hh : ∃ k, s.eval hx' = .imm (.int k hi)) (hm : ∃ k, s.eval mx' = .imm (.int k mx)) (hd : Nat.blt d E.n = true := by exact rfl)
    (hn : LWo P E all rest Q (s.put (some d) (.sl sz (r.map f)))) :
    LWo P E all ({ dst := some d, op := .slice T x lx (some hx') (some mx'), type := ty, pos := pos, after := af, guard := none } :: rest) Q s := by
  unfold cut3? at he
  split at he
  · rename_i h1
    cases he; refine LWo.cut (l := lo.toNat) (h := hi.toNat) _ hu hz hx ?_ ?_ ?_ (.inr (by simp)) (by omega) (by rw [List.length_map]; omega) ?_ hd hn
    · cases lx with
      | none => simp only at hl; subst hl; rfl
      | some o => obtain ⟨k, hk⟩ := hl; exact ⟨k, by rw [hk, Int.toNat_of_nonneg h1.1]⟩
    · obtain ⟨k, hk⟩ := hh; exact ⟨k, by rw [hk, Int.toNat_of_nonneg (by omega)]⟩
    · obtain ⟨k, hk⟩ := hm
      exact ⟨k, mx.toNat, by rw [hk, Int.toNat_of_nonneg (by omega)], by omega, by rw [List.length_map]; omega⟩
    · rw [List.map_drop, List.map_take]
  · cases he
theorem LWo.bcallM {α : Type} {f : Operand} {ops : List Operand} {ts : Array TypeId} {g : FuncId} {caps vals xs : List LV} {sz : Nat} {e : α → LV} {v : α} {all : Array Oper} {rest : List Oper} {d : Nat} {ty : TypeId} {pos : String} {af : Array Edge} {s : LState} (k : Nat) (hf : s.eval f = .clo g caps) (hv : ops.map s.eval ++ caps = vals)
    (hfn : Ret P g xs (.nb (e v).cells)) (hA : ArgsOK s [] vals xs []) (hag : e v = .agg (e v).cells) (hsz : (e v).cells.length = sz) (hl : Lift.lone k (hdel k s.h) = true) (hkp : E.keep.contains k = false := by exact rfl) (hd : Nat.blt d E.n = true := by exact rfl)
    (hn : LWo P E all rest Q { tm := (d, .ptr k 0 0) :: kill k s.tm, h := (k, vob sz e v) :: hdel k s.h }) :
    LWo P E all ({ dst := some d, op := .call { callee := .value f, args := ops.toArray, argTypes := ts }, type := ty, pos := pos, after := af, guard := none } :: rest) Q s :=
  LWo.bcall (R := fun cs => cs = (e v).cells) k hf hv (hfn.mono fun r h ⟨h1, h2⟩ => ⟨⟨_, h1, rfl⟩, h2⟩) hA hkp hl hd (by
    rintro cs rfl; rw [← hag, hsz]; exact hn)
end
end Go.Lift
/- The lifted logic, part 33: a law over bytes, out of its contract. Own work. -/
namespace Go.Lift
open Go.RowKit
theorem u8_back {n : Int} (h : (Lit.int .u8 n).wf = true) : ((UInt8.ofNat n.toNat).toNat : Int) = n := by
  have hb := bounds_u8 h; rw [UInt8.toNat_ofNat']; omega
theorem law_bytes {P : Program} {f : FuncId} (h : ∀ l : List UInt8, Ret P f [.sl 1 (l.map e_uint8)] (e_bool true)) (W : World) (a : Option Addr) (len cap : Nat) (zs : List Int)
    (hz : (a = none ∧ len = 0 ∧ cap = 0 ∧ zs = []) ∨ ∃ x, a = some x ∧ len ≤ cap ∧ cap ≤ maxLen ∧ zs.length = cap ∧ (∀ i, i < zs.length → W.cell? (x.add i) = some (.int .u8 (zs.getD i 0))) ∧ ∀ n ∈ zs, (Lit.int .u8 n).wf = true) (hb : ∀ x, a = some x → 0 < len → x.block < W.heap.size) :
    Calls P f #[.slice a len cap] W fun e w' => e = .returned (.bool true) ∧ Below W.heap.size W w' := by
  obtain ⟨l, hl⟩ : ∃ l : List UInt8, Fro W (fun k => k < W.heap.size) (.sl 1 (l.map e_uint8)) (.slice a len cap) := by
    rcases hz with ⟨rfl, rfl, rfl, rfl⟩ | ⟨x, rfl, h1, h2, h3, h4, h5⟩
    · exact ⟨[], .sl0 (by decide)⟩
    · refine ⟨(zs.take len).map fun n => UInt8.ofNat n.toNat, ?_⟩
      have hlen : (((zs.take len).map fun n => UInt8.ofNat n.toNat).map e_uint8).length = len := by simp; omega
      rcases Nat.eq_zero_or_pos len with rfl | hpos
      · simpa using Fro.sl0 h2
      · have hfr : ∀ ys : List Int, (∀ n ∈ ys, (Lit.int .u8 n).wf = true) → FroL W (fun k => k < W.heap.size) (((ys.map fun n => UInt8.ofNat n.toNat).map e_uint8).flatMap LV.cells) (ys.map (Value.int .u8)) := by
          intro ys
          induction ys with
          | nil => intro _; exact .nil
          | cons y ys ih =>
            intro hy; refine .cons ?_ rfl (ih fun n hn => hy n (by simp [hn])); show Fro W _ (.imm (.int .u8 ((UInt8.ofNat y.toNat).toNat : Int))) _; rw [u8_back (hy y (by simp))]; exact .imm _
        have := Fro.sl (w := W) (ok := fun k => k < W.heap.size) (sz := 1) (c := cap) (xs := ((zs.take len).map fun n => UInt8.ofNat n.toNat).map e_uint8) (ad := x) (by intro e; rw [e] at hlen; simp at hlen; omega)
          (by intro y hy; obtain ⟨b, _, rfl⟩ := List.mem_map.1 hy; rfl) (hfr (zs.take len) (fun n hn => h5 n (List.mem_of_mem_take hn))) (by
            intro k v hk; simp only [List.getElem?_map, List.getElem?_take] at hk
            split at hk
            · rename_i hlt
              rw [h4 k (by omega)]; simp [List.getD_eq_getElem?_getD]; cases hz : zs[k]? with
              | none => rw [hz] at hk; simp at hk
              | some u => rw [hz] at hk; simpa using hk
            · simp at hk) (hb x rfl hpos) (by omega) h2
        rw [hlen] at this; exact this
  have hc := (h l).2 W [.slice a len cap] (fun k => k < W.heap.size) (fun _ => none) (fun _ => []) (.cons (.fro hl) .nil) ⟨by simp [hkeys], by simp, by simp [fpsOf], by simp [fpsOf]⟩ (fun _ h => h); refine Calls.mono hc ?_; rintro e w' ⟨v, r, hl', ok', F', fr, rfl, ⟨rfl, rfl⟩, hext, hres, _⟩; refine ⟨?_, ⟨hext.os, hext.tape, hext.output, hext.size, fun k hk => hext.block k hk (by simp [fpsOf, rwOf])⟩⟩; cases hres with
  | fro h => cases h; rfl
end Go.Lift
/- The lifted logic, part 34: guards whose own guard is not wanted; lists made at once; one's own list lent under any name. Own work. -/
namespace Go.Lift
open Go.RowKit
section
variable {P : Program} {E : Ent} {Q : Exit → LState → Prop} {s : LState} {all : Array Oper} {rest : List Oper} {d : Nat} {ty : TypeId} {pos : String} {af : Array Edge}
theorem LWo.skip {o : Oper} (d : Nat) (ho : o.dst = some d) (hlt : Nat.blt d E.n = true) (hw : ∀ a w ok ρ F, Inv' E s a w ok ρ F → Region.wanted o (yielded all a.tmps) = false)
    (hn : LWo P E all rest Q (s.put (some d) (.imm undef))) : LWo P E all (o :: rest) Q s := by
  intro a w ⟨ok, ρ, F, hi⟩; unfold wpList; rw [if_neg (by rw [hw a w ok ρ F hi]; simp)]; refine hn _ _ ⟨ok, ρ, F, ?_⟩; rw [ho]; exact hi.put hlt (.fro (.imm _))
theorem LWo.guardNU {o : Oper} {j t d : Nat} {b nw want : Bool} (hb : get t s.tm = .imm (.bool b)) (h : b = nw) (hg : o.guard = some (j, want)) (hd : (all[j]?).bind (·.dst) = some t) (ho : o.dst = some d) (hlt : Nat.blt d E.n = true) (hne : nw = !want)
    (hn : LWo P E all rest Q (s.put (some d) (.imm undef))) : LWo P E all (o :: rest) Q s :=
  LWo.skip d ho hlt (fun a w ok ρ F hi => by
    have hy := yielded_of hi hd hb; subst h hne; simp only [Region.wanted, hg, hy]; cases want <;> rfl) hn
theorem LWo.guardU {o : Oper} {j t d : Nat} {want : Bool} (hb : get t s.tm = .imm undef) (hg : o.guard = some (j, want)) (hd : (all[j]?).bind (·.dst) = some t) (ho : o.dst = some d) (hlt : Nat.blt d E.n = true)
    (hn : LWo P E all rest Q (s.put (some d) (.imm undef))) : LWo P E all (o :: rest) Q s :=
  LWo.skip d ho hlt (fun a w ok ρ F hi => by
    have hs := hi.slots t; rw [hb] at hs; have hv := hs.imm_inv
    have hy : yielded all a.tmps j = none := by
      rw [Array.getD_eq_getD_getElem?] at hv; cases h : a.tmps[t]? with
      | none => simp [yielded, hd, h]
      | some v =>
        rw [h] at hv; simp only [Option.getD_some] at hv; subst hv; simp [yielded, hd, h, undef]
    simp [Region.wanted, hg, hy]) hn
def mk2? {α : Type} (m n : Int) (y : α) : Option (List α) := if 0 ≤ m ∧ m ≤ n ∧ n ≤ 1000000000000 then some (List.replicate m.toNat y) else none
theorem mk2_b {α : Type} {m n : Int} {y : α} {r : List α} (h : mk2? m n y = some r) : 0 ≤ m ∧ m ≤ n ∧ n ≤ 1000000000000 ∧ r = List.replicate m.toNat y := by
  unfold mk2? at h
  split at h
  · rename_i e; cases h; exact ⟨e.1, e.2.1, e.2.2, rfl⟩
  · cases h
theorem Does.nameT {f : FuncId} {n : Nat} {obj : LObj} {xs : List LV} {R : LV → Prop} (hk : obj.kind = .fro) (hro : obj.ro = false) (hxs : ∀ k, LV.at?.atL k xs = false) (h : Does P f (.own 0 0 n :: xs) [(0, obj)] (fun r h => R r ∧ h = [])) (k : Nat) :
    Does P f (.own k 0 n :: xs) [(k, obj)] (fun r h => R r ∧ h = []) := by
  refine ⟨h.1, fun w vs ok ρ F hT hH hok => ?_⟩; have hFe : fpsOf (fun _ => F k) (rwOf [(0, obj)]) = fpsOf F (rwOf [(k, obj)]) := by simp [rwOf, hro, fpsOf]
  have hT' : RepT w ok (fun _ => ρ k) (.own 0 0 n :: xs) vs := by
    cases hT with
    | cons h1 h2 =>
      refine .cons ?_ ?_
      · rcases h1.own_inv with ⟨p, c, hp, h2, h3, hv⟩ | ⟨rfl, A, hv⟩
        · rw [hv]; exact .own hp h2 h3
        · rw [hv]; exact .own0
      · exact RepT.stable (fun _ _ => rfl) (fun _ hb => hb) (fun o ho => absurd ho (LV.atL_refs o _ (hxs o))) h2
  have hH' : HeapOK w ok (fun _ => ρ k) (fun _ => F k) [(0, obj)] := by
    refine ⟨by simp [hkeys], fun p hp => ?_, ?_, ?_⟩
    · simp at hp; subst hp
      rcases hH.objs (k, obj) (by simp) with ⟨h1, h2, h3⟩ | ⟨p, arr, t, us, fps, h1, h2, h3⟩
      · exact .inl ⟨h1, h2, h3⟩
      · refine .inr ⟨p, arr, t, us, fps, h1, h2, { h3 with cells := ?_ }⟩
        have hc := h3.cells; simp only [hk] at hc ⊢; exact hc
    · have := hH.nodup; simpa [fpsOf] using this
    · intro b hb
      exact hH.apart b (by simpa [fpsOf] using hb)
  refine (h.2 w vs ok (fun _ => ρ k) (fun _ => F k) hT' hH' hok).mono fun e w' => ?_; rintro ⟨v, r, hl', ok', F', fr, he, ⟨hR, rfl⟩, hext, hres, hk', ho', hn', hb', hok'⟩; refine ⟨v, r, [], ok', F', fr, he, ⟨hR, rfl⟩, hFe ▸ hext, hres, hk', ?_, hn', ?_, ?_⟩
  · simp
  · rw [← hFe]; exact hb'
  · rw [← hFe]; exact hok'
theorem LWo.tcallN {α β : Type} {f : Operand} {ops : List Operand} {ts : Array TypeId} {g : FuncId} {caps vals xs : List LV} {o n sz sz' : Nat} {e : α → LV} {e' : β → LV} {l : List α} {r : List β} (k : Nat) (hf : s.eval f = .clo g caps) (hv : ops.map s.eval ++ caps = vals)
    (hfn : Does P g (.own 0 0 l.length :: xs) [(0, lob sz e l)] (fun x h => x = .nw sz' (r.map e') false ∧ h = [])) (hxs : ∀ k, LV.at?.atL k xs = false) (hA : vals = .own o 0 n :: xs) (hnl : n = l.length) (ho : hget o s.h = some (lob sz e l)) (hl : Lift.lone k (hdel k (hdel o s.h)) = true) (hkp : E.keep.contains k = false := by exact rfl) (hd : Nat.blt d E.n = true := by exact rfl)
    (hn : LWo P E all rest Q { tm := (d, .own k 0 r.length) :: kill k s.tm, h := (k, lob sz' e' r) :: hdel k (hdel o s.h) }) :
    LWo P E all ({ dst := some d, op := .call { callee := .value f, args := ops.toArray, argTypes := ts }, type := ty, pos := pos, after := af, guard := none } :: rest) Q s := by
  subst hnl; exact LWo.tcallO k hf hv (Does.nameT rfl rfl hxs hfn o) hA ho rfl hkp hl hd (by rw [List.length_map]; exact hn)
theorem nkb {α R : Type} [DecidableEq R] {l : List α} {f : Bool → Option R} {r : R} {p : Prop} (h : nilM l f = some r) (b : Bool) (hb : b = true → l = []) (k : f b = some r → p) : p := by
  refine k ?_; cases l with
  | cons x l =>
    cases b with
    | true => exact absurd (hb rfl) (by simp)
    | false => exact h
  | nil =>
    simp only [nilM] at h; cases h1 : f true with
    | none => rw [h1] at h; simp at h
    | some a =>
      cases h2 : f false with
      | none => rw [h1, h2] at h; simp at h
      | some c =>
        rw [h1, h2] at h; simp only at h
        split at h
        · rename_i e
          cases h; cases b
          · rw [h2, e]
          · exact h1
        · cases h
theorem getMade (zs : List Value) : ∀ (n k : Nat) (v : Value), (List.replicate n zs).flatten[k]? = some v → zs[k % zs.length]? = some v ∧ k < n * zs.length
  | 0, k, v, h => by simp at h
  | n + 1, k, v, h => by
    rw [List.replicate_succ, List.flatten_cons, List.getElem?_append] at h
    split at h
    · rename_i hlt
      rw [Nat.mod_eq_of_lt hlt]; exact ⟨h, Nat.lt_of_lt_of_le hlt (by rw [Nat.succ_mul]; omega)⟩
    · rename_i hlt
      obtain ⟨h1, h2⟩ := getMade zs n _ v h; refine ⟨?_, by rw [Nat.succ_mul]; omega⟩; rw [Nat.mod_eq_sub_mod (by omega)]; exact h1
theorem froRep {w : World} {ok : Nat → Prop} {cs : List LV} {vs : List Value} (h : FroL w ok cs vs) : ∀ n : Nat, FroL w ok ((List.replicate n cs).flatten) ((List.replicate n vs).flatten)
  | 0 => .nil
  | n + 1 => by
    rw [List.replicate_succ, List.flatten_cons, List.replicate_succ, List.flatten_cons]
    have app : ∀ {a : List LV} {b : List Value} {c : List LV} {d : List Value}, FroL w ok a b → FroL w ok c d → FroL w ok (a ++ c) (b ++ d) := by
      intro a b c d h1 h2
      induction a generalizing b with
      | nil => cases h1; exact h2
      | cons x a ih => cases h1 with | cons h h' h'' => exact .cons h h' (ih h'')
    exact app h (froRep h n)
theorem LWo.makeW {α : Type} {T e : TypeId} {z : Value} {zs : List Value} {sz bytes : Nat} {f : α → LV} {y : α} {x c : Operand} {kl kc : IntKind} {m n : Int} (k : Nat) (hm0 : 0 ≤ m) (hmn : m ≤ n) (hn' : n ≤ 1000000000000) (hu : P.underlying T = some (.slice e))
    (hinfo : (P.info? e).map (fun i => (i.size, i.bytes, i.zero)) = some (sz, bytes, some z)) (hzs : z.cells = zs.toArray) (h1 : zs.all Value.oneCell' = true) (hlen : zs.length = sz) (hw : WkL (zs.map LV.imm) (f y).cells) (hx : s.eval x = .imm (.int kl m)) (hc : s.eval c = .imm (.int kc n)) (hl : lone k (hdel k s.h) = true) (hby : Nat.ble bytes 140 = true) (hkp : E.keep.contains k = false := by exact rfl) (hd : Nat.blt d E.n = true := by exact rfl)
    (hn : LWo P E all rest Q { tm := (d, .own k 0 (List.replicate m.toNat y).length) :: kill k s.tm, h := (k, lob sz f (List.replicate m.toNat y)) :: hdel k s.h }) :
    LWo P E all ({ dst := some d, op := .makeSlice T x c, type := ty, pos := pos, after := af, guard := none } :: rest) Q s :=
  have hcl : (f y).cells.length = sz := by rw [← hw.length, List.length_map, hlen]
  LWo.make k (lob sz f (List.replicate m.toNat y)) (.own k 0 (List.replicate m.toNat y).length) hd hkp hl (.inl rfl) (by
      intro z hz; simp only [lob, List.map_replicate, List.mem_replicate] at hz; rw [hz.2, hcl]; rfl) (fun a w ok ρ F hi => by
    have hvx := hi.eval x; rw [hx] at hvx; have hvc := hi.eval c; rw [hc] at hvc; have e1 := hvx.imm_inv; have e2 := hvc.imm_inv
    obtain ⟨i, hi1, hi2, hi3, hi4⟩ : ∃ i, P.info? e = some i ∧ i.size = sz ∧ i.bytes = bytes ∧ i.zero = some z := by
      cases h : P.info? e with
      | none => rw [h] at hinfo; cases hinfo
      | some i => rw [h] at hinfo; simp at hinfo; exact ⟨i, rfl, hinfo.1, hinfo.2.1, hinfo.2.2⟩
    have hby' := Nat.le_of_ble_eq_true hby; have hr := run_make (P := P) w T e i z hu hi1 hi4 kl kc m n hm0 hmn (by rw [hi3]; exact Int.le_trans (Int.mul_le_mul (c := 140) (d := 1000000000000) (by omega) hn' (by omega) (by decide)) (by decide)) (by omega); refine ⟨.slice (some ⟨w.heap.size, 0, none⟩) m.toNat n.toNat, madeCells z.cells (n.toNat * i.size), e, (List.replicate m.toNat zs).flatten, n.toNat, w, ?_, .inl rfl, by simp [lob]; omega, by unfold maxLen; omega, ?_, ?_, ?_, fun W ok' ρ' hρ => ?_⟩
    · simp only [execOp, e1, e2]
      rw [Sem.run_bind, hr]; rfl
    · rw [size_madeCells, hi2]; exact Nat.le_refl _
    · intro j v hj
      obtain ⟨g1, g2⟩ := getMade zs _ j v hj
      have hlt : j < n.toNat * i.size := by
        rw [hi2, ← hlen]; exact Nat.lt_of_lt_of_le g2 (Nat.mul_le_mul_right _ (by omega))
      have hpos : j % zs.length < zs.length := by
        rcases Nat.lt_or_ge (j % zs.length) zs.length with h | h
        · exact h
        · rw [List.getElem?_eq_none h] at g1; cases g1
      rw [madeCells, Array.getElem?_map, Array.getElem?_range]; rw [if_pos hlt, hzs]; simp only [Option.map_some, List.size_toArray, Option.some.injEq]; rw [List.getElem?_eq_getElem hpos] at g1; simp only [Option.some.injEq] at g1; rw [getElem!_pos (List.toArray zs) _ (by simpa using hpos)]; simpa using g1
    · refine ⟨rfl, ?_⟩
      have := froRep ((froL_imm (w := w) (ok := ok) zs (by simpa using h1)).weak hw) m.toNat
      have e3 : (lob sz f (List.replicate m.toNat y)).elems.flatMap LV.cells = (List.replicate m.toNat (f y).cells).flatten := by
        simp [lob, List.flatMap_def]
      rw [e3]; exact this
    · have hw := Rep.own (w := W) (ok := ok') (ρ := ρ') (off := 0) (n := m.toNat) (c := n.toNat) hρ (by simp) (by omega)
      simp only [Nat.zero_mul] at hw; rw [List.length_replicate]; exact hw) hn
end
end Go.Lift
/- The lifted logic, part 35: a call with a variable lent whose list is one's own. Own work. -/
namespace Go.Lift
open Go.RowKit
section
variable {P : Program} {E : Ent} {Q : Exit → LState → Prop} {s : LState} {all : Array Oper} {rest : List Oper} {d : Nat} {ty : TypeId} {pos : String} {af : Array Edge}
theorem LWo.lncall {α : Type} {f : Operand} {ops : List Operand} {ts : Array TypeId} {g : FuncId} {caps vals xs : List LV} {lk sz : Nat} {obj obj' : LObj} {e : α → LV} {l : List α} (k : Nat) (hf : s.eval f = .clo g caps) (hv : ops.map s.eval ++ caps = vals)
    (hfn : Does P g xs [(lk, obj)] (fun r h => r = .nw sz (l.map e) false ∧ h = [(lk, obj')])) (hA : vals = xs) (ho : hget lk s.h = some obj) (hro : obj.ro = false) (hl : Lift.lone k (hdel k ((lk, obj') :: hdel lk s.h)) = true) (hkp : E.keep.contains k = false := by exact rfl) (hd : Nat.blt d E.n = true := by exact rfl)
    (hn : LWo P E all rest Q { tm := (d, .own k 0 l.length) :: kill k s.tm, h := (k, lob sz e l) :: hdel k ((lk, obj') :: hdel lk s.h) }) :
    LWo P E all ({ dst := some d, op := .call { callee := .value f, args := ops.toArray, argTypes := ts }, type := ty, pos := pos, after := af, guard := none } :: rest) Q s :=
  LWo.call (some k) hf hv hfn (by rw [hA]; exact ArgsOK.allSame) ⟨by simp [hkeys], by intro p hp; simp at hp; subst hp; exact ⟨_, ho, .inl rfl⟩⟩ (fun t ht => by cases ht; exact hd) (fun j hj => by cases hj; exact hkp) (by
    rintro r hl' ⟨rfl, rfl⟩; refine ⟨.inl rfl, (fun j hj => by cases hj; simpa [rwOf, hro, hkeys, hdels] using hl), ?_⟩; have : rwOf [(lk, obj)] = [(lk, obj)] := by simp [rwOf, hro]
    have e2 : hdels [lk] s.h = hdel lk s.h := by simp
    simp only [afterCall, this, hkeys, List.map_cons, List.map_nil, List.length_map, LState.put]; rw [e2]; exact hn)
end
end Go.Lift
/- The lifted logic, part 36: cuts of one's own list that stay one's own; clear. Own work. -/
namespace Go.Lift
open Go.RowKit
section
variable {P : Program} {E : Ent} {Q : Exit → LState → Prop} {s : LState} {all : Array Oper} {rest : List Oper} {d : Nat} {ty : TypeId} {pos : String} {af : Array Edge}
def rng? (lo hi : Int) (n : Nat) : Option Unit := if 0 ≤ lo ∧ lo ≤ hi ∧ hi ≤ n then some () else none
theorem rng_b {lo hi : Int} {n : Nat} {u : Unit} (h : rng? lo hi n = some u) : 0 ≤ lo ∧ lo ≤ hi ∧ hi ≤ n := by
  unfold rng? at h
  split at h
  · assumption
  · cases h
theorem rng_of {lo hi : Int} {n : Nat} (h : 0 ≤ lo ∧ lo ≤ hi ∧ hi ≤ n) : rng? lo hi n = some () := by unfold rng?; rw [if_pos h]
def leN (n m : Nat) : Option Unit := if n ≤ m then some () else none
theorem leN_b {n m : Nat} {u : Unit} (h : leN n m = some u) : n ≤ m := by
  unfold leN at h
  split at h
  · assumption
  · cases h
theorem leN_of {n m : Nat} (h : n ≤ m) : leN n m = some () := by unfold leN; rw [if_pos h]
theorem LWo.cutOM {α : Type} {T e : TypeId} {sz o off n : Nat} {f : α → LV} {l : List α} {lo hi : Int} {u : Unit} {x : Operand} {lx hx' : Option Operand} (he : rng? lo hi n = some u) (hu : P.underlying T = some (.slice e)) (hz : ∀ w, (sizeOf e).run P w = .ok sz w)
    (hx : s.eval x = .own o off n) (ho : hget o s.h = some (lob sz f l)) (hl : match lx with | none => lo = 0 | some o => ∃ k, s.eval o = .imm (.int k lo)) (hh : match hx' with | none => hi = n | some o => ∃ k, s.eval o = .imm (.int k hi)) (hd : Nat.blt d E.n = true := by exact rfl)
    (hn : LWo P E all rest Q (s.put (some d) (.own o (off + lo.toNat) (hi.toNat - lo.toNat)))) :
    LWo P E all ({ dst := some d, op := .slice T x lx hx' none, type := ty, pos := pos, after := af, guard := none } :: rest) Q s := by
  obtain ⟨h0, h1, h2⟩ := rng_b he; refine LWo.cutOwn (l := lo.toNat) (h := hi.toNat) hu hz hx ho rfl ?_ ?_ trivial (.inl rfl) (by omega) (by omega) rfl rfl hd hn
  · cases lx with
    | none => simp only at hl; subst hl; rfl
    | some o => obtain ⟨k, hk⟩ := hl; exact ⟨k, by rw [hk, Int.toNat_of_nonneg h0]⟩
  · cases hx' with
    | none => simp only at hh; subst hh; simp [Bound]
    | some o => obtain ⟨k, hk⟩ := hh; exact ⟨k, by rw [hk, Int.toNat_of_nonneg (by omega)]⟩
inductive SrcT {α : Type} (s : LState) (y : Operand) (sz : Nat) (f : α → LV) (l : List α) : Prop
  | m : SrcM s y sz f l → SrcT s y sz f l
  | cut {o off n : Nat} {L : List α} : s.eval y = .own o off n → off + n ≤ L.length → hget o s.h = some (lob sz f L) → (L.drop off).take n = l → SrcT s y sz f l
theorem SrcT.is {α : Type} {y : Operand} {sz : Nat} {f : α → LV} {l : List α} (h : SrcT s y sz f l) : SrcIs s y sz (l.map f) := by
  cases h with
  | m h => exact h.is
  | cut h h1 h2 h3 =>
    subst h3; rename_i o off n L
    refine .inr (.inr (.inl ⟨_, off, _, by rw [List.length_map, List.length_take, List.length_drop, show min n (L.length - off) = n by omega]; exact h, h2, rfl, rfl, by simp [lob]; omega, by
      simp [lob, show min n (L.length - off) = n by omega, List.map_take, List.map_drop]⟩))
theorem Inv.trunc {k m : Nat} {obj : LObj} (ho : hget k s.h = some obj) (hk : obj.kind = .fro) (hro : obj.ro = false) {a : Act} {w : World} (hi : Inv E s a w) : Inv E { tm := s.tm, h := (k, { obj with elems := obj.elems.take m }) :: hdel k s.h } a w := by
  obtain ⟨ok, ρ, F, hi⟩ := hi; have hp := hput_perm (x := { obj with elems := obj.elems.take m }) hi.heap.keys ho
  have key : Inv' E { tm := s.tm, h := hput k { obj with elems := obj.elems.take m } s.h } a w ok ρ F := by
    refine { hi with heap := ⟨by rw [hput_keys]; exact hi.heap.keys, ?_, ?_, ?_⟩, mine := ?_ }
    · intro p hp
      rcases mem_hput hp with ⟨e1, e2⟩ | ⟨_, hm⟩
      · obtain ⟨pk, po⟩ := p
        simp only at e1 e2; subst e1; subst e2; rcases hi.heap.objs _ (hget_mem ho) with ⟨h1, h2, h3⟩ | ⟨p, arr, t, vs, fps, h1, h2, h3⟩
        · exact .inl ⟨h1, by simp only at h2 ⊢; rw [h2]; simp, h3⟩
        · have hun : ∀ x ∈ obj.elems, x.cells.length = obj.sz := h3.unif
          have hc := h3.cells; simp only [hk] at hc; refine .inr ⟨p, arr, t, vs.take (m * obj.sz), fps, h1, h2, ⟨h3.sz, fun x hx => hun x (List.mem_of_mem_take hx), ?_, h3.cap, h3.blk, h3.room, ?_, ?_⟩⟩
          · have : obj.elems.length ≤ p.cap := h3.len
            simp; omega
          · intro j v hj
            rw [List.getElem?_take] at hj
            split at hj
            · exact h3.vals j v hj
            · cases hj
          · show ObjCells _ _ _ obj.kind _ _ _
            rw [hk]; refine ⟨hc.1, ?_⟩; show FroL _ _ ((obj.elems.take m).flatMap LV.cells) _; rw [flat_take _ obj.sz _ hun]; exact hc.2.take _
      · exact hi.heap.objs p hm
    · rw [fpsOf_keys, hput_keys, ← fpsOf_keys]; exact hi.heap.nodup
    · intro b hb
      rw [fpsOf_keys, hput_keys, ← fpsOf_keys] at hb; exact hi.heap.apart b hb
    · intro p hp hro' b hb hlt
      rcases mem_hput hp with ⟨e1, e2⟩ | ⟨_, hm⟩
      · obtain ⟨pk, po⟩ := p
        simp only at e1 e2; subst e1; subst e2; exact hi.mine _ (hget_mem ho) hro b hb hlt
      · exact hi.mine p hm hro' b hb hlt
  exact ⟨ok, ρ, F, key.perm hp⟩
theorem LWo.clearO {α : Type} {T e : TypeId} {sz o off n : Nat} {z : Value} {f : α → LV} {l : List α} {x : Operand} (dst : Option Nat) (hu : P.underlying T = some (.slice e)) (hz : ∀ w, (zeroValue e).run P w = .ok z w) (hzs : z.cells.size = sz) (hz1 : z.cells.toList.all Value.oneCell' = true)
    (hx : s.eval x = .own o off n) (ho : hget o s.h = some (lob sz f l)) (hd : (match dst with | some t => Nat.blt t E.n | none => true) = true)
    (hn : LWo P E all rest Q (({ tm := s.tm, h := (o, lob sz f (l.take off)) :: hdel o s.h } : LState).put dst .junk)) :
    LWo P E all ({ dst := dst, op := .call { callee := .builtin .clear, args := #[x], argTypes := #[T] }, type := ty, pos := pos, after := af, guard := none } :: rest) Q s :=
  LWo.value _ rfl (fun a w ok ρ F hi => by
    have htr : Inv E { tm := s.tm, h := (o, lob sz f (l.take off)) :: hdel o s.h } a w := by
      have := Inv.trunc (m := off) ho rfl rfl ⟨ok, ρ, F, hi⟩; have e1 : ({ (lob sz f l) with elems := (lob sz f l).elems.take off } : LObj) = lob sz f (l.take off) := by simp [lob, List.map_take]
      rw [e1] at this; exact this
    have fin : ∀ w', Inv E { tm := s.tm, h := (o, lob sz f (l.take off)) :: hdel o s.h } a w' → ∀ v, Inv E (({ tm := s.tm, h := (o, lob sz f (l.take off)) :: hdel o s.h } : LState).put dst .junk) (a.put dst v) w' := by
      rintro w' ⟨ok', ρ', F', h⟩ v; cases dst with
      | none => exact ⟨_, _, _, h⟩
      | some t => exact ⟨_, _, _, h.put hd (.junk _)⟩
    have hX := hi.eval x; rw [hx] at hX
    have none0 : ∀ (A : Option Addr) (c : Nat), a.eval x = .slice A 0 c → ∃ n w', (execOp a.eval { dst := dst, op := .call { callee := .builtin .clear, args := #[x], argTypes := #[T] }, type := ty, pos := pos, after := af, guard := none }).run P w = .ok n w' ∧ ((∃ v, n = .value v ∧ Inv E (({ tm := s.tm, h := (o, lob sz f (l.take off)) :: hdel o s.h } : LState).put dst .junk) (a.put dst v) w') ∨ (n = .skip ∧ Inv E (({ tm := s.tm, h := (o, lob sz f (l.take off)) :: hdel o s.h } : LState).put dst .junk) (a.put dst undef) w')) := by
      intro A c hv; refine ⟨.value (.tuple #[]), w, ?_, .inl ⟨_, rfl, fin w htr _⟩⟩; cases A <;> simp [execOp, resolve, invoke, builtin, Builtin.clear_, underlying, hu, program, Sem.run, hv]
    rcases hX.own_inv with ⟨p, cp, hp, hcap, hncp, hxv⟩ | ⟨h0, A, hxv⟩
    · rcases Nat.eq_zero_or_pos n with h0 | hpos
      · subst h0
        exact none0 _ _ hxv
      · rcases hi.heap.objs _ (hget_mem ho) with ⟨h', _⟩ | ⟨p', arr, t, us, fps, h', hF, hobj⟩
        · rw [hp] at h'; cases h'
        · rw [hp] at h'; cases h'
          have hsz : p.sz = sz := hobj.sz; have hunif : ∀ x ∈ (lob sz f l).elems, x.cells.length = sz := hobj.unif; have hcells := hobj.cells; have huslen := hcells.2.length; have hroom : p.cap * p.sz ≤ arr.size := hobj.room
          let vs := (Builtin.zeroCells z.cells n).toList
          have hvl : vs.length = n * sz := by simp [vs, Builtin.zeroCells, hzs]
          have hvo : ∀ v ∈ vs, v.oneCell' = true := by
            intro v hv; simp only [vs, Builtin.zeroCells, Array.toList_map, List.mem_map, Array.toList_range, List.mem_range] at hv; obtain ⟨i, hi', rfl⟩ := hv
            have hs0 : 0 < z.cells.size := by
              rcases Nat.eq_zero_or_pos z.cells.size with h | h
              · rw [h] at hi'; simp at hi'
              · exact h
            have hlt := Nat.mod_lt i hs0; rw [getElem!_pos z.cells _ hlt]; exact List.all_eq_true.1 hz1 _ (by simp)
          have h3 : (off + n) * sz ≤ p.cap * p.sz := by rw [hsz]; exact Nat.mul_le_mul_right _ (by omega)
          rw [Nat.add_mul] at h3; have hst := run_storeCells_at P p.blk (off * sz) t vs 0 arr w hobj.blk (by omega) hvo; simp only [Nat.add_zero] at hst; refine ⟨.value (.tuple #[]), w.setRow p.blk (arr.toList.take (off * sz) ++ vs ++ arr.toList.drop (off * sz + vs.length)).toArray, ?_, .inl ⟨_, rfl, fin _ ?_ _⟩⟩
          · obtain ⟨n', rfl⟩ : ∃ q, n = q + 1 := ⟨n - 1, by omega⟩
            rw [hsz] at hxv; simp [execOp, resolve, invoke, builtin, Builtin.clear_, underlying, hu, program, Sem.run, hz w, hxv]; simp [vs, Sem.run] at hst; rw [hst]; rfl
          have hapart := hi.heap.apart p.blk (mem_fpsOf.2 ⟨_, hget_mem ho, by rw [hF]; simp⟩); have hob : ∀ b, ok b → (w.setRow p.blk (arr.toList.take (off * sz) ++ vs ++ arr.toList.drop (off * sz + vs.length)).toArray).heap[b]? = w.heap[b]? := fun b hb => setRow_other w p.blk b _ (fun e => hapart.1 (e ▸ hb))
          have hw := Inv'.write (obj' := lob sz f (l.take off)) hi ho rfl rfl hp hF (arr' := (arr.toList.take (off * sz) ++ vs ++ arr.toList.drop (off * sz + vs.length)).toArray) (vs' := us.take (off * sz)) (t := t)
            { sz := hobj.sz
              unif := by
                intro x hx; simp only [lob, List.map_take] at hx; exact hunif x (List.mem_of_mem_take hx)
              len := by have hl : (lob sz f l).elems.length ≤ p.cap := hobj.len; simp [lob] at hl ⊢; omega
              cap := hobj.cap
              blk := setRow_heap w _ _ _ _ _ hobj.blk
              room := by simp; omega
              vals := by
                intro k v hk'; simp only [List.getElem?_toArray]; rw [List.getElem?_take] at hk'
                split at hk'
                · rename_i hlt
                  have hl2 : (arr.toList.take (off * sz)).length = off * sz := by simp; omega
                  rw [List.append_assoc, List.getElem?_append_left (by omega), List.getElem?_take, if_pos hlt]; simpa using hobj.vals k v hk'
                · cases hk'
              cells := by
                refine ⟨hcells.1, ?_⟩; have e1 : (lob sz f (l.take off)).elems = (lob sz f l).elems.take off := by simp [lob, List.map_take]
                rw [e1, flat_take _ sz _ hunif]; exact FroL.stable hob (fun _ hb => hb) (hcells.2.take _) }
          have hpm := hput_perm (x := lob sz f (l.take off)) hi.heap.keys ho; exact ⟨ok, ρ, F, hw.perm hpm⟩
    · subst h0
      exact none0 _ _ hxv) hn
theorem ResOf.nwT {α : Type} {h : LHeap} {k n sz : Nat} {e : α → LV} {l : List α} (hle : n ≤ l.length) (ho : hget k h = some (lob sz e l)) : ResOf h (.own k 0 n) (.nw sz ((l.take n).map e) false) [k] [] := by
  have := ResOf.own (n := n) (dp := false) ho rfl (.inl ⟨rfl, .inl rfl⟩) (by simpa [lob] using hle); have e1 : (lob sz e l).elems.take n = (l.take n).map e := by simp [lob, List.map_take]
  rwa [e1] at this
end
end Go.Lift
namespace Go.Lift
open Go.RowKit
section
variable {P : Program} {E : Ent} {Q : Exit → LState → Prop} {s : LState} {all : Array Oper}
end
end Go.Lift
/- The lifted logic, part 37: append in place, where the room is known. Own work. -/
namespace Go.Lift
open Go.RowKit
section
variable {P : Program} {E : Ent} {Q : Exit → LState → Prop} {s : LState} {all : Array Oper} {rest : List Oper} {d : Nat} {ty : TypeId} {pos : String} {af : Array Edge}
end
end Go.Lift
/- The lifted logic, part 38: a call that hands back a list of its own and something beside it. Own work. -/
namespace Go.Lift
open Go.RowKit
section
variable {P : Program} {E : Ent} {Q : Exit → LState → Prop} {s : LState} {all : Array Oper} {rest : List Oper} {d : Nat} {ty : TypeId} {pos : String} {af : Array Edge}
end
end Go.Lift
/- The lifted logic, part 39: a call whose list that comes back is not wanted. Own work. -/
namespace Go.Lift
open Go.RowKit
section
variable {P : Program} {E : Ent} {Q : Exit → LState → Prop} {s s' : LState} {all : Array Oper} {rest : List Oper} {d : Nat} {ty : TypeId} {pos : String} {af : Array Edge}
end
end Go.Lift
/- The lifted logic, part 40: short forms of the steps of a region of open order. Own work. -/
namespace Go.Lift
theorem zn {α β : Type} {a : α} {c : β} {R G : Prop} (hg : G) : a = a ∧ (c = c ∨ R) ∧ G := ⟨rfl, .inl rfl, hg⟩
section
variable {P : Program} {E : Ent}
theorem dq {KS : List (Nat × Nat)} {all : Array Oper} {o : Oper} {os : List Oper} {rd hk : List Nat} {ps : List (List Nat × List Nat)} {i : Nat} {acc : List SF} {ah : List HF} {k : List SF → List HF → List Rec → Prop} (d : Nat) {y : LV} (hin : (rd.all (hasT · acc) && hk.all (hasH · ah)) = true)
    (h1 : ∀ u : LState, Good KS u → AllF u.tm (rd.map (look · acc)) → AllH u.h (hk.map (lookH · ah)) → LWo P E all [o] (fun e t => e = .normal ∧ (t = (Ef.put d y).run u ∨ t.le ((Ef.put d y).run u)) ∧ Good KS t) u)
    (h2 : DSE P E KS all os ps (i + 1) ((Ef.put d y).accS i acc) ((Ef.put d y).accH i ah) (fun a b r => k a b (⟨.put d y, rd.map (look · acc), hk.map (lookH · ah)⟩ :: r))) : DSE P E KS all (o :: os) ((rd, hk) :: ps) i acc ah k := ⟨hin, .put d y, trivial, h1, h2⟩
end
def ins1 (x : Nat) (l : List Nat) : List Nat := bif l.contains x then l else x :: l
def preD : List Oper → List (List Nat) → List (List Nat)
  | [], acc => acc
  | o :: r, acc => preD r (acc ++ [(edgesOf o).foldl (fun l j => ins1 j ((acc.getD j []).foldl (fun l x => ins1 x l) l)) []])
theorem mem_ins1 {x y : Nat} {l : List Nat} : y ∈ ins1 x l ↔ y = x ∨ y ∈ l := by
  unfold ins1; cases h : l.contains x with
  | true =>
    have : x ∈ l := by simpa using h
    rw [cond_true]; exact ⟨.inr, fun h => h.elim (fun e => e ▸ this) id⟩
  | false => rw [cond_false, List.mem_cons]
theorem mem_foldI {y : Nat} : ∀ (xs l : List Nat), y ∈ xs.foldl (fun l x => ins1 x l) l ↔ y ∈ xs ∨ y ∈ l
  | [], l => by simp
  | x :: xs, l => by rw [List.foldl_cons, mem_foldI xs, mem_ins1, List.mem_cons]; grind
theorem preD_mem : ∀ (ops : List Oper) (a b : List (List Nat)), a.length = b.length → (∀ j x, x ∈ a.getD j [] ↔ x ∈ b.getD j []) → ∀ j x, x ∈ (preD ops a).getD j [] ↔ x ∈ (preAll ops b).getD j []
  | [], a, b, _, h => h
  | o :: r, a, b, hl, h => by
    rw [preD, preAll]
    have hx : ∀ x, x ∈ (edgesOf o).foldl (fun l j => ins1 j ((a.getD j []).foldl (fun l x => ins1 x l) l)) [] ↔ x ∈ (edgesOf o).flatMap fun j => j :: b.getD j [] := by
      intro x
      have key : ∀ (es l : List Nat), x ∈ es.foldl (fun l j => ins1 j ((a.getD j []).foldl (fun l x => ins1 x l) l)) l ↔ (x ∈ es.flatMap fun j => j :: b.getD j []) ∨ x ∈ l := by
        intro es
        induction es with
        | nil => intro l; simp
        | cons e es ih =>
          intro l; rw [List.foldl_cons, ih, mem_ins1, mem_foldI, h e x, List.flatMap_cons, List.mem_append, List.mem_cons]
          grind
      rw [key]; simp
    refine preD_mem r _ _ (by simp [hl]) ?_; intro j x; rcases Nat.lt_trichotomy j a.length with h1 | h1 | h1
    · rw [List.getD_eq_getElem?_getD, List.getElem?_append_left h1, List.getD_eq_getElem?_getD, List.getElem?_append_left (hl ▸ h1), ← List.getD_eq_getElem?_getD, ← List.getD_eq_getElem?_getD]
      exact h j x
    · subst h1
      rw [List.getD_eq_getElem?_getD, List.getElem?_append_right (Nat.le_refl _), List.getD_eq_getElem?_getD, hl, List.getElem?_append_right (Nat.le_refl _)]; simpa using hx x
    · rw [List.getD_eq_getElem?_getD, List.getElem?_eq_none (by simp; omega), List.getD_eq_getElem?_getD, List.getElem?_eq_none (by simp; omega)]
theorem ahead_D (l : List Oper) (i j : Nat) : ahead (preD l []) i j = ahead (preAll l []) i j := by
  unfold ahead; rw [Bool.eq_iff_iff, List.contains_iff_mem, List.contains_iff_mem]; exact preD_mem l [] [] rfl (fun _ _ => Iff.rfl) j i
theorem drawOK_D {l : List Oper} {T : List OI} {FS : List (Nat × Option Nat × List Nat)} {FH : List (Nat × Option Nat)} (h : drawOK (preD l []) T FS FH = true) : drawOK (preAll l []) T FS FH = true := by
  unfold drawOK harmless at *; simp only [ahead_D] at h; exact h
theorem DSE.mono {P : Program} {E : Ent} {KS : List (Nat × Nat)} {all : Array Oper} : ∀ {os : List Oper} {ps : List (List Nat × List Nat)} {i : Nat} {acc : List SF} {ah : List HF} {k k' : List SF → List HF → List Rec → Prop}, (∀ a b r, k a b r → k' a b r) → DSE P E KS all os ps i acc ah k → DSE P E KS all os ps i acc ah k'
  | [], [], _, _, _, _, _, hk, h => hk _ _ _ h
  | o :: os, (rd, hkk) :: ps, i, acc, ah, k, k', hk, ⟨h0, ef, h1, h2, h3⟩ => ⟨h0, ef, h1, h2, DSE.mono (fun a b r h => hk a b _ h) h3⟩
  | [], _ :: _, _, _, _, _, _, _, h => h
  | _ :: _, [], _, _, _, _, _, _, h => h
section
variable {P : Program} {E : Ent} {Q : Exit → LState → Prop}
theorem LWP.drawF {id : Nat} {l : List Oper} {s : LState} (KS : List (Nat × Nat)) (U : List Nat) (plan : List (List Nat × List Nat)) (out outH : List Nat) (hm : P.follows .mixedOrders = true)
    (hedge : (l.zipIdx.all fun (o, i) => (edgesOf o).all fun j => decide (j < i)) = true) (hgood : KS.all (fun p => lone p.1 (hdel p.2 s.h)) = true) (hnd : outH.Nodup)
    (h : DSE P E KS l.toArray l plan 0 (base s U) (heapF s.h) (fun acc ah recs => (out.all (hasT · acc) && outH.all (hasH · ah)) = true ∧ drawOK (preD l []) (recs.map Rec.info) ((out.map (look · acc)).map fun f => (f.t, f.est, f.rf)) ((outH.map (lookH · ah)).map fun f => (f.k, f.est)) = true ∧ Q .normal ⟨out.map fun t => (t, (look t acc).v), outH.map fun k => (k, (lookH k ah).obj)⟩)) :
    LWP P E (.region id l.toArray true) Q s := LWP.drawE KS U plan out outH hm hedge hgood hnd (DSE.mono (fun a b r ⟨h1, h2, h3⟩ => ⟨h1, drawOK_D h2, h3⟩) h)
end
end Go.Lift
/- The lifted logic, part 41: variables in memory whose fields hold lists of one's own. Own work. -/
namespace Go.Lift
open Go.RowKit
section
variable {P : Program} {E : Ent} {Q : Exit → LState → Prop} {s : LState} {all : Array Oper} {rest : List Oper} {d : Nat} {ty : TypeId} {pos : String} {af : Array Edge}
end
end Go.Lift
/- The lifted logic, part 42: a list of one's own lent at any place, and a tuple that comes back. Own work. -/
namespace Go.Lift
open Go.RowKit
section
variable {P : Program} {E : Ent} {Q : Exit → LState → Prop} {s : LState} {all : Array Oper} {rest : List Oper} {d : Nat} {ty : TypeId} {pos : String} {af : Array Edge}
end
end Go.Lift
/- The lifted logic, part 43: arguments of any type, as values that are read. Own work. -/
namespace Go.Lift
open Go.RowKit Go.ChangeShapes Go.WideShapes
def okB (W : World) : Nat → Prop := fun k => k < W.heap.size
structure Opn (P : Program) (T : TypeId) (n : Nat) {α : Type} (e : α → LV) (B : α → Prop) : Prop where
  size : P.cellsOf T = n
  len : ∀ x, (e x).cells.length = n
  read : ∀ {H : Type} (enc : TypeId × Value → H) (W : World) (fuel : Nat) (cs : List Value) (x : DataW H × List MemPlace), DataW.trod enc P W 0 (fun _ => true) true fuel T cs = some x → ∃ a, B a ∧ FroL W (okB W) (e a).cells cs
def B_int (n : Int) : Prop := -9223372036854775808 ≤ n ∧ n ≤ 9223372036854775807
def B_bool (b : Bool) : Prop := True
def B_string (b : ByteArray) : Prop := b.size ≤ maxLen
def B_list {α : Type} (B : α → Prop) (l : List α) : Prop := l.length ≤ maxLen ∧ ∀ x ∈ l, B x
structure OpnF (P : Program) (fs : List Field) (off tot : Nat) {α : Type} (e : α → List LV) (B : α → Prop) : Prop where
  len : ∀ x, off + (e x).length = tot
  read : ∀ {H : Type} (enc : TypeId × Value → H) (W : World) (fuel : Nat) (cs : List Value), cs.length = tot → (∀ (i : Nat) (f : Field), fs[i]? = some f → ∃ y, DataW.trod enc P W 0 (fun _ => true) true fuel f.type ((cs.drop f.offset).take (P.cellsOf f.type)) = some y) → ∃ a, B a ∧ FroL W (okB W) (e a) (cs.drop off)
theorem Opn.one {P : Program} {T : TypeId} {α : Type} {e : α → LV} {B : α → Prop} (h : Opn P T 1 e B) (he : ∀ a, (e a).cells = [e a]) {H : Type} {enc : TypeId × Value → H} {W : World} {v : Value} {d : DataW H} {p : List MemPlace} (hd : DataW.Trod enc P W 0 (fun _ => true) true T v d p) (hv : v.cells.toList = [v]) : ∃ a, B a ∧ Fro W (okB W) (e a) v := by
  obtain ⟨fuel, hf⟩ := hd; rw [hv] at hf; obtain ⟨a, ha, h1⟩ := h.read enc W fuel _ _ hf; rw [he a] at h1; cases h1 with
  | cons h2 _ _ => exact ⟨a, ha, h2⟩
theorem Opn.agg {P : Program} {T : TypeId} {n : Nat} {α : Type} {e : α → LV} {B : α → Prop} (h : Opn P T n e B) (he : ∀ a, e a = .agg (e a).cells) {H : Type} {enc : TypeId × Value → H} {W : World} {cs : Array Value} {d : DataW H} {p : List MemPlace} (hd : DataW.Trod enc P W 0 (fun _ => true) true T (.agg cs) d p) : ∃ a, B a ∧ Fro W (okB W) (e a) (.agg cs) := by
  obtain ⟨fuel, hf⟩ := hd; have e1 : (Value.agg cs).cells.toList = cs.toList := rfl; rw [e1] at hf; obtain ⟨a, ha, h1⟩ := h.read enc W fuel _ _ hf; refine ⟨a, ha, ?_⟩; rw [he a]; have := Fro.agg h1; simpa using this
end Go.Lift
/- The lifted logic, part 45: calls that read lists of one's own and hand back a list of flat elements. Own work. -/
namespace Go.Lift
open Go.RowKit
section
variable {P : Program} {E : Ent} {Q : Exit → LState → Prop} {s : LState} {all : Array Oper} {rest : List Oper} {d : Nat} {ty : TypeId} {pos : String} {af : Array Edge}
end
end Go.Lift
/- The lifted logic, part 46: lists that are owned with all that they lead to: what goes into them. Own work. -/
namespace Go.Lift
open Go.RowKit
theorem DeepL.cut {w : World} : ∀ {xs : List LV} {vs : List Value} {f : List Nat} (n : Nat), DeepL w xs vs f → ∃ fA fC, f = fA ++ fC ∧ DeepL w (xs.take n) (vs.take n) fA ∧ DeepL w (xs.drop n) (vs.drop n) fC
  | _, _, _, 0, h => ⟨[], _, rfl, by simpa using DeepL.nil, by simpa using h⟩
  | _, _, _, n + 1, .nil => ⟨[], [], rfl, by simpa using DeepL.nil, by simpa using DeepL.nil⟩
  | _, _, _, n + 1, .cons (f := f) h h1 h2 => by
    obtain ⟨fA, fC, rfl, hA, hC⟩ := DeepL.cut n h2; exact ⟨f ++ fA, fC, by rw [List.append_assoc], by simpa using DeepL.cons h h1 hA, by simpa using hC⟩
theorem DeepL.put {w : World} {xs ys : List LV} {vs us : List Value} {f g : List Nat} (h : DeepL w xs vs f) (q : Nat) (hy : DeepL w ys us g) : ∃ fA fB fC, f = fA ++ (fB ++ fC) ∧ DeepL w (setRange xs q ys) (vs.take q ++ us ++ vs.drop (q + ys.length)) (fA ++ g ++ fC) := by
  obtain ⟨fA, fR, rfl, hA, hR⟩ := h.cut q; obtain ⟨fB, fC, rfl, hB, hC⟩ := hR.cut ys.length; refine ⟨fA, fB, fC, rfl, ?_⟩; rw [List.drop_drop, List.drop_drop] at hC; exact (hA.append hy).append hC
theorem Deep.one {w : World} {x : LV} {v : Value} {f : List Nat} (h : Deep w x v f) (hx : ∃ sz xs, x = .sl sz xs) : v.oneCell' = true := by
  obtain ⟨sz, xs, rfl⟩ := hx; cases h <;> rfl
def hdelL : List Nat → LHeap → LHeap
  | [], h => h
  | k :: ks, h => hdel k (hdelL ks h)
theorem hdelL_sub : ∀ (ks : List Nat) (h : LHeap), (hdelL ks h).Sublist h
  | [], h => List.Sublist.refl _
  | k :: ks, h => (hdel_sub k _).trans (hdelL_sub ks h)
theorem hdelL_key : ∀ (ks : List Nat) (h : LHeap), ∀ k ∈ ks, k ∉ hkeys (hdelL ks h)
  | [], _, _, hk => by simp at hk
  | j :: ks, h, k, hk => by
    rcases List.mem_cons.1 hk with rfl | hk
    · exact hdel_key k _
    · intro hm
      have : k ∈ hkeys (hdelL ks h) := by
        unfold hkeys at hm ⊢; exact ((hdel_sub j _).map _).mem hm
      exact hdelL_key ks h k hk this
section
variable {P : Program} {E : Ent} {Q : Exit → LState → Prop} {s : LState} {all : Array Oper} {rest : List Oper} {d : Nat} {ty : TypeId} {pos : String} {af : Array Edge}
theorem Inv'.pool {a : Act} {w : World} {ok : Nat → Prop} {ρ : Env} {F : Nat → List Nat} (hi : Inv' E s a w ok ρ F) {ks : List Nat} (hn : ks.Nodup) (hin : ∀ k ∈ ks, ∃ obj, hget k s.h = some obj ∧ obj.ro = false) :
    (ks.flatMap F).Nodup ∧ ∀ b ∈ ks.flatMap F, ¬ ok b ∧ b < w.heap.size ∧ b ∉ fpsOf F (hdelL ks s.h) ∧ (b < E.w0.heap.size → b ∈ E.lent) := by
  refine ⟨nodup_keys hi.heap.keys hi.heap.nodup hn (fun k hk => ?_), fun b hb => ?_⟩
  · obtain ⟨obj, ho, _⟩ := hin k hk
    have := hget_mem ho; unfold hkeys; exact List.mem_map.2 ⟨_, this, rfl⟩
  · obtain ⟨k, hk, hb⟩ := List.mem_flatMap.1 hb
    obtain ⟨obj, ho, hro⟩ := hin k hk; have hm := hget_mem ho; have hap := hi.heap.apart b (mem_fpsOf.2 ⟨_, hm, hb⟩); refine ⟨hap.1, hap.2, fun hc => ?_, fun hlt => hi.mine _ hm hro b hb hlt⟩; obtain ⟨p, hp, hb'⟩ := mem_fpsOf.1 hc; have hp' := (hdelL_sub ks s.h).mem hp; refine nodup_apart hi.heap.keys hi.heap.nodup hm hp' (fun e => ?_) b hb hb'; refine hdelL_key ks s.h k hk ?_; unfold hkeys; exact List.mem_map.2 ⟨p, hp, (show p.1 = k from e.symm)⟩
theorem Inv'.touch {a : Act} {w : World} {ok : Nat → Prop} {ρ : Env} {F : Nat → List Nat} (h : Inv' E s a w ok ρ F) {B : Nat} (arr' : Array Value) (h1 : ¬ ok B) (h2 : B ∉ fpsOf F s.h) (h3 : B < E.w0.heap.size → B ∈ E.lent) : Inv' E s a (w.setRow B arr') ok ρ F := by
  have hob : ∀ b, ok b → (w.setRow B arr').heap[b]? = w.heap[b]? := fun b hb => setRow_other w B b arr' (fun e => h1 (e ▸ hb)); refine { defers := h.defers, size := h.size, ext := ?_, okk := fun b hb => ⟨by simpa using (h.okk b hb).1, (h.okk b hb).2⟩, heap := ⟨h.heap.keys, fun q hq => ?_, h.heap.nodup, fun b hb => ⟨(h.heap.apart b hb).1, by simpa using (h.heap.apart b hb).2⟩⟩, mine := h.mine, slots := fun t => (h.slots t).stable hob (fun _ hb => hb) (fun _ _ => rfl), keep := h.keep }
  · refine ⟨h.ext.os, h.ext.tape, h.ext.output, by simpa using h.ext.size, fun k hk hl => ?_, h.ext.drawn⟩
    rw [setRow_other w B k arr' (fun e => hl (e ▸ h3 (e ▸ hk)))]; exact h.ext.block k hk hl
  · refine ObjRep.stable hob (fun _ hb => hb) (fun b hb => setRow_other w B b arr' (fun e => ?_)) rfl (fun _ _ => rfl) (h.heap.objs q hq)
    exact h2 (mem_fpsOf.2 ⟨q, hq, e ▸ hb⟩)
theorem Inv'.remake {a : Act} {w : World} {ok : Nat → Prop} {ρ : Env} {F : Nat → List Nat} (h : Inv' E s a w ok ρ F) {o : Nat} {obj : LObj} {fr : List Nat} (ho : o ∉ hkeys s.h) (hn : fr.Nodup)
    (hb : ∀ b ∈ fr, ¬ ok b ∧ b < w.heap.size ∧ b ∉ fpsOf F s.h ∧ (b < E.w0.heap.size → b ∈ E.lent)) (hobj : ObjRep w ok ρ o obj fr) : Inv' E { s with h := (o, obj) :: s.h } a w ok ρ (upd F o fr) := by
  have hne := not_key ho; have hF : ∀ p ∈ s.h, upd F o fr p.1 = F p.1 := fun p hp => upd_other _ _ (hne p hp)
  have hfps : fpsOf (upd F o fr) ((o, obj) :: s.h) = fr ++ fpsOf F s.h := by
    have e := fpsOf_congr hF; simp only [fpsOf, List.flatMap_cons, upd_same] at e ⊢; rw [e]
  refine { h with heap := ⟨?_, ?_, ?_, ?_⟩, mine := ?_ }
  · simp only [hkeys, List.map_cons, List.nodup_cons]
    exact ⟨ho, h.heap.keys⟩
  · intro p hp
    rcases List.mem_cons.1 hp with rfl | hp
    · simpa using hobj
    · rw [hF p hp]; exact h.heap.objs p hp
  · show (fpsOf (upd F o fr) _).Nodup
    rw [hfps, List.nodup_append]; exact ⟨hn, h.heap.nodup, fun b h1 c h2 e => (hb b h1).2.2.1 (e ▸ h2)⟩
  · intro b hb'
    rw [show ({ s with h := (o, obj) :: s.h } : LState).h = (o, obj) :: s.h from rfl, hfps] at hb'; rcases List.mem_append.1 hb' with h1 | h1
    · exact ⟨(hb b h1).1, (hb b h1).2.1⟩
    · exact h.heap.apart b h1
  · intro p hp hro b hb' hlt
    rcases List.mem_cons.1 hp with rfl | hp
    · rw [upd_same] at hb'; exact (hb b hb').2.2.2 hlt
    · rw [hF p hp] at hb'
      exact h.mine p hp hro b hb' hlt
theorem Inv'.regroup {a : Act} {w : World} {ok : Nat → Prop} {ρ : Env} {F : Nat → List Nat} (hi : Inv' E s a w ok ρ F) {ks : List Nat} (hn : ks.Nodup) (hin : ∀ k ∈ ks, ∃ obj, hget k s.h = some obj ∧ obj.ro = false) {o B : Nat} (ho : o ∈ ks) {obj : LObj} {fr : List Nat} (arr' : Array Value)
    (hB : B ∈ ks.flatMap F) (hfr : fr.Nodup) (hsub : ∀ b ∈ fr, b ∈ ks.flatMap F) (hobj : ObjRep (w.setRow B arr') ok ρ o obj fr) : Inv' E { s with h := (o, obj) :: hdelL ks s.h } a (w.setRow B arr') ok ρ (upd F o fr) := by
  obtain ⟨h1, h2⟩ := hi.pool hn hin; have h3 := h2 B hB
  exact ((hi.sub (hdelL_sub ks s.h)).touch arr' h3.1 h3.2.2.1 h3.2.2.2).remake (hdelL_key ks s.h o ho) hfr (fun b hb => by
    have := h2 b (hsub b hb); exact ⟨this.1, by simpa using this.2.1, this.2.2⟩) hobj
theorem Inv'.regroup0 {a : Act} {w : World} {ok : Nat → Prop} {ρ : Env} {F : Nat → List Nat} (hi : Inv' E s a w ok ρ F) {ks : List Nat} (hn : ks.Nodup) (hin : ∀ k ∈ ks, ∃ obj, hget k s.h = some obj ∧ obj.ro = false) {o : Nat} (ho : o ∈ ks) {obj : LObj} {fr : List Nat}
    (hfr : fr.Nodup) (hsub : ∀ b ∈ fr, b ∈ ks.flatMap F) (hobj : ObjRep w ok ρ o obj fr) : Inv' E { s with h := (o, obj) :: hdelL ks s.h } a w ok ρ (upd F o fr) := by
  obtain ⟨h1, h2⟩ := hi.pool hn hin; exact (hi.sub (hdelL_sub ks s.h)).remake (hdelL_key ks s.h o ho) hfr (fun b hb => h2 b (hsub b hb)) hobj
theorem perm3 {α : Type} (a : α) (x y z : List α) : (a :: (x ++ y ++ z)).Perm ((a :: (x ++ z)) ++ y) := by
  rw [List.cons_append]; refine .cons _ ?_; rw [List.append_assoc, List.append_assoc]; exact (List.Perm.refl x).append List.perm_append_comm
end
end Go.Lift
/- The lifted logic, part 47: lists that own: what is taken out and put back, what is made of lists of one's own. Own work. -/
namespace Go.Lift
open Go.RowKit
theorem DCells.append {w : World} {ρ : Env} {xs ys : List LV} {vs us : List Value} {f g : List Nat} (h : DCells w ρ xs vs f) (k : DCells w ρ ys us g) : DCells w ρ (xs ++ ys) (vs ++ us) (f ++ g) := by
  induction h with
  | nil => exact k
  | deep h h1 _ ih => rw [List.append_assoc]; exact .deep h h1 ih
  | own h h1 h2 _ ih => exact .own h h1 h2 ih
  | own0 _ ih => exact .own0 ih
theorem DCells.cut {w : World} {ρ : Env} {xs : List LV} {vs : List Value} {f : List Nat} (h : DCells w ρ xs vs f) : ∀ n : Nat, ∃ fA fC, f = fA ++ fC ∧ DCells w ρ (xs.take n) (vs.take n) fA ∧ DCells w ρ (xs.drop n) (vs.drop n) fC := by
  induction h with
  | nil => intro n; exact ⟨[], [], rfl, by simpa using DCells.nil, by simpa using DCells.nil⟩
  | @deep x v xs vs f g h h1 h2 ih =>
    intro n; cases n with
    | zero => exact ⟨[], _, rfl, by simpa using DCells.nil, by simpa using DCells.deep h h1 h2⟩
    | succ n =>
      obtain ⟨fA, fC, rfl, hA, hC⟩ := ih n; exact ⟨f ++ fA, fC, by rw [List.append_assoc], by simpa using DCells.deep h h1 hA, by simpa using hC⟩
  | own h h1 h2 h3 ih =>
    intro n; cases n with
    | zero => exact ⟨[], _, rfl, by simpa using DCells.nil, by simpa using DCells.own h h1 h2 h3⟩
    | succ n =>
      obtain ⟨fA, fC, rfl, hA, hC⟩ := ih n; exact ⟨fA, fC, rfl, by simpa using DCells.own h h1 h2 hA, by simpa using hC⟩
  | own0 h3 ih =>
    intro n; cases n with
    | zero => exact ⟨[], _, rfl, by simpa using DCells.nil, by simpa using DCells.own0 h3⟩
    | succ n =>
      obtain ⟨fA, fC, rfl, hA, hC⟩ := ih n; exact ⟨fA, fC, rfl, by simpa using DCells.own0 hA, by simpa using hC⟩
theorem drop_get {α : Type} : ∀ {l : List α} {q : Nat} {x : α}, l[q]? = some x → l.drop q = x :: l.drop (q + 1)
  | [], _, _, h => by simp at h
  | y :: l, 0, x, h => by simp at h; subst h; simp
  | y :: l, q + 1, x, h => by simpa using drop_get (l := l) (by simpa using h)
section
variable {P : Program} {E : Ent} {Q : Exit → LState → Prop} {s : LState} {all : Array Oper} {rest : List Oper} {d : Nat} {ty : TypeId} {pos : String} {af : Array Edge}
theorem settle_at {a : Act} {w : World} {ok : Nat → Prop} {ρ : Env} {F : Nat → List Nat} (hi : Inv' E s a w ok ρ F) (k : Nat) (hkp : E.keep.contains k = false) (hl : Lift.lone k (hdel k s.h) = true) {fr : List Nat} (hn : fr.Nodup)
    (hb : ∀ b ∈ fr, ¬ ok b ∧ b < w.heap.size ∧ b ∉ fpsOf F s.h ∧ (b < E.w0.heap.size → b ∈ E.lent)) (pl : Option Place) (obj : LObj) (ho : ObjRep w ok (upd ρ k pl) k obj fr) :
    Inv' E { tm := kill k s.tm, h := (k, obj) :: hdel k s.h } a w ok (upd ρ k pl) (upd F k fr) := by
  have h' := hi.sub (hdel_sub k s.h); have hne := not_key (hdel_key k s.h); have hF : ∀ p ∈ hdel k s.h, upd F k fr p.1 = F p.1 := fun p hp => upd_other _ _ (hne p hp)
  have hfps : fpsOf (upd F k fr) ((k, obj) :: hdel k s.h) = fr ++ fpsOf F (hdel k s.h) := by
    have e := fpsOf_congr hF; simp only [fpsOf, List.flatMap_cons, upd_same] at e ⊢; rw [e]
  have hdis : ∀ b ∈ fr, b ∉ fpsOf F (hdel k s.h) := fun b hb' hm => (hb b hb').2.2.1 ((fpsOf_sub (hdel_sub k s.h)).mem hm); refine { h' with heap := ⟨?_, ?_, ?_, ?_⟩, mine := ?_, slots := ?_, keep := fun j hj => (upd_other ρ _ (show j ≠ k from fun e => by subst e; simp [hj] at hkp)).trans (hi.keep j hj) }
  · simp only [hkeys, List.map_cons, List.nodup_cons]
    exact ⟨hdel_key k s.h, h'.heap.keys⟩
  · intro p hp
    rcases List.mem_cons.1 hp with rfl | hp
    · simpa using ho
    · rw [hF p hp]
      exact (h'.heap.objs p hp).stable (fun _ _ => rfl) (fun _ hb => hb) (fun _ _ => rfl) (upd_other _ _ (hne p hp)) (fun j hj => upd_other _ _ (fun e => lone_refs hl p hp (e ▸ hj)))
  · show (fpsOf (upd F k fr) _).Nodup
    rw [hfps, List.nodup_append]; exact ⟨hn, h'.heap.nodup, fun b h1 c h2 e => hdis b h1 (e ▸ h2)⟩
  · intro b hb'
    rw [show ({ tm := kill k s.tm, h := (k, obj) :: hdel k s.h } : LState).h = (k, obj) :: hdel k s.h from rfl, hfps] at hb'; rcases List.mem_append.1 hb' with h1 | h1
    · exact ⟨(hb b h1).1, (hb b h1).2.1⟩
    · exact h'.heap.apart b h1
  · intro p hp hro b hb' hlt
    rcases List.mem_cons.1 hp with rfl | hp
    · rw [upd_same] at hb'; exact (hb b hb').2.2.2 hlt
    · rw [hF p hp] at hb'
      exact h'.mine p hp hro b hb' hlt
  · intro t
    show Rep w ok _ (get t (kill k s.tm)) _; refine Rep.stable (w := w) (ρ := ρ) (fun _ _ => rfl) (fun _ hb => hb) (fun o ho => upd_other _ _ (fun e => kill_refs k t s.tm (e ▸ ho))) ?_; rw [get_kill]
    split
    · exact .junk _
    · exact hi.slots t
end
end Go.Lift
/- The lifted logic, part 48: appending to lists that own. Own work. -/
namespace Go.Lift
open Go.RowKit
section
variable {P : Program} {E : Ent} {Q : Exit → LState → Prop} {s : LState} {all : Array Oper} {rest : List Oper} {d : Nat} {ty : TypeId} {pos : String} {af : Array Edge}
theorem Inv'.alloc {a : Act} {w : World} {ok : Nat → Prop} {ρ : Env} {F : Nat → List Nat} (h : Inv' E s a w ok ρ F) (o : Obj) : Inv' E s a (w.alloc o) ok ρ F := by
  have hob : ∀ b, ok b → (w.alloc o).heap[b]? = w.heap[b]? := fun b hb => heap_alloc_lt w _ b (h.okk b hb).1; refine { defers := h.defers, size := h.size, ext := h.ext.alloc _, okk := fun b hb => ⟨by simp; have := (h.okk b hb).1; omega, (h.okk b hb).2⟩, heap := ⟨h.heap.keys, ?_, h.heap.nodup, ?_⟩, mine := h.mine, slots := ?_, keep := h.keep }
  · intro p hp
    exact (h.heap.objs p hp).stable hob (fun _ hb => hb) (fun b hb => heap_alloc_lt w _ b (h.heap.apart b (mem_fpsOf.2 ⟨p, hp, hb⟩)).2) rfl (fun _ _ => rfl)
  · intro b hb
    have := h.heap.apart b hb; exact ⟨this.1, by simp; omega⟩
  · intro t
    exact (h.slots t).stable hob (fun _ hb => hb) (fun _ _ => rfl)
end
end Go.Lift
/- The lifted logic, part 49: lists that own, as mirrors tell them. Own work. -/
namespace Go.Lift
open Go.RowKit
section
variable {P : Program} {E : Ent} {Q : Exit → LState → Prop} {s : LState} {all : Array Oper} {rest : List Oper} {d : Nat} {ty : TypeId} {pos : String} {af : Array Edge}
theorem SinkL.rep {h : LHeap} {cs ds : List LV} (hs : SinkL h cs ds []) : ∀ n : Nat, SinkL h (List.replicate n cs).flatten (List.replicate n ds).flatten []
  | 0 => .nil
  | n + 1 => by
    rw [List.replicate_succ, List.flatten_cons, List.replicate_succ, List.flatten_cons]
    have app : ∀ {a b c e : List LV} {k k' : List Nat}, SinkL h a b k → SinkL h c e k' → SinkL h (a ++ c) (b ++ e) (k ++ k') := by
      intro a
      induction a with
      | nil => intro b c e k k' h1 h2; cases h1; exact h2
      | cons x a ih =>
        intro b c e k k' h1 h2; cases h1 with
        | cons g1 g2 => rw [List.append_assoc]; exact .cons g1 (ih g2 h2)
    exact app hs (SinkL.rep hs n)
end
section
variable {P : Program}
end
end Go.Lift
/- The lifted logic, part 50: calls that take a list that owns, and hand one back. Own work. -/
namespace Go.Lift
open Go.RowKit
section
variable {P : Program} {E : Ent} {Q : Exit → LState → Prop} {s : LState} {all : Array Oper} {rest : List Oper} {d : Nat} {ty : TypeId} {pos : String} {af : Array Edge}
end
end Go.Lift
/- The lifted logic, part 51: structs that own, handed back. Own work. -/
namespace Go.Lift
open Go.RowKit
theorem DeepL.imms {w : World} {ok : Nat → Prop} : ∀ {xs : List LV} {us : List Value} {g : List Nat}, immL xs = true → DeepL w xs us g → g = [] ∧ FroL w ok xs us
  | [], _, _, _, .nil => ⟨rfl, .nil⟩
  | x :: xs, _, _, h1, .cons h3 h4 h5 => by
    cases x <;> simp [immL, LV.noFro.immL] at h1; cases h3; obtain ⟨rfl, h6⟩ := DeepL.imms (ok := ok) h1 h5; exact ⟨rfl, .cons (.imm _) h4 h6⟩
theorem Deep.sl_inv {w : World} {sz : Nat} {zs : List LV} {v : Value} {f : List Nat} (h : Deep w (.sl sz zs) v f) : (zs = [] ∧ f = [] ∧ ∃ a, v = .slice a 0 0) ∨
    ∃ c B vs arr t fps, f = B :: fps ∧ v = .slice (some ⟨B, 0, none⟩) zs.length c ∧ (∀ x ∈ zs, x.cells.length = sz) ∧ DeepL w (zs.flatMap LV.cells) vs fps ∧ w.heap[B]? = some (.cells arr t (0, 0)) ∧ c * sz ≤ arr.size ∧ (∀ (k : Nat) (v : Value), vs[k]? = some v → arr[k]? = some v) ∧ zs.length ≤ c ∧ c ≤ maxLen := by
  cases h with
  | sl0 => exact .inl ⟨rfl, rfl, _, rfl⟩
  | sl h1 h2 h3 h4 h5 h6 h7 => exact .inr ⟨_, _, _, _, _, _, rfl, rfl, h1, h2, h3, h4, h5, h6, h7⟩
section
variable {P : Program} {E : Ent} {Q : Exit → LState → Prop} {s : LState} {all : Array Oper} {rest : List Oper} {d : Nat} {ty : TypeId} {pos : String} {af : Array Edge}
end
end Go.Lift
/- The lifted logic, part 52: calls that hand back a list that owns, and a value. Own work. -/
namespace Go.Lift
open Go.RowKit
section
variable {P : Program} {E : Ent} {Q : Exit → LState → Prop} {s : LState} {all : Array Oper} {rest : List Oper} {d : Nat} {ty : TypeId} {pos : String} {af : Array Edge}
end
end Go.Lift
/- The lifted logic, part 53: structs that own several lists, handed back. Own work. -/
namespace Go.Lift
open Go.RowKit
inductive Outs : List LV → List LV → LHeap → Prop
  | nil : Outs [] [] []
  | imm {v : Value} {xs ys : List LV} {os : LHeap} : Outs xs ys os → Outs (.imm v :: xs) (.imm v :: ys) os
  | sl {k sz n : Nat} {kd : Kind} {zs xs ys : List LV} {os : LHeap} : (kd = .deep ∨ kd = .fro ∧ immL (zs.flatMap LV.cells) = true) → n = zs.length → Outs xs ys os → Outs (.sl sz zs :: xs) (.own k 0 n :: ys) ((k, { kind := kd, sz := sz, elems := zs }) :: os)
def killS : LHeap → Tm → Tm
  | [], t => t
  | (k, _) :: os, t => kill k (killS os t)
def addS : LHeap → LHeap → LHeap
  | [], h => h
  | (k, o) :: os, h => (k, o) :: hdel k (addS os h)
def loneS : LHeap → LHeap → Bool
  | [], _ => true
  | (k, _) :: os, h => lone k (hdel k (addS os h)) && (!(hkeys os).contains k && loneS os h)
theorem Outs.refs {xs ys : List LV} {os : LHeap} (h : Outs xs ys os) : LV.refs.refsL ys = hkeys os := by
  induction h with
  | nil => rfl
  | imm _ ih => simpa [LV.refs.refsL, LV.refs] using ih
  | sl _ _ _ ih => simp [LV.refs.refsL, LV.refs, hkeys] at ih ⊢; exact ih
section
variable {P : Program} {E : Ent} {Q : Exit → LState → Prop} {s : LState} {all : Array Oper} {rest : List Oper} {d : Nat} {ty : TypeId} {pos : String} {af : Array Edge}
theorem Outs.run {a : Act} {w : World} {ok : Nat → Prop} {ρ : Env} {F : Nat → List Nat} (hi : Inv' E s a w ok ρ F) {cs ys : List LV} {os : LHeap} (ho : Outs cs ys os) : ∀ {vs : List Value} {fr : List Nat}, DeepL w cs vs fr → fr.Nodup →
    (∀ b ∈ fr, ¬ ok b ∧ b < w.heap.size ∧ b ∉ fpsOf F s.h ∧ (b < E.w0.heap.size → b ∈ E.lent)) → loneS os s.h = true → (∀ k ∈ hkeys os, E.keep.contains k = false) →
    ∃ ρ' F', Inv' E { tm := killS os s.tm, h := addS os s.h } a w ok ρ' F' ∧ RepL w ok ρ' ys vs ∧ ∀ b ∈ fpsOf F' (addS os s.h), b ∈ fr ∨ b ∈ fpsOf F s.h := by
  induction ho with
  | nil =>
    intro vs fr hD _ _ _ _; cases hD; exact ⟨ρ, F, hi, .nil, fun b hb => .inr hb⟩
  | imm _ ih =>
    intro vs fr hD hn hb hl hk; cases hD with
    | cons h1 h2 h3 =>
      cases h1; obtain ⟨ρ', F', g1, g2, g3⟩ := ih h3 hn hb hl hk; exact ⟨ρ', F', g1, .cons (.fro (.imm _)) h2 g2, g3⟩
  | @sl k sz n kd zs xs ys os hkd hnz hO ih =>
    intro vs fr hD hn hb hl hk; subst hnz; unfold loneS at hl; rw [Bool.and_eq_true, Bool.and_eq_true] at hl; obtain ⟨hl1, hl2, hl3⟩ := hl; cases hD with
    | @cons _ v _ vs' fB g h1 h2 h3 =>
      rw [List.nodup_append] at hn; obtain ⟨n1, n2, n3⟩ := hn; obtain ⟨ρ1, F1, q1, q2, q3⟩ := ih h3 n2 (fun b hb' => hb b (by simp [hb'])) hl3 (fun j hj => hk j (by simp [hkeys] at hj ⊢; exact .inr hj)); have hkk := hk k (by simp [hkeys])
      have hkr : k ∉ LV.refs.refsL ys := by
        rw [hO.refs]; simpa using hl2
      have hbB : ∀ b ∈ fB, ¬ ok b ∧ b < w.heap.size ∧ b ∉ fpsOf F1 (addS os s.h) ∧ (b < E.w0.heap.size → b ∈ E.lent) := fun b hb' => by
        have h := hb b (by simp [hb']); refine ⟨h.1, h.2.1, fun hm => ?_, h.2.2.2⟩; rcases q3 b hm with h4 | h4
        · exact n3 b hb' b h4 rfl
        · exact h.2.2.1 h4
      have fin : ∀ pl : Option Place, ObjRep w ok (upd ρ1 k pl) k { kind := kd, sz := sz, elems := zs } fB → Rep w ok (upd ρ1 k pl) (.own k 0 zs.length) v →
          ∃ ρ' F', Inv' E { tm := killS ((k, { kind := kd, sz := sz, elems := zs }) :: os) s.tm, h := addS ((k, { kind := kd, sz := sz, elems := zs }) :: os) s.h } a w ok ρ' F' ∧ RepL w ok ρ' (.own k 0 zs.length :: ys) (v :: vs') ∧ ∀ b ∈ fpsOf F' (addS ((k, { kind := kd, sz := sz, elems := zs }) :: os) s.h), b ∈ fB ++ g ∨ b ∈ fpsOf F s.h := by
        intro pl p1 p2; have hi2 := settle_at q1 k hkk hl1 n1 hbB pl _ p1; refine ⟨_, _, hi2, .cons p2 h2 (RepL.stable (fun _ _ => rfl) (fun _ hb => hb) (fun o ho => upd_other _ _ (fun e => hkr (e ▸ ho))) q2), fun b hb' => ?_⟩; obtain ⟨q, hq, hb2⟩ := mem_fpsOf.1 hb'; rcases List.mem_cons.1 hq with rfl | hq
        · rw [upd_same] at hb2
          exact .inl (by simp [hb2])
        · rw [upd_other F1 fB (show q.1 ≠ k from not_key (hdel_key k _) q hq)] at hb2
          rcases q3 b (mem_fpsOf.2 ⟨q, (hdel_sub k _).mem hq, hb2⟩) with h4 | h4
          · exact .inl (by simp [h4])
          · exact .inr h4
      rcases h1.sl_inv with ⟨rfl, rfl, A, rfl⟩ | ⟨c, B, us, arr2, t2, fps2, rfl, rfl, m1, m2, m3, m4, m5, m6, m7⟩
      · exact fin none (.inl ⟨by simp, rfl, rfl⟩) .own0
      · refine fin (some ⟨B, c, sz⟩) (.inr ⟨⟨B, c, sz⟩, arr2, t2, us, fps2, by simp, rfl, { sz := rfl, unif := m1, len := m6, cap := m7, blk := m3, room := m4, vals := m5, cells := ?_ }⟩) ?_
        · rcases hkd with rfl | ⟨rfl, himm⟩
          · exact m2
          · exact DeepL.imms himm m2
        · have := Rep.own (w := w) (ok := ok) (ρ := upd ρ1 k (some ⟨B, c, sz⟩)) (o := k) (off := 0) (n := zs.length) (c := c) (p := ⟨B, c, sz⟩) (by simp) (by simp) m6
          simpa using this
end
end Go.Lift
/- The lifted logic, part 54: a list of one's own lent to be read; what comes back may lead to its elements, never to the list. Own work. -/
namespace Go.Lift
open Go.RowKit
section
variable {P : Program} {E : Ent} {Q : Exit → LState → Prop} {s : LState} {all : Array Oper} {rest : List Oper} {d : Nat} {ty : TypeId} {pos : String} {af : Array Edge}
end
end Go.Lift
/- The lifted logic, part 55: regions of open order in which what leads to what is told until an operation. Own work. -/
namespace Go.Lift
open Go.RowKit
section
variable {P : Program} {E : Ent} {Q : Exit → LState → Prop}
def DSEB (P : Program) (E : Ent) (KB : List ((Nat × Nat) × List Nat)) (all : Array Oper) : List Oper → List (List Nat × List Nat × List (Nat × Nat)) → Nat → List SF → List HF → (List SF → List HF → List Rec → Prop) → Prop
  | o :: os, (rd, hk, KS) :: ps, i, acc, ah, k => (rd.all (hasT · acc) && hk.all (hasH · ah)) = true ∧ ∃ ef : Ef, ef.good KS ∧ (∀ p ∈ KB, p.2.contains i = true ∨ ef.good [p.1]) ∧ (∀ u : LState, Good KS u → AllF u.tm (rd.map (look · acc)) → AllH u.h (hk.map (lookH · ah)) → LWo P E all [o] (fun e t => e = .normal ∧ (t = ef.run u ∨ t.le (ef.run u)) ∧ Good KS t) u) ∧
      DSEB P E KB all os ps (i + 1) (ef.accS i acc) (ef.accH i ah) (fun a b r => k a b (⟨ef, rd.map (look · acc), hk.map (lookH · ah)⟩ :: r))
  | [], [], _, acc, ah, k => k acc ah []
  | _, _, _, _, _, _ => False
theorem DSEB.out {KB : List ((Nat × Nat) × List Nat)} {all : Array Oper} : ∀ {os : List Oper} {ps : List (List Nat × List Nat × List (Nat × Nat))} {i : Nat} {acc : List SF} {ah : List HF} {k : List SF → List HF → List Rec → Prop}, DSEB P E KB all os ps i acc ah k →
    ∃ (acc' : List SF) (ah' : List HF) (recs : List Rec), k acc' ah' recs ∧ recs.length = os.length ∧ (∀ (j : Nat) (o : Oper) (r : Rec), os[j]? = some o → recs[j]? = some r → r.ok P E ((ps.map (·.2.2)).getD j []) all o ∧ ∀ p ∈ KB, p.2.contains (i + j) = true ∨ r.ef.good [p.1]) ∧
      (∀ f ∈ acc, f ∈ acc') ∧ (∀ f ∈ ah, f ∈ ah') ∧
      (∀ f ∈ acc', f ∈ acc ∨ ∃ j r, f.est = some (i + j) ∧ recs[j]? = some r ∧ r.ef.dst = some f.t ∧ (∀ s, get f.t (r.ef.run s).tm = f.v) ∧ f.rf = f.v.refs) ∧
      (∀ f ∈ ah', f ∈ ah ∨ ∃ j r, f.est = some (i + j) ∧ recs[j]? = some r ∧ (∀ s, hget f.k (r.ef.run s).h = some f.obj)) ∧
      (∀ r ∈ recs, (∀ f ∈ r.rs, f ∈ acc') ∧ ∀ f ∈ r.rk, f ∈ ah')
  | o :: os, (rd, hk, KS) :: ps, i, acc, ah, k, ⟨hin, ef, hgood, hb, h1, h2⟩ => by
    obtain ⟨acc', ah', recs, hk', hlen, hok, hsub, hsubH, hnew, hnewH, hreq⟩ := DSEB.out h2; simp only [Bool.and_eq_true] at hin
    have hs1 : ∀ f ∈ acc, f ∈ ef.accS i acc := by
      intro f hf; cases ef with
      | put d y => simp [Ef.accS, hf]
      | upd d y k o => cases d <;> simp [Ef.accS, hf]
      | make d y k o => simp [Ef.accS, hf]
    have hs2 : ∀ f ∈ ah, f ∈ ef.accH i ah := by
      intro f hf; cases ef <;> simp [Ef.accH, hf]
    refine ⟨acc', ah', _, hk', by simp [hlen], ?_, fun f hf => hsub f (hs1 f hf), fun f hf => hsubH f (hs2 f hf), ?_, ?_, ?_⟩
    · intro j o' r ho hr
      cases j with
      | zero =>
        simp at ho hr; subst ho; subst hr; refine ⟨⟨hgood, fun u hu hrs hrk => ?_⟩, by simpa using hb⟩; exact h1 u hu (AllF.of hrs) (AllH.of hrk)
      | succ j =>
        simp at ho hr; obtain ⟨g1, g2⟩ := hok j o' r ho hr; exact ⟨by simpa using g1, by rw [show i + (j + 1) = i + 1 + j from by omega]; exact g2⟩
    · intro f hf
      rcases hnew f hf with h | ⟨j, r, he, hr, h⟩
      · cases ef with
        | put d y =>
          rcases List.mem_cons.1 h with rfl | h
          · exact .inr ⟨0, _, by simp, rfl, rfl, fun s => by simp [Ef.run, LState.put, get], rfl⟩
          · exact .inl h
        | upd d y kk obj =>
          cases d with
          | none => exact .inl h
          | some d =>
            rcases List.mem_cons.1 h with rfl | h
            · exact .inr ⟨0, _, by simp, rfl, rfl, fun s => by simp [Ef.run, LState.put, get], rfl⟩
            · exact .inl h
        | make d y kk obj =>
          rcases List.mem_cons.1 h with rfl | h
          · exact .inr ⟨0, _, by simp, rfl, rfl, fun s => by simp [Ef.run, get], rfl⟩
          · exact .inl h
      · exact .inr ⟨j + 1, r, by rw [he]; congr 1; omega, by simpa using hr, h⟩
    · intro f hf
      rcases hnewH f hf with h | ⟨j, r, he, hr, h⟩
      · cases ef with
        | put d y => exact .inl h
        | upd d y kk obj =>
          rcases List.mem_cons.1 h with rfl | h
          · refine .inr ⟨0, _, by simp, rfl, fun s => ?_⟩
            cases d <;> simp [Ef.run, LState.put, hget]
          · exact .inl h
        | make d y kk obj =>
          rcases List.mem_cons.1 h with rfl | h
          · exact .inr ⟨0, _, by simp, rfl, fun s => by simp [Ef.run, hget]⟩
          · exact .inl h
      · exact .inr ⟨j + 1, r, by rw [he]; congr 1; omega, by simpa using hr, h⟩
    · intro r hr
      rcases List.mem_cons.1 hr with rfl | hr
      · refine ⟨fun f hf => ?_, fun f hf => ?_⟩
        · obtain ⟨t, ht, rfl⟩ := List.mem_map.1 hf
          exact hsub _ (hs1 _ (look_mem (List.all_eq_true.1 hin.1 t ht)))
        · obtain ⟨t, ht, rfl⟩ := List.mem_map.1 hf
          exact hsubH _ (hs2 _ (lookH_mem (List.all_eq_true.1 hin.2 t ht)))
      · exact hreq r hr
  | [], [], i, acc, ah, k, h => ⟨acc, ah, [], h, rfl, by simp, by simp, by simp, fun f hf => .inl hf, fun f hf => .inl hf, by simp⟩
end
end Go.Lift
/- The lifted logic, part 56: lists some of whose parts are owned: taken out, put back, stored. Own work. -/
namespace Go.Lift
open Go.RowKit
theorem refs_app : ∀ (a b : List LV), LV.refs.refsL (a ++ b) = LV.refs.refsL a ++ LV.refs.refsL b
  | [], b => rfl
  | x :: a, b => by simp [LV.refs.refsL, refs_app a b]
theorem refs_map {α : Type} {f : α → LV} (h : ∀ a, LV.refs.refsL (f a).cells = []) : ∀ l : List α, LV.refs.refsL ((l.map f).flatMap LV.cells) = []
  | [] => rfl
  | a :: l => by rw [List.map_cons, List.flatMap_cons, refs_app, h a, refs_map h l]; rfl
theorem refs_set {α : Type} {f : α → LV} (h : ∀ a, LV.refs.refsL (f a).cells = []) (l : List α) (i : Nat) (y : LV) : ∀ q ∈ LV.refs.refsL (((l.map f).set i y).flatMap LV.cells), q ∈ LV.refs.refsL y.cells := by
  induction l generalizing i with
  | nil => simp [LV.refs.refsL]
  | cons a l ih =>
    cases i with
    | zero =>
      intro q hq; rw [List.map_cons, List.set_cons_zero, List.flatMap_cons, refs_app, refs_map h, List.append_nil] at hq; exact hq
    | succ i =>
      intro q hq; rw [List.map_cons, List.set_cons_succ, List.flatMap_cons, refs_app, h a, List.nil_append] at hq; exact ih i q hq
def mob {α : Type} (sz : Nat) (f : α → LV) (l : List α) : LObj := { kind := .mix [], sz := sz, elems := l.map f }
def mobS {α : Type} (sz : Nat) (f : α → LV) (l : List α) (i : Nat) (out : List Nat) (y : LV) : LObj := { kind := .mix out, sz := sz, elems := (l.map f).set i y }
theorem MCells.length {w : World} {ok : Nat → Prop} {ρ : Env} {xs : List LV} {vs : List Value} {f : List Nat} (h : MCells w ok ρ xs vs f) : xs.length = vs.length := by
  induction h with
  | nil => rfl
  | cons _ _ _ ih => simp [ih]
theorem MCells.append {w : World} {ok : Nat → Prop} {ρ : Env} {xs ys : List LV} {vs us : List Value} {f g : List Nat} (h : MCells w ok ρ xs vs f) (k : MCells w ok ρ ys us g) : MCells w ok ρ (xs ++ ys) (vs ++ us) (f ++ g) := by
  induction h with
  | nil => exact k
  | cons h h1 _ ih => rw [List.append_assoc]; exact .cons h h1 ih
theorem MCells.cut {w : World} {ok : Nat → Prop} {ρ : Env} {xs : List LV} {vs : List Value} {f : List Nat} (h : MCells w ok ρ xs vs f) : ∀ n : Nat, ∃ fA fC, f = fA ++ fC ∧ MCells w ok ρ (xs.take n) (vs.take n) fA ∧ MCells w ok ρ (xs.drop n) (vs.drop n) fC := by
  induction h with
  | nil => intro n; exact ⟨[], [], rfl, by simpa using MCells.nil, by simpa using MCells.nil⟩
  | @cons x v xs vs f g h h1 h2 ih =>
    intro n; cases n with
    | zero => exact ⟨[], _, rfl, by simpa using MCells.nil, by simpa using MCells.cons h h1 h2⟩
    | succ n =>
      obtain ⟨fA, fC, rfl, hA, hC⟩ := ih n; exact ⟨f ++ fA, fC, by rw [List.append_assoc], by simpa using MCells.cons h h1 hA, by simpa using hC⟩
theorem MCells.put {w : World} {ok : Nat → Prop} {ρ : Env} {xs ys : List LV} {vs us : List Value} {f g : List Nat} (h : MCells w ok ρ xs vs f) (q : Nat) (hy : MCells w ok ρ ys us g) : ∃ fA fB fC, f = fA ++ (fB ++ fC) ∧ MCells w ok ρ (setRange xs q ys) (vs.take q ++ us ++ vs.drop (q + ys.length)) (fA ++ g ++ fC) := by
  obtain ⟨fA, fR, rfl, hA, hR⟩ := h.cut q; obtain ⟨fB, fC, rfl, hB, hC⟩ := hR.cut ys.length; refine ⟨fA, fB, fC, rfl, ?_⟩; rw [List.drop_drop, List.drop_drop] at hC; exact (hA.append hy).append hC
inductive SinkM1 (h : LHeap) : LV → LV → List Nat → Prop
  | imm (v : Value) : SinkM1 h (.imm v) (.imm v) []
  | nilnw {sz : Nat} : SinkM1 h (.imm (.slice none 0 0)) (.nw sz [] false) []
  | fz {x : LV} : x.pure = true → SinkM1 h x (.tup [x]) []
  | own {k n : Nat} {obj : LObj} : hget k h = some obj → obj.ro = false → obj.kind = .fro → n = obj.elems.length → SinkM1 h (.own k 0 n) (.nw obj.sz obj.elems false) [k]
inductive SinkM (h : LHeap) : List LV → List LV → List Nat → Prop
  | nil : SinkM h [] [] []
  | cons {x y : LV} {xs ys : List LV} {ks ks' : List Nat} : SinkM1 h x y ks → SinkM h xs ys ks' → SinkM h (x :: xs) (y :: ys) (ks ++ ks')
theorem SinkM.length {h : LHeap} : ∀ {xs ys : List LV} {ks : List Nat}, SinkM h xs ys ks → xs.length = ys.length
  | _, _, _, .nil => rfl
  | _, _, _, .cons _ h => by simp [h.length]
theorem SinkM1.inh {h : LHeap} {x y : LV} {ks : List Nat} (hs : SinkM1 h x y ks) : ∀ k ∈ ks, ∃ obj, hget k h = some obj ∧ obj.ro = false := by
  cases hs with
  | own ho hro _ _ => intro k hk; simp at hk; subst hk; exact ⟨_, ho, hro⟩
  | _ => simp
theorem SinkM.inh {h : LHeap} : ∀ {xs ys : List LV} {ks : List Nat}, SinkM h xs ys ks → ∀ k ∈ ks, ∃ obj, hget k h = some obj ∧ obj.ro = false
  | _, _, _, .nil, k, hk => by simp at hk
  | _, _, _, .cons h h', k, hk => by
    rcases List.mem_append.1 hk with hk | hk
    · exact h.inh k hk
    · exact h'.inh k hk
section
variable {P : Program} {E : Ent} {Q : Exit → LState → Prop} {s : LState} {all : Array Oper} {rest : List Oper} {d : Nat} {ty : TypeId} {pos : String} {af : Array Edge}
theorem SinkM1.mix {a : Act} {w : World} {ok : Nat → Prop} {ρ : Env} {F : Nat → List Nat} (hi : Inv' E s a w ok ρ F) {x y : LV} {ks : List Nat} (hs : SinkM1 s.h x y ks) {v : Value} (hr : Rep w ok ρ x v) : ∃ g, MCell w ok ρ y v g ∧ g.Sublist (ks.flatMap F) := by
  cases hs with
  | imm u => rw [hr.imm_inv]; exact ⟨[], .imm _, by simp⟩
  | nilnw => rw [hr.imm_inv]; exact ⟨[], .nw0, by simp⟩
  | fz hp => exact ⟨[], .fz (Rep.pure hp hr), by simp⟩
  | @own k n obj ho hro hk hn =>
    rcases hr.own_inv with ⟨p, c, hp, h2, h3, rfl⟩ | ⟨h0, A, rfl⟩
    · rcases hi.heap.objs _ (hget_mem ho) with ⟨h4, _⟩ | ⟨p', arr, t, vs, fps, h4, hF, hobj⟩
      · rw [hp] at h4; cases h4
      · rw [hp] at h4; cases h4
        have hF' : F k = p.blk :: fps := hF; have hsz : p.sz = obj.sz := hobj.sz; have hcells := hobj.cells; rw [show (k, obj).2.kind = obj.kind from rfl, hk] at hcells; have hroom : p.cap * p.sz ≤ arr.size := hobj.room; have hcap : p.cap ≤ maxLen := hobj.cap; refine ⟨[p.blk], ?_, by rw [List.flatMap_cons, hF']; simp⟩; have := MCell.nw (w := w) (ok := ok) (ρ := ρ) (sz := obj.sz) (c := c) (B := p.blk) (ys := obj.elems) hobj.unif hcells.2 hobj.blk (by rw [← hsz]; exact Nat.le_trans (Nat.mul_le_mul_right _ (by omega)) hroom) hobj.vals (by omega) (by omega); rw [← hn] at this; simpa using this
    · rw [h0] at hn
      have : obj.elems = [] := List.eq_nil_of_length_eq_zero hn.symm; rw [this]; exact ⟨[], .nw0, by simp⟩
theorem SinkM.mix {a : Act} {w : World} {ok : Nat → Prop} {ρ : Env} {F : Nat → List Nat} (hi : Inv' E s a w ok ρ F) : ∀ {xs ys : List LV} {ks : List Nat}, SinkM s.h xs ys ks → ∀ {vs : List Value}, RepL w ok ρ xs vs → ∃ g, MCells w ok ρ ys vs g ∧ g.Sublist (ks.flatMap F)
  | _, _, _, .nil, _, .nil => ⟨[], .nil, by simp⟩
  | _, _, _, .cons h h', _, .cons hr h1 hr' => by
    obtain ⟨g1, e1, e2⟩ := h.mix hi hr; obtain ⟨g2, e3, e4⟩ := SinkM.mix hi h' hr'; exact ⟨g1 ++ g2, .cons e1 h1 e3, by rw [List.flatMap_append]; exact e2.append e4⟩
theorem LWo.storeMx {T : TypeId} {x v : Operand} {o i j n : Nat} {out out' : List Nat} {obj : LObj} {y z : LV} {zs : List LV} {ks : List Nat} (y' : LV) (hz : ∀ w, (sizeOf T).run P w = .ok n w) (hx : s.eval x = .ptr o i j) (hv : s.eval v = z) (hc : z.cellable = true) (hzn : z.cells.length = n)
    (hs : SinkM s.h z.cells zs ks) (hks : (o :: ks).Nodup) (ho : hget o s.h = some obj) (hro : obj.ro = false) (hk : obj.kind = .mix out) (hy : obj.elems[i]? = some y) (hj : j + n ≤ y.cells.length) (hy' : y'.cells = setRange y.cells j zs) (hout : ∀ q ∈ LV.refs.refsL ((obj.elems.set i y').flatMap LV.cells), q ∈ out')
    (hn : LWo P E all rest Q { s with h := (o, { obj with kind := .mix out', elems := obj.elems.set i y' }) :: hdelL (o :: ks) s.h }) :
    LWo P E all ({ dst := none, op := .store T x v, type := ty, pos := pos, after := af, guard := none } :: rest) Q s :=
  LWo.value _ rfl (fun a w ok ρ F hi => by
    have hX := hi.eval x; rw [hx] at hX; obtain ⟨p, hp, hxv⟩ := hX.ptr_inv; have hV := hi.eval v; rw [hv] at hV; have hcl := hV.cells' hc; have hlen := hcl.length; have hzl := hs.length; obtain ⟨g, hg1, hg2⟩ := hs.mix hi hcl; rcases hi.heap.objs _ (hget_mem ho) with ⟨h, _⟩ | ⟨p', arr, t, vs, fps, h, hF, hobj⟩
    · rw [hp] at h; cases h
    · rw [hp] at h; cases h
      have hylen : y.cells.length = obj.sz := hobj.unif y (List.mem_of_getElem? hy)
      have hilt : i < obj.elems.length := by
        rcases Nat.lt_or_ge i obj.elems.length with h | h
        · exact h
        · rw [List.getElem?_eq_none h] at hy; cases hy
      have hcl1 := hcl.ones; have hsz : p.sz = obj.sz := hobj.sz; have hlen2 : obj.elems.length ≤ p.cap := hobj.len; have hF' : F o = p.blk :: fps := hF
      have hfit : i * p.sz + j + n ≤ arr.size := by
        have h1 : p.cap * p.sz ≤ arr.size := hobj.room; have h3 : (i + 1) * p.sz ≤ p.cap * p.sz := Nat.mul_le_mul_right _ (by omega); rw [Nat.succ_mul] at h3; omega
      have hst := run_storeCells_at P p.blk (i * p.sz + j) t (a.eval v).cells.toList 0 arr w hobj.blk (by rw [← hlen, hzn]; omega) hcl1; simp only [Nat.add_zero] at hst; have hcells := hobj.cells; rw [show (o, obj).2.kind = obj.kind from rfl, hk] at hcells; have hcells' : MCells w ok ρ (obj.elems.flatMap LV.cells) vs fps := hcells.1; obtain ⟨fA, fB, fC, hfps, hput⟩ := hcells'.put (i * p.sz + j) hg1
      have hpoolin : ∀ k ∈ o :: ks, ∃ obj, hget k s.h = some obj ∧ obj.ro = false := fun k hk => by
        rcases List.mem_cons.1 hk with rfl | hk
        · exact ⟨_, ho, hro⟩
        · exact hs.inh k hk
      obtain ⟨hpn, hpb⟩ := hi.pool hks hpoolin
      have hsubl : ((p.blk :: (fA ++ fC)) ++ g).Sublist ((o :: ks).flatMap F) := by
        rw [List.flatMap_cons, hF', hfps]; refine List.Sublist.append ?_ hg2; exact ((List.Sublist.refl fA).append (List.sublist_append_right fB fC)).cons_cons _
      have hnd : (p.blk :: (fA ++ g ++ fC)).Nodup := (perm3 p.blk fA g fC).nodup_iff.2 (hsubl.nodup hpn); have hmem : ∀ b ∈ p.blk :: (fA ++ g ++ fC), b ∈ (o :: ks).flatMap F := fun b hb => hsubl.mem ((perm3 p.blk fA g fC).mem_iff.1 hb); have hnp : p.blk ∉ fA ++ g ++ fC := (List.nodup_cons.1 hnd).1; have hnok : ¬ ok p.blk := (hi.heap.apart p.blk (mem_fpsOf.2 ⟨_, hget_mem ho, by rw [hF']; simp⟩)).1; refine ⟨.skip, w.setRow p.blk (arr.toList.take (i * p.sz + j) ++ (a.eval v).cells.toList ++ arr.toList.drop (i * p.sz + j + (a.eval v).cells.toList.length)).toArray, ?_, .inr ⟨rfl, ok, ρ, upd F o (p.blk :: (fA ++ g ++ fC)), ?_⟩⟩
      · have : (a.eval v).cells.size = n := by rw [← Array.length_toList, ← hlen, hzn]
        simp [execOp, Instr.storeAt, Instr.sureAddr, hxv, storeVar, hz w, this]; rw [hst]; simp [this]
      · have hvl : (obj.elems.flatMap LV.cells).length ≤ vs.length := Nat.le_of_eq hcells'.length
        have hfl : (obj.elems.flatMap LV.cells).length = obj.elems.length * obj.sz := flat_len obj.elems obj.sz hobj.unif
        have hvfit : i * p.sz + j + n ≤ vs.length := by
          have h3 : (i + 1) * obj.sz ≤ obj.elems.length * obj.sz := Nat.mul_le_mul_right _ (by omega); rw [Nat.succ_mul] at h3; rw [hsz]; omega
        refine hi.regroup hks hpoolin (List.mem_cons_self ..) (obj := { obj with kind := .mix out', elems := obj.elems.set i y' }) _ (hmem _ (List.mem_cons_self ..)) hnd hmem ?_; have hset := flat_set obj.elems obj.sz i j y y' zs hobj.unif hy (by omega) hy'; rw [← hobj.sz] at hset; refine .inr ⟨p, _, t, vs.take (i * p.sz + j) ++ (a.eval v).cells.toList ++ vs.drop (i * p.sz + j + zs.length), _, hp, rfl, { sz := hobj.sz, unif := setRange_unif hobj.unif (by rw [hy', ← hylen]; simp [Lift.setRange]; omega), len := by simpa using hobj.len, cap := hobj.cap, blk := setRow_heap w _ _ _ _ _ hobj.blk, room := by have := hobj.room; simp; omega, vals := ?_, cells := ?_ }⟩
        · intro k u hk
          have e : zs.length = (a.eval v).cells.toList.length := hzl.symm.trans hlen; rw [e] at hk; simp only [List.getElem?_toArray]; rw [List.append_assoc] at hk ⊢; have hl1 : (vs.take (i * p.sz + j)).length = i * p.sz + j := by simp; omega
          have hl2 : (arr.toList.take (i * p.sz + j)).length = i * p.sz + j := by simp; omega
          rcases Nat.lt_or_ge k (i * p.sz + j) with hlt | hge
          · rw [List.getElem?_append_left (by omega)] at hk ⊢
            rw [List.getElem?_take, if_pos hlt] at hk ⊢; simpa using hobj.vals k u hk
          · rw [List.getElem?_append_right (by omega), hl1] at hk
            rw [List.getElem?_append_right (by omega), hl2]; rcases Nat.lt_or_ge (k - (i * p.sz + j)) (a.eval v).cells.toList.length with h1 | h1
            · rw [List.getElem?_append_left h1] at hk ⊢; exact hk
            · rw [List.getElem?_append_right h1, List.getElem?_drop] at hk ⊢
              simpa using hobj.vals _ u hk
        · refine ⟨?_, hout⟩
          show MCells _ _ _ ((obj.elems.set i y').flatMap LV.cells) _ _; rw [hset]; exact MCells.stable hput (fun b hb => setRow_other w p.blk b _ (fun e => hnok (e ▸ hb))) (fun _ h => h) (fun b hb => setRow_other w p.blk b _ (fun e => hnp (e ▸ hb))) (fun _ _ => rfl)) hn
theorem Inv.takeMx {o i j sz2 : Nat} {out : List Nat} {obj : LObj} {y : LV} {xs2 : List LV} (k2 : Nat) (y' : LV) (ho : hget o s.h = some obj) (hro : obj.ro = false) (hk : obj.kind = .mix out) (hat : obj.at? k2 = false) (hy : obj.elems[i]? = some y) (hc : y.cells[j]? = some (.nw sz2 xs2 false)) (hy' : y'.cells = setRange y.cells j [.own k2 0 xs2.length])
    (hne : k2 ≠ o) (hl : lone k2 (hdel k2 (hdel o s.h)) = true) (hkp : E.keep.contains k2 = false) {a : Act} {w : World} (hi : Inv E s a w) :
    Inv E { tm := kill k2 s.tm, h := (o, { obj with kind := .mix (k2 :: out), elems := obj.elems.set i y' }) :: (k2, { kind := .fro, sz := sz2, elems := xs2 }) :: hdel k2 (hdel o s.h) } a w := by
  obtain ⟨ok, ρ, F, hi⟩ := hi; rcases hi.heap.objs _ (hget_mem ho) with ⟨_, h4, _⟩ | ⟨p, arr, t, vs, fps, hp, hF, hobj⟩
  · have h4' : obj.elems = [] := h4
    rw [h4'] at hy; simp at hy
  · have hF' : F o = p.blk :: fps := hF
    have hcells := hobj.cells; rw [show (o, obj).2.kind = obj.kind from rfl, hk] at hcells; have hcells' : MCells w ok ρ (obj.elems.flatMap LV.cells) vs fps := hcells.1
    have hrf : k2 ∉ LV.refs.refsL (obj.elems.flatMap LV.cells) := fun hm => by
      have h1 := hcells.2 k2 hm; unfold LObj.at? at hat; rw [hk] at hat; simp at hat; exact hat h1
    have hq := flat_get obj.elems obj.sz i j y _ hobj.unif hy hc
    have hsplitR : obj.elems.flatMap LV.cells = (obj.elems.flatMap LV.cells).take (i * obj.sz + j) ++ (.nw sz2 xs2 false :: (obj.elems.flatMap LV.cells).drop (i * obj.sz + j + 1)) := by
      rw [← drop_get hq, List.take_append_drop]
    have refsApp : ∀ (a b : List LV), LV.refs.refsL (a ++ b) = LV.refs.refsL a ++ LV.refs.refsL b := by
      intro a b
      induction a with
      | nil => rfl
      | cons x a ih => simp [LV.refs.refsL, ih]
    have hrA : k2 ∉ LV.refs.refsL ((obj.elems.flatMap LV.cells).take (i * obj.sz + j)) := fun h => hrf (by rw [hsplitR, refsApp]; exact List.mem_append_left _ h); have hrC : k2 ∉ LV.refs.refsL ((obj.elems.flatMap LV.cells).drop (i * obj.sz + j + 1)) := fun h => hrf (by rw [hsplitR, refsApp]; exact List.mem_append_right _ (by simp [LV.refs.refsL, h])); obtain ⟨fA, fR, hfps, hA, hR⟩ := hcells'.cut (i * obj.sz + j); rw [drop_get hq] at hR; generalize hvd : vs.drop (i * obj.sz + j) = vd at hR; have hylen : y.cells.length = obj.sz := hobj.unif y (List.mem_of_getElem? hy)
    have hjlt : j < y.cells.length := by
      rcases Nat.lt_or_ge j y.cells.length with h | h
      · exact h
      · rw [List.getElem?_eq_none h] at hc; cases hc
    cases hR with
    | @cons _ v _ vs' fB fC h5 h6 h7 =>
      have hvs : vs = vs.take (i * obj.sz + j) ++ v :: vs' := by rw [← hvd, List.take_append_drop]
      obtain ⟨hpn, hpb⟩ := hi.pool (ks := [o]) (by simp) (by intro k hk; simp at hk; subst hk; exact ⟨_, ho, hro⟩); have e0 : [o].flatMap F = p.blk :: (fA ++ (fB ++ fC)) := by simp [hF', hfps]
      rw [e0] at hpn hpb
      have hsubl : ((p.blk :: (fA ++ fC)) ++ fB).Perm (p.blk :: (fA ++ (fB ++ fC))) := by
        have := (perm3 p.blk fA fB fC).symm
        rwa [List.append_assoc] at this
      have hnd := hsubl.nodup_iff.2 hpn; rw [List.nodup_append] at hnd; obtain ⟨n1, n2, n3⟩ := hnd; have hmB : ∀ b ∈ fB, b ∈ p.blk :: (fA ++ (fB ++ fC)) := fun b hb => hsubl.mem_iff.1 (List.mem_append_right _ hb); have hmA : ∀ b ∈ p.blk :: (fA ++ fC), b ∈ p.blk :: (fA ++ (fB ++ fC)) := fun b hb => hsubl.mem_iff.1 (List.mem_append_left _ hb); have hi1 := hi.sub (hdel_sub o s.h)
      have fin : ∀ pl : Option Place, ObjRep w ok (upd ρ k2 pl) k2 { kind := .fro, sz := sz2, elems := xs2 } fB → MCell w ok (upd ρ k2 pl) (.own k2 0 xs2.length) v [] →
          Inv E { tm := kill k2 s.tm, h := (o, { obj with kind := .mix (k2 :: out), elems := obj.elems.set i y' }) :: (k2, { kind := .fro, sz := sz2, elems := xs2 }) :: hdel k2 (hdel o s.h) } a w := by
        intro pl g1 g2; have hi2 := settle_at hi1 k2 hkp hl n2 (fun b hb => hpb b (hmB b hb)) pl _ g1
        have hok : o ∉ hkeys ((k2, ({ kind := .fro, sz := sz2, elems := xs2 } : LObj)) :: hdel k2 (hdel o s.h)) := by
          simp only [hkeys, List.map_cons, List.mem_cons, not_or]; refine ⟨fun e => hne e.symm, fun hm => hdel_key o s.h ?_⟩; exact ((hdel_sub k2 (hdel o s.h)).map _).mem hm
        have hset := flat_set obj.elems obj.sz i j y y' [.own k2 0 xs2.length] hobj.unif hy (by simp; omega) hy'; have st : ∀ {xs : List LV} {us : List Value} {g : List Nat}, k2 ∉ LV.refs.refsL xs → MCells w ok ρ xs us g → MCells w ok (upd ρ k2 pl) xs us g := fun hnr h => h.stable (fun _ _ => rfl) (fun _ h => h) (fun _ _ => rfl) (fun r hr => upd_other ρ pl (fun e => by subst e; exact hnr hr))
        have hDC : MCells w ok (upd ρ k2 pl) ((obj.elems.set i y').flatMap LV.cells) vs (fA ++ fC) := by
          have h8 := (st hrA hA).append (MCells.cons g2 h6 (st hrC h7)); rw [← hvs] at h8; rw [hset]; unfold setRange; rw [List.append_assoc]; exact h8
        have hi3 := hi2.remake (o := o) (obj := { obj with kind := .mix (k2 :: out), elems := obj.elems.set i y' }) (fr := p.blk :: (fA ++ fC)) hok n1 (fun b hb => by
          have h1 := hpb b (hmA b hb); refine ⟨h1.1, h1.2.1, fun hm => ?_, h1.2.2.2⟩; obtain ⟨q, hq, hb'⟩ := mem_fpsOf.1 hm; rcases List.mem_cons.1 hq with rfl | hq
          · rw [upd_same] at hb'
            exact n3 b hb b hb' rfl
          · rw [upd_other F fB (show q.1 ≠ k2 from not_key (hdel_key k2 _) q hq)] at hb'
            exact h1.2.2.1 (mem_fpsOf.2 ⟨q, (hdel_sub k2 _).mem hq, hb'⟩)) (.inr ⟨p, arr, t, vs, fA ++ fC, (upd_other ρ pl (fun e => hne e.symm)).trans hp, rfl, { sz := hobj.sz, unif := setRange_unif hobj.unif (by rw [hy', ← hylen]; simp [Lift.setRange]; omega), len := by simpa using hobj.len, cap := hobj.cap, blk := hobj.blk, room := hobj.room, vals := hobj.vals, cells := ⟨hDC, ?_⟩ }⟩)
        · exact ⟨_, _, _, hi3⟩
        · intro q hq2
          rw [show ({ obj with kind := .mix (k2 :: out), elems := obj.elems.set i y' } : LObj).elems = obj.elems.set i y' from rfl, hset] at hq2; unfold setRange at hq2; rw [refsApp, refsApp] at hq2; have hold : ∀ q ∈ LV.refs.refsL (obj.elems.flatMap LV.cells), q ∈ k2 :: out := fun q h => List.mem_cons_of_mem _ (hcells.2 q h); rcases List.mem_append.1 hq2 with h | h
          · rcases List.mem_append.1 h with h | h
            · exact hold q (by rw [hsplitR, refsApp]; exact List.mem_append_left _ h)
            · simp [LV.refs.refsL, LV.refs] at h
              rw [h]; simp
          · exact hold q (by rw [hsplitR, refsApp]; exact List.mem_append_right _ (by simpa [LV.refs.refsL, LV.refs] using h))
      cases h5 with
      | nw0 => exact fin none (.inl ⟨by simp, rfl, rfl⟩) .own0
      | @nw _ c B _ us arr2 t2 m1 m2 m3 m4 m5 m6 m7 =>
        refine fin (some ⟨B, c, sz2⟩) (.inr ⟨⟨B, c, sz2⟩, arr2, t2, us, [], by simp, rfl, { sz := rfl, unif := m1, len := m6, cap := m7, blk := m3, room := m4, vals := m5, cells := ⟨rfl, m2⟩ }⟩) ?_; have := MCell.own (w := w) (ok := ok) (ρ := upd ρ k2 (some ⟨B, c, sz2⟩)) (o := k2) (off := 0) (n := xs2.length) (c := c) (p := ⟨B, c, sz2⟩) (by simp) (by simp) m6; simpa using this
theorem Inv.recell {o i j : Nat} {out out' : List Nat} {obj : LObj} {y c z : LV} {ks : List Nat} (y' : LV) (ho : hget o s.h = some obj) (hro : obj.ro = false) (hk : obj.kind = .mix out) (hy : obj.elems[i]? = some y) (hc : y.cells[j]? = some c) (hout : ∀ q ∈ LV.refs.refsL ((obj.elems.set i y').flatMap LV.cells), q ∈ out') (hrf : ∀ (w : World) (ok : Nat → Prop) (ρ : Env) (v : Value) (f : List Nat), MCell w ok ρ c v f → f = [] ∧ Rep w ok ρ c v)
    (hs : SinkM1 s.h c z ks ∨ (z = .junk ∧ ks = [])) (hks : (o :: ks).Nodup) (hy' : y'.cells = setRange y.cells j [z]) {a : Act} {w : World} (hi : Inv E s a w) :
    Inv E { s with h := (o, { obj with kind := .mix out', elems := obj.elems.set i y' }) :: hdelL (o :: ks) s.h } a w := by
  obtain ⟨ok, ρ, F, hi⟩ := hi; rcases hi.heap.objs _ (hget_mem ho) with ⟨_, h4, _⟩ | ⟨p, arr, t, vs, fps, hp, hF, hobj⟩
  · have h4' : obj.elems = [] := h4
    rw [h4'] at hy; simp at hy
  · have hF' : F o = p.blk :: fps := hF
    have hcells := hobj.cells; rw [show (o, obj).2.kind = obj.kind from rfl, hk] at hcells; have hcells' : MCells w ok ρ (obj.elems.flatMap LV.cells) vs fps := hcells.1; have hq := flat_get obj.elems obj.sz i j y _ hobj.unif hy hc; obtain ⟨fA, fR, hfps, hA, hR⟩ := hcells'.cut (i * obj.sz + j); rw [drop_get hq] at hR; generalize hvd : vs.drop (i * obj.sz + j) = vd at hR; have hylen : y.cells.length = obj.sz := hobj.unif y (List.mem_of_getElem? hy)
    have hjlt : j < y.cells.length := by
      rcases Nat.lt_or_ge j y.cells.length with h | h
      · exact h
      · rw [List.getElem?_eq_none h] at hc; cases hc
    have hset := flat_set obj.elems obj.sz i j y y' [z] hobj.unif hy (by simp; omega) hy'; cases hR with
    | @cons _ v _ vs' fB fC h5 h6 h7 =>
      have hvs : vs = vs.take (i * obj.sz + j) ++ v :: vs' := by rw [← hvd, List.take_append_drop]
      obtain ⟨hfB, hrep⟩ := hrf _ _ _ _ _ h5; subst hfB
      obtain ⟨g, hg1, hg2⟩ : ∃ g, MCell w ok ρ z v g ∧ g.Sublist (ks.flatMap F) := by
        rcases hs with hs | ⟨rfl, rfl⟩
        · exact hs.mix hi hrep
        · exact ⟨[], .junk v, by simp⟩
      have hin : ∀ k ∈ o :: ks, ∃ obj, hget k s.h = some obj ∧ obj.ro = false := fun k hk => by
        rcases List.mem_cons.1 hk with rfl | hk
        · exact ⟨_, ho, hro⟩
        · rcases hs with hs | ⟨_, rfl⟩
          · exact hs.inh k hk
          · cases hk
      obtain ⟨hpn, hpb⟩ := hi.pool hks hin
      have hsubl : ((p.blk :: (fA ++ fC)) ++ g).Sublist ((o :: ks).flatMap F) := by
        rw [List.flatMap_cons, hF', hfps]; exact (List.Sublist.refl _).append hg2
      have hnd : (p.blk :: (fA ++ g ++ fC)).Nodup := (perm3 p.blk fA g fC).nodup_iff.2 (hsubl.nodup hpn); have hmem : ∀ b ∈ p.blk :: (fA ++ g ++ fC), b ∈ (o :: ks).flatMap F := fun b hb => hsubl.mem ((perm3 p.blk fA g fC).mem_iff.1 hb); refine ⟨ok, ρ, _, hi.regroup0 hks hin (List.mem_cons_self ..) (fr := p.blk :: (fA ++ g ++ fC)) hnd hmem (.inr ⟨p, arr, t, vs, fA ++ g ++ fC, hp, rfl, { sz := hobj.sz, unif := setRange_unif hobj.unif (by rw [hy', ← hylen]; simp [Lift.setRange]; omega), len := by simpa using hobj.len, cap := hobj.cap, blk := hobj.blk, room := hobj.room, vals := hobj.vals, cells := ?_ }⟩)⟩; refine ⟨?_, hout⟩; show MCells w ok ρ ((obj.elems.set i y').flatMap LV.cells) vs (fA ++ g ++ fC); have h8 := hA.append (MCells.cons hg1 h6 h7); rw [← hvs] at h8; rw [hset]; unfold setRange; rw [List.append_assoc, List.append_assoc]; exact h8
theorem own_cell {k n : Nat} (w : World) (ok : Nat → Prop) (ρ : Env) (v : Value) (f : List Nat) (h : MCell w ok ρ (.own k 0 n) v f) : f = [] ∧ Rep w ok ρ (.own k 0 n) v := by
  cases h with
  | own h h1 h2 => exact ⟨rfl, .own h h1 h2⟩
  | own0 => exact ⟨rfl, .own0⟩
end
end Go.Lift
/- The lifted logic, part 57: lists some of whose parts are owned, as mirrors tell them. Own work. -/
namespace Go.Lift
open Go.RowKit
theorem pure_refs : ∀ {x : LV}, x.pure = true → x.refs = []
  | .imm _, _ => rfl
  | .sl _ _, _ => rfl
  | .agg cs, h => by simpa [LV.refs] using pureL_refs (cs := cs) (by simpa [LV.pure] using h)
  | .clo _ cs, h => by simpa [LV.refs] using pureL_refs (cs := cs) (by simpa [LV.pure] using h)
  | .junk, h => by simp [LV.pure] at h
  | .tup _, h => by simp [LV.pure] at h
  | .fp _, h => by simp [LV.pure] at h
  | .ptr .., h => by simp [LV.pure] at h
  | .own .., h => by simp [LV.pure] at h
  | .ownc .., h => by simp [LV.pure] at h
  | .nw .., h => by simp [LV.pure] at h
  | .nb _, h => by simp [LV.pure] at h
  | .dv _, h => by simp [LV.pure] at h
  | .mx .., h => by simp [LV.pure] at h
where
  pureL_refs : ∀ {cs : List LV}, LV.pure.pureL cs = true → LV.refs.refsL cs = []
  | [], _ => rfl
  | x :: cs, h => by
    simp [LV.pure.pureL] at h; rw [LV.refs.refsL, pure_refs h.1, pureL_refs h.2]; rfl
theorem SinkM.norefs {h : LHeap} {xs ys : List LV} {ks : List Nat} (hs : SinkM h xs ys ks) : LV.refs.refsL ys = [] := by
  induction hs with
  | nil => rfl
  | cons h1 _ ih =>
    rw [LV.refs.refsL, ih, List.append_nil]; cases h1 with
    | imm v => rfl
    | nilnw => rfl
    | fz hp => simp [LV.refs, LV.refs.refsL, pure_refs hp]
    | own => rfl
inductive UnM1 : LV → LV → Prop
  | imm (v : Value) : UnM1 (.imm v) (.imm v)
  | fz (x : LV) : UnM1 (.tup [x]) x
  | nw (sz : Nat) (xs : List LV) : UnM1 (.nw sz xs false) (.sl sz xs)
inductive UnML : List LV → List LV → Prop
  | nil : UnML [] []
  | cons {x y : LV} {xs ys : List LV} : UnM1 x y → UnML xs ys → UnML (x :: xs) (y :: ys)
theorem UnML.append {a b c d : List LV} (h : UnML a b) (k : UnML c d) : UnML (a ++ c) (b ++ d) := by
  induction h with
  | nil => exact k
  | cons h _ ih => exact .cons h ih
theorem UnML.length {a b : List LV} (h : UnML a b) : a.length = b.length := by
  induction h with
  | nil => rfl
  | cons _ _ ih => simp [ih]
theorem UnML.map {α : Type} {f e : α → LV} (h : ∀ a, UnML (f a).cells (e a).cells) : ∀ l : List α, UnML ((l.map f).flatMap LV.cells) ((l.map e).flatMap LV.cells)
  | [] => .nil
  | a :: l => by
    rw [List.map_cons, List.flatMap_cons, List.map_cons, List.flatMap_cons]; exact (h a).append (UnML.map h l)
theorem UnML.fro {w : World} {ok ok' : Nat → Prop} {ρ : Env} (hok : ∀ b, ok b → ok' b) {xs : List LV} {vs : List Value} {fps : List Nat} (h : MCells w ok ρ xs vs fps) : ∀ {ys : List LV}, UnML xs ys → (∀ b ∈ fps, ok' b) → FroL w ok' ys vs := by
  induction h with
  | nil => intro ys hu _; cases hu; exact .nil
  | cons h h1 _ ih =>
    intro ys hu hf; cases hu with
    | cons h2 h3 =>
      refine .cons ?_ h1 (ih h3 (fun b hb => hf b (by simp [hb]))); cases h2 with
      | imm v => cases h; exact .imm _
      | fz x => cases h with | fz h => exact h.stable (fun _ _ => rfl) hok
      | nw sz zs =>
        cases h with
        | nw0 => exact .sl0 (Nat.zero_le _)
        | nw m1 m2 m3 m4 m5 m6 m7 =>
          rcases zs with _ | ⟨z, zs⟩
          · exact .sl0 m7
          · exact .sl (by simp) m1 (m2.stable (fun _ _ => rfl) hok) (cells_of m3 m5) (hf _ (by simp)) m6 m7
inductive MarkD1 : LV → LV → Prop
  | imm (v : Value) : MarkD1 (.imm v) (.imm v)
  | fz (sz : Nat) (xs : List LV) : MarkD1 (.sl sz xs) (.tup [.sl sz xs])
  | nw (sz : Nat) (xs : List LV) : MarkD1 (.sl sz xs) (.nw sz xs false)
inductive MarkDL : List LV → List LV → Prop
  | nil : MarkDL [] []
  | cons {x y : LV} {xs ys : List LV} : MarkD1 x y → MarkDL xs ys → MarkDL (x :: xs) (y :: ys)
theorem MarkDL.append {a b c d : List LV} (h : MarkDL a b) (k : MarkDL c d) : MarkDL (a ++ c) (b ++ d) := by
  induction h with
  | nil => exact k
  | cons h _ ih => exact .cons h ih
theorem MarkDL.length {a b : List LV} (h : MarkDL a b) : a.length = b.length := by
  induction h with
  | nil => rfl
  | cons _ _ ih => simp [ih]
theorem MarkDL.refs {a b : List LV} (h : MarkDL a b) : LV.refs.refsL b = [] := by
  induction h with
  | nil => rfl
  | cons h _ ih =>
    rw [LV.refs.refsL, ih, List.append_nil]; cases h <;> rfl
theorem MarkDL.map {α : Type} {f e : α → LV} (h : ∀ a, MarkDL (e a).cells (f a).cells) : ∀ l : List α, MarkDL ((l.map e).flatMap LV.cells) ((l.map f).flatMap LV.cells)
  | [] => .nil
  | a :: l => by
    rw [List.map_cons, List.flatMap_cons, List.map_cons, List.flatMap_cons]; exact (h a).append (MarkDL.map h l)
theorem MarkDL.cells {w : World} {ρ : Env} : ∀ {xs : List LV} {vs : List Value} {fps : List Nat}, DeepL w xs vs fps → fps.Nodup → ∀ {ys : List LV}, MarkDL xs ys → ∃ g : List Nat, g.Sublist fps ∧ ∀ ok : Nat → Prop, (∀ b ∈ fps, b ∉ g → ok b) → MCells w ok ρ ys vs g
  | _, _, _, .nil, _, _, .nil => ⟨[], by simp, fun _ _ => .nil⟩
  | _, _, _, .cons (v := v) (f := f) (g := g) h h1 h2, hn, _, .cons (y := y) k k2 => by
    rw [List.nodup_append] at hn; obtain ⟨n1, n2, n3⟩ := hn; obtain ⟨g2, s2, c2⟩ := MarkDL.cells (ρ := ρ) h2 n2 k2
    have one : ∃ g1 : List Nat, g1.Sublist f ∧ ∀ ok : Nat → Prop, (∀ b ∈ f, b ∉ g1 → ok b) → MCell w ok ρ y v g1 := by
      cases k with
      | imm v => cases h; exact ⟨[], by simp, fun _ _ => .imm v⟩
      | fz sz xs => exact ⟨[], by simp, fun ok hok => .fz (h.fro (fun b hb => hok b hb (by simp)))⟩
      | nw sz xs =>
        cases h with
        | sl0 => exact ⟨[], by simp, fun _ _ => .nw0⟩
        | @sl _ c B _ us arr t fps1 m1 m2 m3 m4 m5 m6 m7 =>
          refine ⟨[B], by simp, fun ok hok => .nw m1 (m2.fro (fun b hb => hok b (by simp [hb]) ?_)) m3 m4 m5 m6 m7⟩; have := (List.nodup_cons.1 n1).1; simp only [List.mem_singleton]; intro e; exact this (e ▸ hb)
    obtain ⟨g1, s1, c1⟩ := one; refine ⟨g1 ++ g2, s1.append s2, fun ok hok => .cons (c1 ok fun b hb hnb => hok b (by simp [hb]) ?_) h1 (c2 ok fun b hb hnb => hok b (by simp [hb]) ?_)⟩
    · rw [List.mem_append, not_or]
      exact ⟨hnb, fun hm => n3 b hb b (s2.mem hm) rfl⟩
    · rw [List.mem_append, not_or]
      exact ⟨fun hm => n3 b (s1.mem hm) b hb rfl, hnb⟩
section
variable {P : Program} {E : Ent} {Q : Exit → LState → Prop} {s : LState} {all : Array Oper} {rest : List Oper} {d : Nat} {ty : TypeId} {pos : String} {af : Array Edge}
theorem Inv'.okMore {a : Act} {w : World} {ok : Nat → Prop} {ρ : Env} {F : Nat → List Nat} (h : Inv' E s a w ok ρ F) (S : Nat → Prop) (hS : ∀ b, S b → b < w.heap.size ∧ b ∉ fpsOf F s.h ∧ (b < E.w0.heap.size → b ∈ E.lent)) : Inv' E s a w (fun b => ok b ∨ S b) ρ F := by
  refine { h with okk := ?_, heap := ⟨h.heap.keys, fun p hp => (h.heap.objs p hp).stable (fun _ _ => rfl) (fun _ hb => .inl hb) (fun _ _ => rfl) rfl (fun _ _ => rfl), h.heap.nodup, fun b hb => ⟨?_, (h.heap.apart b hb).2⟩⟩, slots := fun t => (h.slots t).stable (fun _ _ => rfl) (fun _ hb => .inl hb) (fun _ _ => rfl) }
  · rintro b (hb | hb)
    · exact h.okk b hb
    · exact ⟨(hS b hb).1, fun hlt => .inr ((hS b hb).2.2 hlt)⟩
  · rintro (h1 | h1)
    · exact (h.heap.apart b hb).1 h1
    · exact (hS b h1).2.1 hb
theorem Inv'.retell {a : Act} {w : World} {ok : Nat → Prop} {ρ : Env} {F : Nat → List Nat} (hi : Inv' E s a w ok ρ F) {o : Nat} {obj : LObj} (ho : hget o s.h = some obj) (hro : obj.ro = false) {obj' : LObj} {fr : List Nat} (hsub : fr.Sublist (F o))
    (hobj : ObjRep w (fun b => ok b ∨ (b ∈ F o ∧ b ∉ fr)) ρ o obj' fr) : Inv' E { s with h := (o, obj') :: hdel o s.h } a w (fun b => ok b ∨ (b ∈ F o ∧ b ∉ fr)) ρ (upd F o fr) := by
  obtain ⟨hpn, hpb⟩ := hi.pool (ks := [o]) (by simp) (by intro k hk; simp at hk; subst hk; exact ⟨_, ho, hro⟩); have e0 : [o].flatMap F = F o := by simp
  rw [e0] at hpn hpb; have eh : hdelL [o] s.h = hdel o s.h := rfl; rw [eh] at hpb; have h1 := (hi.sub (hdel_sub o s.h)).okMore (fun b => b ∈ F o ∧ b ∉ fr) (fun b hb => ⟨(hpb b hb.1).2.1, (hpb b hb.1).2.2.1, (hpb b hb.1).2.2.2⟩); refine h1.remake (hdel_key o s.h) (hsub.nodup hpn) (fun b hb => ?_) hobj; have := hpb b (hsub.mem hb); refine ⟨?_, this.2⟩; rintro (h | h)
  · exact this.1 h
  · exact h.2 hb
theorem Inv.melt {α : Type} {o sz : Nat} {f e : α → LV} {l : List α} (ho : hget o s.h = some (mob sz f l)) (hu : ∀ a, UnML (f a).cells (e a).cells) {a : Act} {w : World} (hi : Inv E s a w) : Inv E { s with h := (o, lob sz e l) :: hdel o s.h } a w := by
  obtain ⟨ok, ρ, F, hi⟩ := hi; rcases hi.heap.objs _ (hget_mem ho) with ⟨h3, h4, h5⟩ | ⟨p, arr, t, vs, fps, hp, hF, hobj⟩
  · have h4' : l.map f = [] := h4
    have hl : l = [] := by simpa using h4'
    have hF0 : F o = [] := h5; exact ⟨_, _, _, hi.retell ho rfl (fr := []) (by simp) (.inl ⟨h3, by simp [lob, hl], rfl⟩)⟩
  · have hF' : F o = p.blk :: fps := hF
    have hnd : (p.blk :: fps).Nodup := by
      have := (hi.pool (ks := [o]) (by simp) (by intro k hk; simp at hk; subst hk; exact ⟨_, ho, rfl⟩)).1; simpa [hF'] using this
    have hcells : MCells w ok ρ ((l.map f).flatMap LV.cells) vs fps := hobj.cells.1; refine ⟨_, _, _, hi.retell ho rfl (fr := [p.blk]) (by rw [hF']; simp) (.inr ⟨p, arr, t, vs, [], hp, rfl, { sz := hobj.sz, unif := ?_, len := by have := hobj.len; simpa [lob, mob] using this, cap := hobj.cap, blk := hobj.blk, room := hobj.room, vals := hobj.vals, cells := ⟨rfl, ?_⟩ }⟩)⟩
    · intro x hx
      obtain ⟨b, hb, rfl⟩ := List.mem_map.1 hx; have := hobj.unif (f b) (List.mem_map.2 ⟨b, hb, rfl⟩); rw [(hu b).length] at this; exact this
    · refine UnML.fro (fun _ h => .inl h) hcells (UnML.map hu l) (fun b hb => .inr ⟨by rw [hF']; simp [hb], ?_⟩)
      simp only [List.mem_singleton]; intro e; subst e; exact (List.nodup_cons.1 hnd).1 hb
theorem LWo.melt {α : Type} {ops : List Oper} {sz : Nat} {f e : α → LV} {l : List α} (o : Nat) (ho : hget o s.h = some (mob sz f l)) (hu : ∀ a, UnML (f a).cells (e a).cells) (hn : LWo P E all ops Q { s with h := (o, lob sz e l) :: hdel o s.h }) : LWo P E all ops Q s := LWo.ghost (fun _ _ hi => hi.melt ho hu) hn
theorem LWP.melt {α : Type} {c : Code} {sz : Nat} {f e : α → LV} {l : List α} (o : Nat) (ho : hget o s.h = some (mob sz f l)) (hu : ∀ a, UnML (f a).cells (e a).cells) (hn : LWP P E c Q { s with h := (o, lob sz e l) :: hdel o s.h }) : LWP P E c Q s := LWP.ghost (fun _ _ hi => hi.melt ho hu) hn
theorem Inv.takeMM {α β : Type} {o j sz sz2 : Nat} {i : Int} {f : α → LV} {g : β → LV} {l : List α} {y : α} {ys : List β} (k2 : Nat) (yo : LV) (he : at? l i = some y) (ho : hget o s.h = some (mob sz f l)) (hc : (f y).cells[j]? = some (.nw sz2 (ys.map g) false)) (hyo : yo.cells = setRange (f y).cells j [.own k2 0 ys.length])
    (hne : (k2 == o) = false) (hl : lone k2 (hdel k2 (hdel o s.h)) = true) (hkp : E.keep.contains k2 = false) {a : Act} {w : World} (hi : Inv E s a w) : Inv E { tm := kill k2 s.tm, h := (o, mobS sz f l i.toNat [k2] yo) :: (k2, lob sz2 g ys) :: hdel k2 (hdel o s.h) } a w :=
  Inv.takeMx (obj := mob sz f l) (i := i.toNat) k2 yo ho rfl rfl rfl (at_m he) hc (by rw [List.length_map]; exact hyo) (by simpa using hne) hl hkp hi
theorem LWo.takeMM {α β : Type} {ops : List Oper} {j sz sz2 : Nat} {i : Int} {f : α → LV} {g : β → LV} {l : List α} {y : α} {ys : List β} (o k2 : Nat) (yo : LV) (he : at? l i = some y) (ho : hget o s.h = some (mob sz f l)) (hc : (f y).cells[j]? = some (.nw sz2 (ys.map g) false)) (hyo : yo.cells = setRange (f y).cells j [.own k2 0 ys.length])
    (hne : (k2 == o) = false) (hl : lone k2 (hdel k2 (hdel o s.h)) = true) (hkp : E.keep.contains k2 = false := by exact rfl) (hn : LWo P E all ops Q { tm := kill k2 s.tm, h := (o, mobS sz f l i.toNat [k2] yo) :: (k2, lob sz2 g ys) :: hdel k2 (hdel o s.h) }) : LWo P E all ops Q s := LWo.ghost (fun _ _ hi => hi.takeMM k2 yo he ho hc hyo hne hl hkp) hn
theorem LWP.takeMM {α β : Type} {c : Code} {j sz sz2 : Nat} {i : Int} {f : α → LV} {g : β → LV} {l : List α} {y : α} {ys : List β} (o k2 : Nat) (yo : LV) (he : at? l i = some y) (ho : hget o s.h = some (mob sz f l)) (hc : (f y).cells[j]? = some (.nw sz2 (ys.map g) false)) (hyo : yo.cells = setRange (f y).cells j [.own k2 0 ys.length])
    (hne : (k2 == o) = false) (hl : lone k2 (hdel k2 (hdel o s.h)) = true) (hkp : E.keep.contains k2 = false := by exact rfl) (hn : LWP P E c Q { tm := kill k2 s.tm, h := (o, mobS sz f l i.toNat [k2] yo) :: (k2, lob sz2 g ys) :: hdel k2 (hdel o s.h) }) : LWP P E c Q s := LWP.ghost (fun _ _ hi => hi.takeMM k2 yo he ho hc hyo hne hl hkp) hn
theorem set_nx {α : Type} {f : α → LV} {l : List α} {i : Nat} {yo : LV} {nx : α} : ((l.map f).set i yo).set i (f nx) = (l.set i nx).map f := by rw [List.set_set, List.map_set]
theorem at_set {α : Type} {f : α → LV} {l : List α} {i : Int} {y : α} {yo : LV} (he : at? l i = some y) : ((l.map f).set i.toNat yo)[i.toNat]? = some yo := by
  have h1 := at_lt he; have h0 := at_0 he; exact List.getElem?_set_self (by rw [List.length_map]; omega)
theorem LWo.junkMM {α : Type} {ops : List Oper} {j n k2 sz : Nat} {out : List Nat} {i : Int} {f : α → LV} {l : List α} {y : α} {yo : LV} (o : Nat) (yo' : LV) (he : at? l i = some y) (ho : hget o s.h = some (mobS sz f l i.toNat out yo)) (hc : yo.cells[j]? = some (.own k2 0 n)) (hyo : yo'.cells = setRange yo.cells j [.junk]) (hrf : ∀ a, LV.refs.refsL (f a).cells = []) (hro : LV.refs.refsL yo'.cells = [])
    (hn : LWo P E all ops Q { s with h := (o, mobS sz f l i.toNat [] yo') :: hdel o s.h }) : LWo P E all ops Q s := LWo.ghost (fun _ _ hi => by
  have := Inv.recell (obj := mobS sz f l i.toNat out yo) (i := i.toNat) (out' := []) (ks := []) yo' ho rfl rfl (at_set he) hc (fun q hq => by rw [show ((mobS sz f l i.toNat out yo).elems.set i.toNat yo') = (l.map f).set i.toNat yo' from List.set_set ..] at hq; have := refs_set hrf l _ _ q hq; rw [hro] at this; exact this) (fun w ok ρ v fp h => own_cell w ok ρ v fp h) (.inr ⟨rfl, rfl⟩) (by simp) hyo hi
  have e : ({ mobS sz f l i.toNat out yo with kind := .mix [], elems := (mobS sz f l i.toNat out yo).elems.set i.toNat yo' } : LObj) = mobS sz f l i.toNat [] yo' := by
    simp only [mobS, List.set_set]
  rw [e] at this; exact this) hn
theorem LWo.indexMx {α : Type} {T e : TypeId} {sz o n : Nat} {f : α → LV} {l : List α} {y : α} {x ix : Operand} {k : IntKind} {i : Int} (he : at? l i = some y) (hnl : n = l.length) (hu : P.underlying T = some (.slice e)) (hz : ∀ w, (sizeOf e).run P w = .ok sz w)
    (hx : s.eval x = .own o 0 n) (hi : s.eval ix = .imm (.int k i)) (ho : hget o s.h = some (mob sz f l)) (hd : Nat.blt d E.n = true := by exact rfl) (hn : LWo P E all rest Q (s.put (some d) (.ptr o i.toNat 0))) :
    LWo P E all ({ dst := some d, op := .indexAddr T x ix, type := ty, pos := pos, after := af, guard := none } :: rest) Q s :=
  LWo.indexOwn hu hz hx hi ho rfl (at_0 he) (by rw [hnl]; exact at_lt he) hd (by rw [Nat.zero_add]; exact hn)
theorem LWo.indexMs {α : Type} {T e : TypeId} {sz o n i0 : Nat} {out : List Nat} {f : α → LV} {l : List α} {y : α} {yo : LV} {x ix : Operand} {k : IntKind} {i : Int} (he : at? l i = some y) (hnl : n = l.length) (hu : P.underlying T = some (.slice e)) (hz : ∀ w, (sizeOf e).run P w = .ok sz w)
    (hx : s.eval x = .own o 0 n) (hi : s.eval ix = .imm (.int k i)) (ho : hget o s.h = some (mobS sz f l i0 out yo)) (hd : Nat.blt d E.n = true := by exact rfl) (hn : LWo P E all rest Q (s.put (some d) (.ptr o i.toNat 0))) :
    LWo P E all ({ dst := some d, op := .indexAddr T x ix, type := ty, pos := pos, after := af, guard := none } :: rest) Q s :=
  LWo.indexOwn hu hz hx hi ho rfl (at_0 he) (by rw [hnl]; exact at_lt he) hd (by rw [Nat.zero_add]; exact hn)
theorem LWo.loadMs {α : Type} {T : TypeId} {x : Operand} {o j sz : Nat} {out : List Nat} {i : Int} {f : α → LV} {l : List α} {y : α} {yo : LV} (c : LV) (he : at? l i = some y) (hg : ∀ w, (isAgg T).run P w = .ok false w) (hx : s.eval x = .ptr o i.toNat j) (ho : hget o s.h = some (mobS sz f l i.toNat out yo)) (hc : yo.cells[j]? = some c) (hl : (mobS sz f l i.toNat out yo).lets c = true) (hd : Nat.blt d E.n = true := by exact rfl)
    (hn : LWo P E all rest Q (s.put (some d) c)) :
    LWo P E all ({ dst := some d, op := .load T x, type := ty, pos := pos, after := af, guard := none } :: rest) Q s :=
  LWo.loadPtr1 c hg hx ho (at_set he) hc hl hd hn
theorem LWo.storeMB {α : Type} {T : TypeId} {x v : Operand} {o j n sz : Nat} {out : List Nat} {i : Int} {f : α → LV} {l : List α} {y : α} {yo z : LV} {zs : List LV} {ks : List Nat} (nx : α) (he : at? l i = some y) (hz : ∀ w, (sizeOf T).run P w = .ok n w) (hx : s.eval x = .ptr o i.toNat j) (hv : s.eval v = z) (hc : z.cellable = true) (hzn : z.cells.length = n)
    (hs : SinkM s.h z.cells zs ks) (hks : (o :: ks).Nodup) (ho : hget o s.h = some (mobS sz f l i.toNat out yo)) (hj : Nat.ble (j + n) yo.cells.length = true) (hnx : (f nx).cells = setRange yo.cells j zs) (hrf : ∀ a, LV.refs.refsL (f a).cells = [])
    (hn : LWo P E all rest Q { s with h := (o, mob sz f (l.set i.toNat nx)) :: hdelL (o :: ks) s.h }) :
    LWo P E all ({ dst := none, op := .store T x v, type := ty, pos := pos, after := af, guard := none } :: rest) Q s :=
  LWo.storeMx (obj := mobS sz f l i.toNat out yo) (out' := []) (f nx) hz hx hv hc hzn hs hks ho rfl rfl (at_set he) (Nat.le_of_ble_eq_true hj) hnx (fun q hq => by rw [show ((mobS sz f l i.toNat out yo).elems.set i.toNat (f nx)) = (l.set i.toNat nx).map f from set_nx, refs_map hrf] at hq; exact hq) (by
    have e : ({ mobS sz f l i.toNat out yo with kind := .mix [], elems := (mobS sz f l i.toNat out yo).elems.set i.toNat (f nx) } : LObj) = mob sz f (l.set i.toNat nx) := by
      simp only [mobS, mob, set_nx]
    rw [e]; exact hn)
theorem Inv.gatherM {o : Nat} {obj : LObj} {ys : List LV} {ks : List Nat} (ho : hget o s.h = some obj) (hro : obj.ro = false) (hk : obj.kind = .fro ∨ obj.kind = .box) (hs : SinkM s.h (obj.elems.flatMap LV.cells) (ys.flatMap LV.cells) ks) (hks : (o :: ks).Nodup) (hyl : ys.length ≤ obj.elems.length) (hyu : ∀ x ∈ ys, x.cells.length = obj.sz)
    {a : Act} {w : World} (hi : Inv E s a w) : Inv E { s with h := (o, { kind := .mix [], sz := obj.sz, elems := ys }) :: hdelL (o :: ks) s.h } a w := by
  obtain ⟨ok, ρ, F, hi⟩ := hi
  have hin : ∀ k ∈ o :: ks, ∃ obj, hget k s.h = some obj ∧ obj.ro = false := fun k hk => by
    rcases List.mem_cons.1 hk with rfl | hk
    · exact ⟨_, ho, hro⟩
    · exact hs.inh k hk
  obtain ⟨hpn, hpb⟩ := hi.pool hks hin; rcases hi.heap.objs _ (hget_mem ho) with ⟨h3, h4, _⟩ | ⟨p, arr, t, vs, fps, hp, hF, hobj⟩
  · have h4' : obj.elems = [] := h4
    rw [h4'] at hyl; have : ys = [] := List.eq_nil_of_length_eq_zero (by simpa using hyl); subst this; exact ⟨ok, ρ, _, hi.regroup0 hks hin (List.mem_cons_self ..) (fr := []) (by simp) (by simp) (.inl ⟨h3, rfl, rfl⟩)⟩
  · have hF' : F o = p.blk :: fps := hF
    have hcells := hobj.cells
    have hrep : fps = [] ∧ RepL w ok ρ (obj.elems.flatMap LV.cells) vs := by
      rcases hk with e | e
      · rw [show (o, obj).2.kind = obj.kind from rfl, e] at hcells
        exact ⟨hcells.1, hcells.2.rep⟩
      · rw [show (o, obj).2.kind = obj.kind from rfl, e] at hcells
        exact hcells
    obtain ⟨hf0, hrep⟩ := hrep; obtain ⟨g, hg1, hg2⟩ := hs.mix hi hrep
    have hsubl : (p.blk :: g).Sublist ((o :: ks).flatMap F) := by
      rw [List.flatMap_cons, hF', hf0]; exact hg2.cons_cons _
    exact ⟨ok, ρ, _, hi.regroup0 hks hin (List.mem_cons_self ..) (fr := p.blk :: g) (hsubl.nodup hpn) (fun b hb => hsubl.mem hb) (.inr ⟨p, arr, t, vs, g, hp, rfl, { sz := hobj.sz, unif := hyu, len := Nat.le_trans hyl hobj.len, cap := hobj.cap, blk := hobj.blk, room := hobj.room, vals := hobj.vals, cells := ⟨hg1, fun q hq => by rw [show ({ kind := .mix [], sz := obj.sz, elems := ys } : LObj).elems = ys from rfl, hs.norefs] at hq; exact hq⟩ }⟩)⟩
theorem SinkM.rep {h : LHeap} {xs ys : List LV} (hs : SinkM h xs ys []) : ∀ n : Nat, SinkM h (List.replicate n xs).flatten (List.replicate n ys).flatten []
  | 0 => .nil
  | n + 1 => by
    rw [List.replicate_succ, List.flatten_cons, List.replicate_succ, List.flatten_cons]
    have app : ∀ {a b c d : List LV} {ks ks' : List Nat}, SinkM h a b ks → SinkM h c d ks' → SinkM h (a ++ c) (b ++ d) (ks ++ ks') := by
      intro a b c d ks ks' h1 h2
      induction h1 with
      | nil => exact h2
      | cons h h' ih => rw [List.append_assoc]; exact .cons h ih
    exact app hs (hs.rep n)
theorem LWo.makeMW {α : Type} {T e : TypeId} {z : Value} {zs : List Value} {sz bytes : Nat} {f : α → LV} {y : α} {r : List α} {x c : Operand} {kl kc : IntKind} {m n : Int} (k : Nat) (hr : mk2? m n y = some r) (hu : P.underlying T = some (.slice e))
    (hinfo : (P.info? e).map (fun i => (i.size, i.bytes, i.zero)) = some (sz, bytes, some z)) (hzs : z.cells = zs.toArray) (h1 : zs.all Value.oneCell' = true) (hlen : zs.length = sz) (hs : ∀ h, SinkM h (zs.map LV.imm) (f y).cells []) (hx : s.eval x = .imm (.int kl m)) (hc : s.eval c = .imm (.int kc n)) (hl : lone k (hdel k s.h) = true) (hby : Nat.ble bytes 140 = true) (hkp : E.keep.contains k = false := by exact rfl) (hd : Nat.blt d E.n = true := by exact rfl)
    (hn : LWo P E all rest Q { tm := (d, .own k 0 r.length) :: kill k s.tm, h := (k, mob sz f r) :: hdel k s.h }) :
    LWo P E all ({ dst := some d, op := .makeSlice T x c, type := ty, pos := pos, after := af, guard := none } :: rest) Q s := by
  obtain ⟨hm0, hmn, hn', rfl⟩ := mk2_b hr; refine LWo.makeW (f := fun _ : α => LV.agg (zs.map LV.imm)) (y := y) k hm0 hmn hn' hu hinfo hzs h1 hlen .refl hx hc hl hby hkp hd ?_
  have hfy : (f y).cells.length = sz := by
    rw [← (hs []).length, List.length_map, hlen]
  refine LWo.ghost (fun _ _ hi => Inv.gatherM (o := k) (ys := (List.replicate m.toNat y).map f) (ks := []) (by simp [hget]; rfl) rfl (.inl rfl) ?_ (by simp) (by simp [lob]) ?_ hi) ?_
  · have e1 : ((List.replicate m.toNat y).map fun _ : α => LV.agg (zs.map LV.imm)).flatMap LV.cells = (List.replicate m.toNat (zs.map LV.imm)).flatten := by simp [List.flatMap_def]
    have e2 : ((List.replicate m.toNat y).map f).flatMap LV.cells = (List.replicate m.toNat (f y).cells).flatten := by simp [List.flatMap_def]
    show SinkM _ (((List.replicate m.toNat y).map fun _ : α => LV.agg (zs.map LV.imm)).flatMap LV.cells) _ []; rw [e1, e2]; exact (hs _).rep _
  · intro x hx
    simp at hx; obtain ⟨_, rfl⟩ := hx; exact hfy
  · have e3 : hdelL [k] ((k, lob sz (fun _ : α => LV.agg (zs.map LV.imm)) (List.replicate m.toNat y)) :: hdel k s.h) = hdel k s.h := by
      simp [hdelL, hdel, hdel_idem]
    show LWo P E all rest Q { tm := _, h := (k, { kind := .mix [], sz := sz, elems := (List.replicate m.toNat y).map f }) :: hdelL [k] _ }; rw [e3]; exact hn
end
end Go.Lift
/- The lifted logic, part 58: lists some of whose parts are owned: appended to, handed back. Own work. -/
namespace Go.Lift
open Go.RowKit
theorem MCells.ones {w : World} {ok : Nat → Prop} {ρ : Env} {xs : List LV} {vs : List Value} {f : List Nat} (h : MCells w ok ρ xs vs f) : ∀ u ∈ vs, u.oneCell' = true := by
  induction h with
  | nil => simp
  | cons _ h1 _ ih =>
    intro u hu; rcases List.mem_cons.1 hu with rfl | hu
    · exact h1
    · exact ih u hu
section
variable {P : Program} {E : Ent} {Q : Exit → LState → Prop} {s : LState} {all : Array Oper} {rest : List Oper} {d : Nat} {ty : TypeId} {pos : String} {af : Array Edge}
theorem LWo.mix0 {α : Type} {ops : List Oper} {sz : Nat} (f : α → LV) (k : Nat) (ho : hget k s.h = some { kind := .fro, sz := sz, elems := [] })
    (hn : LWo P E all ops Q { s with h := (k, mob sz f []) :: hdel k s.h }) : LWo P E all ops Q s :=
  LWo.ghost (fun _ _ hi => Inv.gatherM (ys := []) (ks := []) ho rfl (.inl rfl) .nil (by simp) (by simp) (by simp) hi) hn
end
end Go.Lift
/- Short forms of steps: what one may leave out. Own work. -/
namespace Go.Lift
open Go.RowKit
variable {P : Program} {E : Ent} {Q : Exit → LState → Prop} {s : LState} {all : Array Oper} {rest : List Oper} {ty : TypeId} {pos : String} {af : Array Edge}
theorem LWo.gN {op : Op} {j d : Nat} {b nw want : Bool} (t : Nat) (h : b = nw) (hn : LWo P E all rest Q (s.put (some d) (.imm undef)))
    (hb : get t s.tm = .imm (.bool b) := by exact rfl) (hd : (all[j]?).bind (·.dst) = some t := by exact rfl) (hlt : Nat.blt d E.n = true := by exact rfl) (hne : nw = !want := by exact rfl) :
    LWo P E all ({ dst := some d, op := op, type := ty, pos := pos, after := af, guard := some (j, want) } :: rest) Q s :=
  LWo.guardNU hb h rfl hd rfl hlt hne hn
theorem LWo.gU {op : Op} {j d : Nat} {want : Bool} (t : Nat) (hn : LWo P E all rest Q (s.put (some d) (.imm undef)))
    (hb : get t s.tm = .imm undef := by exact rfl) (hd : (all[j]?).bind (·.dst) = some t := by exact rfl) (hlt : Nat.blt d E.n = true := by exact rfl) :
    LWo P E all ({ dst := some d, op := op, type := ty, pos := pos, after := af, guard := some (j, want) } :: rest) Q s :=
  LWo.guardU hb rfl hd rfl hlt hn
theorem LWo.gY {dst : Option Nat} {op : Op} {j : Nat} {b want : Bool} (t : Nat) (h : b = want)
    (hn : LWo P E all ({ dst := dst, op := op, type := ty, pos := pos, after := af, guard := none } :: rest) Q s)
    (hb : get t s.tm = .imm (.bool b) := by exact rfl) (hd : (all[j]?).bind (·.dst) = some t := by exact rfl) :
    LWo P E all ({ dst := dst, op := op, type := ty, pos := pos, after := af, guard := some (j, want) } :: rest) Q s :=
  LWo.guardY hb h rfl hd hn
theorem so {α : Type} {a b : α} (h : some a = some b) : a = b := Option.some.inj h
theorem QG.p {t : Nat} {e : Exit} {r' : LV} (h1 : get t s.tm = r' := by exact rfl) (h2 : LV.pure r' = true := by exact rfl) (he : e = .normal ∨ e = .ret := by exact .inr rfl) : QG P E [.tmp t] (fun r h => r = r' ∧ h = []) e s :=
  QG.mk he (.cons (.tmp (x := r') h1) .nil) (RetOK.one0 (.pure h2) (by decide)) rfl rfl
end Go.Lift
/- The lifted logic, part 60: a list that was cut is given up. Own work. -/
namespace Go.Lift
open Go.RowKit
variable {P : Program} {E : Ent} {Q : Exit → LState → Prop} {s : LState} {all : Array Oper} {rest : List Oper}
end Go.Lift
/- The lifted logic, part 61: a state written out anew inside a region. Own work. -/
namespace Go.Lift
open Go.RowKit
variable {P : Program} {E : Ent} {Q : Exit → LState → Prop} {s : LState} {all : Array Oper} {rest : List Oper}
end Go.Lift
/- Plain lemmas on mirrors: loops over lists, total functions. Own work. -/
namespace Go.Lift
def foldC {α S R : Type} (step : α → S → (S → Option R) → Option R) (J : S → Option R) : List α → S → Option R
  | [], s => J s
  | x :: xs, s => step x s (foldC step J xs)
theorem at_of {α : Type} {l : List α} {k : Nat} {x : α} (h : l[k]? = some x) : at? l (k : Int) = some x := by
  unfold at?; rw [if_pos (by omega)]; simpa using h
theorem lt_of_at {α : Type} {l : List α} {k : Nat} {x : α} (h : l[k]? = some x) : k < l.length := (List.getElem?_eq_some_iff.1 h).1
theorem scanC {α S R : Type} (xs : List α) (L : Nat → Int → S → Option R) (step : α → S → (S → Option R) → Option R) (J : S → Option R)
    (hs : ∀ n (k : Nat) x s, xs[k]? = some x → L (n + 1) (k : Int) s = step x s (fun s' => L n ((k : Int) + 1) s')) (he : ∀ n s, L (n + 1) (xs.length : Int) s = J s)
    (n : Nat) (hn : xs.length < n) (s : S) : L n 0 s = foldC step J xs s := by
  have key : ∀ (ys : List α) (k : Nat) (n : Nat) (s : S), xs.drop k = ys → k ≤ xs.length → ys.length < n → L n (k : Int) s = foldC step J ys s := by
    intro ys
    induction ys with
    | nil =>
      intro k n s hd hk hn
      have : k = xs.length := by
        have := congrArg List.length hd; simp at this; omega
      subst this; obtain ⟨m, rfl⟩ : ∃ m, n = m + 1 := ⟨n - 1, by simp at hn; omega⟩; exact he m s
    | cons y ys ih =>
      intro k n s hd hk hn
      have hlt : k < xs.length := by
        have := congrArg List.length hd; simp at this; omega
      have hy : xs[k]? = some y := by
        have := List.drop_eq_getElem_cons hlt; rw [hd] at this; simp only [List.cons.injEq] at this; rw [List.getElem?_eq_getElem hlt, this.1]
      have hd' : xs.drop (k + 1) = ys := by
        have := List.drop_eq_getElem_cons hlt; rw [hd] at this; simp only [List.cons.injEq] at this; exact this.2.symm
      obtain ⟨m, rfl⟩ : ∃ m, n = m + 1 := ⟨n - 1, by simp at hn; omega⟩; rw [hs m k y s hy]; simp only [foldC]
      congr 1
      funext s'
      have := ih (k + 1) m s' hd' (by omega) (by simp at hn; omega); simpa using this
  have := key xs 0 n s rfl (by omega) hn; simpa using this
theorem foldC_all {α R : Type} {p : α → Bool} {r0 r1 : R} : ∀ {l : List α}, foldC (S := Unit) (fun x s k => bif p x then some r0 else k s) (fun _ => some r1) l () = some (bif l.any p then r0 else r1)
  | [] => rfl
  | x :: l => by
    simp only [foldC, List.any_cons]; cases hp : p x
    · simpa using foldC_all (l := l)
    · simp
theorem scanA {α R : Type} {p : α → Bool} {r0 r1 : R} (xs : List α) (L : Nat → Int → Option R)
    (hs : ∀ n (k : Nat) x, xs[k]? = some x → L (n + 1) (k : Int) = bif p x then some r0 else L n ((k : Int) + 1)) (he : ∀ n, L (n + 1) (xs.length : Int) = some r1)
    (n : Nat) (hn : xs.length < n) : L n 0 = some (bif xs.any p then r0 else r1) := by
  have := scanC xs (fun n k (_ : Unit) => L n k) (fun x s k => bif p x then some r0 else k s) (fun _ => some r1) (fun n k x s hx => hs n k x hx) (fun n s => he n) n hn (); rw [this]; exact foldC_all
def all2 {α β : Type} (q : α → β → Bool) (a : List α) (b : List β) : Bool := (a.zip b).all fun p => q p.1 p.2
theorem scan2 {α β : Type} {q : α → β → Bool} (a : List α) (b : List β) (hl : a.length = b.length) (L : Nat → Int → Option Bool)
    (hs : ∀ n (k : Nat) x y, a[k]? = some x → b[k]? = some y → L (n + 1) (k : Int) = bif q x y then L n ((k : Int) + 1) else some false) (he : ∀ n, L (n + 1) (a.length : Int) = some true)
    (n : Nat) (hn : a.length < n) : L n 0 = some (all2 q a b) := by
  have hz : (a.zip b).length = a.length := by simp [hl]
  have := scanA (p := fun p : α × β => !(q p.1 p.2)) (r0 := false) (r1 := true) (a.zip b) L (by
    intro n k x hx; rw [List.getElem?_zip_eq_some] at hx; rw [hs n k x.1 x.2 hx.1 hx.2]; cases q x.1 x.2 <;> rfl) (by intro n; rw [hz]; exact he n) n (by rw [hz]; exact hn)
  rw [this]; unfold all2
  congr 1
  rw [List.all_eq_not_any_not]; cases (a.zip b).any fun p => !(q p.1 p.2) <;> rfl
theorem all2_eq {α : Type} [DecidableEq α] : ∀ {a b : List α}, a.length = b.length → all2 (fun x y => decide (x = y)) a b = decide (a = b)
  | [], [], _ => rfl
  | x :: a, y :: b, h => by
    have ih := all2_eq (a := a) (b := b) (by simpa using h); unfold all2 at ih ⊢; simp only [List.zip_cons_cons, List.all_cons, ih, List.cons.injEq]; rw [Bool.eq_iff_iff]; simp
theorem scanN {α R : Type} {p : α → Bool} {J : Int → Option R} (xs : List α) (L : Nat → Int → Int → Option R)
    (hs : ∀ n (k : Nat) x (s : Int), xs[k]? = some x → 0 ≤ s → s ≤ k → L (n + 1) (k : Int) s = L n ((k : Int) + 1) (bif p x then s + 1 else s)) (he : ∀ n s, L (n + 1) (xs.length : Int) s = J s)
    (n : Nat) (hn : xs.length < n) : L n 0 0 = J (xs.countP p) := by
  have key : ∀ (ys : List α) (k n : Nat) (s : Int), xs.drop k = ys → k ≤ xs.length → ys.length < n → 0 ≤ s → s ≤ k → L n (k : Int) s = J (s + ys.countP p) := by
    intro ys
    induction ys with
    | nil =>
      intro k n s hd hk hn h0 h1
      have : k = xs.length := by
        have := congrArg List.length hd; simp at this; omega
      subst this; obtain ⟨m, rfl⟩ : ∃ m, n = m + 1 := ⟨n - 1, by simp at hn; omega⟩; rw [he]; simp
    | cons y ys ih =>
      intro k n s hd hk hn h0 h1
      have hlt : k < xs.length := by
        have := congrArg List.length hd; simp at this; omega
      have hc := List.drop_eq_getElem_cons hlt; rw [hd] at hc; simp only [List.cons.injEq] at hc; obtain ⟨m, rfl⟩ : ∃ m, n = m + 1 := ⟨n - 1, by simp at hn; omega⟩; rw [hs m k y s (by rw [List.getElem?_eq_getElem hlt, hc.1]) h0 h1]; have := ih (k + 1) m (bif p y then s + 1 else s) hc.2.symm (by omega) (by simp at hn; omega) (by cases p y <;> simp <;> omega) (by cases p y <;> simp <;> omega); rw [show ((k : Int) + 1) = ((k + 1 : Nat) : Int) by omega, this, List.countP_cons]
      congr 1
      cases p y <;> simp <;> omega
  have := key xs 0 n 0 rfl (by omega) hn (by omega) (by omega); simpa using this
theorem scanF {α S R : Type} {f : S → α → S} {J : S → Option R} (I : Nat → S → Prop) (xs : List α) (L : Nat → Int → S → Option R)
    (hs : ∀ n (k : Nat) x s, xs[k]? = some x → I k s → L (n + 1) (k : Int) s = L n ((k : Int) + 1) (f s x) ∧ I (k + 1) (f s x)) (he : ∀ n s, I xs.length s → L (n + 1) (xs.length : Int) s = J s)
    (n : Nat) (hn : xs.length < n) (s : S) (h0 : I 0 s) : L n 0 s = J (xs.foldl f s) ∧ I xs.length (xs.foldl f s) := by
  have key : ∀ (ys : List α) (k n : Nat) (s : S), xs.drop k = ys → k ≤ xs.length → ys.length < n → I k s → L n (k : Int) s = J (ys.foldl f s) ∧ I xs.length (ys.foldl f s) := by
    intro ys
    induction ys with
    | nil =>
      intro k n s hd hk hn hI
      have : k = xs.length := by
        have := congrArg List.length hd; simp at this; omega
      subst this; obtain ⟨m, rfl⟩ : ∃ m, n = m + 1 := ⟨n - 1, by simp at hn; omega⟩; exact ⟨he m s hI, hI⟩
    | cons y ys ih =>
      intro k n s hd hk hn hI
      have hlt : k < xs.length := by
        have := congrArg List.length hd; simp at this; omega
      have hc := List.drop_eq_getElem_cons hlt; rw [hd] at hc; simp only [List.cons.injEq] at hc; obtain ⟨m, rfl⟩ : ∃ m, n = m + 1 := ⟨n - 1, by simp at hn; omega⟩; obtain ⟨h1, h2⟩ := hs m k y s (by rw [List.getElem?_eq_getElem hlt, hc.1]) hI; rw [h1, show ((k : Int) + 1) = ((k + 1 : Nat) : Int) by omega]; exact ih (k + 1) m (f s y) hc.2.symm (by omega) (by simp at hn; omega) h2
  have := key xs 0 n s rfl (by omega) hn h0; simpa using this
theorem dlt {k : Nat} {n : Nat} (h : k < n) : decide ((k : Int) < (n : Int)) = true := by simp; omega
theorem dnlt {n : Nat} : decide ((n : Int) < (n : Int)) = false := by simp
theorem ck1 {k : Nat} (h : k < 1000000000000) : ckI ((k : Int) + 1) = some ((k : Int) + 1) := ckI_of (by omega) (by omega)
theorem beqF {a b : Int} (h : ¬ a = b) : (a == b) = false := by simp [h]
theorem beqF' {a b : Int} (h : ¬ a = b) : (a != b) = true := by simp [h]
theorem fuel0 {n : Nat} : n < (((n : Int) - 0).toNat + 1) := by omega
def Tot {α : Type} (o : Option α) (Q : α → Prop) : Prop := ∃ x, o = some x ∧ Q x
theorem Tot.ret {α : Type} {x : α} {Q : α → Prop} (h : Q x) : Tot (some x) Q := ⟨x, rfl, h⟩
theorem Tot.bind {α β : Type} {o : Option α} {f : α → Option β} {P : α → Prop} {Q : β → Prop} (h : Tot o P) (k : ∀ x, P x → Tot (f x) Q) : Tot (o.bind f) Q := by
  obtain ⟨x, rfl, hx⟩ := h; exact k x hx
theorem Tot.eq {α β : Type} {o : Option α} {x : α} {f : α → Option β} {Q : β → Prop} (h : o = some x) (k : Tot (f x) Q) : Tot (o.bind f) Q := by subst h; exact k
theorem Tot.bif {α : Type} {b : Bool} {x y : Option α} {Q : α → Prop} (h1 : b = true → Tot x Q) (h0 : b = false → Tot y Q) : Tot (bif b then x else y) Q := by cases b; exact h0 rfl; exact h1 rfl
theorem Tot.lt {α β : Type} {x : α} {f : α → Option β} {Q : β → Prop} (h : Tot (f x) Q) : Tot (lt x f) Q := h
theorem Tot.mono {α : Type} {o : Option α} {P Q : α → Prop} (h : Tot o P) (k : ∀ x, P x → Q x) : Tot o Q := by obtain ⟨x, h1, h2⟩ := h; exact ⟨x, h1, k x h2⟩
theorem Tot.ck {β : Type} {x : Int} {f : Int → Option β} {Q : β → Prop} (h0 : -9223372036854775808 ≤ x) (h1 : x ≤ 9223372036854775807) (k : Tot (f x) Q) : Tot ((ckI x).bind f) Q := Tot.eq (ckI_of h0 h1) k
theorem Tot.app {α β : Type} {l r : List α} {f : List α → Option β} {Q : β → Prop} (h : l.length + r.length ≤ 1000000000000) (k : Tot (f (l ++ r)) Q) : Tot ((app? l r).bind f) Q := Tot.eq (app_of h) k
theorem Tot.at {α β : Type} {l : List α} {i : Int} {f : α → Option β} {Q : β → Prop} (h0 : 0 ≤ i) (h1 : i < l.length) (k : ∀ x ∈ l, Tot (f x) Q) : Tot ((at? l i).bind f) Q :=
  Tot.eq (at_someI h0 (by omega)) (k _ (List.getElem_mem _))
theorem Tot.cut {α β : Type} {l : List α} {lo hi : Int} {f : List α → Option β} {Q : β → Prop} (h : 0 ≤ lo ∧ lo ≤ hi ∧ hi ≤ l.length) (k : Tot (f ((l.take hi.toNat).drop lo.toNat)) Q) : Tot ((cut? l lo hi).bind f) Q :=
  Tot.eq (by unfold cut?; rw [if_pos h]) k
theorem Tot.rem {β : Type} {m n : Int} {f : Int → Option β} {Q : β → Prop} (h : n ≠ 0) (k : Tot (f (m.tmod n)) Q) : Tot ((remI m n).bind f) Q := Tot.eq (by unfold remI; rw [if_neg h]) k
theorem Tot.quo {β : Type} {m n : Int} {f : Int → Option β} {Q : β → Prop} (h : n ≠ 0) (h0 : -9223372036854775808 ≤ m.tdiv n) (h1 : m.tdiv n ≤ 9223372036854775807) (k : Tot (f (m.tdiv n)) Q) : Tot ((quoI m n).bind f) Q := Tot.eq (by unfold quoI; rw [if_neg h, ckI_of h0 h1]) k
theorem Tot.xor {β : Type} {m n : Int} {f : Int → Option β} {Q : β → Prop} (h : 0 ≤ m ∧ m < 4611686018427387904 ∧ 0 ≤ n ∧ n < 4611686018427387904) (k : ∀ z, 0 ≤ z → z < 4611686018427387904 → Tot (f z) Q) : Tot ((xorI m n).bind f) Q :=
  Tot.eq (by unfold xorI; rw [if_pos h]) (k _ (by omega) (by
    have h1 : m.toNat < 2 ^ 62 := by omega
    have h2 : n.toNat < 2 ^ 62 := by omega
    have := Nat.xor_lt_two_pow h1 h2; omega))
theorem Tot.down {R : Type} {Q : R → Prop} {S : Type} (L : Nat → Int → S → Option R) (I : Int → S → Prop)
    (h0 : ∀ n s, I 0 s → Tot (L (n + 1) 0 s) Q) (h : ∀ n t s, 0 < t → I t s → (∀ s', I (t - 1) s' → Tot (L n (t - 1) s') Q) → Tot (L (n + 1) t s) Q) : ∀ (n : Nat) (t : Int) s, 0 ≤ t → t < n → I t s → Tot (L n t s) Q := by
  intro n
  induction n with
  | zero => intro t s h1 h2; omega
  | succ n ih =>
    intro t s h1 h2 hI; rcases Int.lt_or_le 0 t with hp | hp
    · exact h n t s hp hI fun s' hs' => ih (t - 1) s' (by omega) (by omega) hs'
    · have : t = 0 := by omega
      subst this; exact h0 n s hI
theorem Tot.up {R : Type} {Q : R → Prop} {S : Type} (m : Int) (L : Nat → Int → S → Option R) (I : Int → S → Prop)
    (h0 : ∀ n s, I m s → Tot (L (n + 1) m s) Q) (h : ∀ n t s, 0 ≤ t → t < m → I t s → (∀ s', I (t + 1) s' → Tot (L n (t + 1) s') Q) → Tot (L (n + 1) t s) Q) : ∀ (n : Nat) (t : Int) s, 0 ≤ t → t ≤ m → m - t < n → I t s → Tot (L n t s) Q := by
  intro n
  induction n with
  | zero => intro t s h1 h2; omega
  | succ n ih =>
    intro t s h1 h2 h3 hI; rcases Int.lt_or_le t m with hp | hp
    · exact h n t s h1 hp hI fun s' hs' => ih (t + 1) s' (by omega) (by omega) (by omega) hs'
    · have : t = m := by omega
      subst this; exact h0 n s hI
end Go.Lift
/- Plain Lean: putting in order by insertion, from the end; what holds of it. Own work. -/
namespace Go.Lift
def OrdB {α : Type} (gt : α → α → Bool) (l : List α) : Prop := l.Pairwise fun a b => gt a b = false
def idxI {α : Type} (q : α → Bool) : List α → Int
  | [] => -1
  | x :: l => if q x then 0 else if idxI q l < 0 then -1 else idxI q l + 1
theorem idxI_pos {α : Type} {q : α → Bool} {x : α} {l : List α} (h : q x = true) : idxI q (x :: l) = 0 := by unfold idxI; rw [if_pos h]
theorem idxI_neg {α : Type} {q : α → Bool} {x : α} {l : List α} (h : q x = false) : idxI q (x :: l) = if idxI q l < 0 then -1 else idxI q l + 1 := by
  rw [idxI]; rw [if_neg (by simp [h])]
theorem idxI_ge {α : Type} (q : α → Bool) : ∀ l : List α, -1 ≤ idxI q l ∧ idxI q l < l.length ∧ (decide (idxI q l ≥ 0) = l.any q)
  | [] => by simp [idxI]
  | x :: l => by
    obtain ⟨h1, h2, h3⟩ := idxI_ge q l; rw [List.any_cons, ← h3, List.length_cons]; cases hq : q x with
    | true => rw [idxI_pos hq]; simp
    | false =>
      rw [idxI_neg hq]
      by_cases h : idxI q l < 0
      · rw [if_pos h]
        have : ¬ idxI q l ≥ 0 := by omega
        simp [this]; omega
      · rw [if_neg h]
        have h4 : idxI q l ≥ 0 := by omega
        have h5 : idxI q l + 1 ≥ 0 := by omega
        simp only [decide_eq_true h4, decide_eq_true h5, Bool.false_or]; exact ⟨by omega, by omega, trivial⟩
theorem scanI {α R : Type} {q : α → Bool} {g : Int → Option R} (xs : List α) (L : Nat → Int → Option R)
    (hs : ∀ n (k : Nat) x, xs[k]? = some x → L (n + 1) (k : Int) = bif q x then g k else L n ((k : Int) + 1)) (he : ∀ n, L (n + 1) (xs.length : Int) = g (-1))
    (n : Nat) (hn : xs.length < n) : L n 0 = g (idxI q xs) := by
  have key : ∀ (ys : List α) (k n : Nat), xs.drop k = ys → k ≤ xs.length → ys.length < n → L n (k : Int) = g (if idxI q ys < 0 then -1 else idxI q ys + k) := by
    intro ys
    induction ys with
    | nil =>
      intro k n hd hk hn
      have : k = xs.length := by
        have := congrArg List.length hd; simp at this; omega
      subst this; obtain ⟨m, rfl⟩ : ∃ m, n = m + 1 := ⟨n - 1, by simp at hn; omega⟩; rw [he, if_pos (by simp [idxI])]
    | cons y ys ih =>
      intro k n hd hk hn
      have hlt : k < xs.length := by
        have := congrArg List.length hd; simp at this; omega
      have hc := List.drop_eq_getElem_cons hlt; rw [hd] at hc; simp only [List.cons.injEq] at hc; obtain ⟨m, rfl⟩ : ∃ m, n = m + 1 := ⟨n - 1, by simp at hn; omega⟩; rw [hs m k y (by rw [List.getElem?_eq_getElem hlt, hc.1])]; cases hq : q y with
      | true => rw [cond_true, idxI_pos hq, if_neg (by omega)]; congr 1; omega
      | false =>
        rw [cond_false, show ((k : Int) + 1) = ((k + 1 : Nat) : Int) by omega, ih (k + 1) m hc.2.symm (by omega) (by simp at hn; omega), idxI_neg hq]; have := idxI_ge q ys
        by_cases h : idxI q ys < 0
        · rw [if_pos h, if_pos h, if_pos (by omega)]
        · rw [if_neg h, if_neg h, if_neg (by omega)]
          congr 1; omega
  have := key xs 0 n rfl (by omega) hn; rw [show ((0 : Nat) : Int) = 0 from rfl] at this; rw [this]; have := idxI_ge q xs
  split
  · congr 1; omega
  · congr 1; omega
end Go.Lift
namespace Go.Lift
theorem ltE {α β : Type} (x : α) (f : α → β) : lt x f = f x := rfl
theorem neB (a b : Int) : (a != b) = !decide (a = b) := by by_cases h : a = b <;> simp [h, bne]
theorem neN (a b : Nat) : (((a : Nat) : Int) != ((b : Nat) : Int)) = !decide (a = b) := by rw [neB]; congr 1; rw [decide_eq_decide]; omega
end Go.Lift
/- Plain Lean: putting in order by blocks that are merged. Own work. -/
namespace Go.Lift
inductive Chk {α : Type} (gt : α → α → Bool) (bs : Nat) : List α → Prop
  | last {X : List α} : X.length ≤ bs → OrdB gt X → Chk gt bs X
  | cons {X R : List α} : X.length = bs → OrdB gt X → Chk gt bs R → Chk gt bs (X ++ R)
end Go.Lift
/- Plain Lean: loops that look at neighbours, that copy, that leave out. Own work. -/
namespace Go.Lift
theorem scanMF {α β R : Type} {f : α → Option β} {J : List β → Option R} (xs : List α) (L : Nat → Int → List β → Option R)
    (hs : ∀ n (k : Nat) x o, xs[k]? = some x → o.length ≤ k → L (n + 1) (k : Int) o = L n ((k : Int) + 1) (o ++ (f x).toList)) (he : ∀ n o, o.length ≤ xs.length → L (n + 1) (xs.length : Int) o = J o)
    (n : Nat) (hn : xs.length < n) : L n 0 [] = J (xs.filterMap f) := by
  have := (scanF (f := fun o x => o ++ (f x).toList) (J := J) (fun k o => o.length ≤ k) xs L (fun n k x o hx ho => ⟨hs n k x o hx ho, by cases f x <;> simp <;> omega⟩) (fun n o ho => he n o ho) n hn [] (by simp)).1; rw [this]
  congr 1
  have key : ∀ (l : List α) (a : List β), l.foldl (fun o x => o ++ (f x).toList) a = a ++ l.filterMap f := by
    intro l
    induction l with
    | nil => intro a; simp
    | cons x l ih =>
      intro a; rw [List.foldl_cons, ih, List.filterMap_cons]; cases f x <;> simp
  rw [key]; simp
theorem delLoop {α R : Type} {q : α → Bool} {F : Nat → List α → Option R} (L : Nat → Nat → Nat → List α → Option R) (orig : List α)
    (h : ∀ n (w k : Nat) o x, o.length = orig.length → w ≤ k → o[k]? = some x → orig[k]? = some x → L (n + 1) w k o = bif !(q x) then L n (w + 1) (k + 1) (o.set w x) else L n w (k + 1) o)
    (he : ∀ n w o, o.length = orig.length → L (n + 1) w orig.length o = F w o) :
    ∀ (d k w n : Nat) (o : List α), k + d = orig.length → w ≤ k → d < n → o.length = orig.length → (∀ i, k ≤ i → o[i]? = orig[i]?) → ∃ o', o'.length = orig.length ∧ o'.take (w + ((orig.drop k).filter fun x => !q x).length) = o.take w ++ (orig.drop k).filter (fun x => !q x) ∧ L n w k o = F (w + ((orig.drop k).filter fun x => !q x).length) o' := by
  intro d
  induction d with
  | zero =>
    intro k w n o hk hw hn ho hi; obtain ⟨n, rfl⟩ : ∃ q, n = q + 1 := ⟨n - 1, by omega⟩; obtain rfl : k = orig.length := by omega
    refine ⟨o, ho, by simp, ?_⟩; rw [he n w o ho]; simp
  | succ d ih =>
    intro k w n o hk hw hn ho hi; obtain ⟨n, rfl⟩ : ∃ q, n = q + 1 := ⟨n - 1, by omega⟩; have hlt : k < orig.length := by omega
    have hx : orig[k]? = some orig[k] := List.getElem?_eq_getElem hlt; have hox : o[k]? = some orig[k] := by rw [hi k (Nat.le_refl _)]; exact hx
    rw [h n w k o _ ho hw hox hx, List.drop_eq_getElem_cons hlt, List.filter_cons]; cases hq : q orig[k] with
    | true =>
      rw [Bool.not_true, cond_false, if_neg (by simp)]; exact ih (k + 1) w n o (by omega) (by omega) (by omega) ho (fun i h => hi i (by omega))
    | false =>
      rw [Bool.not_false, cond_true, if_pos rfl]; obtain ⟨o', g1, g2, g3⟩ := ih (k + 1) (w + 1) n (o.set w orig[k]) (by omega) (by omega) (by omega) (by simpa using ho) (fun i h => by rw [List.getElem?_set_ne (by omega)]; exact hi i (by omega)); refine ⟨o', g1, ?_, ?_⟩
      · rw [List.length_cons, show w + (((orig.drop (k + 1)).filter fun x => !q x).length + 1) = w + 1 + ((orig.drop (k + 1)).filter fun x => !q x).length by omega, g2]
        have : (o.set w orig[k]).take (w + 1) = o.take w ++ [orig[k]] := by
          rw [List.take_succ_eq_append_getElem (by simp; omega), List.take_set_of_le (Nat.le_refl _)]; simp
        rw [this]; simp
      · rw [g3, List.length_cons, show w + 1 + ((orig.drop (k + 1)).filter fun x => !q x).length = w + (((orig.drop (k + 1)).filter fun x => !q x).length + 1) by omega]
theorem idxI_spec {α : Type} {q : α → Bool} : ∀ (l : List α), (idxI q l = -1 → l.filter (fun x => !q x) = l) ∧ (∀ k : Nat, idxI q l = k → k < l.length ∧ (∀ x ∈ l.take k, q x = false) ∧ ∃ x, l[k]? = some x ∧ q x = true)
  | [] => ⟨fun _ => rfl, fun k h => by unfold idxI at h; omega⟩
  | x :: l => by
    obtain ⟨h1, h2⟩ := idxI_spec (q := q) l; have hg := idxI_ge q l; cases hx : q x with
    | true =>
      rw [idxI_pos hx]; refine ⟨fun h => by omega, fun k hk => ?_⟩; obtain rfl : k = 0 := by omega
      exact ⟨by simp, by simp, x, rfl, hx⟩
    | false =>
      rw [idxI_neg hx]; refine ⟨fun h => ?_, fun k hk => ?_⟩
      · have : idxI q l = -1 := by split at h <;> omega
        rw [List.filter_cons, hx, h1 this]; rfl
      · split at hk
        · omega
        · obtain ⟨j, rfl⟩ : ∃ j, k = j + 1 := ⟨k - 1, by omega⟩
          obtain ⟨a, b, y, c, d⟩ := h2 j (by omega); refine ⟨by simp; omega, ?_, y, by simpa using c, d⟩; intro z hz; rw [List.take_succ_cons] at hz; rcases List.mem_cons.1 hz with rfl | hz
          · exact hx
          · exact b z hz
theorem filter_take {α : Type} {q : α → Bool} {l : List α} {k : Nat} (hk : k < l.length) (h1 : ∀ x ∈ l.take k, q x = false) {x : α} (hx : l[k]? = some x) (hq : q x = true) : l.filter (fun x => !q x) = l.take k ++ (l.drop (k + 1)).filter (fun x => !q x) := by
  conv => lhs; rw [← List.take_append_drop k l, List.drop_eq_getElem_cons hk]
  have e : l[k] = x := by rw [List.getElem?_eq_getElem hk] at hx; exact Option.some.inj hx
  rw [List.filter_append, List.filter_cons, e, hq]; have : (l.take k).filter (fun x => !q x) = l.take k := List.filter_eq_self.2 fun y hy => by simp [h1 y hy]
  rw [this]; simp
end Go.Lift
/- Sizes, conversions and comparisons of arguments: the loops. Own work. -/
namespace Go.Lift
end Go.Lift
