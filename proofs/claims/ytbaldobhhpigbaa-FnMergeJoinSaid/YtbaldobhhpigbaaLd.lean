/- The logic, part four: texts, regions that write, laws over bytes, guards. -/
import Derived.Test.YtbaldobhhpigbaaLc
import Derived.Laws.BytesArg
import Derived.Laws.Cover3
import Derived.OpenShut
import Derived.Laws.MakeOwn
import Derived.Laws.Bits64
import Derived.ChangeArms
import Derived.DataReads
import Derived.WideShapes
import Derived.ChangeShapes
set_option linter.unusedVariables false
set_option linter.unusedSimpArgs false
set_option linter.unnecessarySimpa false
/- The lifted logic, part 31: bytes as a text; literals that are one's own. Own work. -/
namespace Go.Lift
open Go.RowKit
def bStr (l : List UInt8) : ByteArray := ⟨l.toArray⟩
theorem fro_bytes_inv {w : World} {ok : Nat → Prop} : ∀ {l : List UInt8} {vs : List Value}, FroL w ok ((l.map e_uint8).flatMap LV.cells) vs → vs = l.map fun b => Value.int .u8 (b.toNat : Int)
  | [], _, .nil => rfl
  | b :: l, vs, h => by
    have h' : FroL w ok (e_uint8 b :: (l.map e_uint8).flatMap LV.cells) vs := by simpa [e_uint8] using h
    cases h' with
    | cons h1 h2 h3 =>
      cases h1; rw [fro_bytes_inv h3]; rfl
section
variable {P : Program} {E : Ent} {Q : Exit → LState → Prop} {s : LState} {all : Array Oper} {rest : List Oper} {d : Nat} {ty : TypeId} {pos : String} {af : Array Edge}
theorem LWo.strM {src dst e : TypeId} {x : Operand} {l : List UInt8} (hs : P.underlying src = some (.slice e)) (hd' : P.underlying dst = some .string) (he : P.underlying e = some (.int .u8)) (hx : s.eval x = .sl 1 (l.map e_uint8)) (hd : Nat.blt d E.n = true := by exact rfl)
    (hn : LWo P E all rest Q (s.put (some d) (e_string (bStr l)))) :
    LWo P E all ({ dst := some d, op := .convert src dst x, type := ty, pos := pos, after := af, guard := none } :: rest) Q s :=
  LWo.still _ hd (fun a w ok ρ F hi => by
    have h := hi.eval x; rw [hx] at h; refine ⟨.string (bStr l), ?_, .fro (.imm _)⟩
    have hrun : (convert src dst (a.eval x)).run P w = .ok (.string (bStr l)) w := by
      have hf := h.sl_inv; rcases l with _ | ⟨b, l⟩
      · generalize a.eval x = v at hf
        cases hf with
        | sl0 h =>
          rename_i c A; cases A with
          | none => exact run_convert_bytes_nil w src e hs he 0 c dst hd'
          | some A => exact run_convert_bytes_back w src dst e A c [] hs he hd' (by simp)
        | sl h => simp at h
      · generalize hl : b :: l = L at hf ⊢
        have hne : L.map e_uint8 ≠ [] := by rw [← hl]; simp
        generalize a.eval x = v at hf; generalize hM : L.map e_uint8 = M at hf hne; cases hf with
        | sl0 h => exact absurd rfl hne
        | sl h0 h1 h2 h3 h4 h5 h6 =>
          rename_i c vs ad; subst hM; have hv := fro_bytes_inv h2; subst hv; rw [List.length_map]; exact run_convert_bytes_back w src dst e ad c L hs he hd' (fun j hj => h3 j _ (by simp [hj]))
    simp only [execOp]; rw [Sem.run_bind, hrun]; rfl) hn
theorem LWo.pickTM {c x y : Operand} {b : Bool} (z : LV) (hc : s.eval c = .imm (.bool b)) (h : b = true) (hz : s.eval x = z) (hd : Nat.blt d E.n = true := by exact rfl) (hn : LWo P E all rest Q (s.put (some d) z)) :
    LWo P E all ({ dst := some d, op := .pick c x y, type := ty, pos := pos, after := af, guard := none } :: rest) Q s := LWo.pickT hc h hd (by rw [hz]; exact hn)
theorem LWo.pickFM {c x y : Operand} {b : Bool} (z : LV) (hc : s.eval c = .imm (.bool b)) (h : b = false) (hz : s.eval y = z) (hd : Nat.blt d E.n = true := by exact rfl) (hn : LWo P E all rest Q (s.put (some d) z)) :
    LWo P E all ({ dst := some d, op := .pick c x y, type := ty, pos := pos, after := af, guard := none } :: rest) Q s := LWo.pickF hc h hd (by rw [hz]; exact hn)
end
end Go.Lift
/- The lifted logic, part 32: regions of open order whose operations may write. Own work. -/
namespace Go.Lift
open Go.RowKit
def lookH (k : Nat) : List HF → HF
  | [] => ⟨k, { kind := .fro, sz := 0, elems := [] }, none⟩
  | f :: r => if f.k = k then f else lookH k r
def hasH (k : Nat) (l : List HF) : Bool := l.any (·.k == k)
def AllH (h : LHeap) : List HF → Prop
  | [] => True
  | f :: r => hget f.k h = some f.obj ∧ AllH h r
theorem AllH.of {h : LHeap} : ∀ {l : List HF}, (∀ f ∈ l, hget f.k h = some f.obj) → AllH h l
  | [], _ => trivial
  | f :: r, hh => ⟨hh f (by simp), AllH.of fun g hg => hh g (by simp [hg])⟩
theorem lookH_k (k : Nat) : ∀ l, (lookH k l).k = k
  | [] => rfl
  | f :: r => by
    simp only [lookH]
    split
    · assumption
    · exact lookH_k k r
theorem lookH_mem {k : Nat} : ∀ {l}, hasH k l = true → lookH k l ∈ l
  | f :: r, h => by
    simp only [lookH]
    split
    · simp
    · rename_i e
      simp [hasH, e] at h; exact List.mem_cons_of_mem _ (lookH_mem (l := r) (by simpa [hasH] using h))
def Ef.accS (i : Nat) (acc : List SF) : Ef → List SF
  | .put d y => ⟨d, y, some i, y.refs⟩ :: acc
  | .upd (some d) y _ _ => ⟨d, y, some i, y.refs⟩ :: acc
  | .upd none _ _ _ => acc
  | .make d y _ _ => ⟨d, y, some i, y.refs⟩ :: acc
def Ef.accH (i : Nat) (ah : List HF) : Ef → List HF
  | .put _ _ => ah
  | .upd _ _ k obj => ⟨k, obj, some i⟩ :: ah
  | .make _ _ k obj => ⟨k, obj, some i⟩ :: ah
section
variable {P : Program} {E : Ent} {Q : Exit → LState → Prop}
def DSE (P : Program) (E : Ent) (KS : List (Nat × Nat)) (all : Array Oper) : List Oper → List (List Nat × List Nat) → Nat → List SF → List HF → (List SF → List HF → List Rec → Prop) → Prop
  | o :: os, (rd, hk) :: ps, i, acc, ah, k => (rd.all (hasT · acc) && hk.all (hasH · ah)) = true ∧ ∃ ef : Ef, ef.good KS ∧ (∀ u : LState, Good KS u → AllF u.tm (rd.map (look · acc)) → AllH u.h (hk.map (lookH · ah)) → LWo P E all [o] (fun e t => e = .normal ∧ (t = ef.run u ∨ t.le (ef.run u)) ∧ Good KS t) u) ∧
      DSE P E KS all os ps (i + 1) (ef.accS i acc) (ef.accH i ah) (fun a b r => k a b (⟨ef, rd.map (look · acc), hk.map (lookH · ah)⟩ :: r))
  | [], [], _, acc, ah, k => k acc ah []
  | _, _, _, _, _, _ => False
theorem DSE.out {KS : List (Nat × Nat)} {all : Array Oper} : ∀ {os : List Oper} {ps : List (List Nat × List Nat)} {i : Nat} {acc : List SF} {ah : List HF} {k : List SF → List HF → List Rec → Prop}, DSE P E KS all os ps i acc ah k →
    ∃ (acc' : List SF) (ah' : List HF) (recs : List Rec), k acc' ah' recs ∧ recs.length = os.length ∧ (∀ (j : Nat) (o : Oper) (r : Rec), os[j]? = some o → recs[j]? = some r → r.ok P E KS all o) ∧
      (∀ f ∈ acc, f ∈ acc') ∧ (∀ f ∈ ah, f ∈ ah') ∧
      (∀ f ∈ acc', f ∈ acc ∨ ∃ j r, f.est = some (i + j) ∧ recs[j]? = some r ∧ r.ef.dst = some f.t ∧ (∀ s, get f.t (r.ef.run s).tm = f.v) ∧ f.rf = f.v.refs) ∧
      (∀ f ∈ ah', f ∈ ah ∨ ∃ j r, f.est = some (i + j) ∧ recs[j]? = some r ∧ (∀ s, hget f.k (r.ef.run s).h = some f.obj)) ∧
      (∀ r ∈ recs, (∀ f ∈ r.rs, f ∈ acc') ∧ ∀ f ∈ r.rk, f ∈ ah')
  | o :: os, (rd, hk) :: ps, i, acc, ah, k, ⟨hin, ef, hgood, h1, h2⟩ => by
    obtain ⟨acc', ah', recs, hk', hlen, hok, hsub, hsubH, hnew, hnewH, hreq⟩ := DSE.out h2; simp only [Bool.and_eq_true] at hin
    have hs1 : ∀ f ∈ acc, f ∈ ef.accS i acc := by
      intro f hf; cases ef with
      | put d y => simp [Ef.accS, hf]
      | upd d y k o => cases d <;> simp [Ef.accS, hf]
      | make d y k o => simp [Ef.accS, hf]
    have hs2 : ∀ f ∈ ah, f ∈ ef.accH i ah := by
      intro f hf; cases ef <;> simp [Ef.accH, hf]
    refine ⟨acc', ah', _, hk', by simp [hlen], ?_, fun f hf => hsub f (hs1 f hf), fun f hf => hsubH f (hs2 f hf), ?_, ?_, ?_⟩
    · intro j o' r ho hr
      cases j with
      | zero =>
        simp at ho hr; subst ho; subst hr; refine ⟨hgood, fun u hu hrs hrk => ?_⟩; exact h1 u hu (AllF.of hrs) (AllH.of hrk)
      | succ j => simp at ho hr; exact hok j o' r ho hr
    · intro f hf
      rcases hnew f hf with h | ⟨j, r, he, hr, h⟩
      · cases ef with
        | put d y =>
          rcases List.mem_cons.1 h with rfl | h
          · exact .inr ⟨0, _, by simp, rfl, rfl, fun s => by simp [Ef.run, LState.put, get], rfl⟩
          · exact .inl h
        | upd d y kk obj =>
          cases d with
          | none => exact .inl h
          | some d =>
            rcases List.mem_cons.1 h with rfl | h
            · exact .inr ⟨0, _, by simp, rfl, rfl, fun s => by simp [Ef.run, LState.put, get], rfl⟩
            · exact .inl h
        | make d y kk obj =>
          rcases List.mem_cons.1 h with rfl | h
          · exact .inr ⟨0, _, by simp, rfl, rfl, fun s => by simp [Ef.run, get], rfl⟩
          · exact .inl h
      · exact .inr ⟨j + 1, r, by rw [he]; congr 1; omega, by simpa using hr, h⟩
    · intro f hf
      rcases hnewH f hf with h | ⟨j, r, he, hr, h⟩
      · cases ef with
        | put d y => exact .inl h
        | upd d y kk obj =>
          rcases List.mem_cons.1 h with rfl | h
          · refine .inr ⟨0, _, by simp, rfl, fun s => ?_⟩
            cases d <;> simp [Ef.run, LState.put, hget]
          · exact .inl h
        | make d y kk obj =>
          rcases List.mem_cons.1 h with rfl | h
          · exact .inr ⟨0, _, by simp, rfl, fun s => by simp [Ef.run, hget]⟩
          · exact .inl h
      · exact .inr ⟨j + 1, r, by rw [he]; congr 1; omega, by simpa using hr, h⟩
    · intro r hr
      rcases List.mem_cons.1 hr with rfl | hr
      · refine ⟨fun f hf => ?_, fun f hf => ?_⟩
        · obtain ⟨t, ht, rfl⟩ := List.mem_map.1 hf
          exact hsub _ (hs1 _ (look_mem (List.all_eq_true.1 hin.1 t ht)))
        · obtain ⟨t, ht, rfl⟩ := List.mem_map.1 hf
          exact hsubH _ (hs2 _ (lookH_mem (List.all_eq_true.1 hin.2 t ht)))
      · exact hreq r hr
  | [], [], i, acc, ah, k, h => ⟨acc, ah, [], h, rfl, by simp, by simp, by simp, fun f hf => .inl hf, fun f hf => .inl hf, by simp⟩
theorem LWP.drawE {id : Nat} {l : List Oper} {s : LState} (KS : List (Nat × Nat)) (U : List Nat) (plan : List (List Nat × List Nat)) (out outH : List Nat) (hm : P.follows .mixedOrders = true)
    (hedge : (l.zipIdx.all fun (o, i) => (edgesOf o).all fun j => decide (j < i)) = true) (hgood : KS.all (fun p => lone p.1 (hdel p.2 s.h)) = true) (hnd : outH.Nodup)
    (h : DSE P E KS l.toArray l plan 0 (base s U) (heapF s.h) (fun acc ah recs => (out.all (hasT · acc) && outH.all (hasH · ah)) = true ∧ drawOK (preAll l []) (recs.map Rec.info) ((out.map (look · acc)).map fun f => (f.t, f.est, f.rf)) ((outH.map (lookH · ah)).map fun f => (f.k, f.est)) = true ∧ Q .normal ⟨out.map fun t => (t, (look t acc).v), outH.map fun k => (k, (lookH k ah).obj)⟩)) :
    LWP P E (.region id l.toArray true) Q s := by
  intro a w hi; have hnk : (hkeys s.h).Nodup := by obtain ⟨ok, ρ, F, h⟩ := hi; exact h.heap.keys
  obtain ⟨acc, ah, recs, ⟨hout, hc, hq⟩, hlen, hok, hsub, hsubH, hnew, hnewH, hreq⟩ := h.out; simp only [Bool.and_eq_true] at hout; refine LWP.draw (Q := Q) KS recs acc ah _ hm hlen hedge (fun k hk => List.all_eq_true.1 hgood k hk) (fun i o r ho hr => hok i o r ho hr) ?_ ?_ hreq (out.map (look · acc)) (outH.map (lookH · ah)) ?_ ?_ ?_ rfl hc ?_ a w hi
  · intro f hf
    rcases hnew f hf with h | ⟨j, r, he, hr, h1, h2, h3⟩
    · obtain ⟨t, ht, rfl⟩ := List.mem_map.1 h
      exact ⟨fun k hk => LV.refs_at? k _ hk, rfl⟩
    · refine ⟨fun k hk => LV.refs_at? k _ (h3 ▸ hk), ?_⟩
      rw [he]; simp only [Nat.zero_add]; exact ⟨r, hr, h1, h2⟩
  · intro f hf
    rcases hnewH f hf with h | ⟨j, r, he, hr, h1⟩
    · obtain ⟨p, hp, rfl⟩ := List.mem_map.1 h
      exact hget_of_mem hnk hp
    · rw [he]
      simp only [Nat.zero_add]; exact ⟨r, hr, h1⟩
  · intro f hf
    obtain ⟨t, ht, rfl⟩ := List.mem_map.1 hf; exact look_mem (List.all_eq_true.1 hout.1 t ht)
  · intro f hf
    obtain ⟨t, ht, rfl⟩ := List.mem_map.1 hf; exact lookH_mem (List.all_eq_true.1 hout.2 t ht)
  · rw [List.map_map]
    simpa [Function.comp_def, lookH_k] using hnd
  · have e1 : List.map (fun f : SF => (f.t, f.v)) (List.map (fun x => look x acc) out) = out.map fun t => (t, (look t acc).v) := by
      rw [List.map_map]; exact List.map_congr_left fun t _ => by simp [look_t]
    have e2 : List.map (fun f : HF => (f.k, f.obj)) (List.map (fun x => lookH x ah) outH) = outH.map fun k => (k, (lookH k ah).obj) := by
      rw [List.map_map]; exact List.map_congr_left fun t _ => by simp [lookH_k]
    rw [e1, e2]; exact hq
theorem lone_of {k : Nat} {KS : List (Nat × Nat)} {u : LState} (h : Good KS u) (hk : KS.contains (k, k) = true) : lone k (hdel k u.h) = true := h (k, k) (by simpa using hk)
theorem goodN {j : Nat} {obj : LObj} : ∀ k ∈ ([] : List (Nat × Nat)), (j == k.2 || !obj.at? k.1) = true := fun _ h => by cases h
theorem goodC {j : Nat} {obj : LObj} {a : Nat × Nat} {l : List (Nat × Nat)} (h : (j == a.2 || !obj.at? a.1) = true) (h2 : ∀ k ∈ l, (j == k.2 || !obj.at? k.1) = true) : ∀ k ∈ a :: l, (j == k.2 || !obj.at? k.1) = true := fun k hk => by
  rcases List.mem_cons.1 hk with rfl | hk
  · exact h
  · exact h2 k hk
theorem LWo.rekey {all : Array Oper} {ops : List Oper} {s : LState} (t o k : Nat) {off n : Nat} {obj : LObj} (hg : get t s.tm = .own o off n) (ho : hget o s.h = some obj) (hk : obj.kind = .fro) (hne : (o == k) = false) (hkp : E.keep.contains k = false) (hl : lone k (hdel k (hdel o s.h)) = true)
    (hn : LWo P E all ops Q (Lift.rekey s t o k off n obj)) : LWo P E all ops Q s := LWo.ghost (fun _ _ hi => hi.rekey hg ho hk hne hkp hl) hn
def cut3? {α : Type} (l : List α) (lo hi mx : Int) : Option (List α) := if 0 ≤ lo ∧ lo ≤ hi ∧ hi ≤ mx ∧ mx ≤ l.length then some ((l.take hi.toNat).drop lo.toNat) else none
theorem LWo.cutM3 {α : Type} {T e : TypeId} {sz : Nat} {f : α → LV} {l r : List α} {lo hi mx : Int} {x : Operand} {lx : Option Operand} {hx' mx' : Operand} {all : Array Oper} {rest : List Oper} {d : Nat} {ty : TypeId} {pos : String} {af : Array Edge} {s : LState} (he : cut3? l lo hi mx = some r) (hu : P.underlying T = some (.slice e)) (hz : ∀ w, (sizeOf e).run P w = .ok sz w)
    (hx : s.eval x = .sl sz (l.map f)) (hl : match lx with | none => lo = 0 | some o => ∃ k, s.eval o = .imm (.int k lo)) (hh : ∃ k, s.eval hx' = .imm (.int k hi)) (hm : ∃ k, s.eval mx' = .imm (.int k mx)) (hd : Nat.blt d E.n = true := by exact rfl)
    (hn : LWo P E all rest Q (s.put (some d) (.sl sz (r.map f)))) :
    LWo P E all ({ dst := some d, op := .slice T x lx (some hx') (some mx'), type := ty, pos := pos, after := af, guard := none } :: rest) Q s := by
  unfold cut3? at he
  split at he
  · rename_i h1
    cases he; refine LWo.cut (l := lo.toNat) (h := hi.toNat) _ hu hz hx ?_ ?_ ?_ (.inr (by simp)) (by omega) (by rw [List.length_map]; omega) ?_ hd hn
    · cases lx with
      | none => simp only at hl; subst hl; rfl
      | some o => obtain ⟨k, hk⟩ := hl; exact ⟨k, by rw [hk, Int.toNat_of_nonneg h1.1]⟩
    · obtain ⟨k, hk⟩ := hh; exact ⟨k, by rw [hk, Int.toNat_of_nonneg (by omega)]⟩
    · obtain ⟨k, hk⟩ := hm
      exact ⟨k, mx.toNat, by rw [hk, Int.toNat_of_nonneg (by omega)], by omega, by rw [List.length_map]; omega⟩
    · rw [List.map_drop, List.map_take]
  · cases he
theorem LWo.bcallM {α : Type} {f : Operand} {ops : List Operand} {ts : Array TypeId} {g : FuncId} {caps vals xs : List LV} {sz : Nat} {e : α → LV} {v : α} {all : Array Oper} {rest : List Oper} {d : Nat} {ty : TypeId} {pos : String} {af : Array Edge} {s : LState} (k : Nat) (hf : s.eval f = .clo g caps) (hv : ops.map s.eval ++ caps = vals)
    (hfn : Ret P g xs (.nb (e v).cells)) (hA : ArgsOK s [] vals xs []) (hag : e v = .agg (e v).cells) (hsz : (e v).cells.length = sz) (hl : Lift.lone k (hdel k s.h) = true) (hkp : E.keep.contains k = false := by exact rfl) (hd : Nat.blt d E.n = true := by exact rfl)
    (hn : LWo P E all rest Q { tm := (d, .ptr k 0 0) :: kill k s.tm, h := (k, vob sz e v) :: hdel k s.h }) :
    LWo P E all ({ dst := some d, op := .call { callee := .value f, args := ops.toArray, argTypes := ts }, type := ty, pos := pos, after := af, guard := none } :: rest) Q s :=
  LWo.bcall (R := fun cs => cs = (e v).cells) k hf hv (hfn.mono fun r h ⟨h1, h2⟩ => ⟨⟨_, h1, rfl⟩, h2⟩) hA hkp hl hd (by
    rintro cs rfl; rw [← hag, hsz]; exact hn)
end
end Go.Lift
/- The lifted logic, part 33: a law over bytes, out of its contract. Own work. -/
namespace Go.Lift
open Go.RowKit
theorem u8_back {n : Int} (h : (Lit.int .u8 n).wf = true) : ((UInt8.ofNat n.toNat).toNat : Int) = n := by
  have hb := bounds_u8 h; rw [UInt8.toNat_ofNat']; omega
theorem law_bytes {P : Program} {f : FuncId} (h : ∀ l : List UInt8, Ret P f [.sl 1 (l.map e_uint8)] (e_bool true)) (W : World) (a : Option Addr) (len cap : Nat) (zs : List Int)
    (hz : (a = none ∧ len = 0 ∧ cap = 0 ∧ zs = []) ∨ ∃ x, a = some x ∧ len ≤ cap ∧ cap ≤ maxLen ∧ zs.length = cap ∧ (∀ i, i < zs.length → W.cell? (x.add i) = some (.int .u8 (zs.getD i 0))) ∧ ∀ n ∈ zs, (Lit.int .u8 n).wf = true) (hb : ∀ x, a = some x → 0 < len → x.block < W.heap.size) :
    Calls P f #[.slice a len cap] W fun e w' => e = .returned (.bool true) ∧ Below W.heap.size W w' := by
  obtain ⟨l, hl⟩ : ∃ l : List UInt8, Fro W (fun k => k < W.heap.size) (.sl 1 (l.map e_uint8)) (.slice a len cap) := by
    rcases hz with ⟨rfl, rfl, rfl, rfl⟩ | ⟨x, rfl, h1, h2, h3, h4, h5⟩
    · exact ⟨[], .sl0 (by decide)⟩
    · refine ⟨(zs.take len).map fun n => UInt8.ofNat n.toNat, ?_⟩
      have hlen : (((zs.take len).map fun n => UInt8.ofNat n.toNat).map e_uint8).length = len := by simp; omega
      rcases Nat.eq_zero_or_pos len with rfl | hpos
      · simpa using Fro.sl0 h2
      · have hfr : ∀ ys : List Int, (∀ n ∈ ys, (Lit.int .u8 n).wf = true) → FroL W (fun k => k < W.heap.size) (((ys.map fun n => UInt8.ofNat n.toNat).map e_uint8).flatMap LV.cells) (ys.map (Value.int .u8)) := by
          intro ys
          induction ys with
          | nil => intro _; exact .nil
          | cons y ys ih =>
            intro hy; refine .cons ?_ rfl (ih fun n hn => hy n (by simp [hn])); show Fro W _ (.imm (.int .u8 ((UInt8.ofNat y.toNat).toNat : Int))) _; rw [u8_back (hy y (by simp))]; exact .imm _
        have := Fro.sl (w := W) (ok := fun k => k < W.heap.size) (sz := 1) (c := cap) (xs := ((zs.take len).map fun n => UInt8.ofNat n.toNat).map e_uint8) (ad := x) (by intro e; rw [e] at hlen; simp at hlen; omega)
          (by intro y hy; obtain ⟨b, _, rfl⟩ := List.mem_map.1 hy; rfl) (hfr (zs.take len) (fun n hn => h5 n (List.mem_of_mem_take hn))) (by
            intro k v hk; simp only [List.getElem?_map, List.getElem?_take] at hk
            split at hk
            · rename_i hlt
              rw [h4 k (by omega)]; simp [List.getD_eq_getElem?_getD]; cases hz : zs[k]? with
              | none => rw [hz] at hk; simp at hk
              | some u => rw [hz] at hk; simpa using hk
            · simp at hk) (hb x rfl hpos) (by omega) h2
        rw [hlen] at this; exact this
  have hc := (h l).2 W [.slice a len cap] (fun k => k < W.heap.size) (fun _ => none) (fun _ => []) (.cons (.fro hl) .nil) ⟨by simp [hkeys], by simp, by simp [fpsOf], by simp [fpsOf]⟩ (fun _ h => h); refine Calls.mono hc ?_; rintro e w' ⟨v, r, hl', ok', F', fr, rfl, ⟨rfl, rfl⟩, hext, hres, _⟩; refine ⟨?_, ⟨hext.os, hext.tape, hext.output, hext.size, fun k hk => hext.block k hk (by simp [fpsOf, rwOf])⟩⟩; cases hres with
  | fro h => cases h; rfl
end Go.Lift
/- The lifted logic, part 34: guards whose own guard is not wanted; lists made at once; one's own list lent under any name. Own work. -/
namespace Go.Lift
open Go.RowKit
section
variable {P : Program} {E : Ent} {Q : Exit → LState → Prop} {s : LState} {all : Array Oper} {rest : List Oper} {d : Nat} {ty : TypeId} {pos : String} {af : Array Edge}
theorem LWo.skip {o : Oper} (d : Nat) (ho : o.dst = some d) (hlt : Nat.blt d E.n = true) (hw : ∀ a w ok ρ F, Inv' E s a w ok ρ F → Region.wanted o (yielded all a.tmps) = false)
    (hn : LWo P E all rest Q (s.put (some d) (.imm undef))) : LWo P E all (o :: rest) Q s := by
  intro a w ⟨ok, ρ, F, hi⟩; unfold wpList; rw [if_neg (by rw [hw a w ok ρ F hi]; simp)]; refine hn _ _ ⟨ok, ρ, F, ?_⟩; rw [ho]; exact hi.put hlt (.fro (.imm _))
theorem LWo.guardNU {o : Oper} {j t d : Nat} {b nw want : Bool} (hb : get t s.tm = .imm (.bool b)) (h : b = nw) (hg : o.guard = some (j, want)) (hd : (all[j]?).bind (·.dst) = some t) (ho : o.dst = some d) (hlt : Nat.blt d E.n = true) (hne : nw = !want)
    (hn : LWo P E all rest Q (s.put (some d) (.imm undef))) : LWo P E all (o :: rest) Q s :=
  LWo.skip d ho hlt (fun a w ok ρ F hi => by
    have hy := yielded_of hi hd hb; subst h hne; simp only [Region.wanted, hg, hy]; cases want <;> rfl) hn
theorem LWo.guardU {o : Oper} {j t d : Nat} {want : Bool} (hb : get t s.tm = .imm undef) (hg : o.guard = some (j, want)) (hd : (all[j]?).bind (·.dst) = some t) (ho : o.dst = some d) (hlt : Nat.blt d E.n = true)
    (hn : LWo P E all rest Q (s.put (some d) (.imm undef))) : LWo P E all (o :: rest) Q s :=
  LWo.skip d ho hlt (fun a w ok ρ F hi => by
    have hs := hi.slots t; rw [hb] at hs; have hv := hs.imm_inv
    have hy : yielded all a.tmps j = none := by
      rw [Array.getD_eq_getD_getElem?] at hv; cases h : a.tmps[t]? with
      | none => simp [yielded, hd, h]
      | some v =>
        rw [h] at hv; simp only [Option.getD_some] at hv; subst hv; simp [yielded, hd, h, undef]
    simp [Region.wanted, hg, hy]) hn
theorem Does.nameL {f : FuncId} {n : Nat} {obj : LObj} {xs : List LV} {R : LV → LObj → Prop} (hk : obj.kind = .fro) (hro : obj.ro = false) (hR : ∀ r o, R r o → o.kind = .fro) (hxs : ∀ k, LV.at?.atL k xs = false) (h : Does P f (.own 0 0 n :: xs) [(0, obj)] (fun r h => ∃ o, R r o ∧ h = [(0, o)])) (k : Nat) :
    Does P f (.own k 0 n :: xs) [(k, obj)] (fun r h => ∃ o, R r o ∧ h = [(k, o)]) := by
  refine ⟨h.1, fun w vs ok ρ F hT hH hok => ?_⟩; have hFe : fpsOf (fun _ => F k) (rwOf [(0, obj)]) = fpsOf F (rwOf [(k, obj)]) := by simp [rwOf, hro, fpsOf]
  have cells : ∀ {w : World} {ok : Nat → Prop} {ρ ρ' : Env} {o : LObj} {vs : List Value} {fps : List Nat}, o.kind = .fro → ObjCells w ok ρ o.kind (o.elems.flatMap LV.cells) vs fps → ObjCells w ok ρ' o.kind (o.elems.flatMap LV.cells) vs fps := by
    intro w ok ρ ρ' o vs fps hb hc; simp only [hb] at hc ⊢; exact hc
  have hT' : RepT w ok (fun _ => ρ k) (.own 0 0 n :: xs) vs := by
    cases hT with
    | cons h1 h2 =>
      refine .cons ?_ ?_
      · rcases h1.own_inv with ⟨p, c, hp, h2, h3, hv⟩ | ⟨rfl, A, hv⟩
        · rw [hv]; exact .own hp h2 h3
        · rw [hv]; exact .own0
      · exact RepT.stable (fun _ _ => rfl) (fun _ hb => hb) (fun o ho => absurd ho (LV.atL_refs o _ (hxs o))) h2
  have hH' : HeapOK w ok (fun _ => ρ k) (fun _ => F k) [(0, obj)] := by
    refine ⟨by simp [hkeys], fun p hp => ?_, ?_, ?_⟩
    · simp at hp; subst hp
      rcases hH.objs (k, obj) (by simp) with ⟨h1, h2, h3⟩ | ⟨p, arr, t, us, fps, h1, h2, h3⟩
      · exact .inl ⟨h1, h2, h3⟩
      · exact .inr ⟨p, arr, t, us, fps, h1, h2, { h3 with cells := cells hk h3.cells }⟩
    · have := hH.nodup; simpa [fpsOf] using this
    · intro b hb
      exact hH.apart b (by simpa [fpsOf] using hb)
  refine (h.2 w vs ok (fun _ => ρ k) (fun _ => F k) hT' hH' hok).mono fun e w' => ?_; rintro ⟨v, r, hl', ok', F', fr, he, ⟨o, hRo, rfl⟩, hext, hres, hk', ho', hn', hb', hok'⟩; have hr2 := hR r o hRo; have hF1 : fpsOf (fun _ => F' 0) [(k, o)] = fpsOf F' [(0, o)] := by simp [fpsOf]
  refine ⟨v, r, [(k, o)], ok', fun _ => F' 0, fr, he, ⟨o, hRo, rfl⟩, hFe ▸ hext, hres, by simp [hkeys], ?_, hF1 ▸ hn', ?_, ?_⟩
  · intro p hp
    simp at hp; subst hp; obtain ⟨g1, g2, g3⟩ := ho' (0, o) (by simp); refine ⟨g1, by simp [rwOf, hro, hkeys], ?_⟩; rcases g3 with ⟨h1, h2, h3⟩ | ⟨p, arr, t, us, fps, h1, h2, h3⟩
    · exact .inl ⟨h1, h2, h3⟩
    · exact .inr ⟨p, arr, t, us, fps, h1, h2, { h3 with cells := cells hr2 h3.cells }⟩
  · rw [← hFe, hF1]; exact hb'
  · rw [← hFe]; exact hok'
theorem Does.nameO {α : Type} {f : FuncId} {n sz sz' : Nat} {e : α → LV} {l l' : List α} {xs : List LV} {v : LV} (h : Does P f (.own 0 0 n :: xs) [(0, lob sz e l)] (fun r h => r = v ∧ h = [(0, lob sz' e l')])) (hxs : ∀ k, LV.at?.atL k xs = false) (k : Nat) :
    Does P f (.own k 0 n :: xs) [(k, lob sz e l)] (fun r h => r = v ∧ h = [(k, lob sz' e l')]) :=
  (Does.nameL (R := fun r o => r = v ∧ o = lob sz' e l') rfl rfl (by rintro r o ⟨_, rfl⟩; rfl) hxs (h.mono fun r h ⟨h1, h2⟩ => ⟨_, ⟨h1, rfl⟩, h2⟩) k).mono fun r h ⟨o, ⟨h1, h2⟩, h3⟩ => ⟨h1, by rw [h3, h2]⟩
def e_uint64 (n : Int) : LV := .imm (.int .u64 n)
def uI (n : Int) : Option Int := if 0 ≤ n ∧ n ≤ 9223372036854775807 then some n else none
theorem uI_b {n z : Int} (h : uI n = some z) : z = n ∧ 0 ≤ n ∧ n ≤ 9223372036854775807 := by
  unfold uI at h
  split at h
  · rename_i e; cases h; exact ⟨rfl, e⟩
  · cases h
theorem LWo.convIU {src dst : TypeId} {x : Operand} {n : Int} {u : TypeDesc} {z : Int} (he : uI n = some z) (hu : P.underlying src = some u) (hk : P.underlying dst = some (.int .u64)) (hx : s.eval x = .imm (.int .i64 n)) (hd : Nat.blt d E.n = true := by exact rfl)
    (hn : LWo P E all rest Q (s.put (some d) (e_uint64 z))) :
    LWo P E all ({ dst := some d, op := .convert src dst x, type := ty, pos := pos, after := af, guard := none } :: rest) Q s := by
  obtain ⟨rfl, h0, h1⟩ := uI_b he; exact LWo.convInt hu hk hx hd (by rw [IntKind.wrap_u64, Int.emod_eq_of_lt h0 (by omega)]; exact hn)
theorem LWo.convUI {src dst : TypeId} {x : Operand} {n : Int} {u : TypeDesc} {z : Int} (he : uI n = some z) (hu : P.underlying src = some u) (hk : P.underlying dst = some (.int .i64)) (hx : s.eval x = .imm (.int .u64 n)) (hd : Nat.blt d E.n = true := by exact rfl)
    (hn : LWo P E all rest Q (s.put (some d) (e_int z))) :
    LWo P E all ({ dst := some d, op := .convert src dst x, type := ty, pos := pos, after := af, guard := none } :: rest) Q s := by
  obtain ⟨rfl, h0, h1⟩ := uI_b he; exact LWo.convInt hu hk hx hd (by rw [wrap64_in (by omega) h1]; exact hn)
theorem LWo.shrU {t t' : TypeId} {x y : Operand} {m n z : Int} {k' : IntKind} (he : shrI m n = some z) (hx : s.eval x = .imm (.int .u64 m)) (hy : s.eval y = .imm (.int k' n)) (hd : Nat.blt d E.n = true := by exact rfl)
    (hn : LWo P E all rest Q (s.put (some d) (e_uint64 z))) : LWo P E all ({ dst := some d, op := .binOp .shr t x y t', type := ty, pos := pos, after := af, guard := none } :: rest) Q s := by
  unfold shrI at he
  split at he
  · rename_i h0
    cases he; exact LWo.shr hx hy h0 hd hn
  · cases he
theorem Does.nameT {f : FuncId} {n : Nat} {obj : LObj} {xs : List LV} {R : LV → Prop} (hk : obj.kind = .fro) (hro : obj.ro = false) (hxs : ∀ k, LV.at?.atL k xs = false) (h : Does P f (.own 0 0 n :: xs) [(0, obj)] (fun r h => R r ∧ h = [])) (k : Nat) :
    Does P f (.own k 0 n :: xs) [(k, obj)] (fun r h => R r ∧ h = []) := by
  refine ⟨h.1, fun w vs ok ρ F hT hH hok => ?_⟩; have hFe : fpsOf (fun _ => F k) (rwOf [(0, obj)]) = fpsOf F (rwOf [(k, obj)]) := by simp [rwOf, hro, fpsOf]
  have hT' : RepT w ok (fun _ => ρ k) (.own 0 0 n :: xs) vs := by
    cases hT with
    | cons h1 h2 =>
      refine .cons ?_ ?_
      · rcases h1.own_inv with ⟨p, c, hp, h2, h3, hv⟩ | ⟨rfl, A, hv⟩
        · rw [hv]; exact .own hp h2 h3
        · rw [hv]; exact .own0
      · exact RepT.stable (fun _ _ => rfl) (fun _ hb => hb) (fun o ho => absurd ho (LV.atL_refs o _ (hxs o))) h2
  have hH' : HeapOK w ok (fun _ => ρ k) (fun _ => F k) [(0, obj)] := by
    refine ⟨by simp [hkeys], fun p hp => ?_, ?_, ?_⟩
    · simp at hp; subst hp
      rcases hH.objs (k, obj) (by simp) with ⟨h1, h2, h3⟩ | ⟨p, arr, t, us, fps, h1, h2, h3⟩
      · exact .inl ⟨h1, h2, h3⟩
      · refine .inr ⟨p, arr, t, us, fps, h1, h2, { h3 with cells := ?_ }⟩
        have hc := h3.cells; simp only [hk] at hc ⊢; exact hc
    · have := hH.nodup; simpa [fpsOf] using this
    · intro b hb
      exact hH.apart b (by simpa [fpsOf] using hb)
  refine (h.2 w vs ok (fun _ => ρ k) (fun _ => F k) hT' hH' hok).mono fun e w' => ?_; rintro ⟨v, r, hl', ok', F', fr, he, ⟨hR, rfl⟩, hext, hres, hk', ho', hn', hb', hok'⟩; refine ⟨v, r, [], ok', F', fr, he, ⟨hR, rfl⟩, hFe ▸ hext, hres, hk', ?_, hn', ?_, ?_⟩
  · simp
  · rw [← hFe]; exact hb'
  · rw [← hFe]; exact hok'
theorem LWo.tcallN {α β : Type} {f : Operand} {ops : List Operand} {ts : Array TypeId} {g : FuncId} {caps vals xs : List LV} {o n sz sz' : Nat} {e : α → LV} {e' : β → LV} {l : List α} {r : List β} (k : Nat) (hf : s.eval f = .clo g caps) (hv : ops.map s.eval ++ caps = vals)
    (hfn : Does P g (.own 0 0 l.length :: xs) [(0, lob sz e l)] (fun x h => x = .nw sz' (r.map e') false ∧ h = [])) (hxs : ∀ k, LV.at?.atL k xs = false) (hA : vals = .own o 0 n :: xs) (hnl : n = l.length) (ho : hget o s.h = some (lob sz e l)) (hl : Lift.lone k (hdel k (hdel o s.h)) = true) (hkp : E.keep.contains k = false := by exact rfl) (hd : Nat.blt d E.n = true := by exact rfl)
    (hn : LWo P E all rest Q { tm := (d, .own k 0 r.length) :: kill k s.tm, h := (k, lob sz' e' r) :: hdel k (hdel o s.h) }) :
    LWo P E all ({ dst := some d, op := .call { callee := .value f, args := ops.toArray, argTypes := ts }, type := ty, pos := pos, after := af, guard := none } :: rest) Q s := by
  subst hnl; exact LWo.tcallO k hf hv (Does.nameT rfl rfl hxs hfn o) hA ho rfl hkp hl hd (by rw [List.length_map]; exact hn)
theorem atN (k : Nat) : LV.at?.atL k [] = false := rfl
theorem atC {k : Nat} {x : LV} {xs : List LV} (h : x.at? k = false) (h2 : LV.at?.atL k xs = false) : LV.at?.atL k (x :: xs) = false := by simp [LV.at?.atL, h, h2]
theorem avq2 {x y : Operand} {a b : LV} {cs : List LV} (h : s.eval x = a) (h2 : s.eval y = b) : [x, y].map s.eval ++ cs = a :: b :: cs := by simp [h, h2]
theorem LWo.ucallM {α : Type} {f : Operand} {ops : List Operand} {ts : Array TypeId} {g : FuncId} {caps vals xs : List LV} {k sz : Nat} {e : α → LV} {l l' : List α} {v : LV} (hf : s.eval f = .clo g caps) (hv : ops.map s.eval ++ caps = vals)
    (hfn : Does P g xs [(k, lob sz e l)] (fun r h => r = v ∧ h = [(k, lob sz e l')])) (hA : vals = xs) (ho : hget k s.h = some (lob sz e l)) (dst : Option Nat) (hd : (match dst with | some t => Nat.blt t E.n | none => true) = true)
    (hn : LWo P E all rest Q (({ tm := s.tm, h := (k, lob sz e l') :: hdel k s.h } : LState).put dst (settle none v))) :
    LWo P E all ({ dst := dst, op := .call { callee := .value f, args := ops.toArray, argTypes := ts }, type := ty, pos := pos, after := af, guard := none } :: rest) Q s := LWo.ucall (n := 0) hf hv hfn hA ho dst hd hn
def lenQ {β : Type} (n m : Nat) (x : β) : Option β := if n = m then some x else none
theorem lenQ_some {β : Type} {n m : Nat} {x y : β} (h : lenQ n m x = some y) : n = m ∧ x = y := by
  unfold lenQ at h
  split at h
  · rename_i e; cases h; exact ⟨e, rfl⟩
  · cases h
end
end Go.Lift
/- The lifted logic, part 35: a call with a variable lent whose list is one's own. Own work. -/
namespace Go.Lift
open Go.RowKit
section
variable {P : Program} {E : Ent} {Q : Exit → LState → Prop} {s : LState} {all : Array Oper} {rest : List Oper} {d : Nat} {ty : TypeId} {pos : String} {af : Array Edge}
theorem LWo.lncall {α : Type} {f : Operand} {ops : List Operand} {ts : Array TypeId} {g : FuncId} {caps vals xs : List LV} {lk sz : Nat} {obj obj' : LObj} {e : α → LV} {l : List α} (k : Nat) (hf : s.eval f = .clo g caps) (hv : ops.map s.eval ++ caps = vals)
    (hfn : Does P g xs [(lk, obj)] (fun r h => r = .nw sz (l.map e) false ∧ h = [(lk, obj')])) (hA : vals = xs) (ho : hget lk s.h = some obj) (hro : obj.ro = false) (hl : Lift.lone k (hdel k ((lk, obj') :: hdel lk s.h)) = true) (hkp : E.keep.contains k = false := by exact rfl) (hd : Nat.blt d E.n = true := by exact rfl)
    (hn : LWo P E all rest Q { tm := (d, .own k 0 l.length) :: kill k s.tm, h := (k, lob sz e l) :: hdel k ((lk, obj') :: hdel lk s.h) }) :
    LWo P E all ({ dst := some d, op := .call { callee := .value f, args := ops.toArray, argTypes := ts }, type := ty, pos := pos, after := af, guard := none } :: rest) Q s :=
  LWo.call (some k) hf hv hfn (by rw [hA]; exact ArgsOK.allSame) ⟨by simp [hkeys], by intro p hp; simp at hp; subst hp; exact ⟨_, ho, .inl rfl⟩⟩ (fun t ht => by cases ht; exact hd) (fun j hj => by cases hj; exact hkp) (by
    rintro r hl' ⟨rfl, rfl⟩; refine ⟨.inl rfl, (fun j hj => by cases hj; simpa [rwOf, hro, hkeys, hdels] using hl), ?_⟩; have : rwOf [(lk, obj)] = [(lk, obj)] := by simp [rwOf, hro]
    have e2 : hdels [lk] s.h = hdel lk s.h := by simp
    simp only [afterCall, this, hkeys, List.map_cons, List.map_nil, List.length_map, LState.put]; rw [e2]; exact hn)
end
end Go.Lift
/- The lifted logic, part 36: cuts of one's own list that stay one's own; clear. Own work. -/
namespace Go.Lift
open Go.RowKit
section
variable {P : Program} {E : Ent} {Q : Exit → LState → Prop} {s : LState} {all : Array Oper} {rest : List Oper} {d : Nat} {ty : TypeId} {pos : String} {af : Array Edge}
def rng? (lo hi : Int) (n : Nat) : Option Unit := if 0 ≤ lo ∧ lo ≤ hi ∧ hi ≤ n then some () else none
theorem rng_b {lo hi : Int} {n : Nat} {u : Unit} (h : rng? lo hi n = some u) : 0 ≤ lo ∧ lo ≤ hi ∧ hi ≤ n := by
  unfold rng? at h
  split at h
  · assumption
  · cases h
theorem rng_of {lo hi : Int} {n : Nat} (h : 0 ≤ lo ∧ lo ≤ hi ∧ hi ≤ n) : rng? lo hi n = some () := by unfold rng?; rw [if_pos h]
def leN (n m : Nat) : Option Unit := if n ≤ m then some () else none
theorem leN_b {n m : Nat} {u : Unit} (h : leN n m = some u) : n ≤ m := by
  unfold leN at h
  split at h
  · assumption
  · cases h
def atc? {α : Type} (l : List α) (off n : Nat) (i : Int) : Option α := if 0 ≤ i ∧ i < n then l[off + i.toNat]? else none
theorem atc_b {α : Type} {l : List α} {off n : Nat} {i : Int} {y : α} (h : atc? l off n i = some y) : 0 ≤ i ∧ i < n ∧ l[off + i.toNat]? = some y := by
  unfold atc? at h
  split at h
  · rename_i e; exact ⟨e.1, e.2, h⟩
  · cases h
theorem LWo.cutOM {α : Type} {T e : TypeId} {sz o off n : Nat} {f : α → LV} {l : List α} {lo hi : Int} {u : Unit} {x : Operand} {lx hx' : Option Operand} (he : rng? lo hi n = some u) (hu : P.underlying T = some (.slice e)) (hz : ∀ w, (sizeOf e).run P w = .ok sz w)
    (hx : s.eval x = .own o off n) (ho : hget o s.h = some (lob sz f l)) (hl : match lx with | none => lo = 0 | some o => ∃ k, s.eval o = .imm (.int k lo)) (hh : match hx' with | none => hi = n | some o => ∃ k, s.eval o = .imm (.int k hi)) (hd : Nat.blt d E.n = true := by exact rfl)
    (hn : LWo P E all rest Q (s.put (some d) (.own o (off + lo.toNat) (hi.toNat - lo.toNat)))) :
    LWo P E all ({ dst := some d, op := .slice T x lx hx' none, type := ty, pos := pos, after := af, guard := none } :: rest) Q s := by
  obtain ⟨h0, h1, h2⟩ := rng_b he; refine LWo.cutOwn (l := lo.toNat) (h := hi.toNat) hu hz hx ho rfl ?_ ?_ trivial (.inl rfl) (by omega) (by omega) rfl rfl hd hn
  · cases lx with
    | none => simp only at hl; subst hl; rfl
    | some o => obtain ⟨k, hk⟩ := hl; exact ⟨k, by rw [hk, Int.toNat_of_nonneg h0]⟩
  · cases hx' with
    | none => simp only at hh; subst hh; simp [Bound]
    | some o => obtain ⟨k, hk⟩ := hh; exact ⟨k, by rw [hk, Int.toNat_of_nonneg (by omega)]⟩
theorem LWo.indexOC {α : Type} {T e : TypeId} {sz o off n : Nat} {f : α → LV} {l : List α} {y : α} {x ix : Operand} {k : IntKind} {i : Int} (he : atc? l off n i = some y) (hu : P.underlying T = some (.slice e)) (hz : ∀ w, (sizeOf e).run P w = .ok sz w)
    (hx : s.eval x = .own o off n) (hi : s.eval ix = .imm (.int k i)) (ho : hget o s.h = some (lob sz f l)) (hd : Nat.blt d E.n = true := by exact rfl) (hn : LWo P E all rest Q (s.put (some d) (.ptr o (off + i.toNat) 0))) :
    LWo P E all ({ dst := some d, op := .indexAddr T x ix, type := ty, pos := pos, after := af, guard := none } :: rest) Q s :=
  LWo.indexOwn hu hz hx hi ho rfl (atc_b he).1 (atc_b he).2.1 hd hn
inductive SrcT {α : Type} (s : LState) (y : Operand) (sz : Nat) (f : α → LV) (l : List α) : Prop
  | m : SrcM s y sz f l → SrcT s y sz f l
  | cut {o off n : Nat} {L : List α} : s.eval y = .own o off n → off + n ≤ L.length → hget o s.h = some (lob sz f L) → (L.drop off).take n = l → SrcT s y sz f l
theorem SrcT.is {α : Type} {y : Operand} {sz : Nat} {f : α → LV} {l : List α} (h : SrcT s y sz f l) : SrcIs s y sz (l.map f) := by
  cases h with
  | m h => exact h.is
  | cut h h1 h2 h3 =>
    subst h3; rename_i o off n L
    refine .inr (.inr (.inl ⟨_, off, _, by rw [List.length_map, List.length_take, List.length_drop, show min n (L.length - off) = n by omega]; exact h, h2, rfl, rfl, by simp [lob]; omega, by
      simp [lob, show min n (L.length - off) = n by omega, List.map_take, List.map_drop]⟩))
end
end Go.Lift
namespace Go.Lift
open Go.RowKit
section
variable {P : Program} {E : Ent} {Q : Exit → LState → Prop} {s : LState} {all : Array Oper}
end
end Go.Lift
/- The lifted logic, part 37: append in place, where the room is known. Own work. -/
namespace Go.Lift
open Go.RowKit
section
variable {P : Program} {E : Ent} {Q : Exit → LState → Prop} {s : LState} {all : Array Oper} {rest : List Oper} {d : Nat} {ty : TypeId} {pos : String} {af : Array Edge}
end
end Go.Lift
/- The lifted logic, part 38: a call that hands back a list of its own and something beside it. Own work. -/
namespace Go.Lift
open Go.RowKit
section
variable {P : Program} {E : Ent} {Q : Exit → LState → Prop} {s : LState} {all : Array Oper} {rest : List Oper} {d : Nat} {ty : TypeId} {pos : String} {af : Array Edge}
end
end Go.Lift
/- The lifted logic, part 39: a call whose list that comes back is not wanted. Own work. -/
namespace Go.Lift
open Go.RowKit
section
variable {P : Program} {E : Ent} {Q : Exit → LState → Prop} {s s' : LState} {all : Array Oper} {rest : List Oper} {d : Nat} {ty : TypeId} {pos : String} {af : Array Edge}
end
end Go.Lift
/- The lifted logic, part 40: short forms of the steps of a region of open order. Own work. -/
namespace Go.Lift
theorem zn {α β : Type} {a : α} {c : β} {R G : Prop} (hg : G) : a = a ∧ (c = c ∨ R) ∧ G := ⟨rfl, .inl rfl, hg⟩
section
variable {P : Program} {E : Ent}
theorem dq {KS : List (Nat × Nat)} {all : Array Oper} {o : Oper} {os : List Oper} {rd hk : List Nat} {ps : List (List Nat × List Nat)} {i : Nat} {acc : List SF} {ah : List HF} {k : List SF → List HF → List Rec → Prop} (d : Nat) {y : LV} (hin : (rd.all (hasT · acc) && hk.all (hasH · ah)) = true)
    (h1 : ∀ u : LState, Good KS u → AllF u.tm (rd.map (look · acc)) → AllH u.h (hk.map (lookH · ah)) → LWo P E all [o] (fun e t => e = .normal ∧ (t = (Ef.put d y).run u ∨ t.le ((Ef.put d y).run u)) ∧ Good KS t) u)
    (h2 : DSE P E KS all os ps (i + 1) ((Ef.put d y).accS i acc) ((Ef.put d y).accH i ah) (fun a b r => k a b (⟨.put d y, rd.map (look · acc), hk.map (lookH · ah)⟩ :: r))) : DSE P E KS all (o :: os) ((rd, hk) :: ps) i acc ah k := ⟨hin, .put d y, trivial, h1, h2⟩
end
def ins1 (x : Nat) (l : List Nat) : List Nat := bif l.contains x then l else x :: l
def preD : List Oper → List (List Nat) → List (List Nat)
  | [], acc => acc
  | o :: r, acc => preD r (acc ++ [(edgesOf o).foldl (fun l j => ins1 j ((acc.getD j []).foldl (fun l x => ins1 x l) l)) []])
theorem mem_ins1 {x y : Nat} {l : List Nat} : y ∈ ins1 x l ↔ y = x ∨ y ∈ l := by
  unfold ins1; cases h : l.contains x with
  | true =>
    have : x ∈ l := by simpa using h
    rw [cond_true]; exact ⟨.inr, fun h => h.elim (fun e => e ▸ this) id⟩
  | false => rw [cond_false, List.mem_cons]
theorem mem_foldI {y : Nat} : ∀ (xs l : List Nat), y ∈ xs.foldl (fun l x => ins1 x l) l ↔ y ∈ xs ∨ y ∈ l
  | [], l => by simp
  | x :: xs, l => by rw [List.foldl_cons, mem_foldI xs, mem_ins1, List.mem_cons]; grind
theorem preD_mem : ∀ (ops : List Oper) (a b : List (List Nat)), a.length = b.length → (∀ j x, x ∈ a.getD j [] ↔ x ∈ b.getD j []) → ∀ j x, x ∈ (preD ops a).getD j [] ↔ x ∈ (preAll ops b).getD j []
  | [], a, b, _, h => h
  | o :: r, a, b, hl, h => by
    rw [preD, preAll]
    have hx : ∀ x, x ∈ (edgesOf o).foldl (fun l j => ins1 j ((a.getD j []).foldl (fun l x => ins1 x l) l)) [] ↔ x ∈ (edgesOf o).flatMap fun j => j :: b.getD j [] := by
      intro x
      have key : ∀ (es l : List Nat), x ∈ es.foldl (fun l j => ins1 j ((a.getD j []).foldl (fun l x => ins1 x l) l)) l ↔ (x ∈ es.flatMap fun j => j :: b.getD j []) ∨ x ∈ l := by
        intro es
        induction es with
        | nil => intro l; simp
        | cons e es ih =>
          intro l; rw [List.foldl_cons, ih, mem_ins1, mem_foldI, h e x, List.flatMap_cons, List.mem_append, List.mem_cons]
          grind
      rw [key]; simp
    refine preD_mem r _ _ (by simp [hl]) ?_; intro j x; rcases Nat.lt_trichotomy j a.length with h1 | h1 | h1
    · rw [List.getD_eq_getElem?_getD, List.getElem?_append_left h1, List.getD_eq_getElem?_getD, List.getElem?_append_left (hl ▸ h1), ← List.getD_eq_getElem?_getD, ← List.getD_eq_getElem?_getD]
      exact h j x
    · subst h1
      rw [List.getD_eq_getElem?_getD, List.getElem?_append_right (Nat.le_refl _), List.getD_eq_getElem?_getD, hl, List.getElem?_append_right (Nat.le_refl _)]; simpa using hx x
    · rw [List.getD_eq_getElem?_getD, List.getElem?_eq_none (by simp; omega), List.getD_eq_getElem?_getD, List.getElem?_eq_none (by simp; omega)]
theorem ahead_D (l : List Oper) (i j : Nat) : ahead (preD l []) i j = ahead (preAll l []) i j := by
  unfold ahead; rw [Bool.eq_iff_iff, List.contains_iff_mem, List.contains_iff_mem]; exact preD_mem l [] [] rfl (fun _ _ => Iff.rfl) j i
theorem drawOK_D {l : List Oper} {T : List OI} {FS : List (Nat × Option Nat × List Nat)} {FH : List (Nat × Option Nat)} (h : drawOK (preD l []) T FS FH = true) : drawOK (preAll l []) T FS FH = true := by
  unfold drawOK harmless at *; simp only [ahead_D] at h; exact h
theorem DSE.mono {P : Program} {E : Ent} {KS : List (Nat × Nat)} {all : Array Oper} : ∀ {os : List Oper} {ps : List (List Nat × List Nat)} {i : Nat} {acc : List SF} {ah : List HF} {k k' : List SF → List HF → List Rec → Prop}, (∀ a b r, k a b r → k' a b r) → DSE P E KS all os ps i acc ah k → DSE P E KS all os ps i acc ah k'
  | [], [], _, _, _, _, _, hk, h => hk _ _ _ h
  | o :: os, (rd, hkk) :: ps, i, acc, ah, k, k', hk, ⟨h0, ef, h1, h2, h3⟩ => ⟨h0, ef, h1, h2, DSE.mono (fun a b r h => hk a b _ h) h3⟩
  | [], _ :: _, _, _, _, _, _, _, h => h
  | _ :: _, [], _, _, _, _, _, _, h => h
section
variable {P : Program} {E : Ent} {Q : Exit → LState → Prop}
theorem LWP.drawF {id : Nat} {l : List Oper} {s : LState} (KS : List (Nat × Nat)) (U : List Nat) (plan : List (List Nat × List Nat)) (out outH : List Nat) (hm : P.follows .mixedOrders = true)
    (hedge : (l.zipIdx.all fun (o, i) => (edgesOf o).all fun j => decide (j < i)) = true) (hgood : KS.all (fun p => lone p.1 (hdel p.2 s.h)) = true) (hnd : outH.Nodup)
    (h : DSE P E KS l.toArray l plan 0 (base s U) (heapF s.h) (fun acc ah recs => (out.all (hasT · acc) && outH.all (hasH · ah)) = true ∧ drawOK (preD l []) (recs.map Rec.info) ((out.map (look · acc)).map fun f => (f.t, f.est, f.rf)) ((outH.map (lookH · ah)).map fun f => (f.k, f.est)) = true ∧ Q .normal ⟨out.map fun t => (t, (look t acc).v), outH.map fun k => (k, (lookH k ah).obj)⟩)) :
    LWP P E (.region id l.toArray true) Q s := LWP.drawE KS U plan out outH hm hedge hgood hnd (DSE.mono (fun a b r ⟨h1, h2, h3⟩ => ⟨h1, drawOK_D h2, h3⟩) h)
end
end Go.Lift
/- The lifted logic, part 41: variables in memory whose fields hold lists of one's own. Own work. -/
namespace Go.Lift
open Go.RowKit
section
variable {P : Program} {E : Ent} {Q : Exit → LState → Prop} {s : LState} {all : Array Oper} {rest : List Oper} {d : Nat} {ty : TypeId} {pos : String} {af : Array Edge}
end
end Go.Lift
/- The lifted logic, part 42: a list of one's own lent at any place, and a tuple that comes back. Own work. -/
namespace Go.Lift
open Go.RowKit
section
variable {P : Program} {E : Ent} {Q : Exit → LState → Prop} {s : LState} {all : Array Oper} {rest : List Oper} {d : Nat} {ty : TypeId} {pos : String} {af : Array Edge}
end
end Go.Lift
/- The lifted logic, part 43: arguments of any type, as values that are read. Own work. -/
namespace Go.Lift
open Go.RowKit Go.ChangeShapes Go.WideShapes
def okB (W : World) : Nat → Prop := fun k => k < W.heap.size
structure Opn (P : Program) (T : TypeId) (n : Nat) {α : Type} (e : α → LV) (B : α → Prop) : Prop where
  size : P.cellsOf T = n
  len : ∀ x, (e x).cells.length = n
  read : ∀ {H : Type} (enc : TypeId × Value → H) (W : World) (fuel : Nat) (cs : List Value) (x : DataW H × List MemPlace), DataW.trod enc P W 0 (fun _ => true) true fuel T cs = some x → ∃ a, B a ∧ FroL W (okB W) (e a).cells cs
def B_int (n : Int) : Prop := -9223372036854775808 ≤ n ∧ n ≤ 9223372036854775807
def B_bool (b : Bool) : Prop := True
def B_string (b : ByteArray) : Prop := b.size ≤ maxLen
def B_list {α : Type} (B : α → Prop) (l : List α) : Prop := l.length ≤ maxLen ∧ ∀ x ∈ l, B x
structure OpnF (P : Program) (fs : List Field) (off tot : Nat) {α : Type} (e : α → List LV) (B : α → Prop) : Prop where
  len : ∀ x, off + (e x).length = tot
  read : ∀ {H : Type} (enc : TypeId × Value → H) (W : World) (fuel : Nat) (cs : List Value), cs.length = tot → (∀ (i : Nat) (f : Field), fs[i]? = some f → ∃ y, DataW.trod enc P W 0 (fun _ => true) true fuel f.type ((cs.drop f.offset).take (P.cellsOf f.type)) = some y) → ∃ a, B a ∧ FroL W (okB W) (e a) (cs.drop off)
theorem Opn.one {P : Program} {T : TypeId} {α : Type} {e : α → LV} {B : α → Prop} (h : Opn P T 1 e B) (he : ∀ a, (e a).cells = [e a]) {H : Type} {enc : TypeId × Value → H} {W : World} {v : Value} {d : DataW H} {p : List MemPlace} (hd : DataW.Trod enc P W 0 (fun _ => true) true T v d p) (hv : v.cells.toList = [v]) : ∃ a, B a ∧ Fro W (okB W) (e a) v := by
  obtain ⟨fuel, hf⟩ := hd; rw [hv] at hf; obtain ⟨a, ha, h1⟩ := h.read enc W fuel _ _ hf; rw [he a] at h1; cases h1 with
  | cons h2 _ _ => exact ⟨a, ha, h2⟩
theorem Opn.agg {P : Program} {T : TypeId} {n : Nat} {α : Type} {e : α → LV} {B : α → Prop} (h : Opn P T n e B) (he : ∀ a, e a = .agg (e a).cells) {H : Type} {enc : TypeId × Value → H} {W : World} {cs : Array Value} {d : DataW H} {p : List MemPlace} (hd : DataW.Trod enc P W 0 (fun _ => true) true T (.agg cs) d p) : ∃ a, B a ∧ Fro W (okB W) (e a) (.agg cs) := by
  obtain ⟨fuel, hf⟩ := hd; have e1 : (Value.agg cs).cells.toList = cs.toList := rfl; rw [e1] at hf; obtain ⟨a, ha, h1⟩ := h.read enc W fuel _ _ hf; refine ⟨a, ha, ?_⟩; rw [he a]; have := Fro.agg h1; simpa using this
end Go.Lift
/- The lifted logic, part 45: calls that read lists of one's own and hand back a list of flat elements. Own work. -/
namespace Go.Lift
open Go.RowKit
section
variable {P : Program} {E : Ent} {Q : Exit → LState → Prop} {s : LState} {all : Array Oper} {rest : List Oper} {d : Nat} {ty : TypeId} {pos : String} {af : Array Edge}
end
end Go.Lift
/- The lifted logic, part 46: lists that are owned with all that they lead to: what goes into them. Own work. -/
namespace Go.Lift
open Go.RowKit
theorem DeepL.cut {w : World} : ∀ {xs : List LV} {vs : List Value} {f : List Nat} (n : Nat), DeepL w xs vs f → ∃ fA fC, f = fA ++ fC ∧ DeepL w (xs.take n) (vs.take n) fA ∧ DeepL w (xs.drop n) (vs.drop n) fC
  | _, _, _, 0, h => ⟨[], _, rfl, by simpa using DeepL.nil, by simpa using h⟩
  | _, _, _, n + 1, .nil => ⟨[], [], rfl, by simpa using DeepL.nil, by simpa using DeepL.nil⟩
  | _, _, _, n + 1, .cons (f := f) h h1 h2 => by
    obtain ⟨fA, fC, rfl, hA, hC⟩ := DeepL.cut n h2; exact ⟨f ++ fA, fC, by rw [List.append_assoc], by simpa using DeepL.cons h h1 hA, by simpa using hC⟩
theorem DeepL.put {w : World} {xs ys : List LV} {vs us : List Value} {f g : List Nat} (h : DeepL w xs vs f) (q : Nat) (hy : DeepL w ys us g) : ∃ fA fB fC, f = fA ++ (fB ++ fC) ∧ DeepL w (setRange xs q ys) (vs.take q ++ us ++ vs.drop (q + ys.length)) (fA ++ g ++ fC) := by
  obtain ⟨fA, fR, rfl, hA, hR⟩ := h.cut q; obtain ⟨fB, fC, rfl, hB, hC⟩ := hR.cut ys.length; refine ⟨fA, fB, fC, rfl, ?_⟩; rw [List.drop_drop, List.drop_drop] at hC; exact (hA.append hy).append hC
theorem Deep.one {w : World} {x : LV} {v : Value} {f : List Nat} (h : Deep w x v f) (hx : ∃ sz xs, x = .sl sz xs) : v.oneCell' = true := by
  obtain ⟨sz, xs, rfl⟩ := hx; cases h <;> rfl
section
variable {P : Program} {E : Ent} {Q : Exit → LState → Prop} {s : LState} {all : Array Oper} {rest : List Oper} {d : Nat} {ty : TypeId} {pos : String} {af : Array Edge}
end
end Go.Lift
/- The lifted logic, part 47: lists that own: what is taken out and put back, what is made of lists of one's own. Own work. -/
namespace Go.Lift
open Go.RowKit
theorem DCells.append {w : World} {ρ : Env} {xs ys : List LV} {vs us : List Value} {f g : List Nat} (h : DCells w ρ xs vs f) (k : DCells w ρ ys us g) : DCells w ρ (xs ++ ys) (vs ++ us) (f ++ g) := by
  induction h with
  | nil => exact k
  | deep h h1 _ ih => rw [List.append_assoc]; exact .deep h h1 ih
  | own h h1 h2 _ ih => exact .own h h1 h2 ih
  | own0 _ ih => exact .own0 ih
theorem DCells.cut {w : World} {ρ : Env} {xs : List LV} {vs : List Value} {f : List Nat} (h : DCells w ρ xs vs f) : ∀ n : Nat, ∃ fA fC, f = fA ++ fC ∧ DCells w ρ (xs.take n) (vs.take n) fA ∧ DCells w ρ (xs.drop n) (vs.drop n) fC := by
  induction h with
  | nil => intro n; exact ⟨[], [], rfl, by simpa using DCells.nil, by simpa using DCells.nil⟩
  | @deep x v xs vs f g h h1 h2 ih =>
    intro n; cases n with
    | zero => exact ⟨[], _, rfl, by simpa using DCells.nil, by simpa using DCells.deep h h1 h2⟩
    | succ n =>
      obtain ⟨fA, fC, rfl, hA, hC⟩ := ih n; exact ⟨f ++ fA, fC, by rw [List.append_assoc], by simpa using DCells.deep h h1 hA, by simpa using hC⟩
  | own h h1 h2 h3 ih =>
    intro n; cases n with
    | zero => exact ⟨[], _, rfl, by simpa using DCells.nil, by simpa using DCells.own h h1 h2 h3⟩
    | succ n =>
      obtain ⟨fA, fC, rfl, hA, hC⟩ := ih n; exact ⟨fA, fC, rfl, by simpa using DCells.own h h1 h2 hA, by simpa using hC⟩
  | own0 h3 ih =>
    intro n; cases n with
    | zero => exact ⟨[], _, rfl, by simpa using DCells.nil, by simpa using DCells.own0 h3⟩
    | succ n =>
      obtain ⟨fA, fC, rfl, hA, hC⟩ := ih n; exact ⟨fA, fC, rfl, by simpa using DCells.own0 hA, by simpa using hC⟩
section
variable {P : Program} {E : Ent} {Q : Exit → LState → Prop} {s : LState} {all : Array Oper} {rest : List Oper} {d : Nat} {ty : TypeId} {pos : String} {af : Array Edge}
theorem settle_at {a : Act} {w : World} {ok : Nat → Prop} {ρ : Env} {F : Nat → List Nat} (hi : Inv' E s a w ok ρ F) (k : Nat) (hkp : E.keep.contains k = false) (hl : Lift.lone k (hdel k s.h) = true) {fr : List Nat} (hn : fr.Nodup)
    (hb : ∀ b ∈ fr, ¬ ok b ∧ b < w.heap.size ∧ b ∉ fpsOf F s.h ∧ (b < E.w0.heap.size → b ∈ E.lent)) (pl : Option Place) (obj : LObj) (ho : ObjRep w ok (upd ρ k pl) k obj fr) :
    Inv' E { tm := kill k s.tm, h := (k, obj) :: hdel k s.h } a w ok (upd ρ k pl) (upd F k fr) := by
  have h' := hi.sub (hdel_sub k s.h); have hne := not_key (hdel_key k s.h); have hF : ∀ p ∈ hdel k s.h, upd F k fr p.1 = F p.1 := fun p hp => upd_other _ _ (hne p hp)
  have hfps : fpsOf (upd F k fr) ((k, obj) :: hdel k s.h) = fr ++ fpsOf F (hdel k s.h) := by
    have e := fpsOf_congr hF; simp only [fpsOf, List.flatMap_cons, upd_same] at e ⊢; rw [e]
  have hdis : ∀ b ∈ fr, b ∉ fpsOf F (hdel k s.h) := fun b hb' hm => (hb b hb').2.2.1 ((fpsOf_sub (hdel_sub k s.h)).mem hm); refine { h' with heap := ⟨?_, ?_, ?_, ?_⟩, mine := ?_, slots := ?_, keep := fun j hj => (upd_other ρ _ (show j ≠ k from fun e => by subst e; simp [hj] at hkp)).trans (hi.keep j hj) }
  · simp only [hkeys, List.map_cons, List.nodup_cons]
    exact ⟨hdel_key k s.h, h'.heap.keys⟩
  · intro p hp
    rcases List.mem_cons.1 hp with rfl | hp
    · simpa using ho
    · rw [hF p hp]
      exact (h'.heap.objs p hp).stable (fun _ _ => rfl) (fun _ hb => hb) (fun _ _ => rfl) (upd_other _ _ (hne p hp)) (fun j hj => upd_other _ _ (fun e => lone_refs hl p hp (e ▸ hj)))
  · show (fpsOf (upd F k fr) _).Nodup
    rw [hfps, List.nodup_append]; exact ⟨hn, h'.heap.nodup, fun b h1 c h2 e => hdis b h1 (e ▸ h2)⟩
  · intro b hb'
    rw [show ({ tm := kill k s.tm, h := (k, obj) :: hdel k s.h } : LState).h = (k, obj) :: hdel k s.h from rfl, hfps] at hb'; rcases List.mem_append.1 hb' with h1 | h1
    · exact ⟨(hb b h1).1, (hb b h1).2.1⟩
    · exact h'.heap.apart b h1
  · intro p hp hro b hb' hlt
    rcases List.mem_cons.1 hp with rfl | hp
    · rw [upd_same] at hb'; exact (hb b hb').2.2.2 hlt
    · rw [hF p hp] at hb'
      exact h'.mine p hp hro b hb' hlt
  · intro t
    show Rep w ok _ (get t (kill k s.tm)) _; refine Rep.stable (w := w) (ρ := ρ) (fun _ _ => rfl) (fun _ hb => hb) (fun o ho => upd_other _ _ (fun e => kill_refs k t s.tm (e ▸ ho))) ?_; rw [get_kill]
    split
    · exact .junk _
    · exact hi.slots t
end
end Go.Lift
/- The lifted logic, part 48: appending to lists that own. Own work. -/
namespace Go.Lift
open Go.RowKit
section
variable {P : Program} {E : Ent} {Q : Exit → LState → Prop} {s : LState} {all : Array Oper} {rest : List Oper} {d : Nat} {ty : TypeId} {pos : String} {af : Array Edge}
theorem Inv'.alloc {a : Act} {w : World} {ok : Nat → Prop} {ρ : Env} {F : Nat → List Nat} (h : Inv' E s a w ok ρ F) (o : Obj) : Inv' E s a (w.alloc o) ok ρ F := by
  have hob : ∀ b, ok b → (w.alloc o).heap[b]? = w.heap[b]? := fun b hb => heap_alloc_lt w _ b (h.okk b hb).1; refine { defers := h.defers, size := h.size, ext := h.ext.alloc _, okk := fun b hb => ⟨by simp; have := (h.okk b hb).1; omega, (h.okk b hb).2⟩, heap := ⟨h.heap.keys, ?_, h.heap.nodup, ?_⟩, mine := h.mine, slots := ?_, keep := h.keep }
  · intro p hp
    exact (h.heap.objs p hp).stable hob (fun _ hb => hb) (fun b hb => heap_alloc_lt w _ b (h.heap.apart b (mem_fpsOf.2 ⟨p, hp, hb⟩)).2) rfl (fun _ _ => rfl)
  · intro b hb
    have := h.heap.apart b hb; exact ⟨this.1, by simp; omega⟩
  · intro t
    exact (h.slots t).stable hob (fun _ hb => hb) (fun _ _ => rfl)
end
end Go.Lift
/- The lifted logic, part 49: lists that own, as mirrors tell them. Own work. -/
namespace Go.Lift
open Go.RowKit
section
variable {P : Program} {E : Ent} {Q : Exit → LState → Prop} {s : LState} {all : Array Oper} {rest : List Oper} {d : Nat} {ty : TypeId} {pos : String} {af : Array Edge}
theorem SinkL.rep {h : LHeap} {cs ds : List LV} (hs : SinkL h cs ds []) : ∀ n : Nat, SinkL h (List.replicate n cs).flatten (List.replicate n ds).flatten []
  | 0 => .nil
  | n + 1 => by
    rw [List.replicate_succ, List.flatten_cons, List.replicate_succ, List.flatten_cons]
    have app : ∀ {a b c e : List LV} {k k' : List Nat}, SinkL h a b k → SinkL h c e k' → SinkL h (a ++ c) (b ++ e) (k ++ k') := by
      intro a
      induction a with
      | nil => intro b c e k k' h1 h2; cases h1; exact h2
      | cons x a ih =>
        intro b c e k k' h1 h2; cases h1 with
        | cons g1 g2 => rw [List.append_assoc]; exact .cons g1 (ih g2 h2)
    exact app hs (SinkL.rep hs n)
end
section
variable {P : Program}
end
end Go.Lift
/- The lifted logic, part 50: calls that take a list that owns, and hand one back. Own work. -/
namespace Go.Lift
open Go.RowKit
section
variable {P : Program} {E : Ent} {Q : Exit → LState → Prop} {s : LState} {all : Array Oper} {rest : List Oper} {d : Nat} {ty : TypeId} {pos : String} {af : Array Edge}
end
end Go.Lift
/- The lifted logic, part 51: structs that own, handed back. Own work. -/
namespace Go.Lift
open Go.RowKit
theorem DeepL.imms {w : World} {ok : Nat → Prop} : ∀ {xs : List LV} {us : List Value} {g : List Nat}, immL xs = true → DeepL w xs us g → g = [] ∧ FroL w ok xs us
  | [], _, _, _, .nil => ⟨rfl, .nil⟩
  | x :: xs, _, _, h1, .cons h3 h4 h5 => by
    cases x <;> simp [immL, LV.noFro.immL] at h1; cases h3; obtain ⟨rfl, h6⟩ := DeepL.imms (ok := ok) h1 h5; exact ⟨rfl, .cons (.imm _) h4 h6⟩
theorem Deep.sl_inv {w : World} {sz : Nat} {zs : List LV} {v : Value} {f : List Nat} (h : Deep w (.sl sz zs) v f) : (zs = [] ∧ f = [] ∧ ∃ a, v = .slice a 0 0) ∨
    ∃ c B vs arr t fps, f = B :: fps ∧ v = .slice (some ⟨B, 0, none⟩) zs.length c ∧ (∀ x ∈ zs, x.cells.length = sz) ∧ DeepL w (zs.flatMap LV.cells) vs fps ∧ w.heap[B]? = some (.cells arr t (0, 0)) ∧ c * sz ≤ arr.size ∧ (∀ (k : Nat) (v : Value), vs[k]? = some v → arr[k]? = some v) ∧ zs.length ≤ c ∧ c ≤ maxLen := by
  cases h with
  | sl0 => exact .inl ⟨rfl, rfl, _, rfl⟩
  | sl h1 h2 h3 h4 h5 h6 h7 => exact .inr ⟨_, _, _, _, _, _, rfl, rfl, h1, h2, h3, h4, h5, h6, h7⟩
section
variable {P : Program} {E : Ent} {Q : Exit → LState → Prop} {s : LState} {all : Array Oper} {rest : List Oper} {d : Nat} {ty : TypeId} {pos : String} {af : Array Edge}
end
end Go.Lift
/- The lifted logic, part 52: calls that hand back a list that owns, and a value. Own work. -/
namespace Go.Lift
open Go.RowKit
section
variable {P : Program} {E : Ent} {Q : Exit → LState → Prop} {s : LState} {all : Array Oper} {rest : List Oper} {d : Nat} {ty : TypeId} {pos : String} {af : Array Edge}
end
end Go.Lift
/- The lifted logic, part 53: structs that own several lists, handed back. Own work. -/
namespace Go.Lift
open Go.RowKit
inductive Outs : List LV → List LV → LHeap → Prop
  | nil : Outs [] [] []
  | imm {v : Value} {xs ys : List LV} {os : LHeap} : Outs xs ys os → Outs (.imm v :: xs) (.imm v :: ys) os
  | sl {k sz n : Nat} {kd : Kind} {zs xs ys : List LV} {os : LHeap} : (kd = .deep ∨ kd = .fro ∧ immL (zs.flatMap LV.cells) = true) → n = zs.length → Outs xs ys os → Outs (.sl sz zs :: xs) (.own k 0 n :: ys) ((k, { kind := kd, sz := sz, elems := zs }) :: os)
def killS : LHeap → Tm → Tm
  | [], t => t
  | (k, _) :: os, t => kill k (killS os t)
def addS : LHeap → LHeap → LHeap
  | [], h => h
  | (k, o) :: os, h => (k, o) :: hdel k (addS os h)
def loneS : LHeap → LHeap → Bool
  | [], _ => true
  | (k, _) :: os, h => lone k (hdel k (addS os h)) && (!(hkeys os).contains k && loneS os h)
theorem Outs.refs {xs ys : List LV} {os : LHeap} (h : Outs xs ys os) : LV.refs.refsL ys = hkeys os := by
  induction h with
  | nil => rfl
  | imm _ ih => simpa [LV.refs.refsL, LV.refs] using ih
  | sl _ _ _ ih => simp [LV.refs.refsL, LV.refs, hkeys] at ih ⊢; exact ih
section
variable {P : Program} {E : Ent} {Q : Exit → LState → Prop} {s : LState} {all : Array Oper} {rest : List Oper} {d : Nat} {ty : TypeId} {pos : String} {af : Array Edge}
theorem Outs.run {a : Act} {w : World} {ok : Nat → Prop} {ρ : Env} {F : Nat → List Nat} (hi : Inv' E s a w ok ρ F) {cs ys : List LV} {os : LHeap} (ho : Outs cs ys os) : ∀ {vs : List Value} {fr : List Nat}, DeepL w cs vs fr → fr.Nodup →
    (∀ b ∈ fr, ¬ ok b ∧ b < w.heap.size ∧ b ∉ fpsOf F s.h ∧ (b < E.w0.heap.size → b ∈ E.lent)) → loneS os s.h = true → (∀ k ∈ hkeys os, E.keep.contains k = false) →
    ∃ ρ' F', Inv' E { tm := killS os s.tm, h := addS os s.h } a w ok ρ' F' ∧ RepL w ok ρ' ys vs ∧ ∀ b ∈ fpsOf F' (addS os s.h), b ∈ fr ∨ b ∈ fpsOf F s.h := by
  induction ho with
  | nil =>
    intro vs fr hD _ _ _ _; cases hD; exact ⟨ρ, F, hi, .nil, fun b hb => .inr hb⟩
  | imm _ ih =>
    intro vs fr hD hn hb hl hk; cases hD with
    | cons h1 h2 h3 =>
      cases h1; obtain ⟨ρ', F', g1, g2, g3⟩ := ih h3 hn hb hl hk; exact ⟨ρ', F', g1, .cons (.fro (.imm _)) h2 g2, g3⟩
  | @sl k sz n kd zs xs ys os hkd hnz hO ih =>
    intro vs fr hD hn hb hl hk; subst hnz; unfold loneS at hl; rw [Bool.and_eq_true, Bool.and_eq_true] at hl; obtain ⟨hl1, hl2, hl3⟩ := hl; cases hD with
    | @cons _ v _ vs' fB g h1 h2 h3 =>
      rw [List.nodup_append] at hn; obtain ⟨n1, n2, n3⟩ := hn; obtain ⟨ρ1, F1, q1, q2, q3⟩ := ih h3 n2 (fun b hb' => hb b (by simp [hb'])) hl3 (fun j hj => hk j (by simp [hkeys] at hj ⊢; exact .inr hj)); have hkk := hk k (by simp [hkeys])
      have hkr : k ∉ LV.refs.refsL ys := by
        rw [hO.refs]; simpa using hl2
      have hbB : ∀ b ∈ fB, ¬ ok b ∧ b < w.heap.size ∧ b ∉ fpsOf F1 (addS os s.h) ∧ (b < E.w0.heap.size → b ∈ E.lent) := fun b hb' => by
        have h := hb b (by simp [hb']); refine ⟨h.1, h.2.1, fun hm => ?_, h.2.2.2⟩; rcases q3 b hm with h4 | h4
        · exact n3 b hb' b h4 rfl
        · exact h.2.2.1 h4
      have fin : ∀ pl : Option Place, ObjRep w ok (upd ρ1 k pl) k { kind := kd, sz := sz, elems := zs } fB → Rep w ok (upd ρ1 k pl) (.own k 0 zs.length) v →
          ∃ ρ' F', Inv' E { tm := killS ((k, { kind := kd, sz := sz, elems := zs }) :: os) s.tm, h := addS ((k, { kind := kd, sz := sz, elems := zs }) :: os) s.h } a w ok ρ' F' ∧ RepL w ok ρ' (.own k 0 zs.length :: ys) (v :: vs') ∧ ∀ b ∈ fpsOf F' (addS ((k, { kind := kd, sz := sz, elems := zs }) :: os) s.h), b ∈ fB ++ g ∨ b ∈ fpsOf F s.h := by
        intro pl p1 p2; have hi2 := settle_at q1 k hkk hl1 n1 hbB pl _ p1; refine ⟨_, _, hi2, .cons p2 h2 (RepL.stable (fun _ _ => rfl) (fun _ hb => hb) (fun o ho => upd_other _ _ (fun e => hkr (e ▸ ho))) q2), fun b hb' => ?_⟩; obtain ⟨q, hq, hb2⟩ := mem_fpsOf.1 hb'; rcases List.mem_cons.1 hq with rfl | hq
        · rw [upd_same] at hb2
          exact .inl (by simp [hb2])
        · rw [upd_other F1 fB (show q.1 ≠ k from not_key (hdel_key k _) q hq)] at hb2
          rcases q3 b (mem_fpsOf.2 ⟨q, (hdel_sub k _).mem hq, hb2⟩) with h4 | h4
          · exact .inl (by simp [h4])
          · exact .inr h4
      rcases h1.sl_inv with ⟨rfl, rfl, A, rfl⟩ | ⟨c, B, us, arr2, t2, fps2, rfl, rfl, m1, m2, m3, m4, m5, m6, m7⟩
      · exact fin none (.inl ⟨by simp, rfl, rfl⟩) .own0
      · refine fin (some ⟨B, c, sz⟩) (.inr ⟨⟨B, c, sz⟩, arr2, t2, us, fps2, by simp, rfl, { sz := rfl, unif := m1, len := m6, cap := m7, blk := m3, room := m4, vals := m5, cells := ?_ }⟩) ?_
        · rcases hkd with rfl | ⟨rfl, himm⟩
          · exact m2
          · exact DeepL.imms himm m2
        · have := Rep.own (w := w) (ok := ok) (ρ := upd ρ1 k (some ⟨B, c, sz⟩)) (o := k) (off := 0) (n := zs.length) (c := c) (p := ⟨B, c, sz⟩) (by simp) (by simp) m6
          simpa using this
end
end Go.Lift
/- The lifted logic, part 54: a list of one's own lent to be read; what comes back may lead to its elements, never to the list. Own work. -/
namespace Go.Lift
open Go.RowKit
section
variable {P : Program} {E : Ent} {Q : Exit → LState → Prop} {s : LState} {all : Array Oper} {rest : List Oper} {d : Nat} {ty : TypeId} {pos : String} {af : Array Edge}
end
end Go.Lift
/- The lifted logic, part 55: regions of open order in which what leads to what is told until an operation. Own work. -/
namespace Go.Lift
open Go.RowKit
section
variable {P : Program} {E : Ent} {Q : Exit → LState → Prop}
def DSEB (P : Program) (E : Ent) (KB : List ((Nat × Nat) × List Nat)) (all : Array Oper) : List Oper → List (List Nat × List Nat × List (Nat × Nat)) → Nat → List SF → List HF → (List SF → List HF → List Rec → Prop) → Prop
  | o :: os, (rd, hk, KS) :: ps, i, acc, ah, k => (rd.all (hasT · acc) && hk.all (hasH · ah)) = true ∧ ∃ ef : Ef, ef.good KS ∧ (∀ p ∈ KB, p.2.contains i = true ∨ ef.good [p.1]) ∧ (∀ u : LState, Good KS u → AllF u.tm (rd.map (look · acc)) → AllH u.h (hk.map (lookH · ah)) → LWo P E all [o] (fun e t => e = .normal ∧ (t = ef.run u ∨ t.le (ef.run u)) ∧ Good KS t) u) ∧
      DSEB P E KB all os ps (i + 1) (ef.accS i acc) (ef.accH i ah) (fun a b r => k a b (⟨ef, rd.map (look · acc), hk.map (lookH · ah)⟩ :: r))
  | [], [], _, acc, ah, k => k acc ah []
  | _, _, _, _, _, _ => False
theorem DSEB.out {KB : List ((Nat × Nat) × List Nat)} {all : Array Oper} : ∀ {os : List Oper} {ps : List (List Nat × List Nat × List (Nat × Nat))} {i : Nat} {acc : List SF} {ah : List HF} {k : List SF → List HF → List Rec → Prop}, DSEB P E KB all os ps i acc ah k →
    ∃ (acc' : List SF) (ah' : List HF) (recs : List Rec), k acc' ah' recs ∧ recs.length = os.length ∧ (∀ (j : Nat) (o : Oper) (r : Rec), os[j]? = some o → recs[j]? = some r → r.ok P E ((ps.map (·.2.2)).getD j []) all o ∧ ∀ p ∈ KB, p.2.contains (i + j) = true ∨ r.ef.good [p.1]) ∧
      (∀ f ∈ acc, f ∈ acc') ∧ (∀ f ∈ ah, f ∈ ah') ∧
      (∀ f ∈ acc', f ∈ acc ∨ ∃ j r, f.est = some (i + j) ∧ recs[j]? = some r ∧ r.ef.dst = some f.t ∧ (∀ s, get f.t (r.ef.run s).tm = f.v) ∧ f.rf = f.v.refs) ∧
      (∀ f ∈ ah', f ∈ ah ∨ ∃ j r, f.est = some (i + j) ∧ recs[j]? = some r ∧ (∀ s, hget f.k (r.ef.run s).h = some f.obj)) ∧
      (∀ r ∈ recs, (∀ f ∈ r.rs, f ∈ acc') ∧ ∀ f ∈ r.rk, f ∈ ah')
  | o :: os, (rd, hk, KS) :: ps, i, acc, ah, k, ⟨hin, ef, hgood, hb, h1, h2⟩ => by
    obtain ⟨acc', ah', recs, hk', hlen, hok, hsub, hsubH, hnew, hnewH, hreq⟩ := DSEB.out h2; simp only [Bool.and_eq_true] at hin
    have hs1 : ∀ f ∈ acc, f ∈ ef.accS i acc := by
      intro f hf; cases ef with
      | put d y => simp [Ef.accS, hf]
      | upd d y k o => cases d <;> simp [Ef.accS, hf]
      | make d y k o => simp [Ef.accS, hf]
    have hs2 : ∀ f ∈ ah, f ∈ ef.accH i ah := by
      intro f hf; cases ef <;> simp [Ef.accH, hf]
    refine ⟨acc', ah', _, hk', by simp [hlen], ?_, fun f hf => hsub f (hs1 f hf), fun f hf => hsubH f (hs2 f hf), ?_, ?_, ?_⟩
    · intro j o' r ho hr
      cases j with
      | zero =>
        simp at ho hr; subst ho; subst hr; refine ⟨⟨hgood, fun u hu hrs hrk => ?_⟩, by simpa using hb⟩; exact h1 u hu (AllF.of hrs) (AllH.of hrk)
      | succ j =>
        simp at ho hr; obtain ⟨g1, g2⟩ := hok j o' r ho hr; exact ⟨by simpa using g1, by rw [show i + (j + 1) = i + 1 + j from by omega]; exact g2⟩
    · intro f hf
      rcases hnew f hf with h | ⟨j, r, he, hr, h⟩
      · cases ef with
        | put d y =>
          rcases List.mem_cons.1 h with rfl | h
          · exact .inr ⟨0, _, by simp, rfl, rfl, fun s => by simp [Ef.run, LState.put, get], rfl⟩
          · exact .inl h
        | upd d y kk obj =>
          cases d with
          | none => exact .inl h
          | some d =>
            rcases List.mem_cons.1 h with rfl | h
            · exact .inr ⟨0, _, by simp, rfl, rfl, fun s => by simp [Ef.run, LState.put, get], rfl⟩
            · exact .inl h
        | make d y kk obj =>
          rcases List.mem_cons.1 h with rfl | h
          · exact .inr ⟨0, _, by simp, rfl, rfl, fun s => by simp [Ef.run, get], rfl⟩
          · exact .inl h
      · exact .inr ⟨j + 1, r, by rw [he]; congr 1; omega, by simpa using hr, h⟩
    · intro f hf
      rcases hnewH f hf with h | ⟨j, r, he, hr, h⟩
      · cases ef with
        | put d y => exact .inl h
        | upd d y kk obj =>
          rcases List.mem_cons.1 h with rfl | h
          · refine .inr ⟨0, _, by simp, rfl, fun s => ?_⟩
            cases d <;> simp [Ef.run, LState.put, hget]
          · exact .inl h
        | make d y kk obj =>
          rcases List.mem_cons.1 h with rfl | h
          · exact .inr ⟨0, _, by simp, rfl, fun s => by simp [Ef.run, hget]⟩
          · exact .inl h
      · exact .inr ⟨j + 1, r, by rw [he]; congr 1; omega, by simpa using hr, h⟩
    · intro r hr
      rcases List.mem_cons.1 hr with rfl | hr
      · refine ⟨fun f hf => ?_, fun f hf => ?_⟩
        · obtain ⟨t, ht, rfl⟩ := List.mem_map.1 hf
          exact hsub _ (hs1 _ (look_mem (List.all_eq_true.1 hin.1 t ht)))
        · obtain ⟨t, ht, rfl⟩ := List.mem_map.1 hf
          exact hsubH _ (hs2 _ (lookH_mem (List.all_eq_true.1 hin.2 t ht)))
      · exact hreq r hr
  | [], [], i, acc, ah, k, h => ⟨acc, ah, [], h, rfl, by simp, by simp, by simp, fun f hf => .inl hf, fun f hf => .inl hf, by simp⟩
end
end Go.Lift
/- The lifted logic, part 56: lists some of whose parts are owned: taken out, put back, stored. Own work. -/
namespace Go.Lift
open Go.RowKit
theorem MCells.length {w : World} {ok : Nat → Prop} {ρ : Env} {xs : List LV} {vs : List Value} {f : List Nat} (h : MCells w ok ρ xs vs f) : xs.length = vs.length := by
  induction h with
  | nil => rfl
  | cons _ _ _ ih => simp [ih]
theorem MCells.append {w : World} {ok : Nat → Prop} {ρ : Env} {xs ys : List LV} {vs us : List Value} {f g : List Nat} (h : MCells w ok ρ xs vs f) (k : MCells w ok ρ ys us g) : MCells w ok ρ (xs ++ ys) (vs ++ us) (f ++ g) := by
  induction h with
  | nil => exact k
  | cons h h1 _ ih => rw [List.append_assoc]; exact .cons h h1 ih
theorem MCells.cut {w : World} {ok : Nat → Prop} {ρ : Env} {xs : List LV} {vs : List Value} {f : List Nat} (h : MCells w ok ρ xs vs f) : ∀ n : Nat, ∃ fA fC, f = fA ++ fC ∧ MCells w ok ρ (xs.take n) (vs.take n) fA ∧ MCells w ok ρ (xs.drop n) (vs.drop n) fC := by
  induction h with
  | nil => intro n; exact ⟨[], [], rfl, by simpa using MCells.nil, by simpa using MCells.nil⟩
  | @cons x v xs vs f g h h1 h2 ih =>
    intro n; cases n with
    | zero => exact ⟨[], _, rfl, by simpa using MCells.nil, by simpa using MCells.cons h h1 h2⟩
    | succ n =>
      obtain ⟨fA, fC, rfl, hA, hC⟩ := ih n; exact ⟨f ++ fA, fC, by rw [List.append_assoc], by simpa using MCells.cons h h1 hA, by simpa using hC⟩
theorem MCells.put {w : World} {ok : Nat → Prop} {ρ : Env} {xs ys : List LV} {vs us : List Value} {f g : List Nat} (h : MCells w ok ρ xs vs f) (q : Nat) (hy : MCells w ok ρ ys us g) : ∃ fA fB fC, f = fA ++ (fB ++ fC) ∧ MCells w ok ρ (setRange xs q ys) (vs.take q ++ us ++ vs.drop (q + ys.length)) (fA ++ g ++ fC) := by
  obtain ⟨fA, fR, rfl, hA, hR⟩ := h.cut q; obtain ⟨fB, fC, rfl, hB, hC⟩ := hR.cut ys.length; refine ⟨fA, fB, fC, rfl, ?_⟩; rw [List.drop_drop, List.drop_drop] at hC; exact (hA.append hy).append hC
inductive SinkM1 (h : LHeap) : LV → LV → List Nat → Prop
  | imm (v : Value) : SinkM1 h (.imm v) (.imm v) []
  | nilnw {sz : Nat} : SinkM1 h (.imm (.slice none 0 0)) (.nw sz [] false) []
  | fz {x : LV} : x.pure = true → SinkM1 h x (.tup [x]) []
  | own {k n : Nat} {obj : LObj} : hget k h = some obj → obj.ro = false → obj.kind = .fro → n = obj.elems.length → SinkM1 h (.own k 0 n) (.nw obj.sz obj.elems false) [k]
inductive SinkM (h : LHeap) : List LV → List LV → List Nat → Prop
  | nil : SinkM h [] [] []
  | cons {x y : LV} {xs ys : List LV} {ks ks' : List Nat} : SinkM1 h x y ks → SinkM h xs ys ks' → SinkM h (x :: xs) (y :: ys) (ks ++ ks')
theorem SinkM.length {h : LHeap} : ∀ {xs ys : List LV} {ks : List Nat}, SinkM h xs ys ks → xs.length = ys.length
  | _, _, _, .nil => rfl
  | _, _, _, .cons _ h => by simp [h.length]
theorem SinkM1.inh {h : LHeap} {x y : LV} {ks : List Nat} (hs : SinkM1 h x y ks) : ∀ k ∈ ks, ∃ obj, hget k h = some obj ∧ obj.ro = false := by
  cases hs with
  | own ho hro _ _ => intro k hk; simp at hk; subst hk; exact ⟨_, ho, hro⟩
  | _ => simp
theorem SinkM.inh {h : LHeap} : ∀ {xs ys : List LV} {ks : List Nat}, SinkM h xs ys ks → ∀ k ∈ ks, ∃ obj, hget k h = some obj ∧ obj.ro = false
  | _, _, _, .nil, k, hk => by simp at hk
  | _, _, _, .cons h h', k, hk => by
    rcases List.mem_append.1 hk with hk | hk
    · exact h.inh k hk
    · exact h'.inh k hk
section
variable {P : Program} {E : Ent} {Q : Exit → LState → Prop} {s : LState} {all : Array Oper} {rest : List Oper} {d : Nat} {ty : TypeId} {pos : String} {af : Array Edge}
theorem SinkM1.mix {a : Act} {w : World} {ok : Nat → Prop} {ρ : Env} {F : Nat → List Nat} (hi : Inv' E s a w ok ρ F) {x y : LV} {ks : List Nat} (hs : SinkM1 s.h x y ks) {v : Value} (hr : Rep w ok ρ x v) : ∃ g, MCell w ok ρ y v g ∧ g.Sublist (ks.flatMap F) := by
  cases hs with
  | imm u => rw [hr.imm_inv]; exact ⟨[], .imm _, by simp⟩
  | nilnw => rw [hr.imm_inv]; exact ⟨[], .nw0, by simp⟩
  | fz hp => exact ⟨[], .fz (Rep.pure hp hr), by simp⟩
  | @own k n obj ho hro hk hn =>
    rcases hr.own_inv with ⟨p, c, hp, h2, h3, rfl⟩ | ⟨h0, A, rfl⟩
    · rcases hi.heap.objs _ (hget_mem ho) with ⟨h4, _⟩ | ⟨p', arr, t, vs, fps, h4, hF, hobj⟩
      · rw [hp] at h4; cases h4
      · rw [hp] at h4; cases h4
        have hF' : F k = p.blk :: fps := hF; have hsz : p.sz = obj.sz := hobj.sz; have hcells := hobj.cells; rw [show (k, obj).2.kind = obj.kind from rfl, hk] at hcells; have hroom : p.cap * p.sz ≤ arr.size := hobj.room; have hcap : p.cap ≤ maxLen := hobj.cap; refine ⟨[p.blk], ?_, by rw [List.flatMap_cons, hF']; simp⟩; have := MCell.nw (w := w) (ok := ok) (ρ := ρ) (sz := obj.sz) (c := c) (B := p.blk) (ys := obj.elems) hobj.unif hcells.2 hobj.blk (by rw [← hsz]; exact Nat.le_trans (Nat.mul_le_mul_right _ (by omega)) hroom) hobj.vals (by omega) (by omega); rw [← hn] at this; simpa using this
    · rw [h0] at hn
      have : obj.elems = [] := List.eq_nil_of_length_eq_zero hn.symm; rw [this]; exact ⟨[], .nw0, by simp⟩
theorem SinkM.mix {a : Act} {w : World} {ok : Nat → Prop} {ρ : Env} {F : Nat → List Nat} (hi : Inv' E s a w ok ρ F) : ∀ {xs ys : List LV} {ks : List Nat}, SinkM s.h xs ys ks → ∀ {vs : List Value}, RepL w ok ρ xs vs → ∃ g, MCells w ok ρ ys vs g ∧ g.Sublist (ks.flatMap F)
  | _, _, _, .nil, _, .nil => ⟨[], .nil, by simp⟩
  | _, _, _, .cons h h', _, .cons hr h1 hr' => by
    obtain ⟨g1, e1, e2⟩ := h.mix hi hr; obtain ⟨g2, e3, e4⟩ := SinkM.mix hi h' hr'; exact ⟨g1 ++ g2, .cons e1 h1 e3, by rw [List.flatMap_append]; exact e2.append e4⟩
end
end Go.Lift
/- The lifted logic, part 57: lists some of whose parts are owned, as mirrors tell them. Own work. -/
namespace Go.Lift
open Go.RowKit
inductive UnM1 : LV → LV → Prop
  | imm (v : Value) : UnM1 (.imm v) (.imm v)
  | fz (x : LV) : UnM1 (.tup [x]) x
  | nw (sz : Nat) (xs : List LV) : UnM1 (.nw sz xs false) (.sl sz xs)
inductive UnML : List LV → List LV → Prop
  | nil : UnML [] []
  | cons {x y : LV} {xs ys : List LV} : UnM1 x y → UnML xs ys → UnML (x :: xs) (y :: ys)
theorem UnML.append {a b c d : List LV} (h : UnML a b) (k : UnML c d) : UnML (a ++ c) (b ++ d) := by
  induction h with
  | nil => exact k
  | cons h _ ih => exact .cons h ih
theorem UnML.length {a b : List LV} (h : UnML a b) : a.length = b.length := by
  induction h with
  | nil => rfl
  | cons _ _ ih => simp [ih]
theorem UnML.map {α : Type} {f e : α → LV} (h : ∀ a, UnML (f a).cells (e a).cells) : ∀ l : List α, UnML ((l.map f).flatMap LV.cells) ((l.map e).flatMap LV.cells)
  | [] => .nil
  | a :: l => by
    rw [List.map_cons, List.flatMap_cons, List.map_cons, List.flatMap_cons]; exact (h a).append (UnML.map h l)
theorem UnML.fro {w : World} {ok ok' : Nat → Prop} {ρ : Env} (hok : ∀ b, ok b → ok' b) {xs : List LV} {vs : List Value} {fps : List Nat} (h : MCells w ok ρ xs vs fps) : ∀ {ys : List LV}, UnML xs ys → (∀ b ∈ fps, ok' b) → FroL w ok' ys vs := by
  induction h with
  | nil => intro ys hu _; cases hu; exact .nil
  | cons h h1 _ ih =>
    intro ys hu hf; cases hu with
    | cons h2 h3 =>
      refine .cons ?_ h1 (ih h3 (fun b hb => hf b (by simp [hb]))); cases h2 with
      | imm v => cases h; exact .imm _
      | fz x => cases h with | fz h => exact h.stable (fun _ _ => rfl) hok
      | nw sz zs =>
        cases h with
        | nw0 => exact .sl0 (Nat.zero_le _)
        | nw m1 m2 m3 m4 m5 m6 m7 =>
          rcases zs with _ | ⟨z, zs⟩
          · exact .sl0 m7
          · exact .sl (by simp) m1 (m2.stable (fun _ _ => rfl) hok) (cells_of m3 m5) (hf _ (by simp)) m6 m7
inductive MarkD1 : LV → LV → Prop
  | imm (v : Value) : MarkD1 (.imm v) (.imm v)
  | fz (sz : Nat) (xs : List LV) : MarkD1 (.sl sz xs) (.tup [.sl sz xs])
  | nw (sz : Nat) (xs : List LV) : MarkD1 (.sl sz xs) (.nw sz xs false)
inductive MarkDL : List LV → List LV → Prop
  | nil : MarkDL [] []
  | cons {x y : LV} {xs ys : List LV} : MarkD1 x y → MarkDL xs ys → MarkDL (x :: xs) (y :: ys)
theorem MarkDL.append {a b c d : List LV} (h : MarkDL a b) (k : MarkDL c d) : MarkDL (a ++ c) (b ++ d) := by
  induction h with
  | nil => exact k
  | cons h _ ih => exact .cons h ih
theorem MarkDL.length {a b : List LV} (h : MarkDL a b) : a.length = b.length := by
  induction h with
  | nil => rfl
  | cons _ _ ih => simp [ih]
theorem MarkDL.refs {a b : List LV} (h : MarkDL a b) : LV.refs.refsL b = [] := by
  induction h with
  | nil => rfl
  | cons h _ ih =>
    rw [LV.refs.refsL, ih, List.append_nil]; cases h <;> rfl
theorem MarkDL.map {α : Type} {f e : α → LV} (h : ∀ a, MarkDL (e a).cells (f a).cells) : ∀ l : List α, MarkDL ((l.map e).flatMap LV.cells) ((l.map f).flatMap LV.cells)
  | [] => .nil
  | a :: l => by
    rw [List.map_cons, List.flatMap_cons, List.map_cons, List.flatMap_cons]; exact (h a).append (MarkDL.map h l)
theorem MarkDL.cells {w : World} {ρ : Env} : ∀ {xs : List LV} {vs : List Value} {fps : List Nat}, DeepL w xs vs fps → fps.Nodup → ∀ {ys : List LV}, MarkDL xs ys → ∃ g : List Nat, g.Sublist fps ∧ ∀ ok : Nat → Prop, (∀ b ∈ fps, b ∉ g → ok b) → MCells w ok ρ ys vs g
  | _, _, _, .nil, _, _, .nil => ⟨[], by simp, fun _ _ => .nil⟩
  | _, _, _, .cons (v := v) (f := f) (g := g) h h1 h2, hn, _, .cons (y := y) k k2 => by
    rw [List.nodup_append] at hn; obtain ⟨n1, n2, n3⟩ := hn; obtain ⟨g2, s2, c2⟩ := MarkDL.cells (ρ := ρ) h2 n2 k2
    have one : ∃ g1 : List Nat, g1.Sublist f ∧ ∀ ok : Nat → Prop, (∀ b ∈ f, b ∉ g1 → ok b) → MCell w ok ρ y v g1 := by
      cases k with
      | imm v => cases h; exact ⟨[], by simp, fun _ _ => .imm v⟩
      | fz sz xs => exact ⟨[], by simp, fun ok hok => .fz (h.fro (fun b hb => hok b hb (by simp)))⟩
      | nw sz xs =>
        cases h with
        | sl0 => exact ⟨[], by simp, fun _ _ => .nw0⟩
        | @sl _ c B _ us arr t fps1 m1 m2 m3 m4 m5 m6 m7 =>
          refine ⟨[B], by simp, fun ok hok => .nw m1 (m2.fro (fun b hb => hok b (by simp [hb]) ?_)) m3 m4 m5 m6 m7⟩; have := (List.nodup_cons.1 n1).1; simp only [List.mem_singleton]; intro e; exact this (e ▸ hb)
    obtain ⟨g1, s1, c1⟩ := one; refine ⟨g1 ++ g2, s1.append s2, fun ok hok => .cons (c1 ok fun b hb hnb => hok b (by simp [hb]) ?_) h1 (c2 ok fun b hb hnb => hok b (by simp [hb]) ?_)⟩
    · rw [List.mem_append, not_or]
      exact ⟨hnb, fun hm => n3 b hb b (s2.mem hm) rfl⟩
    · rw [List.mem_append, not_or]
      exact ⟨fun hm => n3 b (s1.mem hm) b hb rfl, hnb⟩
section
variable {P : Program} {E : Ent} {Q : Exit → LState → Prop} {s : LState} {all : Array Oper} {rest : List Oper} {d : Nat} {ty : TypeId} {pos : String} {af : Array Edge}
theorem SinkM.rep {h : LHeap} {xs ys : List LV} (hs : SinkM h xs ys []) : ∀ n : Nat, SinkM h (List.replicate n xs).flatten (List.replicate n ys).flatten []
  | 0 => .nil
  | n + 1 => by
    rw [List.replicate_succ, List.flatten_cons, List.replicate_succ, List.flatten_cons]
    have app : ∀ {a b c d : List LV} {ks ks' : List Nat}, SinkM h a b ks → SinkM h c d ks' → SinkM h (a ++ c) (b ++ d) (ks ++ ks') := by
      intro a b c d ks ks' h1 h2
      induction h1 with
      | nil => exact h2
      | cons h h' ih => rw [List.append_assoc]; exact .cons h ih
    exact app hs (hs.rep n)
end
end Go.Lift
/- The lifted logic, part 58: lists some of whose parts are owned: appended to, handed back. Own work. -/
namespace Go.Lift
open Go.RowKit
theorem MCells.ones {w : World} {ok : Nat → Prop} {ρ : Env} {xs : List LV} {vs : List Value} {f : List Nat} (h : MCells w ok ρ xs vs f) : ∀ u ∈ vs, u.oneCell' = true := by
  induction h with
  | nil => simp
  | cons _ h1 _ ih =>
    intro u hu; rcases List.mem_cons.1 hu with rfl | hu
    · exact h1
    · exact ih u hu
section
variable {P : Program} {E : Ent} {Q : Exit → LState → Prop} {s : LState} {all : Array Oper} {rest : List Oper} {d : Nat} {ty : TypeId} {pos : String} {af : Array Edge}
end
end Go.Lift
/- Short forms of steps: what one may leave out. Own work. -/
namespace Go.Lift
open Go.RowKit
variable {P : Program} {E : Ent} {Q : Exit → LState → Prop} {s : LState} {all : Array Oper} {rest : List Oper} {ty : TypeId} {pos : String} {af : Array Edge}
theorem LWo.gN {op : Op} {j d : Nat} {b nw want : Bool} (t : Nat) (h : b = nw) (hn : LWo P E all rest Q (s.put (some d) (.imm undef)))
    (hb : get t s.tm = .imm (.bool b) := by exact rfl) (hd : (all[j]?).bind (·.dst) = some t := by exact rfl) (hlt : Nat.blt d E.n = true := by exact rfl) (hne : nw = !want := by exact rfl) :
    LWo P E all ({ dst := some d, op := op, type := ty, pos := pos, after := af, guard := some (j, want) } :: rest) Q s :=
  LWo.guardNU hb h rfl hd rfl hlt hne hn
theorem LWo.gY {dst : Option Nat} {op : Op} {j : Nat} {b want : Bool} (t : Nat) (h : b = want)
    (hn : LWo P E all ({ dst := dst, op := op, type := ty, pos := pos, after := af, guard := none } :: rest) Q s)
    (hb : get t s.tm = .imm (.bool b) := by exact rfl) (hd : (all[j]?).bind (·.dst) = some t := by exact rfl) :
    LWo P E all ({ dst := dst, op := op, type := ty, pos := pos, after := af, guard := some (j, want) } :: rest) Q s :=
  LWo.guardY hb h rfl hd hn
theorem so {α : Type} {a b : α} (h : some a = some b) : a = b := Option.some.inj h
theorem QG.p {t : Nat} {e : Exit} {r' : LV} (h1 : get t s.tm = r' := by exact rfl) (h2 : LV.pure r' = true := by exact rfl) (he : e = .normal ∨ e = .ret := by exact .inr rfl) : QG P E [.tmp t] (fun r h => r = r' ∧ h = []) e s :=
  QG.mk he (.cons (.tmp (x := r') h1) .nil) (RetOK.one0 (.pure h2) (by decide)) rfl rfl
end Go.Lift
/- The lifted logic, part 60: a list that was cut is given up. Own work. -/
namespace Go.Lift
open Go.RowKit
variable {P : Program} {E : Ent} {Q : Exit → LState → Prop} {s : LState} {all : Array Oper} {rest : List Oper}
theorem LWo.frzLc {α : Type} {ops : List Oper} {sz n : Nat} {f : α → LV} {l y : List α} (ts : List Nat) (k : Nat) (ho : hget k s.h = some (lob sz f l)) (hnl : n ≤ l.length) (hg : OwnAt s.tm k n ts) (hy : l.take n = y) (hn : LWo P E all ops Q { tm := slT (.sl sz (y.map f)) (kill k s.tm) ts, h := hdel k s.h }) : LWo P E all ops Q s :=
  LWo.ghost (fun _ _ hi => by
    have := hi.frzL hg ho (.inl rfl) rfl (by simpa [lob] using hnl); have e : (lob sz f l).elems.take n = y.map f := by rw [← hy]; simp [lob, List.map_take]
    rw [e] at this; exact this) hn
end Go.Lift
/- The lifted logic, part 61: a state written out anew inside a region. Own work. -/
namespace Go.Lift
open Go.RowKit
variable {P : Program} {E : Ent} {Q : Exit → LState → Prop} {s : LState} {all : Array Oper} {rest : List Oper}
end Go.Lift
/- The lifted logic, part 62: a variable that a closure writes; it is lent under any name. Own work. -/
namespace Go.Lift
open Go.RowKit
def LV.ren (k : Nat) : LV → LV
  | .ptr _ i j => .ptr k i j
  | .own _ off n => .own k off n
  | .ownc _ off n c => .ownc k off n c
  | .agg cs => .agg (renL k cs)
  | .tup cs => .tup (renL k cs)
  | .clo f cs => .clo f (renL k cs)
  | .junk => .junk
  | .imm v => .imm v
  | .sl sz xs => .sl sz xs
  | .fp cs => .fp cs
  | .nw sz xs d => .nw sz xs d
  | .nb cs => .nb cs
  | .dv cs => .dv cs
  | .mx sz xs => .mx sz xs
where renL (k : Nat) : List LV → List LV
  | [] => []
  | x :: xs => x.ren k :: renL k xs
mutual
theorem Rep.ren {w : World} {ok : Nat → Prop} {ρ : Env} {k : Nat} : ∀ {x : LV} {v : Value}, Rep w ok ρ (x.ren k) v → Rep w ok (fun _ => ρ k) x v
  | .junk, v, _ => .junk v
  | .imm u, v, h => Rep.stable (fun _ _ => rfl) (fun _ h => h) (by simp [LV.refs]) h
  | .sl sz xs, v, h => Rep.stable (fun _ _ => rfl) (fun _ h => h) (by simp [LV.refs]) h
  | .fp xs, v, h => Rep.stable (fun _ _ => rfl) (fun _ h => h) (by simp [LV.refs]) h
  | .nw sz xs d, v, h => Rep.stable (fun _ _ => rfl) (fun _ h => h) (by simp [LV.refs]) h
  | .nb cs, v, h => Rep.stable (fun _ _ => rfl) (fun _ h => h) (by simp [LV.refs]) h
  | .dv cs, v, h => Rep.stable (fun _ _ => rfl) (fun _ h => h) (by simp [LV.refs]) h
  | .mx sz cs, v, h => Rep.stable (fun _ _ => rfl) (fun _ h => h) (by simp [LV.refs]) h
  | .ptr o i j, v, h => by
    obtain ⟨p, hp, rfl⟩ := Rep.ptr_inv (o := k) (i := i) (j := j) h; exact .ptr (ρ := fun _ => ρ k) hp
  | .own o off n, v, h => by
    rcases Rep.own_inv (o := k) (off := off) (n := n) h with ⟨p, c, hp, h1, h2, rfl⟩ | ⟨rfl, a, rfl⟩
    · exact .own (ρ := fun _ => ρ k) hp h1 h2
    · exact .own0
  | .ownc o off n c, v, h => by
    rcases Rep.ownc_inv (o := k) (off := off) (n := n) (c := c) h with ⟨p, hp, h1, h2, rfl⟩ | ⟨rfl, rfl, a, rfl⟩
    · exact .ownc (ρ := fun _ => ρ k) hp h1 h2
    · exact .ownc0
  | .agg cs, v, h => by
    obtain ⟨vs, rfl, hl⟩ := Rep.agg_inv (cs := LV.ren.renL k cs) h; exact .agg (RepL.ren hl)
  | .clo f cs, v, h => by
    obtain ⟨vs, rfl, hl⟩ := Rep.clo_inv (f := f) (cs := LV.ren.renL k cs) h; exact .clo (RepL.ren hl)
  | .tup cs, v, h => by
    obtain ⟨vs, rfl, hl⟩ := Rep.tup_inv (cs := LV.ren.renL k cs) h; exact .tup (RepT.ren hl)
theorem RepL.ren {w : World} {ok : Nat → Prop} {ρ : Env} {k : Nat} : ∀ {xs : List LV} {vs : List Value}, RepL w ok ρ (LV.ren.renL k xs) vs → RepL w ok (fun _ => ρ k) xs vs
  | [], _, h => by cases h; exact .nil
  | x :: xs, _, h => by
    cases h with
    | cons h h1 h2 => exact .cons (Rep.ren h) h1 (RepL.ren h2)
theorem RepT.ren {w : World} {ok : Nat → Prop} {ρ : Env} {k : Nat} : ∀ {xs : List LV} {vs : List Value}, RepT w ok ρ (LV.ren.renL k xs) vs → RepT w ok (fun _ => ρ k) xs vs
  | [], _, h => by cases h; exact .nil
  | x :: xs, _, h => by
    cases h with
    | cons h h2 => exact .cons (Rep.ren h) (RepT.ren h2)
end
section
variable {P : Program}
theorem Does.nameX {f : FuncId} {obj : LObj} {xs : List LV} {R : LV → LObj → Prop} (hk : obj.kind = .box) (hrf : obj.refs = []) (hro : obj.ro = false) (hR : ∀ r o, R r o → o.refs = [] ∧ o.kind = .box) (h : Does P f xs [(0, obj)] (fun r h => ∃ o, R r o ∧ h = [(0, o)])) (k : Nat) :
    Does P f (LV.ren.renL k xs) [(k, obj)] (fun r h => ∃ o, R r o ∧ h = [(k, o)]) := by
  refine ⟨h.1, fun w vs ok ρ F hT hH hok => ?_⟩; have hFe : fpsOf (fun _ => F k) (rwOf [(0, obj)]) = fpsOf F (rwOf [(k, obj)]) := by simp [rwOf, hro, fpsOf]
  have cells : ∀ {w : World} {ok : Nat → Prop} {ρ ρ' : Env} {o : LObj} {vs : List Value} {fps : List Nat}, o.kind = .box → o.refs = [] → ObjCells w ok ρ o.kind (o.elems.flatMap LV.cells) vs fps → ObjCells w ok ρ' o.kind (o.elems.flatMap LV.cells) vs fps := by
    intro w ok ρ ρ' o vs fps hb hr hc; refine hc.stable (fun _ _ => rfl) (fun _ hb => hb) (fun _ _ => rfl) ?_; intro j hj; rw [hb] at hj; have : LV.refs.refsL (o.elems.flatMap LV.cells) = [] := by simpa [LObj.refs, hb] using hr
    simp only [this] at hj; cases hj
  have hH' : HeapOK w ok (fun _ => ρ k) (fun _ => F k) [(0, obj)] := by
    refine ⟨by simp [hkeys], fun p hp => ?_, ?_, ?_⟩
    · simp at hp; subst hp
      rcases hH.objs (k, obj) (by simp) with ⟨h1, h2, h3⟩ | ⟨p, arr, t, us, fps, h1, h2, h3⟩
      · exact .inl ⟨h1, h2, h3⟩
      · exact .inr ⟨p, arr, t, us, fps, h1, h2, { h3 with cells := cells hk hrf h3.cells }⟩
    · have := hH.nodup; simpa [fpsOf] using this
    · intro b hb
      exact hH.apart b (by simpa [fpsOf] using hb)
  refine (h.2 w vs ok (fun _ => ρ k) (fun _ => F k) (RepT.ren hT) hH' hok).mono fun e w' => ?_; rintro ⟨v, r, hl', ok', F', fr, he, ⟨o, hRo, rfl⟩, hext, hres, hk', ho', hn', hb', hok'⟩; obtain ⟨hr1, hr2⟩ := hR r o hRo; have hF1 : fpsOf (fun _ => F' 0) [(k, o)] = fpsOf F' [(0, o)] := by simp [fpsOf]
  refine ⟨v, r, [(k, o)], ok', fun _ => F' 0, fr, he, ⟨o, hRo, rfl⟩, hFe ▸ hext, hres, by simp [hkeys], ?_, hF1 ▸ hn', ?_, ?_⟩
  · intro p hp
    simp at hp; subst hp; obtain ⟨g1, g2, g3⟩ := ho' (0, o) (by simp); refine ⟨g1, by simp [rwOf, hro, hkeys], ?_⟩; rcases g3 with ⟨h1, h2, h3⟩ | ⟨p, arr, t, us, fps, h1, h2, h3⟩
    · exact .inl ⟨h1, h2, h3⟩
    · exact .inr ⟨p, arr, t, us, fps, h1, h2, { h3 with cells := cells hr2 hr1 h3.cells }⟩
  · rw [← hFe, hF1]; exact hb'
  · rw [← hFe]; exact hok'
theorem Does.nameW {f : FuncId} {obj obj' : LObj} {xs : List LV} {v : LV} (h : Does P f xs [(0, obj)] (fun r h => r = v ∧ h = [(0, obj')])) (hk : obj.kind = .box) (hrf : obj.refs = []) (hro : obj.ro = false) (hk' : obj'.kind = .box) (hrf' : obj'.refs = []) (k : Nat) :
    Does P f (LV.ren.renL k xs) [(k, obj)] (fun r h => r = v ∧ h = [(k, obj')]) :=
  (Does.nameX (R := fun r o => r = v ∧ o = obj') hk hrf hro (by rintro r o ⟨_, rfl⟩; exact ⟨hrf', hk'⟩) (h.mono fun r h ⟨h1, h2⟩ => ⟨_, ⟨h1, rfl⟩, h2⟩) k).mono fun r h ⟨o, ⟨h1, h2⟩, h3⟩ => ⟨h1, by rw [h3, h2]⟩
end
end Go.Lift
/- The lifted logic, part 63: a list without spare room, and what is put behind it. Own work. -/
namespace Go.Lift
open Go.RowKit
section
variable {P : Program} {E : Ent} {Q : Exit → LState → Prop} {s : LState} {all : Array Oper} {rest : List Oper} {d : Nat} {ty : TypeId} {pos : String} {af : Array Edge}
end
end Go.Lift
/- The lifted logic, part 64: a variable is lent, and given up; what comes back takes its name. Own work. -/
namespace Go.Lift
open Go.RowKit
section
variable {P : Program} {E : Ent} {Q : Exit → LState → Prop} {s : LState} {all : Array Oper} {rest : List Oper} {d : Nat} {ty : TypeId} {pos : String} {af : Array Edge}
end
end Go.Lift
/- Plain lemmas on mirrors: loops over lists, total functions. Own work. -/
namespace Go.Lift
def foldC {α S R : Type} (step : α → S → (S → Option R) → Option R) (J : S → Option R) : List α → S → Option R
  | [], s => J s
  | x :: xs, s => step x s (foldC step J xs)
theorem at_of {α : Type} {l : List α} {k : Nat} {x : α} (h : l[k]? = some x) : at? l (k : Int) = some x := by
  unfold at?; rw [if_pos (by omega)]; simpa using h
theorem lt_of_at {α : Type} {l : List α} {k : Nat} {x : α} (h : l[k]? = some x) : k < l.length := (List.getElem?_eq_some_iff.1 h).1
theorem scanC {α S R : Type} (xs : List α) (L : Nat → Int → S → Option R) (step : α → S → (S → Option R) → Option R) (J : S → Option R)
    (hs : ∀ n (k : Nat) x s, xs[k]? = some x → L (n + 1) (k : Int) s = step x s (fun s' => L n ((k : Int) + 1) s')) (he : ∀ n s, L (n + 1) (xs.length : Int) s = J s)
    (n : Nat) (hn : xs.length < n) (s : S) : L n 0 s = foldC step J xs s := by
  have key : ∀ (ys : List α) (k : Nat) (n : Nat) (s : S), xs.drop k = ys → k ≤ xs.length → ys.length < n → L n (k : Int) s = foldC step J ys s := by
    intro ys
    induction ys with
    | nil =>
      intro k n s hd hk hn
      have : k = xs.length := by
        have := congrArg List.length hd; simp at this; omega
      subst this; obtain ⟨m, rfl⟩ : ∃ m, n = m + 1 := ⟨n - 1, by simp at hn; omega⟩; exact he m s
    | cons y ys ih =>
      intro k n s hd hk hn
      have hlt : k < xs.length := by
        have := congrArg List.length hd; simp at this; omega
      have hy : xs[k]? = some y := by
        have := List.drop_eq_getElem_cons hlt; rw [hd] at this; simp only [List.cons.injEq] at this; rw [List.getElem?_eq_getElem hlt, this.1]
      have hd' : xs.drop (k + 1) = ys := by
        have := List.drop_eq_getElem_cons hlt; rw [hd] at this; simp only [List.cons.injEq] at this; exact this.2.symm
      obtain ⟨m, rfl⟩ : ∃ m, n = m + 1 := ⟨n - 1, by simp at hn; omega⟩; rw [hs m k y s hy]; simp only [foldC]
      congr 1
      funext s'
      have := ih (k + 1) m s' hd' (by omega) (by simp at hn; omega); simpa using this
  have := key xs 0 n s rfl (by omega) hn; simpa using this
theorem foldC_all {α R : Type} {p : α → Bool} {r0 r1 : R} : ∀ {l : List α}, foldC (S := Unit) (fun x s k => bif p x then some r0 else k s) (fun _ => some r1) l () = some (bif l.any p then r0 else r1)
  | [] => rfl
  | x :: l => by
    simp only [foldC, List.any_cons]; cases hp : p x
    · simpa using foldC_all (l := l)
    · simp
theorem scanA {α R : Type} {p : α → Bool} {r0 r1 : R} (xs : List α) (L : Nat → Int → Option R)
    (hs : ∀ n (k : Nat) x, xs[k]? = some x → L (n + 1) (k : Int) = bif p x then some r0 else L n ((k : Int) + 1)) (he : ∀ n, L (n + 1) (xs.length : Int) = some r1)
    (n : Nat) (hn : xs.length < n) : L n 0 = some (bif xs.any p then r0 else r1) := by
  have := scanC xs (fun n k (_ : Unit) => L n k) (fun x s k => bif p x then some r0 else k s) (fun _ => some r1) (fun n k x s hx => hs n k x hx) (fun n s => he n) n hn (); rw [this]; exact foldC_all
def all2 {α β : Type} (q : α → β → Bool) (a : List α) (b : List β) : Bool := (a.zip b).all fun p => q p.1 p.2
theorem scan2 {α β : Type} {q : α → β → Bool} (a : List α) (b : List β) (hl : a.length = b.length) (L : Nat → Int → Option Bool)
    (hs : ∀ n (k : Nat) x y, a[k]? = some x → b[k]? = some y → L (n + 1) (k : Int) = bif q x y then L n ((k : Int) + 1) else some false) (he : ∀ n, L (n + 1) (a.length : Int) = some true)
    (n : Nat) (hn : a.length < n) : L n 0 = some (all2 q a b) := by
  have hz : (a.zip b).length = a.length := by simp [hl]
  have := scanA (p := fun p : α × β => !(q p.1 p.2)) (r0 := false) (r1 := true) (a.zip b) L (by
    intro n k x hx; rw [List.getElem?_zip_eq_some] at hx; rw [hs n k x.1 x.2 hx.1 hx.2]; cases q x.1 x.2 <;> rfl) (by intro n; rw [hz]; exact he n) n (by rw [hz]; exact hn)
  rw [this]; unfold all2
  congr 1
  rw [List.all_eq_not_any_not]; cases (a.zip b).any fun p => !(q p.1 p.2) <;> rfl
theorem all2_eq {α : Type} [DecidableEq α] : ∀ {a b : List α}, a.length = b.length → all2 (fun x y => decide (x = y)) a b = decide (a = b)
  | [], [], _ => rfl
  | x :: a, y :: b, h => by
    have ih := all2_eq (a := a) (b := b) (by simpa using h); unfold all2 at ih ⊢; simp only [List.zip_cons_cons, List.all_cons, ih, List.cons.injEq]; rw [Bool.eq_iff_iff]; simp
theorem scanN {α R : Type} {p : α → Bool} {J : Int → Option R} (xs : List α) (L : Nat → Int → Int → Option R)
    (hs : ∀ n (k : Nat) x (s : Int), xs[k]? = some x → 0 ≤ s → s ≤ k → L (n + 1) (k : Int) s = L n ((k : Int) + 1) (bif p x then s + 1 else s)) (he : ∀ n s, L (n + 1) (xs.length : Int) s = J s)
    (n : Nat) (hn : xs.length < n) : L n 0 0 = J (xs.countP p) := by
  have key : ∀ (ys : List α) (k n : Nat) (s : Int), xs.drop k = ys → k ≤ xs.length → ys.length < n → 0 ≤ s → s ≤ k → L n (k : Int) s = J (s + ys.countP p) := by
    intro ys
    induction ys with
    | nil =>
      intro k n s hd hk hn h0 h1
      have : k = xs.length := by
        have := congrArg List.length hd; simp at this; omega
      subst this; obtain ⟨m, rfl⟩ : ∃ m, n = m + 1 := ⟨n - 1, by simp at hn; omega⟩; rw [he]; simp
    | cons y ys ih =>
      intro k n s hd hk hn h0 h1
      have hlt : k < xs.length := by
        have := congrArg List.length hd; simp at this; omega
      have hc := List.drop_eq_getElem_cons hlt; rw [hd] at hc; simp only [List.cons.injEq] at hc; obtain ⟨m, rfl⟩ : ∃ m, n = m + 1 := ⟨n - 1, by simp at hn; omega⟩; rw [hs m k y s (by rw [List.getElem?_eq_getElem hlt, hc.1]) h0 h1]; have := ih (k + 1) m (bif p y then s + 1 else s) hc.2.symm (by omega) (by simp at hn; omega) (by cases p y <;> simp <;> omega) (by cases p y <;> simp <;> omega); rw [show ((k : Int) + 1) = ((k + 1 : Nat) : Int) by omega, this, List.countP_cons]
      congr 1
      cases p y <;> simp <;> omega
  have := key xs 0 n 0 rfl (by omega) hn (by omega) (by omega); simpa using this
theorem scanF {α S R : Type} {f : S → α → S} {J : S → Option R} (I : Nat → S → Prop) (xs : List α) (L : Nat → Int → S → Option R)
    (hs : ∀ n (k : Nat) x s, xs[k]? = some x → I k s → L (n + 1) (k : Int) s = L n ((k : Int) + 1) (f s x) ∧ I (k + 1) (f s x)) (he : ∀ n s, I xs.length s → L (n + 1) (xs.length : Int) s = J s)
    (n : Nat) (hn : xs.length < n) (s : S) (h0 : I 0 s) : L n 0 s = J (xs.foldl f s) ∧ I xs.length (xs.foldl f s) := by
  have key : ∀ (ys : List α) (k n : Nat) (s : S), xs.drop k = ys → k ≤ xs.length → ys.length < n → I k s → L n (k : Int) s = J (ys.foldl f s) ∧ I xs.length (ys.foldl f s) := by
    intro ys
    induction ys with
    | nil =>
      intro k n s hd hk hn hI
      have : k = xs.length := by
        have := congrArg List.length hd; simp at this; omega
      subst this; obtain ⟨m, rfl⟩ : ∃ m, n = m + 1 := ⟨n - 1, by simp at hn; omega⟩; exact ⟨he m s hI, hI⟩
    | cons y ys ih =>
      intro k n s hd hk hn hI
      have hlt : k < xs.length := by
        have := congrArg List.length hd; simp at this; omega
      have hc := List.drop_eq_getElem_cons hlt; rw [hd] at hc; simp only [List.cons.injEq] at hc; obtain ⟨m, rfl⟩ : ∃ m, n = m + 1 := ⟨n - 1, by simp at hn; omega⟩; obtain ⟨h1, h2⟩ := hs m k y s (by rw [List.getElem?_eq_getElem hlt, hc.1]) hI; rw [h1, show ((k : Int) + 1) = ((k + 1 : Nat) : Int) by omega]; exact ih (k + 1) m (f s y) hc.2.symm (by omega) (by simp at hn; omega) h2
  have := key xs 0 n s rfl (by omega) hn h0; simpa using this
theorem dlt {k : Nat} {n : Nat} (h : k < n) : decide ((k : Int) < (n : Int)) = true := by simp; omega
theorem dnlt {n : Nat} : decide ((n : Int) < (n : Int)) = false := by simp
theorem ck1 {k : Nat} (h : k < 1000000000000) : ckI ((k : Int) + 1) = some ((k : Int) + 1) := ckI_of (by omega) (by omega)
theorem beqF {a b : Int} (h : ¬ a = b) : (a == b) = false := by simp [h]
theorem beqF' {a b : Int} (h : ¬ a = b) : (a != b) = true := by simp [h]
theorem fuel0 {n : Nat} : n < (((n : Int) - 0).toNat + 1) := by omega
def Tot {α : Type} (o : Option α) (Q : α → Prop) : Prop := ∃ x, o = some x ∧ Q x
theorem Tot.ret {α : Type} {x : α} {Q : α → Prop} (h : Q x) : Tot (some x) Q := ⟨x, rfl, h⟩
theorem Tot.bind {α β : Type} {o : Option α} {f : α → Option β} {P : α → Prop} {Q : β → Prop} (h : Tot o P) (k : ∀ x, P x → Tot (f x) Q) : Tot (o.bind f) Q := by
  obtain ⟨x, rfl, hx⟩ := h; exact k x hx
theorem Tot.eq {α β : Type} {o : Option α} {x : α} {f : α → Option β} {Q : β → Prop} (h : o = some x) (k : Tot (f x) Q) : Tot (o.bind f) Q := by subst h; exact k
theorem Tot.bif {α : Type} {b : Bool} {x y : Option α} {Q : α → Prop} (h1 : b = true → Tot x Q) (h0 : b = false → Tot y Q) : Tot (bif b then x else y) Q := by cases b; exact h0 rfl; exact h1 rfl
theorem Tot.lt {α β : Type} {x : α} {f : α → Option β} {Q : β → Prop} (h : Tot (f x) Q) : Tot (lt x f) Q := h
theorem Tot.mono {α : Type} {o : Option α} {P Q : α → Prop} (h : Tot o P) (k : ∀ x, P x → Q x) : Tot o Q := by obtain ⟨x, h1, h2⟩ := h; exact ⟨x, h1, k x h2⟩
theorem Tot.ck {β : Type} {x : Int} {f : Int → Option β} {Q : β → Prop} (h0 : -9223372036854775808 ≤ x) (h1 : x ≤ 9223372036854775807) (k : Tot (f x) Q) : Tot ((ckI x).bind f) Q := Tot.eq (ckI_of h0 h1) k
theorem Tot.app {α β : Type} {l r : List α} {f : List α → Option β} {Q : β → Prop} (h : l.length + r.length ≤ 1000000000000) (k : Tot (f (l ++ r)) Q) : Tot ((app? l r).bind f) Q := Tot.eq (app_of h) k
theorem Tot.at {α β : Type} {l : List α} {i : Int} {f : α → Option β} {Q : β → Prop} (h0 : 0 ≤ i) (h1 : i < l.length) (k : ∀ x ∈ l, Tot (f x) Q) : Tot ((at? l i).bind f) Q :=
  Tot.eq (at_someI h0 (by omega)) (k _ (List.getElem_mem _))
theorem Tot.cut {α β : Type} {l : List α} {lo hi : Int} {f : List α → Option β} {Q : β → Prop} (h : 0 ≤ lo ∧ lo ≤ hi ∧ hi ≤ l.length) (k : Tot (f ((l.take hi.toNat).drop lo.toNat)) Q) : Tot ((cut? l lo hi).bind f) Q :=
  Tot.eq (by unfold cut?; rw [if_pos h]) k
theorem Tot.rem {β : Type} {m n : Int} {f : Int → Option β} {Q : β → Prop} (h : n ≠ 0) (k : Tot (f (m.tmod n)) Q) : Tot ((remI m n).bind f) Q := Tot.eq (by unfold remI; rw [if_neg h]) k
theorem Tot.quo {β : Type} {m n : Int} {f : Int → Option β} {Q : β → Prop} (h : n ≠ 0) (h0 : -9223372036854775808 ≤ m.tdiv n) (h1 : m.tdiv n ≤ 9223372036854775807) (k : Tot (f (m.tdiv n)) Q) : Tot ((quoI m n).bind f) Q := Tot.eq (by unfold quoI; rw [if_neg h, ckI_of h0 h1]) k
theorem Tot.xor {β : Type} {m n : Int} {f : Int → Option β} {Q : β → Prop} (h : 0 ≤ m ∧ m < 4611686018427387904 ∧ 0 ≤ n ∧ n < 4611686018427387904) (k : ∀ z, 0 ≤ z → z < 4611686018427387904 → Tot (f z) Q) : Tot ((xorI m n).bind f) Q :=
  Tot.eq (by unfold xorI; rw [if_pos h]) (k _ (by omega) (by
    have h1 : m.toNat < 2 ^ 62 := by omega
    have h2 : n.toNat < 2 ^ 62 := by omega
    have := Nat.xor_lt_two_pow h1 h2; omega))
theorem Tot.down {R : Type} {Q : R → Prop} {S : Type} (L : Nat → Int → S → Option R) (I : Int → S → Prop)
    (h0 : ∀ n s, I 0 s → Tot (L (n + 1) 0 s) Q) (h : ∀ n t s, 0 < t → I t s → (∀ s', I (t - 1) s' → Tot (L n (t - 1) s') Q) → Tot (L (n + 1) t s) Q) : ∀ (n : Nat) (t : Int) s, 0 ≤ t → t < n → I t s → Tot (L n t s) Q := by
  intro n
  induction n with
  | zero => intro t s h1 h2; omega
  | succ n ih =>
    intro t s h1 h2 hI; rcases Int.lt_or_le 0 t with hp | hp
    · exact h n t s hp hI fun s' hs' => ih (t - 1) s' (by omega) (by omega) hs'
    · have : t = 0 := by omega
      subst this; exact h0 n s hI
theorem Tot.up {R : Type} {Q : R → Prop} {S : Type} (m : Int) (L : Nat → Int → S → Option R) (I : Int → S → Prop)
    (h0 : ∀ n s, I m s → Tot (L (n + 1) m s) Q) (h : ∀ n t s, 0 ≤ t → t < m → I t s → (∀ s', I (t + 1) s' → Tot (L n (t + 1) s') Q) → Tot (L (n + 1) t s) Q) : ∀ (n : Nat) (t : Int) s, 0 ≤ t → t ≤ m → m - t < n → I t s → Tot (L n t s) Q := by
  intro n
  induction n with
  | zero => intro t s h1 h2; omega
  | succ n ih =>
    intro t s h1 h2 h3 hI; rcases Int.lt_or_le t m with hp | hp
    · exact h n t s h1 hp hI fun s' hs' => ih (t + 1) s' (by omega) (by omega) (by omega) hs'
    · have : t = m := by omega
      subst this; exact h0 n s hI
end Go.Lift
/- Plain Lean: putting in order by insertion, from the end; what holds of it. Own work. -/
namespace Go.Lift
def insE {α : Type} (gt : α → α → Bool) (out : List α) (r : α) : List α :=
  (out.reverse.dropWhile (gt · r)).reverse ++ r :: (out.reverse.takeWhile (gt · r)).reverse
def isort {α : Type} (gt : α → α → Bool) (l : List α) : List α := l.foldl (insE gt) []
theorem insE_split {α : Type} (gt : α → α → Bool) (out : List α) (r : α) : (out.reverse.dropWhile (gt · r)).reverse ++ (out.reverse.takeWhile (gt · r)).reverse = out := by
  rw [← List.reverse_append, List.takeWhile_append_dropWhile, List.reverse_reverse]
theorem insE_perm {α : Type} (gt : α → α → Bool) (out : List α) (r : α) : (insE gt out r).Perm (r :: out) := by
  unfold insE; have h := insE_split gt out r; generalize (out.reverse.dropWhile (gt · r)).reverse = a at h ⊢; generalize (out.reverse.takeWhile (gt · r)).reverse = b at h ⊢; subst h; exact List.perm_middle
theorem insE_len {α : Type} (gt : α → α → Bool) (out : List α) (r : α) : (insE gt out r).length = out.length + 1 := (insE_perm gt out r).length_eq
theorem insE_mem {α : Type} {gt : α → α → Bool} {out : List α} {r x : α} : x ∈ insE gt out r ↔ x = r ∨ x ∈ out := by
  rw [(insE_perm gt out r).mem_iff, List.mem_cons]
theorem foldl_insE_perm {α : Type} (gt : α → α → Bool) : ∀ (l a : List α), (l.foldl (insE gt) a).Perm (a ++ l)
  | [], a => by simp
  | x :: l, a => by
    rw [List.foldl_cons]; refine (foldl_insE_perm gt l _).trans ?_; refine ((insE_perm gt a x).append_right l).trans ?_; rw [List.cons_append]; exact List.perm_middle.symm
theorem isort_perm {α : Type} (gt : α → α → Bool) (l : List α) : (isort gt l).Perm l := by
  have := foldl_insE_perm gt l []
  rwa [List.nil_append] at this
theorem isort_len {α : Type} (gt : α → α → Bool) (l : List α) : (isort gt l).length = l.length := (isort_perm gt l).length_eq
theorem isort_mem {α : Type} {gt : α → α → Bool} {l : List α} {x : α} : x ∈ isort gt l ↔ x ∈ l := (isort_perm gt l).mem_iff
theorem isort_snoc {α : Type} (gt : α → α → Bool) (l : List α) (x : α) : isort gt (l ++ [x]) = insE gt (isort gt l) x := by unfold isort; rw [List.foldl_append]; rfl
def OrdB {α : Type} (gt : α → α → Bool) (l : List α) : Prop := l.Pairwise fun a b => gt a b = false
theorem mem_takeWhile {α : Type} {p : α → Bool} : ∀ {l : List α} {x : α}, x ∈ l.takeWhile p → p x = true
  | [], _, h => by simp at h
  | y :: l, x, h => by
    rw [List.takeWhile_cons] at h
    split at h
    · rcases List.mem_cons.1 h with rfl | h
      · assumption
      · exact mem_takeWhile h
    · simp at h
theorem dropWhile_head {α : Type} {p : α → Bool} : ∀ {l : List α} {x : α} {t : List α}, l.dropWhile p = x :: t → p x = false
  | [], _, _, h => by simp at h
  | y :: l, x, t, h => by
    rw [List.dropWhile_cons] at h
    split at h
    · exact dropWhile_head h
    · rename_i hp
      simp at h; rw [← h.1]; simpa using hp
theorem insE_ord {α : Type} {gt : α → α → Bool} {out : List α} {r : α} (ht : ∀ x ∈ out, ∀ y ∈ out, gt x y = false → gt y r = false → gt x r = false) (has : ∀ x ∈ out, gt x r = true → gt r x = false) (h : OrdB gt out) : OrdB gt (insE gt out r) := by
  have hs := insE_split gt out r; unfold OrdB insE at *; have hb : ∀ x ∈ (out.reverse.takeWhile (gt · r)).reverse, gt x r = true := fun x hx => mem_takeWhile (p := (gt · r)) (l := out.reverse) (by simpa using hx)
  have ha : ∀ x ∈ (out.reverse.dropWhile (gt · r)).reverse, gt x r = false := by
    intro x hx; have hx' : x ∈ out.reverse.dropWhile (gt · r) := by simpa using hx
    cases hd : out.reverse.dropWhile (gt · r) with
    | nil => rw [hd] at hx'; simp at hx'
    | cons y t =>
      have hy : gt y r = false := dropWhile_head (p := (gt · r)) hd; rw [hd] at hx'; rcases List.mem_cons.1 hx' with rfl | hx'
      · exact hy
      · have hmem : ∀ z ∈ out.reverse.dropWhile (gt · r), z ∈ out := fun z hz => by
          have := (List.dropWhile_sublist (gt · r)).subset hz; simpa using this
        refine ht x (hmem x (by rw [hd]; simp [hx'])) y (hmem y (by rw [hd]; simp)) ?_ hy
        have hp : (out.reverse.dropWhile (gt · r)).Pairwise fun a b => gt b a = false := by
          refine List.Pairwise.sublist (List.dropWhile_sublist _) ?_; rw [List.pairwise_reverse]; exact h
        rw [hd] at hp; exact (List.pairwise_cons.1 hp).1 x hx'
  generalize (out.reverse.dropWhile (gt · r)).reverse = a at hs ha ⊢; generalize (out.reverse.takeWhile (gt · r)).reverse = b at hs hb ⊢; subst hs; rw [List.pairwise_append] at h ⊢; refine ⟨h.1, List.pairwise_cons.2 ⟨fun x hx => has x (by simp [hx]) (hb x hx), h.2.1⟩, ?_⟩; intro x hx y hy; rcases List.mem_cons.1 hy with rfl | hy
  · exact ha x hx
  · exact h.2.2 x hx y hy
theorem isort_ord {α : Type} {gt : α → α → Bool} {l : List α} (ht : ∀ x ∈ l, ∀ y ∈ l, ∀ z ∈ l, gt x y = false → gt y z = false → gt x z = false) (has : ∀ x ∈ l, ∀ y ∈ l, gt x y = true → gt y x = false) : OrdB gt (isort gt l) := by
  suffices H : ∀ (b a : List α), (∀ x ∈ a, x ∈ l) → (∀ x ∈ b, x ∈ l) → OrdB gt a → OrdB gt (b.foldl (insE gt) a) from H l [] (by simp) (fun _ h => h) List.Pairwise.nil
  intro b
  induction b with
  | nil => intro a _ _ h; exact h
  | cons r b ih =>
    intro a ha hb h; rw [List.foldl_cons]; have hr := hb r (by simp); refine ih _ (fun x hx => by rcases insE_mem.1 hx with rfl | hx; exact hr; exact ha x hx) (fun x hx => hb x (by simp [hx])) ?_; exact insE_ord (fun x hx y hy h1 h2 => ht x (ha x hx) y (ha y hy) r hr h1 h2) (fun x hx h1 => has x (ha x hx) r hr h1) h
theorem insSort {α R : Type} {lt : α → α → Bool} {J : List α → Option R} {N : Nat} (L1 : Nat → Int → List α → Option R) (L2 : Nat → Nat → Int → Int → List α → Option R) (hN : N ≤ 900000000)
    (C : List α → Prop) (hC : ∀ a b : List α, a.Perm b → C a → C b)
    (h1 : ∀ n (i : Nat) o, i < N → L1 (n + 1) i o = L2 n 1000000000 i i o)
    (h1e : ∀ n (i : Nat) o, N ≤ i → L1 (n + 1) i o = J o)
    (h2z : ∀ n m (i : Nat) o, i < N → L2 n (m + 1) i 0 o = L1 n ((i + 1 : Nat) : Int) o)
    (h2s : ∀ n m (i j : Nat) o x y, i < N → j + 1 ≤ i → o.length = N → C o → o[j + 1]? = some x → o[j]? = some y → L2 n (m + 1) i ((j + 1 : Nat) : Int) o = if lt x y then L2 n m i (j : Int) ((o.set (j + 1) y).set j x) else L1 n ((i + 1 : Nat) : Int) o)
    (l : List α) (hl : l.length = N) (hCl : C l) (n : Nat) (hn : N ≤ n) (hn0 : 0 < n) : L1 n 1 l = J (isort (fun x r => lt r x) l) := by
  have inner : ∀ (a b : List α) (r : α) (n m i : Nat), i < N → a.length ≤ i → a.length < m → (a ++ r :: b).length = N → C (a ++ r :: b) →
      L2 n m i (a.length : Int) (a ++ r :: b) = L1 n ((i + 1 : Nat) : Int) ((a.reverse.dropWhile (fun x => lt r x)).reverse ++ r :: ((a.reverse.takeWhile (fun x => lt r x)).reverse ++ b)) := by
    intro a; generalize hk : a.length = k
    induction k generalizing a with
    | zero =>
      intro b r n m i hi hai hm hlen hc; obtain rfl : a = [] := List.length_eq_zero_iff.1 hk; obtain ⟨m, rfl⟩ : ∃ q, m = q + 1 := ⟨m - 1, by omega⟩; rw [show ((0 : Nat) : Int) = 0 from rfl, h2z n m i _ hi]; rfl
    | succ k ih =>
      intro b r n m i hi hai hm hlen hc; obtain ⟨m, rfl⟩ : ∃ q, m = q + 1 := ⟨m - 1, by omega⟩
      obtain ⟨a', x, rfl⟩ : ∃ a' x, a = a' ++ [x] := by
        have : a ≠ [] := by rintro rfl; simp at hk
        exact ⟨a.dropLast, a.getLast this, (List.dropLast_concat_getLast this).symm⟩
      have hk' : a'.length = k := by simpa using hk
      subst hk'; have e0 : (a' ++ [x]) ++ r :: b = a' ++ x :: r :: b := by simp
      rw [e0] at hlen hc ⊢; rw [h2s n m i a'.length _ r x hi (by omega) hlen hc (by simp) (by simp)]; rw [List.reverse_append, List.reverse_singleton, List.singleton_append, List.dropWhile_cons, List.takeWhile_cons]
      by_cases hx : lt r x = true
      · rw [if_pos hx, if_pos hx, if_pos hx]
        have e1 : ((a' ++ x :: r :: b).set (a'.length + 1) x).set a'.length r = a' ++ r :: (x :: b) := by
          rw [List.set_append_right _ _ (by omega), List.set_append_right _ _ (by omega)]; simp
        rw [e1, ih a' rfl (x :: b) r n m i hi (by omega) (by omega) (by simpa using hlen) (hC _ _ (List.Perm.append_left _ (List.Perm.swap _ _ _)) hc)]; simp
      · rw [if_neg hx, if_neg hx, if_neg hx]
        simp
  have outer : ∀ (k i n : Nat), i + k = N → 1 ≤ i → k < n → L1 n (i : Int) (isort (fun x r => lt r x) (l.take i) ++ l.drop i) = J (isort (fun x r => lt r x) l) := by
    intro k
    induction k with
    | zero =>
      intro i n hi h1i hn; obtain ⟨n, rfl⟩ : ∃ q, n = q + 1 := ⟨n - 1, by omega⟩; rw [h1e n i _ (by omega), List.take_of_length_le (by omega), List.drop_eq_nil_of_le (by omega), List.append_nil]
    | succ k ih =>
      intro i n hi h1i hn; obtain ⟨n, rfl⟩ : ∃ q, n = q + 1 := ⟨n - 1, by omega⟩; have hlt : i < l.length := by omega
      have hsl : (isort (fun x r => lt r x) (l.take i)).length = i := by rw [isort_len, List.length_take]; omega
      rw [h1 n i _ (by omega), List.drop_eq_getElem_cons hlt]
      have := inner (isort (fun x r => lt r x) (l.take i)) (l.drop (i + 1)) l[i] n 1000000000 i (by omega) (by omega) (by omega) (by simp [hsl]; omega) (hC l _ (by
        conv => lhs; rw [← List.take_append_drop i l, List.drop_eq_getElem_cons hlt]
        exact (isort_perm _ _).symm.append_right _) hCl)
      rw [hsl] at this; rw [this]
      have e : (List.dropWhile (fun x => lt l[i] x) (isort (fun x r => lt r x) (List.take i l)).reverse).reverse ++ l[i] :: ((List.takeWhile (fun x => lt l[i] x) (isort (fun x r => lt r x) (List.take i l)).reverse).reverse ++ List.drop (i + 1) l) = isort (fun x r => lt r x) (l.take (i + 1)) ++ l.drop (i + 1) := by
        rw [List.take_succ_eq_append_getElem hlt, isort_snoc]; unfold insE; simp
      rw [e]; exact ih (i + 1) n (by omega) (by omega) (by omega)
  rcases Nat.eq_zero_or_pos N with h0 | h0
  · obtain rfl : l = [] := List.length_eq_zero_iff.1 (by omega)
    obtain ⟨n, rfl⟩ : ∃ q, n = q + 1 := ⟨n - 1, by omega⟩; exact h1e n 1 [] (by omega)
  · have := outer (N - 1) 1 n (by omega) (Nat.le_refl _) (by omega)
    rw [← this]
    congr 1
    cases l with
    | nil => simp at hl; omega
    | cons x l => simp [isort, insE]
theorem insE_take {α : Type} (gt : α → α → Bool) (out : List α) (r : α) : insE gt out r = out.take (out.reverse.dropWhile (gt · r)).length ++ r :: out.drop (out.reverse.dropWhile (gt · r)).length := by
  have h := insE_split gt out r; have hl : (out.reverse.dropWhile (gt · r)).length = (out.reverse.dropWhile (gt · r)).reverse.length := by simp
  rw [hl]; unfold insE; generalize (out.reverse.dropWhile (gt · r)).reverse = a at h ⊢; generalize (out.reverse.takeWhile (gt · r)).reverse = b at h ⊢; subst h; simp
theorem posE_le {α : Type} (p : α → Bool) (out : List α) : (out.reverse.dropWhile p).length ≤ out.length := by
  have := (List.dropWhile_sublist p (l := out.reverse)).length_le; simpa using this
theorem posLoop {α R : Type} {p : α → Bool} {F : Nat → Option R} (out : List α) (L : Nat → Int → Option R) (hz : ∀ m, L (m + 1) 0 = F 0)
    (hs : ∀ m (j : Nat) x, out[j]? = some x → L (m + 1) ((j + 1 : Nat) : Int) = if p x then L m (j : Int) else F (j + 1)) (m : Nat) (hm : out.length < m) :
    L m (out.length : Int) = F (out.reverse.dropWhile p).length := by
  have key : ∀ (a b : List α) (m : Nat), out = a ++ b → a.length < m → L m (a.length : Int) = F (a.reverse.dropWhile p).length := by
    intro a; generalize hk : a.length = k
    induction k generalizing a with
    | zero =>
      intro b m ho hm; obtain rfl : a = [] := List.length_eq_zero_iff.1 hk; obtain ⟨m, rfl⟩ : ∃ q, m = q + 1 := ⟨m - 1, by omega⟩; exact hz m
    | succ k ih =>
      intro b m ho hm; obtain ⟨m, rfl⟩ : ∃ q, m = q + 1 := ⟨m - 1, by omega⟩
      obtain ⟨a', x, rfl⟩ : ∃ a' x, a = a' ++ [x] := by
        have : a ≠ [] := by rintro rfl; simp at hk
        exact ⟨a.dropLast, a.getLast this, (List.dropLast_concat_getLast this).symm⟩
      have hk' : a'.length = k := by simpa using hk
      subst hk'; rw [hs m a'.length x (by rw [ho]; simp)]; rw [List.reverse_append, List.reverse_singleton, List.singleton_append, List.dropWhile_cons]
      by_cases hx : p x = true
      · rw [if_pos hx, if_pos hx]
        exact ih a' rfl ([x] ++ b) m (by rw [ho]; simp) (by omega)
      · rw [if_neg hx, if_neg hx]
        simp
  exact key out [] m (by simp) hm
def Adj {α : Type} (bad : α → α → Bool) (l : List α) : Prop := ∀ i x y, l[i]? = some x → l[i + 1]? = some y → bad x y = false
theorem Adj.ord {α : Type} {bad : α → α → Bool} (ht : ∀ x y z, bad x y = false → bad y z = false → bad x z = false) : ∀ {l : List α}, Adj bad l → OrdB bad l
  | [], _ => List.Pairwise.nil
  | [x], _ => List.pairwise_singleton _ _
  | x :: y :: l, h => by
    have h1 : OrdB bad (y :: l) := Adj.ord ht fun i a b ha hb => h (i + 1) a b (by simpa using ha) (by simpa using hb); refine List.pairwise_cons.2 ⟨?_, h1⟩; intro z hz; have hxy := h 0 x y rfl rfl; rcases List.mem_cons.1 hz with rfl | hz
    · exact hxy
    · exact ht x y z hxy ((List.pairwise_cons.1 h1).1 z hz)
def idxI {α : Type} (q : α → Bool) : List α → Int
  | [] => -1
  | x :: l => if q x then 0 else if idxI q l < 0 then -1 else idxI q l + 1
theorem idxI_pos {α : Type} {q : α → Bool} {x : α} {l : List α} (h : q x = true) : idxI q (x :: l) = 0 := by unfold idxI; rw [if_pos h]
theorem idxI_neg {α : Type} {q : α → Bool} {x : α} {l : List α} (h : q x = false) : idxI q (x :: l) = if idxI q l < 0 then -1 else idxI q l + 1 := by
  rw [idxI]; rw [if_neg (by simp [h])]
theorem idxI_ge {α : Type} (q : α → Bool) : ∀ l : List α, -1 ≤ idxI q l ∧ idxI q l < l.length ∧ (decide (idxI q l ≥ 0) = l.any q)
  | [] => by simp [idxI]
  | x :: l => by
    obtain ⟨h1, h2, h3⟩ := idxI_ge q l; rw [List.any_cons, ← h3, List.length_cons]; cases hq : q x with
    | true => rw [idxI_pos hq]; simp
    | false =>
      rw [idxI_neg hq]
      by_cases h : idxI q l < 0
      · rw [if_pos h]
        have : ¬ idxI q l ≥ 0 := by omega
        simp [this]; omega
      · rw [if_neg h]
        have h4 : idxI q l ≥ 0 := by omega
        have h5 : idxI q l + 1 ≥ 0 := by omega
        simp only [decide_eq_true h4, decide_eq_true h5, Bool.false_or]; exact ⟨by omega, by omega, trivial⟩
theorem scanI {α R : Type} {q : α → Bool} {g : Int → Option R} (xs : List α) (L : Nat → Int → Option R)
    (hs : ∀ n (k : Nat) x, xs[k]? = some x → L (n + 1) (k : Int) = bif q x then g k else L n ((k : Int) + 1)) (he : ∀ n, L (n + 1) (xs.length : Int) = g (-1))
    (n : Nat) (hn : xs.length < n) : L n 0 = g (idxI q xs) := by
  have key : ∀ (ys : List α) (k n : Nat), xs.drop k = ys → k ≤ xs.length → ys.length < n → L n (k : Int) = g (if idxI q ys < 0 then -1 else idxI q ys + k) := by
    intro ys
    induction ys with
    | nil =>
      intro k n hd hk hn
      have : k = xs.length := by
        have := congrArg List.length hd; simp at this; omega
      subst this; obtain ⟨m, rfl⟩ : ∃ m, n = m + 1 := ⟨n - 1, by simp at hn; omega⟩; rw [he, if_pos (by simp [idxI])]
    | cons y ys ih =>
      intro k n hd hk hn
      have hlt : k < xs.length := by
        have := congrArg List.length hd; simp at this; omega
      have hc := List.drop_eq_getElem_cons hlt; rw [hd] at hc; simp only [List.cons.injEq] at hc; obtain ⟨m, rfl⟩ : ∃ m, n = m + 1 := ⟨n - 1, by simp at hn; omega⟩; rw [hs m k y (by rw [List.getElem?_eq_getElem hlt, hc.1])]; cases hq : q y with
      | true => rw [cond_true, idxI_pos hq, if_neg (by omega)]; congr 1; omega
      | false =>
        rw [cond_false, show ((k : Int) + 1) = ((k + 1 : Nat) : Int) by omega, ih (k + 1) m hc.2.symm (by omega) (by simp at hn; omega), idxI_neg hq]; have := idxI_ge q ys
        by_cases h : idxI q ys < 0
        · rw [if_pos h, if_pos h, if_pos (by omega)]
        · rw [if_neg h, if_neg h, if_neg (by omega)]
          congr 1; omega
  have := key xs 0 n rfl (by omega) hn; rw [show ((0 : Nat) : Int) = 0 from rfl] at this; rw [this]; have := idxI_ge q xs
  split
  · congr 1; omega
  · congr 1; omega
theorem dgt0 {j : Nat} : decide (((j + 1 : Nat) : Int) > 0) = true := by rw [decide_eq_true_eq]; omega
theorem ckdd {j : Nat} (h : j < 1000000000000) : ckI (((j + 1 : Nat) : Int) - 1) = some (j : Int) := by
  rw [ckI_of (by omega) (by omega)]; congr 1; omega
theorem at_set_ne {α : Type} {l : List α} {i j : Nat} {x y : α} (h : l[j]? = some y) (hij : i ≠ j) : at? (l.set i x) (j : Int) = some y := at_of (by rw [List.getElem?_set_ne hij]; exact h)
theorem lenQ_ok {n m : Nat} {β : Type} {x : β} (h : n = m) : lenQ n m x = some x := by unfold lenQ; rw [if_pos h]
theorem shr_half (n : Nat) : shrI (n : Int) 1 = some ((n / 2 : Nat) : Int) := by
  unfold shrI; rw [if_pos (by omega)]; have : (2 : Int) ^ min (1 : Int).toNat 64 = 2 := rfl; rw [this, Int.fdiv_eq_ediv_of_nonneg _ (by omega)]
  congr 1
theorem uI_of {n : Int} (h0 : 0 ≤ n) (h1 : n ≤ 9223372036854775807) : uI n = some n := by unfold uI; rw [if_pos ⟨h0, h1⟩]
end Go.Lift
namespace Go.Lift
theorem set_two {α : Type} (L1 L2 L3 : List α) (x y : α) : ((L1 ++ x :: (L2 ++ y :: L3)).set L1.length y).set (L1.length + 1 + L2.length) x = L1 ++ y :: (L2 ++ x :: L3) := by
  rw [List.set_append_right _ _ (Nat.le_refl _), Nat.sub_self, List.set_cons_zero, List.set_append_right _ _ (by omega)]; rw [show L1.length + 1 + L2.length - L1.length = L2.length + 1 by omega, List.set_cons_succ, List.set_append_right _ _ (Nat.le_refl _), Nat.sub_self, List.set_cons_zero]
theorem at_two {α : Type} (L1 L2 L3 : List α) (x y : α) : (L1 ++ x :: (L2 ++ y :: L3))[L1.length]? = some x ∧ (L1 ++ x :: (L2 ++ y :: L3))[L1.length + 1 + L2.length]? = some y := by
  constructor
  · simp
  · rw [List.getElem?_append_right (by omega), show L1.length + 1 + L2.length - L1.length = L2.length + 1 by omega, List.getElem?_cons_succ, List.getElem?_append_right (Nat.le_refl _)]
    simp
theorem ltE {α β : Type} (x : α) (f : α → β) : lt x f = f x := rfl
theorem neB (a b : Int) : (a != b) = !decide (a = b) := by by_cases h : a = b <;> simp [h, bne]
theorem neN (a b : Nat) : (((a : Nat) : Int) != ((b : Nat) : Int)) = !decide (a = b) := by rw [neB]; congr 1; rw [decide_eq_decide]; omega
theorem bsLoop {R : Type} (L : Nat → Int → Int → R) (F : Nat → R) (good : Nat → Bool) (lo hi : Nat) (he : ∀ n (i : Nat), L (n + 1) i i = F i)
    (hs : ∀ n (i j : Nat), lo ≤ i → i < j → j ≤ hi → L (n + 1) i j = if good ((i + j) / 2) then L n (((i + j) / 2 + 1 : Nat) : Int) j else L n i (((i + j) / 2 : Nat) : Int)) (n : Nat) (hn : hi - lo < n) (hlh : lo ≤ hi) :
    ∃ k, lo ≤ k ∧ k ≤ hi ∧ L n lo hi = F k ∧ (k = lo ∨ good (k - 1) = true) ∧ (k = hi ∨ good k = false) := by
  have key : ∀ (d i j n : Nat), j - i ≤ d → d < n → lo ≤ i → i ≤ j → j ≤ hi → (i = lo ∨ good (i - 1) = true) → (j = hi ∨ good j = false) → ∃ k, lo ≤ k ∧ k ≤ hi ∧ L n i j = F k ∧ (k = lo ∨ good (k - 1) = true) ∧ (k = hi ∨ good k = false) := by
    intro d
    induction d with
    | zero =>
      intro i j n hd hn h1 h2 h3 h4 h5; obtain ⟨n, rfl⟩ : ∃ q, n = q + 1 := ⟨n - 1, by omega⟩; obtain rfl : i = j := by omega
      exact ⟨i, h1, h3, he n i, h4, h5⟩
    | succ d ih =>
      intro i j n hd hn h1 h2 h3 h4 h5; obtain ⟨n, rfl⟩ : ∃ q, n = q + 1 := ⟨n - 1, by omega⟩
      by_cases hij : i < j
      · rw [hs n i j h1 hij h3]
        cases hg : good ((i + j) / 2) with
        | true =>
          rw [if_pos rfl]; exact ih _ _ n (by omega) (by omega) (by omega) (by omega) h3 (.inr (by rw [Nat.add_sub_cancel]; exact hg)) h5
        | false =>
          rw [if_neg (by simp)]; exact ih _ _ n (by omega) (by omega) h1 (by omega) (by omega) h4 (.inr hg)
      · obtain rfl : i = j := by omega
        exact ⟨i, h1, h3, he n i, h4, h5⟩
  exact key (hi - lo) lo hi n (Nat.le_refl _) hn (Nat.le_refl _) hlh (Nat.le_refl _) (.inl rfl) (.inl rfl)
theorem ord_cross {α : Type} {bad : α → α → Bool} {U X Y : List α} (ht : ∀ x ∈ U, ∀ y ∈ U, ∀ z ∈ U, bad x y = false → bad y z = false → bad x z = false) (hXU : ∀ x ∈ X, x ∈ U) (hYU : ∀ x ∈ Y, x ∈ U) (hX : OrdB bad X) (hY : OrdB bad Y)
    (h : ∀ x y, X[X.length - 1]? = some x → Y[0]? = some y → bad x y = false) : ∀ x ∈ X, ∀ y ∈ Y, bad x y = false := by
  intro x hx y hy; obtain ⟨i, hi⟩ := List.getElem?_of_mem hx; obtain ⟨j, hj⟩ := List.getElem?_of_mem hy; have hil := lt_of_at hi; have hjl := lt_of_at hj; have lx : X[X.length - 1]? = some X[X.length - 1] := List.getElem?_eq_getElem (by omega); have hy0 : Y[0]? = some Y[0] := List.getElem?_eq_getElem (by omega); have mid := h _ _ lx hy0; have mx := hXU _ (List.mem_of_getElem? lx); have my := hYU _ (List.mem_of_getElem? hy0)
  have a1 : bad x Y[0] = false := by
    rcases Nat.lt_or_ge i (X.length - 1) with h1 | h1
    · have := List.pairwise_iff_getElem.1 hX i (X.length - 1) hil (by omega) h1
      have e : X[i] = x := by rw [List.getElem?_eq_getElem hil] at hi; exact Option.some.inj hi
      rw [e] at this; exact ht x (hXU x hx) _ mx _ my this mid
    · obtain rfl : i = X.length - 1 := by omega
      rw [lx] at hi; cases hi; exact mid
  rcases Nat.eq_zero_or_pos j with h1 | h1
  · subst h1
    rw [hy0] at hj; cases hj; exact a1
  · have := List.pairwise_iff_getElem.1 hY 0 j (by omega) hjl h1
    have e : Y[j] = y := by rw [List.getElem?_eq_getElem hjl] at hj; exact Option.some.inj hj
    rw [e] at this; exact ht x (hXU x hx) _ my y (hYU y hy) a1 this
theorem ord_app {α : Type} {bad : α → α → Bool} {X Y : List α} (hX : OrdB bad X) (hY : OrdB bad Y) (h : ∀ x ∈ X, ∀ y ∈ Y, bad x y = false) : OrdB bad (X ++ Y) := List.pairwise_append.2 ⟨hX, hY, h⟩
theorem ord_split {α : Type} {bad : α → α → Bool} {X Y : List α} (h : OrdB bad (X ++ Y)) : OrdB bad X ∧ OrdB bad Y ∧ ∀ x ∈ X, ∀ y ∈ Y, bad x y = false := List.pairwise_append.1 h
end Go.Lift
/- Plain Lean: putting in order by blocks that are merged. Own work. -/
namespace Go.Lift
inductive Chk {α : Type} (gt : α → α → Bool) (bs : Nat) : List α → Prop
  | last {X : List α} : X.length ≤ bs → OrdB gt X → Chk gt bs X
  | cons {X R : List α} : X.length = bs → OrdB gt X → Chk gt bs R → Chk gt bs (X ++ R)
theorem Chk.ord {α : Type} {gt : α → α → Bool} {bs : Nat} {l : List α} (h : Chk gt bs l) (hl : l.length ≤ bs) : OrdB gt l := by
  cases h with
  | last h1 h2 => exact h2
  | cons h1 h2 h3 =>
    rename_i X R; have : R = [] := List.length_eq_zero_iff.1 (by rw [List.length_append] at hl; omega); subst this; rw [List.append_nil]; exact h2
theorem merge_mid {α : Type} {gt : α → α → Bool} {U A1 A2 B1 B2 Z1 Z2 : List α} (ht : ∀ x ∈ U, ∀ y ∈ U, ∀ z ∈ U, gt x y = false → gt y z = false → gt x z = false)
    (hU : ∀ x ∈ A1 ++ A2 ++ (B1 ++ B2), x ∈ U) (hA : OrdB gt (A1 ++ A2)) (hB : OrdB gt (B1 ++ B2))
    (h1 : ∀ x y, A1[A1.length - 1]? = some x → B2[0]? = some y → gt x y = false) (h2 : ∀ x y, B1[B1.length - 1]? = some x → A2[0]? = some y → gt x y = false)
    (z1 : Z1.Perm (A1 ++ B1)) (o1 : OrdB gt Z1) (z2 : Z2.Perm (A2 ++ B2)) (o2 : OrdB gt Z2) : (Z1 ++ Z2).Perm (A1 ++ A2 ++ (B1 ++ B2)) ∧ OrdB gt (Z1 ++ Z2) := by
  obtain ⟨hA1, hA2, hAA⟩ := ord_split hA; obtain ⟨hB1, hB2, hBB⟩ := ord_split hB; have c1 := ord_cross ht (fun x hx => hU x (by simp [hx])) (fun x hx => hU x (by simp [hx])) hA1 hB2 h1; have c2 := ord_cross ht (fun x hx => hU x (by simp [hx])) (fun x hx => hU x (by simp [hx])) hB1 hA2 h2; refine ⟨?_, ord_app o1 o2 fun x hx y hy => ?_⟩
  · refine (z1.append z2).trans ?_
    rw [List.append_assoc, List.append_assoc]; refine List.Perm.append_left A1 ?_; rw [← List.append_assoc, ← List.append_assoc]; exact List.Perm.append_right B2 List.perm_append_comm
  · rcases List.mem_append.1 (z1.mem_iff.1 hx) with hx | hx <;> rcases List.mem_append.1 (z2.mem_iff.1 hy) with hy | hy
    · exact hAA x hx y hy
    · exact c1 x hx y hy
    · exact c2 x hx y hy
    · exact hBB x hx y hy
theorem mid_get {α : Type} (P X Y S : List α) {i : Nat} (h1 : P.length ≤ i) (h2 : i < P.length + X.length + Y.length) :
    ∃ z, (P ++ (X ++ (Y ++ S)))[i]? = some z ∧ z ∈ X ++ Y ∧ (i < P.length + X.length → X[i - P.length]? = some z) ∧ (P.length + X.length ≤ i → Y[i - P.length - X.length]? = some z) := by
  rw [List.getElem?_append_right h1]; rcases Nat.lt_or_ge (i - P.length) X.length with h | h
  · refine ⟨X[i - P.length], ?_, by simp, fun _ => List.getElem?_eq_getElem h, fun h' => by omega⟩
    rw [List.getElem?_append_left h]; exact List.getElem?_eq_getElem h
  · have hy : i - P.length - X.length < Y.length := by omega
    refine ⟨Y[i - P.length - X.length], ?_, by simp, fun h' => by omega, fun _ => List.getElem?_eq_getElem hy⟩; rw [List.getElem?_append_right h, List.getElem?_append_left hy]; exact List.getElem?_eq_getElem hy
theorem cut_mid {α : Type} (P X Y S : List α) {k e : Nat} (h1 : P.length ≤ k) (h2 : k ≤ P.length + X.length) (h3 : P.length + X.length ≤ e) (h4 : e ≤ P.length + X.length + Y.length) :
    ∃ A1 A2 B1 B2, X = A1 ++ A2 ∧ Y = B1 ++ B2 ∧ P.length + A1.length = k ∧ P.length + X.length + B1.length = e ∧
      (∀ x y, A1[A1.length - 1]? = some x → B2[0]? = some y → (P ++ (X ++ (Y ++ S)))[k - 1]? = some x ∧ (P ++ (X ++ (Y ++ S)))[e]? = some y) ∧
      (∀ x y, B1[B1.length - 1]? = some x → A2[0]? = some y → (P ++ (X ++ (Y ++ S)))[e - 1]? = some x ∧ (P ++ (X ++ (Y ++ S)))[k]? = some y) := by
  obtain ⟨A1, A2, rfl, hA⟩ : ∃ A1 A2, X = A1 ++ A2 ∧ A1.length = k - P.length := ⟨X.take (k - P.length), X.drop (k - P.length), (List.take_append_drop _ _).symm, by simp; omega⟩; obtain ⟨B1, B2, rfl, hB⟩ : ∃ B1 B2, Y = B1 ++ B2 ∧ B1.length = e - (P.length + (A1 ++ A2).length) := ⟨Y.take (e - (P.length + (A1 ++ A2).length)), Y.drop (e - (P.length + (A1 ++ A2).length)), (List.take_append_drop _ _).symm, by simp at h4 ⊢; omega⟩; have lA : (A1 ++ A2).length = A1.length + A2.length := List.length_append; refine ⟨A1, A2, B1, B2, rfl, rfl, by omega, by omega, ?_, ?_⟩
  · intro x y hx hy
    have p1 := lt_of_at hx; have p2 := lt_of_at hy; constructor
    · rw [List.getElem?_append_right (by omega), List.append_assoc, List.getElem?_append_left (by omega)]
      rw [← hx]; congr 1; omega
    · rw [List.getElem?_append_right (by omega), List.getElem?_append_right (by omega), List.append_assoc, List.getElem?_append_right (by omega), List.getElem?_append_left (by omega)]
      rw [← hy]; congr 1; omega
  · intro x y hx hy
    have p1 := lt_of_at hx; have p2 := lt_of_at hy; constructor
    · rw [List.getElem?_append_right (by omega), List.getElem?_append_right (by omega), List.append_assoc, List.getElem?_append_left (by omega)]
      rw [← hx]; congr 1; omega
    · rw [List.getElem?_append_right (by omega), List.append_assoc, List.getElem?_append_right (by omega), List.getElem?_append_left (by omega)]
      rw [← hy]; congr 1; omega
end Go.Lift
/- Plain Lean: loops that look at neighbours, that copy, that leave out. Own work. -/
namespace Go.Lift
end Go.Lift
/- Plain Lean: putting in order so that equal ones keep their order. Own work. -/
namespace Go.Lift
structure StP {α κ : Type} (f : κ → α → Bool) (Z W : List α) : Prop where
  perm : Z.Perm W
  st : ∀ v, Z.filter (f v) = W.filter (f v)
theorem StP.refl {α κ : Type} {f : κ → α → Bool} (Z : List α) : StP f Z Z := ⟨.refl _, fun _ => rfl⟩
theorem StP.trans {α κ : Type} {f : κ → α → Bool} {Z W V : List α} (h : StP f Z W) (k : StP f W V) : StP f Z V := ⟨h.perm.trans k.perm, fun v => (h.st v).trans (k.st v)⟩
theorem StP.append {α κ : Type} {f : κ → α → Bool} {Z W Z2 W2 : List α} (h : StP f Z W) (k : StP f Z2 W2) : StP f (Z ++ Z2) (W ++ W2) := ⟨h.perm.append k.perm, fun v => by rw [List.filter_append, List.filter_append, h.st v, k.st v]⟩
theorem StP.length_eq {α κ : Type} {f : κ → α → Bool} {Z W : List α} (h : StP f Z W) : Z.length = W.length := h.perm.length_eq
theorem StP.mem_iff {α κ : Type} {f : κ → α → Bool} {Z W : List α} (h : StP f Z W) {x : α} : x ∈ Z ↔ x ∈ W := h.perm.mem_iff
theorem StP.swap {α κ : Type} {f : κ → α → Bool} {A B : List α} (h : ∀ v, ∀ a ∈ A, ∀ b ∈ B, f v a = true → f v b = true → False) : StP f (A ++ B) (B ++ A) := ⟨List.perm_append_comm, fun v => by
  rw [List.filter_append, List.filter_append]
  by_cases hA : A.filter (f v) = []
  · rw [hA, List.nil_append, List.append_nil]
  · obtain ⟨a, ha⟩ := List.exists_mem_of_ne_nil _ hA
    rw [List.mem_filter] at ha
    have hB : B.filter (f v) = [] := by
      rw [List.filter_eq_nil_iff]; intro b hb hf; exact h v a ha.1 b hb ha.2 hf
    rw [hB, List.append_nil, List.nil_append]⟩
theorem mem_tw' {α : Type} {p : α → Bool} : ∀ {l : List α} {x : α}, x ∈ l.takeWhile p → p x = true ∧ x ∈ l
  | [], _, h => by simp at h
  | a :: l, x, h => by
    rw [List.takeWhile_cons] at h
    split at h
    · rename_i hp
      rcases List.mem_cons.1 h with rfl | h
      · exact ⟨hp, by simp⟩
      · exact ⟨(mem_tw' h).1, by simp [(mem_tw' h).2]⟩
    · cases h
theorem insE_st {α κ : Type} {f : κ → α → Bool} {gt : α → α → Bool} (out : List α) (r : α) (hf : ∀ v, ∀ x ∈ out, f v x = true → f v r = true → gt x r = false) : StP f (insE gt out r) (out ++ [r]) := by
  unfold insE; have h := insE_split gt out r
  have hB : ∀ x ∈ (out.reverse.takeWhile (gt · r)).reverse, gt x r = true ∧ x ∈ out := fun x hx => by
    have := mem_tw' (List.mem_reverse.1 hx); exact ⟨this.1, List.mem_reverse.1 this.2⟩
  generalize (out.reverse.dropWhile (gt · r)).reverse = a at h ⊢; generalize (out.reverse.takeWhile (gt · r)).reverse = b at h hB ⊢; rw [← h, List.append_assoc]; refine (StP.refl a).append ?_
  exact StP.swap (A := [r]) (B := b) fun v x hx y hy h1 h2 => by
    rw [List.mem_singleton.1 hx] at h1; have := hf v y (hB y hy).2 h2 h1; rw [(hB y hy).1] at this; cases this
theorem isort_st {α κ : Type} {f : κ → α → Bool} {gt : α → α → Bool} {l : List α} (hf : ∀ v, ∀ x ∈ l, ∀ y ∈ l, f v x = true → f v y = true → gt x y = false) : StP f (isort gt l) l := by
  suffices H : ∀ (b a : List α), (∀ x ∈ a, x ∈ l) → (∀ x ∈ b, x ∈ l) → StP f (b.foldl (insE gt) a) (a ++ b) from by
    have := H l [] (by simp) (fun _ h => h)
    rwa [List.nil_append] at this
  intro b
  induction b with
  | nil => intro a _ _; rw [List.append_nil]; exact .refl _
  | cons r b ih =>
    intro a ha hb; rw [List.foldl_cons]; have h1 := insE_st (f := f) (gt := gt) a r (fun v x hx => hf v x (ha x hx) r (hb r (by simp))); have h2 := ih (insE gt a r) (fun x hx => by rcases insE_mem.1 hx with rfl | hx; exact hb _ (by simp); exact ha x hx) (fun x hx => hb x (by simp [hx])); refine h2.trans ?_; have := h1.append (StP.refl (f := f) b)
    rwa [List.append_assoc, List.singleton_append] at this
theorem stable1S {α R κ : Type} {f : κ → α → Bool} {gt : α → α → Bool} {U : α → Prop} {J : List α → Option R} {N bs : Nat} (hbs : 0 < bs) (L1 : Nat → Nat → Nat → List α → Option R)
    (hi : ∀ X : List α, (∀ x ∈ X, U x) → StP f (isort gt X) X) (ho : ∀ X : List α, (∀ x ∈ X, U x) → OrdB gt (isort gt X))
    (h1 : ∀ n (P X S : List α), X.length = bs → P.length + X.length + S.length = N → (∀ x ∈ X, U x) → L1 (n + 1) P.length (P.length + bs) (P ++ (X ++ S)) = L1 n (P.length + bs) (P.length + bs + bs) (P ++ (isort gt X ++ S)))
    (h1e : ∀ n (P X : List α), X.length < bs → P.length + X.length = N → (∀ x ∈ X, U x) → L1 (n + 1) P.length (P.length + bs) (P ++ X) = J (P ++ isort gt X)) :
    ∀ (n : Nat) (Q P : List α), Q.length < bs * n → P.length + Q.length = N → (∀ x ∈ Q, U x) → ∃ Q', StP f Q' Q ∧ Chk gt bs Q' ∧ L1 n P.length (P.length + bs) (P ++ Q) = J (P ++ Q') := by
  intro n
  induction n with
  | zero => intro Q P hd; omega
  | succ n ih =>
    intro Q P hd hN hU; rw [Nat.mul_succ] at hd; rcases Nat.lt_or_ge Q.length bs with h | h
    · exact ⟨isort gt Q, hi Q hU, .last (by rw [isort_len]; omega) (ho Q hU), h1e n P Q h hN hU⟩
    · obtain ⟨X, S, rfl, hX⟩ : ∃ X S, Q = X ++ S ∧ X.length = bs := ⟨Q.take bs, Q.drop bs, (List.take_append_drop _ _).symm, by simp; omega⟩
      rw [List.length_append] at hd hN; have hUX : ∀ x ∈ X, U x := fun x hx => hU x (by simp [hx]); have hl : (isort gt X).length = bs := by rw [isort_len, hX]
      obtain ⟨Q', g1, g2, g3⟩ := ih S (P ++ isort gt X) (by omega) (by rw [List.length_append]; omega) (fun x hx => hU x (by simp [hx])); refine ⟨isort gt X ++ Q', (hi X hUX).append g1, .cons hl (ho X hUX) g2, ?_⟩; rw [h1 n P X S hX (by omega) hUX]; rw [List.length_append, hl] at g3; rw [← List.append_assoc, g3, List.append_assoc]
theorem stable2S {α R κ : Type} {f : κ → α → Bool} {gt : α → α → Bool} {U : α → Prop} {J : List α → Option R} {N bs : Nat} (hbs : 0 < bs) (L3 : Nat → Nat → Nat → List α → Option R)
    (h3 : ∀ n (P X Y S : List α), X.length = bs → Y.length = bs → P.length + X.length + Y.length + S.length = N → OrdB gt X → OrdB gt Y → (∀ x ∈ X, U x) → (∀ x ∈ Y, U x) → ∃ Z, StP f Z (X ++ Y) ∧ OrdB gt Z ∧ L3 (n + 1) P.length (P.length + 2 * bs) (P ++ (X ++ (Y ++ S))) = L3 n (P.length + 2 * bs) (P.length + 2 * bs + 2 * bs) (P ++ (Z ++ S)))
    (h3m : ∀ n (P X Y : List α), X.length = bs → 0 < Y.length → Y.length < bs → P.length + X.length + Y.length = N → OrdB gt X → OrdB gt Y → (∀ x ∈ X, U x) → (∀ x ∈ Y, U x) → ∃ Z, StP f Z (X ++ Y) ∧ OrdB gt Z ∧ L3 (n + 1) P.length (P.length + 2 * bs) (P ++ (X ++ Y)) = J (P ++ Z))
    (h3e : ∀ n (P X : List α), X.length ≤ bs → P.length + X.length = N → L3 (n + 1) P.length (P.length + 2 * bs) (P ++ X) = J (P ++ X)) :
    ∀ (n : Nat) (Q P : List α), Q.length < 2 * bs * n → P.length + Q.length = N → (∀ x ∈ Q, U x) → Chk gt bs Q → ∃ Q', StP f Q' Q ∧ Chk gt (2 * bs) Q' ∧ L3 n P.length (P.length + 2 * bs) (P ++ Q) = J (P ++ Q') := by
  intro n
  induction n with
  | zero => intro Q P hd; omega
  | succ n ih =>
    intro Q P hd hN hU hC; rw [Nat.mul_succ] at hd; cases hC with
    | last a1 a2 => exact ⟨Q, .refl _, .last (by omega) a2, h3e n P Q a1 hN⟩
    | cons a1 a2 a3 =>
      rename_i X R1; have hUX : ∀ x ∈ X, U x := fun x hx => hU x (by simp [hx]); have hUR : ∀ x ∈ R1, U x := fun x hx => hU x (by simp [hx]); rw [List.length_append] at hd hN
      have two : ∀ (Y S : List α), R1 = Y ++ S → Y.length = bs → OrdB gt Y → Chk gt bs S → ∃ Q', StP f Q' (X ++ R1) ∧ Chk gt (2 * bs) Q' ∧ L3 (n + 1) P.length (P.length + 2 * bs) (P ++ (X ++ R1)) = J (P ++ Q') := by
        intro Y S hR hY hoY hS; subst hR; rw [List.length_append] at hd hN; obtain ⟨Z, z1, z2, z3⟩ := h3 n P X Y S a1 hY (by omega) a2 hoY hUX (fun x hx => hUR x (by simp [hx])); have zl : Z.length = 2 * bs := by rw [z1.length_eq, List.length_append]; omega
        obtain ⟨Q', g1, g2, g3⟩ := ih S (P ++ Z) (by omega) (by rw [List.length_append]; omega) (fun x hx => hUR x (by simp [hx])) hS; refine ⟨Z ++ Q', ?_, .cons zl z2 g2, ?_⟩
        · rw [← List.append_assoc]; exact z1.append g1
        · rw [List.length_append, zl] at g3
          rw [z3, ← List.append_assoc, g3, List.append_assoc]
      cases a3 with
      | last b1 b2 =>
        rcases Nat.eq_zero_or_pos R1.length with h0 | h0
        · have : R1 = [] := List.length_eq_zero_iff.1 h0
          subst this; rw [List.append_nil]; exact ⟨X, .refl _, .last (by omega) a2, h3e n P X (by omega) (by omega)⟩
        · rcases Nat.lt_or_ge R1.length bs with h1 | h1
          · obtain ⟨Z, z1, z2, z3⟩ := h3m n P X R1 a1 h0 h1 (by omega) a2 b2 hUX hUR
            exact ⟨Z, z1, .last (by rw [z1.length_eq, List.length_append]; omega) z2, z3⟩
          · exact two R1 [] (by simp) (by omega) b2 (.last (by simp) List.Pairwise.nil)
      | cons b1 b2 b3 => exact two _ _ rfl b1 b2 b3
theorem stable3S {α R κ : Type} {f : κ → α → Bool} {gt : α → α → Bool} {U : α → Prop} {J : List α → Option R} {N : Nat} (L2 : Nat → Nat → List α → Option R)
    (h2 : ∀ n (bs : Nat) (o : List α), 0 < bs → bs < N → o.length = N → (∀ x ∈ o, U x) → Chk gt bs o → ∃ o', StP f o' o ∧ Chk gt (2 * bs) o' ∧ L2 (n + 1) bs o = L2 n (2 * bs) o')
    (h2e : ∀ n (bs : Nat) (o : List α), N ≤ bs → o.length = N → L2 (n + 1) bs o = J o) :
    ∀ (d n bs : Nat) (o : List α), N - bs ≤ d → d < n → 0 < bs → o.length = N → (∀ x ∈ o, U x) → Chk gt bs o → ∃ o', StP f o' o ∧ OrdB gt o' ∧ L2 n bs o = J o' := by
  intro d
  induction d with
  | zero =>
    intro n bs o hd hn hb hN hU hC; obtain ⟨n, rfl⟩ : ∃ q, n = q + 1 := ⟨n - 1, by omega⟩; exact ⟨o, .refl _, hC.ord (by omega), h2e n bs o (by omega) hN⟩
  | succ d ih =>
    intro n bs o hd hn hb hN hU hC; obtain ⟨n, rfl⟩ : ∃ q, n = q + 1 := ⟨n - 1, by omega⟩; rcases Nat.lt_or_ge bs N with h | h
    · obtain ⟨o', g1, g2, g3⟩ := h2 n bs o hb h hN hU hC
      obtain ⟨o2, k1, k2, k3⟩ := ih n (2 * bs) o' (by omega) (by omega) (by omega) (by rw [g1.length_eq, hN]) (fun x hx => hU x (g1.mem_iff.1 hx)) g2; exact ⟨o2, k1.trans g1, k2, g3.trans k3⟩
    · exact ⟨o, .refl _, hC.ord (by omega), h2e n bs o h hN⟩
theorem merge_midS {α κ : Type} {f : κ → α → Bool} {gt : α → α → Bool} {U A1 A2 B1 B2 Z1 Z2 : List α} (hf : ∀ v, ∀ x ∈ U, ∀ y ∈ U, f v x = true → f v y = true → gt x y = false) (ht : ∀ x ∈ U, ∀ y ∈ U, ∀ z ∈ U, gt x y = false → gt y z = false → gt x z = false)
    (hU : ∀ x ∈ A1 ++ A2 ++ (B1 ++ B2), x ∈ U) (hA : OrdB gt (A1 ++ A2)) (hB : OrdB gt (B1 ++ B2))
    (h1 : ∀ x y, A1[A1.length - 1]? = some x → B2[0]? = some y → gt x y = false) (h2 : ∀ x y, B1[B1.length - 1]? = some x → A2[0]? = some y → gt x y = false) (h3 : ∀ x y, B1[B1.length - 1]? = some x → A2[0]? = some y → gt y x = true)
    (z1 : StP f Z1 (A1 ++ B1)) (o1 : OrdB gt Z1) (z2 : StP f Z2 (A2 ++ B2)) (o2 : OrdB gt Z2) : StP f (Z1 ++ Z2) (A1 ++ A2 ++ (B1 ++ B2)) ∧ OrdB gt (Z1 ++ Z2) := by
  refine ⟨?_, (merge_mid ht hU hA hB h1 h2 z1.perm o1 z2.perm o2).2⟩; refine (z1.append z2).trans ?_; rw [List.append_assoc, List.append_assoc]; refine (StP.refl A1).append ?_; rw [← List.append_assoc, ← List.append_assoc]; refine StP.append (StP.swap fun v b hb a ha k1 k2 => ?_) (StP.refl B2); obtain ⟨hA1, hA2, hAA⟩ := ord_split hA; obtain ⟨hB1, hB2, hBB⟩ := ord_split hB; have inU : ∀ x, x ∈ A2 ∨ x ∈ B1 → x ∈ U := fun x hx => hU x (by rcases hx with h | h <;> simp [h])
  have lB : B1[B1.length - 1]? = some (B1.getLast (List.ne_nil_of_mem hb)) := by
    rw [← List.getLast?_eq_getElem?, List.getLast?_eq_some_getLast]
  have hA0 : A2[0]? = some (A2.head (List.ne_nil_of_mem ha)) := by
    rw [← List.head?_eq_getElem?, List.head?_eq_some_head]
  have lBm := List.getLast_mem (List.ne_nil_of_mem hb); have hAm := List.head_mem (List.ne_nil_of_mem ha)
  have e1 : gt b (B1.getLast (List.ne_nil_of_mem hb)) = false ∨ b = B1.getLast (List.ne_nil_of_mem hb) := by
    have hs : B1 = B1.dropLast ++ [B1.getLast (List.ne_nil_of_mem hb)] := (List.dropLast_concat_getLast _).symm; generalize hl : B1.getLast (List.ne_nil_of_mem hb) = z at hs; rw [hs] at hb hB1; rcases List.mem_append.1 hb with h | h
    · exact .inl ((List.pairwise_append.1 hB1).2.2 b h z (by simp))
    · exact .inr (List.mem_singleton.1 h)
  have e2 : gt (A2.head (List.ne_nil_of_mem ha)) a = false ∨ A2.head (List.ne_nil_of_mem ha) = a := by
    cases A2 with
    | nil => cases ha
    | cons x A2 =>
      rcases List.mem_cons.1 ha with rfl | h
      · exact .inr rfl
      · exact .inl ((List.pairwise_cons.1 hA2).1 a h)
  have hs := h3 _ _ lB hA0; generalize B1.getLast (List.ne_nil_of_mem hb) = z at *; generalize A2.head (List.ne_nil_of_mem ha) = y at *; have e3 := hf v a (inU a (.inl ha)) b (inU b (.inr hb)) k2 k1
  have e4 : gt y b = false := by
    rcases e2 with h | rfl
    · exact ht y (inU y (.inl hAm)) a (inU a (.inl ha)) b (inU b (.inr hb)) h e3
    · exact e3
  have e5 : gt y z = false := by
    rcases e1 with h | rfl
    · exact ht y (inU y (.inl hAm)) b (inU b (.inr hb)) z (inU z (.inr lBm)) e4 h
    · exact e4
  rw [e5] at hs; cases hs
theorem st_unique {α κ : Type} {key : α → κ} {f : κ → α → Bool} {gt : α → α → Bool} (hk : ∀ v x, f v x = true ↔ key x = v) : ∀ {a b : List α}, a.length = b.length → (∀ v, a.filter (f v) = b.filter (f v)) → OrdB gt a → OrdB gt b → (∀ x ∈ a, ∀ y ∈ a, gt x y = false → gt y x = false → key x = key y) → (∀ x ∈ b, x ∈ a) → (∀ x, gt x x = false) → a = b
  | [], b, hl, _, _, _, _, _, _ => (List.eq_nil_of_length_eq_zero (by simpa using hl.symm)).symm
  | x :: a, [], hl, _, _, _, _, _, _ => by simp at hl
  | x :: a, y :: b, hl, hst, oa, ob, hu, hm, hr => by
    have hya : y ∈ x :: a := hm y (by simp)
    have hxb : x ∈ y :: b := by
      have h1 : x ∈ (x :: a).filter (f (key x)) := List.mem_filter.2 ⟨by simp, (hk _ _).2 rfl⟩; rw [hst] at h1; exact (List.mem_filter.1 h1).1
    have g1 : gt x y = false := by
      rcases List.mem_cons.1 hya with rfl | h
      · exact hr _
      · exact (List.pairwise_cons.1 oa).1 y h
    have g2 : gt y x = false := by
      rcases List.mem_cons.1 hxb with h | h
      · rw [h]; exact hr _
      · exact (List.pairwise_cons.1 ob).1 x h
    have ek : key x = key y := hu x (by simp) y hya g1 g2; have h0 := hst (key x); rw [List.filter_cons, List.filter_cons, if_pos ((hk _ _).2 rfl), if_pos ((hk _ _).2 ek.symm)] at h0; obtain ⟨exy, h1⟩ := List.cons.inj h0; subst exy
    have hst' : ∀ v, a.filter (f v) = b.filter (f v) := fun v => by
      have h2 := hst v; rw [List.filter_cons, List.filter_cons] at h2; cases h3 : f v x with
      | true => rw [h3, if_pos rfl, if_pos rfl] at h2; exact (List.cons.inj h2).2
      | false => rw [h3, if_neg (by simp), if_neg (by simp)] at h2; exact h2
    have hm' : ∀ z ∈ b, z ∈ a := fun z hz => by
      have h2 : z ∈ b.filter (f (key z)) := List.mem_filter.2 ⟨hz, (hk _ _).2 rfl⟩; rw [← hst'] at h2; exact (List.mem_filter.1 h2).1
    rw [st_unique hk (by simpa using hl) hst' (List.pairwise_cons.1 oa).2 (List.pairwise_cons.1 ob).2 (fun p hp q hq => hu p (by simp [hp]) q (by simp [hq])) hm' hr]
end Go.Lift
/- Sizes, conversions and comparisons of arguments: the loops. Own work. -/
namespace Go.Lift
end Go.Lift
