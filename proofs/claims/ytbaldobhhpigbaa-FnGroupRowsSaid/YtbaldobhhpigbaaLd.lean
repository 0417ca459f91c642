/- The logic, part four: texts, regions that write, laws over bytes, guards. -/
import Derived.Test.YtbaldobhhpigbaaLc
import Derived.Laws.BytesArg
import Derived.Laws.Cover3
import Derived.OpenShut
import Derived.Laws.MakeOwn
import Derived.Laws.Bits64
import Derived.ChangeArms
import Derived.DataReads
import Derived.WideShapes
import Derived.ChangeShapes
set_option linter.unusedVariables false
set_option linter.unusedSimpArgs false
set_option linter.unnecessarySimpa false
/- The lifted logic, part 31: bytes as a text; literals that are one's own. Own work. -/
namespace Go.Lift
open Go.RowKit
def bStr (l : List UInt8) : ByteArray := ⟨l.toArray⟩
theorem fro_bytes_inv {w : World} {ok : Nat → Prop} : ∀ {l : List UInt8} {vs : List Value}, FroL w ok ((l.map e_uint8).flatMap LV.cells) vs → vs = l.map fun b => Value.int .u8 (b.toNat : Int)
  | [], _, .nil => rfl
  | b :: l, vs, h => by
    have h' : FroL w ok (e_uint8 b :: (l.map e_uint8).flatMap LV.cells) vs := by simpa [e_uint8] using h
    cases h' with
    | cons h1 h2 h3 =>
      cases h1; rw [fro_bytes_inv h3]; rfl
section
variable {P : Program} {E : Ent} {Q : Exit → LState → Prop} {s : LState} {all : Array Oper} {rest : List Oper} {d : Nat} {ty : TypeId} {pos : String} {af : Array Edge}
theorem LWo.strM {src dst e : TypeId} {x : Operand} {l : List UInt8} (hs : P.underlying src = some (.slice e)) (hd' : P.underlying dst = some .string) (he : P.underlying e = some (.int .u8)) (hx : s.eval x = .sl 1 (l.map e_uint8)) (hd : Nat.blt d E.n = true := by exact rfl)
    (hn : LWo P E all rest Q (s.put (some d) (e_string (bStr l)))) :
    LWo P E all ({ dst := some d, op := .convert src dst x, type := ty, pos := pos, after := af, guard := none } :: rest) Q s :=
  LWo.still _ hd (fun a w ok ρ F hi => by
    have h := hi.eval x; rw [hx] at h; refine ⟨.string (bStr l), ?_, .fro (.imm _)⟩
    have hrun : (convert src dst (a.eval x)).run P w = .ok (.string (bStr l)) w := by
      have hf := h.sl_inv; rcases l with _ | ⟨b, l⟩
      · generalize a.eval x = v at hf
        cases hf with
        | sl0 h =>
          rename_i c A; cases A with
          | none => exact run_convert_bytes_nil w src e hs he 0 c dst hd'
          | some A => exact run_convert_bytes_back w src dst e A c [] hs he hd' (by simp)
        | sl h => simp at h
      · generalize hl : b :: l = L at hf ⊢
        have hne : L.map e_uint8 ≠ [] := by rw [← hl]; simp
        generalize a.eval x = v at hf; generalize hM : L.map e_uint8 = M at hf hne; cases hf with
        | sl0 h => exact absurd rfl hne
        | sl h0 h1 h2 h3 h4 h5 h6 =>
          rename_i c vs ad; subst hM; have hv := fro_bytes_inv h2; subst hv; rw [List.length_map]; exact run_convert_bytes_back w src dst e ad c L hs he hd' (fun j hj => h3 j _ (by simp [hj]))
    simp only [execOp]; rw [Sem.run_bind, hrun]; rfl) hn
theorem LWo.pickTM {c x y : Operand} {b : Bool} (z : LV) (hc : s.eval c = .imm (.bool b)) (h : b = true) (hz : s.eval x = z) (hd : Nat.blt d E.n = true := by exact rfl) (hn : LWo P E all rest Q (s.put (some d) z)) :
    LWo P E all ({ dst := some d, op := .pick c x y, type := ty, pos := pos, after := af, guard := none } :: rest) Q s := LWo.pickT hc h hd (by rw [hz]; exact hn)
theorem LWo.pickFM {c x y : Operand} {b : Bool} (z : LV) (hc : s.eval c = .imm (.bool b)) (h : b = false) (hz : s.eval y = z) (hd : Nat.blt d E.n = true := by exact rfl) (hn : LWo P E all rest Q (s.put (some d) z)) :
    LWo P E all ({ dst := some d, op := .pick c x y, type := ty, pos := pos, after := af, guard := none } :: rest) Q s := LWo.pickF hc h hd (by rw [hz]; exact hn)
end
end Go.Lift
/- The lifted logic, part 32: regions of open order whose operations may write. Own work. -/
namespace Go.Lift
open Go.RowKit
def lookH (k : Nat) : List HF → HF
  | [] => ⟨k, { kind := .fro, sz := 0, elems := [] }, none⟩
  | f :: r => if f.k = k then f else lookH k r
def hasH (k : Nat) (l : List HF) : Bool := l.any (·.k == k)
def AllH (h : LHeap) : List HF → Prop
  | [] => True
  | f :: r => hget f.k h = some f.obj ∧ AllH h r
theorem AllH.of {h : LHeap} : ∀ {l : List HF}, (∀ f ∈ l, hget f.k h = some f.obj) → AllH h l
  | [], _ => trivial
  | f :: r, hh => ⟨hh f (by simp), AllH.of fun g hg => hh g (by simp [hg])⟩
theorem lookH_k (k : Nat) : ∀ l, (lookH k l).k = k
  | [] => rfl
  | f :: r => by
    simp only [lookH]
    split
    · assumption
    · exact lookH_k k r
theorem lookH_mem {k : Nat} : ∀ {l}, hasH k l = true → lookH k l ∈ l
  | f :: r, h => by
    simp only [lookH]
    split
    · simp
    · rename_i e
      simp [hasH, e] at h; exact List.mem_cons_of_mem _ (lookH_mem (l := r) (by simpa [hasH] using h))
def Ef.accS (i : Nat) (acc : List SF) : Ef → List SF
  | .put d y => ⟨d, y, some i, y.refs⟩ :: acc
  | .upd (some d) y _ _ => ⟨d, y, some i, y.refs⟩ :: acc
  | .upd none _ _ _ => acc
  | .make d y _ _ => ⟨d, y, some i, y.refs⟩ :: acc
def Ef.accH (i : Nat) (ah : List HF) : Ef → List HF
  | .put _ _ => ah
  | .upd _ _ k obj => ⟨k, obj, some i⟩ :: ah
  | .make _ _ k obj => ⟨k, obj, some i⟩ :: ah
section
variable {P : Program} {E : Ent} {Q : Exit → LState → Prop}
def DSE (P : Program) (E : Ent) (KS : List (Nat × Nat)) (all : Array Oper) : List Oper → List (List Nat × List Nat) → Nat → List SF → List HF → (List SF → List HF → List Rec → Prop) → Prop
  | o :: os, (rd, hk) :: ps, i, acc, ah, k => (rd.all (hasT · acc) && hk.all (hasH · ah)) = true ∧ ∃ ef : Ef, ef.good KS ∧ (∀ u : LState, Good KS u → AllF u.tm (rd.map (look · acc)) → AllH u.h (hk.map (lookH · ah)) → LWo P E all [o] (fun e t => e = .normal ∧ (t = ef.run u ∨ t.le (ef.run u)) ∧ Good KS t) u) ∧
      DSE P E KS all os ps (i + 1) (ef.accS i acc) (ef.accH i ah) (fun a b r => k a b (⟨ef, rd.map (look · acc), hk.map (lookH · ah)⟩ :: r))
  | [], [], _, acc, ah, k => k acc ah []
  | _, _, _, _, _, _ => False
theorem DSE.out {KS : List (Nat × Nat)} {all : Array Oper} : ∀ {os : List Oper} {ps : List (List Nat × List Nat)} {i : Nat} {acc : List SF} {ah : List HF} {k : List SF → List HF → List Rec → Prop}, DSE P E KS all os ps i acc ah k →
    ∃ (acc' : List SF) (ah' : List HF) (recs : List Rec), k acc' ah' recs ∧ recs.length = os.length ∧ (∀ (j : Nat) (o : Oper) (r : Rec), os[j]? = some o → recs[j]? = some r → r.ok P E KS all o) ∧
      (∀ f ∈ acc, f ∈ acc') ∧ (∀ f ∈ ah, f ∈ ah') ∧
      (∀ f ∈ acc', f ∈ acc ∨ ∃ j r, f.est = some (i + j) ∧ recs[j]? = some r ∧ r.ef.dst = some f.t ∧ (∀ s, get f.t (r.ef.run s).tm = f.v) ∧ f.rf = f.v.refs) ∧
      (∀ f ∈ ah', f ∈ ah ∨ ∃ j r, f.est = some (i + j) ∧ recs[j]? = some r ∧ (∀ s, hget f.k (r.ef.run s).h = some f.obj)) ∧
      (∀ r ∈ recs, (∀ f ∈ r.rs, f ∈ acc') ∧ ∀ f ∈ r.rk, f ∈ ah')
  | o :: os, (rd, hk) :: ps, i, acc, ah, k, ⟨hin, ef, hgood, h1, h2⟩ => by
    obtain ⟨acc', ah', recs, hk', hlen, hok, hsub, hsubH, hnew, hnewH, hreq⟩ := DSE.out h2; simp only [Bool.and_eq_true] at hin
    have hs1 : ∀ f ∈ acc, f ∈ ef.accS i acc := by
      intro f hf; cases ef with
      | put d y => simp [Ef.accS, hf]
      | upd d y k o => cases d <;> simp [Ef.accS, hf]
      | make d y k o => simp [Ef.accS, hf]
    have hs2 : ∀ f ∈ ah, f ∈ ef.accH i ah := by
      intro f hf; cases ef <;> simp [Ef.accH, hf]
    refine ⟨acc', ah', _, hk', by simp [hlen], ?_, fun f hf => hsub f (hs1 f hf), fun f hf => hsubH f (hs2 f hf), ?_, ?_, ?_⟩
    · intro j o' r ho hr
      cases j with
      | zero =>
        simp at ho hr; subst ho; subst hr; refine ⟨hgood, fun u hu hrs hrk => ?_⟩; exact h1 u hu (AllF.of hrs) (AllH.of hrk)
      | succ j => simp at ho hr; exact hok j o' r ho hr
    · intro f hf
      rcases hnew f hf with h | ⟨j, r, he, hr, h⟩
      · cases ef with
        | put d y =>
          rcases List.mem_cons.1 h with rfl | h
          · exact .inr ⟨0, _, by simp, rfl, rfl, fun s => by simp [Ef.run, LState.put, get], rfl⟩
          · exact .inl h
        | upd d y kk obj =>
          cases d with
          | none => exact .inl h
          | some d =>
            rcases List.mem_cons.1 h with rfl | h
            · exact .inr ⟨0, _, by simp, rfl, rfl, fun s => by simp [Ef.run, LState.put, get], rfl⟩
            · exact .inl h
        | make d y kk obj =>
          rcases List.mem_cons.1 h with rfl | h
          · exact .inr ⟨0, _, by simp, rfl, rfl, fun s => by simp [Ef.run, get], rfl⟩
          · exact .inl h
      · exact .inr ⟨j + 1, r, by rw [he]; congr 1; omega, by simpa using hr, h⟩
    · intro f hf
      rcases hnewH f hf with h | ⟨j, r, he, hr, h⟩
      · cases ef with
        | put d y => exact .inl h
        | upd d y kk obj =>
          rcases List.mem_cons.1 h with rfl | h
          · refine .inr ⟨0, _, by simp, rfl, fun s => ?_⟩
            cases d <;> simp [Ef.run, LState.put, hget]
          · exact .inl h
        | make d y kk obj =>
          rcases List.mem_cons.1 h with rfl | h
          · exact .inr ⟨0, _, by simp, rfl, fun s => by simp [Ef.run, hget]⟩
          · exact .inl h
      · exact .inr ⟨j + 1, r, by rw [he]; congr 1; omega, by simpa using hr, h⟩
    · intro r hr
      rcases List.mem_cons.1 hr with rfl | hr
      · refine ⟨fun f hf => ?_, fun f hf => ?_⟩
        · obtain ⟨t, ht, rfl⟩ := List.mem_map.1 hf
          exact hsub _ (hs1 _ (look_mem (List.all_eq_true.1 hin.1 t ht)))
        · obtain ⟨t, ht, rfl⟩ := List.mem_map.1 hf
          exact hsubH _ (hs2 _ (lookH_mem (List.all_eq_true.1 hin.2 t ht)))
      · exact hreq r hr
  | [], [], i, acc, ah, k, h => ⟨acc, ah, [], h, rfl, by simp, by simp, by simp, fun f hf => .inl hf, fun f hf => .inl hf, by simp⟩
theorem LWP.drawE {id : Nat} {l : List Oper} {s : LState} (KS : List (Nat × Nat)) (U : List Nat) (plan : List (List Nat × List Nat)) (out outH : List Nat) (hm : P.follows .mixedOrders = true)
    (hedge : (l.zipIdx.all fun (o, i) => (edgesOf o).all fun j => decide (j < i)) = true) (hgood : KS.all (fun p => lone p.1 (hdel p.2 s.h)) = true) (hnd : outH.Nodup)
    (h : DSE P E KS l.toArray l plan 0 (base s U) (heapF s.h) (fun acc ah recs => (out.all (hasT · acc) && outH.all (hasH · ah)) = true ∧ drawOK (preAll l []) (recs.map Rec.info) ((out.map (look · acc)).map fun f => (f.t, f.est, f.rf)) ((outH.map (lookH · ah)).map fun f => (f.k, f.est)) = true ∧ Q .normal ⟨out.map fun t => (t, (look t acc).v), outH.map fun k => (k, (lookH k ah).obj)⟩)) :
    LWP P E (.region id l.toArray true) Q s := by
  intro a w hi; have hnk : (hkeys s.h).Nodup := by obtain ⟨ok, ρ, F, h⟩ := hi; exact h.heap.keys
  obtain ⟨acc, ah, recs, ⟨hout, hc, hq⟩, hlen, hok, hsub, hsubH, hnew, hnewH, hreq⟩ := h.out; simp only [Bool.and_eq_true] at hout; refine LWP.draw (Q := Q) KS recs acc ah _ hm hlen hedge (fun k hk => List.all_eq_true.1 hgood k hk) (fun i o r ho hr => hok i o r ho hr) ?_ ?_ hreq (out.map (look · acc)) (outH.map (lookH · ah)) ?_ ?_ ?_ rfl hc ?_ a w hi
  · intro f hf
    rcases hnew f hf with h | ⟨j, r, he, hr, h1, h2, h3⟩
    · obtain ⟨t, ht, rfl⟩ := List.mem_map.1 h
      exact ⟨fun k hk => LV.refs_at? k _ hk, rfl⟩
    · refine ⟨fun k hk => LV.refs_at? k _ (h3 ▸ hk), ?_⟩
      rw [he]; simp only [Nat.zero_add]; exact ⟨r, hr, h1, h2⟩
  · intro f hf
    rcases hnewH f hf with h | ⟨j, r, he, hr, h1⟩
    · obtain ⟨p, hp, rfl⟩ := List.mem_map.1 h
      exact hget_of_mem hnk hp
    · rw [he]
      simp only [Nat.zero_add]; exact ⟨r, hr, h1⟩
  · intro f hf
    obtain ⟨t, ht, rfl⟩ := List.mem_map.1 hf; exact look_mem (List.all_eq_true.1 hout.1 t ht)
  · intro f hf
    obtain ⟨t, ht, rfl⟩ := List.mem_map.1 hf; exact lookH_mem (List.all_eq_true.1 hout.2 t ht)
  · rw [List.map_map]
    simpa [Function.comp_def, lookH_k] using hnd
  · have e1 : List.map (fun f : SF => (f.t, f.v)) (List.map (fun x => look x acc) out) = out.map fun t => (t, (look t acc).v) := by
      rw [List.map_map]; exact List.map_congr_left fun t _ => by simp [look_t]
    have e2 : List.map (fun f : HF => (f.k, f.obj)) (List.map (fun x => lookH x ah) outH) = outH.map fun k => (k, (lookH k ah).obj) := by
      rw [List.map_map]; exact List.map_congr_left fun t _ => by simp [lookH_k]
    rw [e1, e2]; exact hq
theorem lone_of {k : Nat} {KS : List (Nat × Nat)} {u : LState} (h : Good KS u) (hk : KS.contains (k, k) = true) : lone k (hdel k u.h) = true := h (k, k) (by simpa using hk)
theorem goodN {j : Nat} {obj : LObj} : ∀ k ∈ ([] : List (Nat × Nat)), (j == k.2 || !obj.at? k.1) = true := fun _ h => by cases h
theorem goodC {j : Nat} {obj : LObj} {a : Nat × Nat} {l : List (Nat × Nat)} (h : (j == a.2 || !obj.at? a.1) = true) (h2 : ∀ k ∈ l, (j == k.2 || !obj.at? k.1) = true) : ∀ k ∈ a :: l, (j == k.2 || !obj.at? k.1) = true := fun k hk => by
  rcases List.mem_cons.1 hk with rfl | hk
  · exact h
  · exact h2 k hk
def cut3? {α : Type} (l : List α) (lo hi mx : Int) : Option (List α) := if 0 ≤ lo ∧ lo ≤ hi ∧ hi ≤ mx ∧ mx ≤ l.length then some ((l.take hi.toNat).drop lo.toNat) else none
theorem LWo.cutM3 {α : Type} {T e : TypeId} {sz : Nat} {f : α → LV} {l r : List α} {lo hi mx : Int} {x : Operand} {lx : Option Operand} {hx' mx' : Operand} {all : Array Oper} {rest : List Oper} {d : Nat} {ty : TypeId} {pos : String} {af : Array Edge} {s : LState} (he : cut3? l lo hi mx = some r) (hu : P.underlying T = some (.slice e)) (hz : ∀ w, (sizeOf e).run P w = .ok sz w)
    (hx : s.eval x = .sl sz (l.map f)) (hl : match lx with | none => lo = 0 | some o => ∃ k, s.eval o = .imm (.int k lo)) (hh : ∃ k, s.eval hx' = .imm (.int k hi)) (hm : ∃ k, s.eval mx' = .imm (.int k mx)) (hd : Nat.blt d E.n = true := by exact rfl)
    (hn : LWo P E all rest Q (s.put (some d) (.sl sz (r.map f)))) :
    LWo P E all ({ dst := some d, op := .slice T x lx (some hx') (some mx'), type := ty, pos := pos, after := af, guard := none } :: rest) Q s := by
  unfold cut3? at he
  split at he
  · rename_i h1
    cases he; refine LWo.cut (l := lo.toNat) (h := hi.toNat) _ hu hz hx ?_ ?_ ?_ (.inr (by simp)) (by omega) (by rw [List.length_map]; omega) ?_ hd hn
    · cases lx with
      | none => simp only at hl; subst hl; rfl
      | some o => obtain ⟨k, hk⟩ := hl; exact ⟨k, by rw [hk, Int.toNat_of_nonneg h1.1]⟩
    · obtain ⟨k, hk⟩ := hh; exact ⟨k, by rw [hk, Int.toNat_of_nonneg (by omega)]⟩
    · obtain ⟨k, hk⟩ := hm
      exact ⟨k, mx.toNat, by rw [hk, Int.toNat_of_nonneg (by omega)], by omega, by rw [List.length_map]; omega⟩
    · rw [List.map_drop, List.map_take]
  · cases he
theorem LWo.bcallM {α : Type} {f : Operand} {ops : List Operand} {ts : Array TypeId} {g : FuncId} {caps vals xs : List LV} {sz : Nat} {e : α → LV} {v : α} {all : Array Oper} {rest : List Oper} {d : Nat} {ty : TypeId} {pos : String} {af : Array Edge} {s : LState} (k : Nat) (hf : s.eval f = .clo g caps) (hv : ops.map s.eval ++ caps = vals)
    (hfn : Ret P g xs (.nb (e v).cells)) (hA : ArgsOK s [] vals xs []) (hag : e v = .agg (e v).cells) (hsz : (e v).cells.length = sz) (hl : Lift.lone k (hdel k s.h) = true) (hkp : E.keep.contains k = false := by exact rfl) (hd : Nat.blt d E.n = true := by exact rfl)
    (hn : LWo P E all rest Q { tm := (d, .ptr k 0 0) :: kill k s.tm, h := (k, vob sz e v) :: hdel k s.h }) :
    LWo P E all ({ dst := some d, op := .call { callee := .value f, args := ops.toArray, argTypes := ts }, type := ty, pos := pos, after := af, guard := none } :: rest) Q s :=
  LWo.bcall (R := fun cs => cs = (e v).cells) k hf hv (hfn.mono fun r h ⟨h1, h2⟩ => ⟨⟨_, h1, rfl⟩, h2⟩) hA hkp hl hd (by
    rintro cs rfl; rw [← hag, hsz]; exact hn)
end
end Go.Lift
/- The lifted logic, part 33: a law over bytes, out of its contract. Own work. -/
namespace Go.Lift
open Go.RowKit
theorem u8_back {n : Int} (h : (Lit.int .u8 n).wf = true) : ((UInt8.ofNat n.toNat).toNat : Int) = n := by
  have hb := bounds_u8 h; rw [UInt8.toNat_ofNat']; omega
theorem law_bytes {P : Program} {f : FuncId} (h : ∀ l : List UInt8, Ret P f [.sl 1 (l.map e_uint8)] (e_bool true)) (W : World) (a : Option Addr) (len cap : Nat) (zs : List Int)
    (hz : (a = none ∧ len = 0 ∧ cap = 0 ∧ zs = []) ∨ ∃ x, a = some x ∧ len ≤ cap ∧ cap ≤ maxLen ∧ zs.length = cap ∧ (∀ i, i < zs.length → W.cell? (x.add i) = some (.int .u8 (zs.getD i 0))) ∧ ∀ n ∈ zs, (Lit.int .u8 n).wf = true) (hb : ∀ x, a = some x → 0 < len → x.block < W.heap.size) :
    Calls P f #[.slice a len cap] W fun e w' => e = .returned (.bool true) ∧ Below W.heap.size W w' := by
  obtain ⟨l, hl⟩ : ∃ l : List UInt8, Fro W (fun k => k < W.heap.size) (.sl 1 (l.map e_uint8)) (.slice a len cap) := by
    rcases hz with ⟨rfl, rfl, rfl, rfl⟩ | ⟨x, rfl, h1, h2, h3, h4, h5⟩
    · exact ⟨[], .sl0 (by decide)⟩
    · refine ⟨(zs.take len).map fun n => UInt8.ofNat n.toNat, ?_⟩
      have hlen : (((zs.take len).map fun n => UInt8.ofNat n.toNat).map e_uint8).length = len := by simp; omega
      rcases Nat.eq_zero_or_pos len with rfl | hpos
      · simpa using Fro.sl0 h2
      · have hfr : ∀ ys : List Int, (∀ n ∈ ys, (Lit.int .u8 n).wf = true) → FroL W (fun k => k < W.heap.size) (((ys.map fun n => UInt8.ofNat n.toNat).map e_uint8).flatMap LV.cells) (ys.map (Value.int .u8)) := by
          intro ys
          induction ys with
          | nil => intro _; exact .nil
          | cons y ys ih =>
            intro hy; refine .cons ?_ rfl (ih fun n hn => hy n (by simp [hn])); show Fro W _ (.imm (.int .u8 ((UInt8.ofNat y.toNat).toNat : Int))) _; rw [u8_back (hy y (by simp))]; exact .imm _
        have := Fro.sl (w := W) (ok := fun k => k < W.heap.size) (sz := 1) (c := cap) (xs := ((zs.take len).map fun n => UInt8.ofNat n.toNat).map e_uint8) (ad := x) (by intro e; rw [e] at hlen; simp at hlen; omega)
          (by intro y hy; obtain ⟨b, _, rfl⟩ := List.mem_map.1 hy; rfl) (hfr (zs.take len) (fun n hn => h5 n (List.mem_of_mem_take hn))) (by
            intro k v hk; simp only [List.getElem?_map, List.getElem?_take] at hk
            split at hk
            · rename_i hlt
              rw [h4 k (by omega)]; simp [List.getD_eq_getElem?_getD]; cases hz : zs[k]? with
              | none => rw [hz] at hk; simp at hk
              | some u => rw [hz] at hk; simpa using hk
            · simp at hk) (hb x rfl hpos) (by omega) h2
        rw [hlen] at this; exact this
  have hc := (h l).2 W [.slice a len cap] (fun k => k < W.heap.size) (fun _ => none) (fun _ => []) (.cons (.fro hl) .nil) ⟨by simp [hkeys], by simp, by simp [fpsOf], by simp [fpsOf]⟩ (fun _ h => h); refine Calls.mono hc ?_; rintro e w' ⟨v, r, hl', ok', F', fr, rfl, ⟨rfl, rfl⟩, hext, hres, _⟩; refine ⟨?_, ⟨hext.os, hext.tape, hext.output, hext.size, fun k hk => hext.block k hk (by simp [fpsOf, rwOf])⟩⟩; cases hres with
  | fro h => cases h; rfl
end Go.Lift
/- The lifted logic, part 34: guards whose own guard is not wanted; lists made at once; one's own list lent under any name. Own work. -/
namespace Go.Lift
open Go.RowKit
section
variable {P : Program} {E : Ent} {Q : Exit → LState → Prop} {s : LState} {all : Array Oper} {rest : List Oper} {d : Nat} {ty : TypeId} {pos : String} {af : Array Edge}
theorem LWo.skip {o : Oper} (d : Nat) (ho : o.dst = some d) (hlt : Nat.blt d E.n = true) (hw : ∀ a w ok ρ F, Inv' E s a w ok ρ F → Region.wanted o (yielded all a.tmps) = false)
    (hn : LWo P E all rest Q (s.put (some d) (.imm undef))) : LWo P E all (o :: rest) Q s := by
  intro a w ⟨ok, ρ, F, hi⟩; unfold wpList; rw [if_neg (by rw [hw a w ok ρ F hi]; simp)]; refine hn _ _ ⟨ok, ρ, F, ?_⟩; rw [ho]; exact hi.put hlt (.fro (.imm _))
theorem LWo.guardNU {o : Oper} {j t d : Nat} {b nw want : Bool} (hb : get t s.tm = .imm (.bool b)) (h : b = nw) (hg : o.guard = some (j, want)) (hd : (all[j]?).bind (·.dst) = some t) (ho : o.dst = some d) (hlt : Nat.blt d E.n = true) (hne : nw = !want)
    (hn : LWo P E all rest Q (s.put (some d) (.imm undef))) : LWo P E all (o :: rest) Q s :=
  LWo.skip d ho hlt (fun a w ok ρ F hi => by
    have hy := yielded_of hi hd hb; subst h hne; simp only [Region.wanted, hg, hy]; cases want <;> rfl) hn
theorem LWo.guardU {o : Oper} {j t d : Nat} {want : Bool} (hb : get t s.tm = .imm undef) (hg : o.guard = some (j, want)) (hd : (all[j]?).bind (·.dst) = some t) (ho : o.dst = some d) (hlt : Nat.blt d E.n = true)
    (hn : LWo P E all rest Q (s.put (some d) (.imm undef))) : LWo P E all (o :: rest) Q s :=
  LWo.skip d ho hlt (fun a w ok ρ F hi => by
    have hs := hi.slots t; rw [hb] at hs; have hv := hs.imm_inv
    have hy : yielded all a.tmps j = none := by
      rw [Array.getD_eq_getD_getElem?] at hv; cases h : a.tmps[t]? with
      | none => simp [yielded, hd, h]
      | some v =>
        rw [h] at hv; simp only [Option.getD_some] at hv; subst hv; simp [yielded, hd, h, undef]
    simp [Region.wanted, hg, hy]) hn
theorem Does.nameT {f : FuncId} {n : Nat} {obj : LObj} {xs : List LV} {R : LV → Prop} (hk : obj.kind = .fro) (hro : obj.ro = false) (hxs : ∀ k, LV.at?.atL k xs = false) (h : Does P f (.own 0 0 n :: xs) [(0, obj)] (fun r h => R r ∧ h = [])) (k : Nat) :
    Does P f (.own k 0 n :: xs) [(k, obj)] (fun r h => R r ∧ h = []) := by
  refine ⟨h.1, fun w vs ok ρ F hT hH hok => ?_⟩; have hFe : fpsOf (fun _ => F k) (rwOf [(0, obj)]) = fpsOf F (rwOf [(k, obj)]) := by simp [rwOf, hro, fpsOf]
  have hT' : RepT w ok (fun _ => ρ k) (.own 0 0 n :: xs) vs := by
    cases hT with
    | cons h1 h2 =>
      refine .cons ?_ ?_
      · rcases h1.own_inv with ⟨p, c, hp, h2, h3, hv⟩ | ⟨rfl, A, hv⟩
        · rw [hv]; exact .own hp h2 h3
        · rw [hv]; exact .own0
      · exact RepT.stable (fun _ _ => rfl) (fun _ hb => hb) (fun o ho => absurd ho (LV.atL_refs o _ (hxs o))) h2
  have hH' : HeapOK w ok (fun _ => ρ k) (fun _ => F k) [(0, obj)] := by
    refine ⟨by simp [hkeys], fun p hp => ?_, ?_, ?_⟩
    · simp at hp; subst hp
      rcases hH.objs (k, obj) (by simp) with ⟨h1, h2, h3⟩ | ⟨p, arr, t, us, fps, h1, h2, h3⟩
      · exact .inl ⟨h1, h2, h3⟩
      · refine .inr ⟨p, arr, t, us, fps, h1, h2, { h3 with cells := ?_ }⟩
        have hc := h3.cells; simp only [hk] at hc ⊢; exact hc
    · have := hH.nodup; simpa [fpsOf] using this
    · intro b hb
      exact hH.apart b (by simpa [fpsOf] using hb)
  refine (h.2 w vs ok (fun _ => ρ k) (fun _ => F k) hT' hH' hok).mono fun e w' => ?_; rintro ⟨v, r, hl', ok', F', fr, he, ⟨hR, rfl⟩, hext, hres, hk', ho', hn', hb', hok'⟩; refine ⟨v, r, [], ok', F', fr, he, ⟨hR, rfl⟩, hFe ▸ hext, hres, hk', ?_, hn', ?_, ?_⟩
  · simp
  · rw [← hFe]; exact hb'
  · rw [← hFe]; exact hok'
theorem LWo.tcallN {α β : Type} {f : Operand} {ops : List Operand} {ts : Array TypeId} {g : FuncId} {caps vals xs : List LV} {o n sz sz' : Nat} {e : α → LV} {e' : β → LV} {l : List α} {r : List β} (k : Nat) (hf : s.eval f = .clo g caps) (hv : ops.map s.eval ++ caps = vals)
    (hfn : Does P g (.own 0 0 l.length :: xs) [(0, lob sz e l)] (fun x h => x = .nw sz' (r.map e') false ∧ h = [])) (hxs : ∀ k, LV.at?.atL k xs = false) (hA : vals = .own o 0 n :: xs) (hnl : n = l.length) (ho : hget o s.h = some (lob sz e l)) (hl : Lift.lone k (hdel k (hdel o s.h)) = true) (hkp : E.keep.contains k = false := by exact rfl) (hd : Nat.blt d E.n = true := by exact rfl)
    (hn : LWo P E all rest Q { tm := (d, .own k 0 r.length) :: kill k s.tm, h := (k, lob sz' e' r) :: hdel k (hdel o s.h) }) :
    LWo P E all ({ dst := some d, op := .call { callee := .value f, args := ops.toArray, argTypes := ts }, type := ty, pos := pos, after := af, guard := none } :: rest) Q s := by
  subst hnl; exact LWo.tcallO k hf hv (Does.nameT rfl rfl hxs hfn o) hA ho rfl hkp hl hd (by rw [List.length_map]; exact hn)
theorem avq2 {x y : Operand} {a b : LV} {cs : List LV} (h : s.eval x = a) (h2 : s.eval y = b) : [x, y].map s.eval ++ cs = a :: b :: cs := by simp [h, h2]
end
end Go.Lift
/- The lifted logic, part 35: a call with a variable lent whose list is one's own. Own work. -/
namespace Go.Lift
open Go.RowKit
section
variable {P : Program} {E : Ent} {Q : Exit → LState → Prop} {s : LState} {all : Array Oper} {rest : List Oper} {d : Nat} {ty : TypeId} {pos : String} {af : Array Edge}
theorem LWo.lncall {α : Type} {f : Operand} {ops : List Operand} {ts : Array TypeId} {g : FuncId} {caps vals xs : List LV} {lk sz : Nat} {obj obj' : LObj} {e : α → LV} {l : List α} (k : Nat) (hf : s.eval f = .clo g caps) (hv : ops.map s.eval ++ caps = vals)
    (hfn : Does P g xs [(lk, obj)] (fun r h => r = .nw sz (l.map e) false ∧ h = [(lk, obj')])) (hA : vals = xs) (ho : hget lk s.h = some obj) (hro : obj.ro = false) (hl : Lift.lone k (hdel k ((lk, obj') :: hdel lk s.h)) = true) (hkp : E.keep.contains k = false := by exact rfl) (hd : Nat.blt d E.n = true := by exact rfl)
    (hn : LWo P E all rest Q { tm := (d, .own k 0 l.length) :: kill k s.tm, h := (k, lob sz e l) :: hdel k ((lk, obj') :: hdel lk s.h) }) :
    LWo P E all ({ dst := some d, op := .call { callee := .value f, args := ops.toArray, argTypes := ts }, type := ty, pos := pos, after := af, guard := none } :: rest) Q s :=
  LWo.call (some k) hf hv hfn (by rw [hA]; exact ArgsOK.allSame) ⟨by simp [hkeys], by intro p hp; simp at hp; subst hp; exact ⟨_, ho, .inl rfl⟩⟩ (fun t ht => by cases ht; exact hd) (fun j hj => by cases hj; exact hkp) (by
    rintro r hl' ⟨rfl, rfl⟩; refine ⟨.inl rfl, (fun j hj => by cases hj; simpa [rwOf, hro, hkeys, hdels] using hl), ?_⟩; have : rwOf [(lk, obj)] = [(lk, obj)] := by simp [rwOf, hro]
    have e2 : hdels [lk] s.h = hdel lk s.h := by simp
    simp only [afterCall, this, hkeys, List.map_cons, List.map_nil, List.length_map, LState.put]; rw [e2]; exact hn)
end
end Go.Lift
/- The lifted logic, part 36: cuts of one's own list that stay one's own; clear. Own work. -/
namespace Go.Lift
open Go.RowKit
section
variable {P : Program} {E : Ent} {Q : Exit → LState → Prop} {s : LState} {all : Array Oper} {rest : List Oper} {d : Nat} {ty : TypeId} {pos : String} {af : Array Edge}
inductive SrcT {α : Type} (s : LState) (y : Operand) (sz : Nat) (f : α → LV) (l : List α) : Prop
  | m : SrcM s y sz f l → SrcT s y sz f l
  | cut {o off n : Nat} {L : List α} : s.eval y = .own o off n → off + n ≤ L.length → hget o s.h = some (lob sz f L) → (L.drop off).take n = l → SrcT s y sz f l
theorem SrcT.is {α : Type} {y : Operand} {sz : Nat} {f : α → LV} {l : List α} (h : SrcT s y sz f l) : SrcIs s y sz (l.map f) := by
  cases h with
  | m h => exact h.is
  | cut h h1 h2 h3 =>
    subst h3; rename_i o off n L
    refine .inr (.inr (.inl ⟨_, off, _, by rw [List.length_map, List.length_take, List.length_drop, show min n (L.length - off) = n by omega]; exact h, h2, rfl, rfl, by simp [lob]; omega, by
      simp [lob, show min n (L.length - off) = n by omega, List.map_take, List.map_drop]⟩))
end
end Go.Lift
namespace Go.Lift
open Go.RowKit
section
variable {P : Program} {E : Ent} {Q : Exit → LState → Prop} {s : LState} {all : Array Oper}
end
end Go.Lift
/- The lifted logic, part 37: append in place, where the room is known. Own work. -/
namespace Go.Lift
open Go.RowKit
section
variable {P : Program} {E : Ent} {Q : Exit → LState → Prop} {s : LState} {all : Array Oper} {rest : List Oper} {d : Nat} {ty : TypeId} {pos : String} {af : Array Edge}
end
end Go.Lift
/- The lifted logic, part 38: a call that hands back a list of its own and something beside it. Own work. -/
namespace Go.Lift
open Go.RowKit
section
variable {P : Program} {E : Ent} {Q : Exit → LState → Prop} {s : LState} {all : Array Oper} {rest : List Oper} {d : Nat} {ty : TypeId} {pos : String} {af : Array Edge}
end
end Go.Lift
/- The lifted logic, part 39: a call whose list that comes back is not wanted. Own work. -/
namespace Go.Lift
open Go.RowKit
section
variable {P : Program} {E : Ent} {Q : Exit → LState → Prop} {s s' : LState} {all : Array Oper} {rest : List Oper} {d : Nat} {ty : TypeId} {pos : String} {af : Array Edge}
end
end Go.Lift
/- The lifted logic, part 40: short forms of the steps of a region of open order. Own work. -/
namespace Go.Lift
theorem zn {α β : Type} {a : α} {c : β} {R G : Prop} (hg : G) : a = a ∧ (c = c ∨ R) ∧ G := ⟨rfl, .inl rfl, hg⟩
section
variable {P : Program} {E : Ent}
theorem dq {KS : List (Nat × Nat)} {all : Array Oper} {o : Oper} {os : List Oper} {rd hk : List Nat} {ps : List (List Nat × List Nat)} {i : Nat} {acc : List SF} {ah : List HF} {k : List SF → List HF → List Rec → Prop} (d : Nat) {y : LV} (hin : (rd.all (hasT · acc) && hk.all (hasH · ah)) = true)
    (h1 : ∀ u : LState, Good KS u → AllF u.tm (rd.map (look · acc)) → AllH u.h (hk.map (lookH · ah)) → LWo P E all [o] (fun e t => e = .normal ∧ (t = (Ef.put d y).run u ∨ t.le ((Ef.put d y).run u)) ∧ Good KS t) u)
    (h2 : DSE P E KS all os ps (i + 1) ((Ef.put d y).accS i acc) ((Ef.put d y).accH i ah) (fun a b r => k a b (⟨.put d y, rd.map (look · acc), hk.map (lookH · ah)⟩ :: r))) : DSE P E KS all (o :: os) ((rd, hk) :: ps) i acc ah k := ⟨hin, .put d y, trivial, h1, h2⟩
end
def ins1 (x : Nat) (l : List Nat) : List Nat := bif l.contains x then l else x :: l
def preD : List Oper → List (List Nat) → List (List Nat)
  | [], acc => acc
  | o :: r, acc => preD r (acc ++ [(edgesOf o).foldl (fun l j => ins1 j ((acc.getD j []).foldl (fun l x => ins1 x l) l)) []])
theorem mem_ins1 {x y : Nat} {l : List Nat} : y ∈ ins1 x l ↔ y = x ∨ y ∈ l := by
  unfold ins1; cases h : l.contains x with
  | true =>
    have : x ∈ l := by simpa using h
    rw [cond_true]; exact ⟨.inr, fun h => h.elim (fun e => e ▸ this) id⟩
  | false => rw [cond_false, List.mem_cons]
theorem mem_foldI {y : Nat} : ∀ (xs l : List Nat), y ∈ xs.foldl (fun l x => ins1 x l) l ↔ y ∈ xs ∨ y ∈ l
  | [], l => by simp
  | x :: xs, l => by rw [List.foldl_cons, mem_foldI xs, mem_ins1, List.mem_cons]; grind
theorem preD_mem : ∀ (ops : List Oper) (a b : List (List Nat)), a.length = b.length → (∀ j x, x ∈ a.getD j [] ↔ x ∈ b.getD j []) → ∀ j x, x ∈ (preD ops a).getD j [] ↔ x ∈ (preAll ops b).getD j []
  | [], a, b, _, h => h
  | o :: r, a, b, hl, h => by
    rw [preD, preAll]
    have hx : ∀ x, x ∈ (edgesOf o).foldl (fun l j => ins1 j ((a.getD j []).foldl (fun l x => ins1 x l) l)) [] ↔ x ∈ (edgesOf o).flatMap fun j => j :: b.getD j [] := by
      intro x
      have key : ∀ (es l : List Nat), x ∈ es.foldl (fun l j => ins1 j ((a.getD j []).foldl (fun l x => ins1 x l) l)) l ↔ (x ∈ es.flatMap fun j => j :: b.getD j []) ∨ x ∈ l := by
        intro es
        induction es with
        | nil => intro l; simp
        | cons e es ih =>
          intro l; rw [List.foldl_cons, ih, mem_ins1, mem_foldI, h e x, List.flatMap_cons, List.mem_append, List.mem_cons]
          grind
      rw [key]; simp
    refine preD_mem r _ _ (by simp [hl]) ?_; intro j x; rcases Nat.lt_trichotomy j a.length with h1 | h1 | h1
    · rw [List.getD_eq_getElem?_getD, List.getElem?_append_left h1, List.getD_eq_getElem?_getD, List.getElem?_append_left (hl ▸ h1), ← List.getD_eq_getElem?_getD, ← List.getD_eq_getElem?_getD]
      exact h j x
    · subst h1
      rw [List.getD_eq_getElem?_getD, List.getElem?_append_right (Nat.le_refl _), List.getD_eq_getElem?_getD, hl, List.getElem?_append_right (Nat.le_refl _)]; simpa using hx x
    · rw [List.getD_eq_getElem?_getD, List.getElem?_eq_none (by simp; omega), List.getD_eq_getElem?_getD, List.getElem?_eq_none (by simp; omega)]
theorem ahead_D (l : List Oper) (i j : Nat) : ahead (preD l []) i j = ahead (preAll l []) i j := by
  unfold ahead; rw [Bool.eq_iff_iff, List.contains_iff_mem, List.contains_iff_mem]; exact preD_mem l [] [] rfl (fun _ _ => Iff.rfl) j i
theorem drawOK_D {l : List Oper} {T : List OI} {FS : List (Nat × Option Nat × List Nat)} {FH : List (Nat × Option Nat)} (h : drawOK (preD l []) T FS FH = true) : drawOK (preAll l []) T FS FH = true := by
  unfold drawOK harmless at *; simp only [ahead_D] at h; exact h
theorem DSE.mono {P : Program} {E : Ent} {KS : List (Nat × Nat)} {all : Array Oper} : ∀ {os : List Oper} {ps : List (List Nat × List Nat)} {i : Nat} {acc : List SF} {ah : List HF} {k k' : List SF → List HF → List Rec → Prop}, (∀ a b r, k a b r → k' a b r) → DSE P E KS all os ps i acc ah k → DSE P E KS all os ps i acc ah k'
  | [], [], _, _, _, _, _, hk, h => hk _ _ _ h
  | o :: os, (rd, hkk) :: ps, i, acc, ah, k, k', hk, ⟨h0, ef, h1, h2, h3⟩ => ⟨h0, ef, h1, h2, DSE.mono (fun a b r h => hk a b _ h) h3⟩
  | [], _ :: _, _, _, _, _, _, _, h => h
  | _ :: _, [], _, _, _, _, _, _, h => h
section
variable {P : Program} {E : Ent} {Q : Exit → LState → Prop}
theorem LWP.drawF {id : Nat} {l : List Oper} {s : LState} (KS : List (Nat × Nat)) (U : List Nat) (plan : List (List Nat × List Nat)) (out outH : List Nat) (hm : P.follows .mixedOrders = true)
    (hedge : (l.zipIdx.all fun (o, i) => (edgesOf o).all fun j => decide (j < i)) = true) (hgood : KS.all (fun p => lone p.1 (hdel p.2 s.h)) = true) (hnd : outH.Nodup)
    (h : DSE P E KS l.toArray l plan 0 (base s U) (heapF s.h) (fun acc ah recs => (out.all (hasT · acc) && outH.all (hasH · ah)) = true ∧ drawOK (preD l []) (recs.map Rec.info) ((out.map (look · acc)).map fun f => (f.t, f.est, f.rf)) ((outH.map (lookH · ah)).map fun f => (f.k, f.est)) = true ∧ Q .normal ⟨out.map fun t => (t, (look t acc).v), outH.map fun k => (k, (lookH k ah).obj)⟩)) :
    LWP P E (.region id l.toArray true) Q s := LWP.drawE KS U plan out outH hm hedge hgood hnd (DSE.mono (fun a b r ⟨h1, h2, h3⟩ => ⟨h1, drawOK_D h2, h3⟩) h)
end
end Go.Lift
/- The lifted logic, part 41: variables in memory whose fields hold lists of one's own. Own work. -/
namespace Go.Lift
open Go.RowKit
section
variable {P : Program} {E : Ent} {Q : Exit → LState → Prop} {s : LState} {all : Array Oper} {rest : List Oper} {d : Nat} {ty : TypeId} {pos : String} {af : Array Edge}
theorem Inv'.newNil {k sz : Nat} (hkp : E.keep.contains k = false) (hl : Lift.lone k (hdel k s.h) = true) {a : Act} {w : World} {ok : Nat → Prop} {ρ : Env} {F : Nat → List Nat} (h : Inv' E s a w ok ρ F) :
    Inv' E { tm := kill k s.tm, h := (k, { kind := .fro, sz := sz, elems := [] }) :: hdel k s.h } a w ok (upd ρ k none) (upd F k []) := by
  have h' := h.sub (hdel_sub k s.h); have hne := not_key (hdel_key k s.h); refine { h' with heap := ⟨?_, ?_, ?_, ?_⟩, mine := ?_, slots := ?_, keep := fun j hj => (upd_other ρ _ (show j ≠ k from fun e => by subst e; simp [hj] at hkp)).trans (h.keep j hj) }
  · simp only [hkeys, List.map_cons, List.nodup_cons]
    exact ⟨hdel_key k s.h, h'.heap.keys⟩
  · intro p hp
    rcases List.mem_cons.1 hp with rfl | hp
    · exact .inl ⟨by simp, rfl, by simp⟩
    · show ObjRep _ _ _ p.1 p.2 (upd F k [] p.1)
      rw [upd_other _ _ (hne p hp)]; exact (h'.heap.objs p hp).stable (fun _ _ => rfl) (fun _ hb => hb) (fun _ _ => rfl) (upd_other _ _ (hne p hp)) (fun j hj => upd_other _ _ (fun e => lone_refs hl p hp (e ▸ hj)))
  · have : fpsOf (upd F k []) ((k, ({ kind := .fro, sz := sz, elems := [] } : LObj)) :: hdel k s.h) = fpsOf F (hdel k s.h) := by
      simp only [fpsOf, List.flatMap_cons, upd_same, List.nil_append]; exact fpsOf_congr (fun p hp => upd_other _ _ (hne p hp))
    show (fpsOf (upd F k []) ((k, ({ kind := .fro, sz := sz, elems := [] } : LObj)) :: hdel k s.h)).Nodup; rw [this]; exact h'.heap.nodup
  · intro b hb
    obtain ⟨p, hp, hb⟩ := mem_fpsOf.1 hb; rcases List.mem_cons.1 hp with rfl | hp
    · simp at hb
    · rw [upd_other _ _ (hne p hp)] at hb
      exact h'.heap.apart b (mem_fpsOf.2 ⟨p, hp, hb⟩)
  · intro p hp hro b hb
    rcases List.mem_cons.1 hp with rfl | hp
    · simp at hb
    · rw [upd_other _ _ (hne p hp)] at hb
      exact h'.mine p hp hro b hb
  · intro t'
    refine Rep.stable (fun _ _ => rfl) (fun _ hb => hb) (fun o ho => upd_other _ _ (fun e => kill_refs k t' s.tm (e ▸ ho))) ?_; show Rep w ok ρ (get t' (kill k s.tm)) _; rw [get_kill]
    split
    · exact .junk _
    · exact h.slots t'
theorem wpList_one {o : Oper} {Q1 Q2 : Exit → Act → World → Prop} {a : Act} {w : World} (hQ : ∀ a w, Q1 .normal a w → Q2 .normal a w) (hno : ∀ e a w, e ≠ .normal → Q1 e a w → False) (h : wpList P all Q1 [o] a w) : wpList P all Q2 [o] a w := by
  unfold wpList at *
  split at h
  · rename_i hw
    rw [if_pos hw]; rcases h with h | ⟨_, a', w', h⟩
    · exact .inl (Oper.wp_to (fun a w h => by unfold wpList at *; exact hQ a w h) hno h)
    · exact (hno _ _ _ (by simp) h).elim
  · rename_i hw
    rw [if_neg hw]; unfold wpList at *; exact hQ _ _ h
theorem LWo.andFz {α : Type} {o : Oper} {KS : List (Nat × Nat)} {f : α → LV} {r : List α} {sz n : Nat} (k d : Nat) (g : Good KS s) (hl : lone k (hdel k s.h) = true) (hn : n = r.length) (hkp : E.keep.contains k = false) (hgd : (Ef.make d (.sl sz (r.map f)) k (lob sz f [])).good KS)
    (h : LWo P E all [o] (fun e t => e = .normal ∧ t = { tm := (d, .own k 0 n) :: kill k s.tm, h := (k, lob sz f r) :: hdel k s.h }) s) :
    LWo P E all [o] (fun e t => e = .normal ∧ (t = (Ef.make d (.sl sz (r.map f)) k (lob sz f [])).run s ∨ t.le ((Ef.make d (.sl sz (r.map f)) k (lob sz f [])).run s)) ∧ Good KS t) s := by
  intro a w hi; refine wpList_one ?_ ?_ (h a w hi)
  · rintro a' w' ⟨t, hi', -, rfl⟩
    have h1 : Inv E { tm := slT (.sl sz (r.map f)) (kill k ((d, .own k 0 n) :: kill k s.tm)) [d], h := hdel k ((k, lob sz f r) :: hdel k s.h) } a' w' := by
      have := hi'.frzL (k := k) (n := n) (ts := [d]) (obj := lob sz f r) ⟨by simp [Lift.get], trivial⟩ (by simp [hget]) (.inl rfl) rfl (by simp [lob, hn]); have e : (lob sz f r).elems.take n = r.map f := by simp [lob, hn, List.take_of_length_le]
      rw [e] at this; exact this
    have eh : hdel k ((k, lob sz f r) :: hdel k s.h) = hdel k s.h := by simp [hdel, hdel_idem]
    rw [eh] at h1; obtain ⟨ok, ρ, F, h2⟩ := h1; have h3 := h2.newNil (k := k) (sz := sz) hkp (by rw [hdel_idem]; exact hl); rw [hdel_idem] at h3; refine ⟨(Ef.make d (.sl sz (r.map f)) k (lob sz f [])).run s, ⟨ok, _, _, { h3 with slots := fun t => ?_ }⟩, rfl, .inl rfl, Ef.good_ok hgd g⟩; have h4 := h3.slots t; show Rep _ _ _ (if d = t then _ else get t (kill k s.tm)) _; simp only at h4; rw [get_kill, get_slT, get_kill] at h4
    split
    · rename_i e
      subst e; simpa [LV.at?] using h4
    · rename_i e
      have e' : ¬ t ∈ [d] := by simp; exact fun h => e h.symm
      rw [if_neg e'] at h4; simp only [Lift.get, if_neg e, get_kill] at h4; rw [get_kill]
      split
      · exact .junk _
      · rename_i hx
        simp only [hx] at h4; simpa [hx] using h4
  · rintro e a' w' he ⟨t, _, h1, _⟩
    exact he h1
end
end Go.Lift
/- The lifted logic, part 42: a list of one's own lent at any place, and a tuple that comes back. Own work. -/
namespace Go.Lift
open Go.RowKit
section
variable {P : Program} {E : Ent} {Q : Exit → LState → Prop} {s : LState} {all : Array Oper} {rest : List Oper} {d : Nat} {ty : TypeId} {pos : String} {af : Array Edge}
end
end Go.Lift
/- The lifted logic, part 43: arguments of any type, as values that are read. Own work. -/
namespace Go.Lift
open Go.RowKit Go.ChangeShapes Go.WideShapes
def okB (W : World) : Nat → Prop := fun k => k < W.heap.size
structure Opn (P : Program) (T : TypeId) (n : Nat) {α : Type} (e : α → LV) (B : α → Prop) : Prop where
  size : P.cellsOf T = n
  len : ∀ x, (e x).cells.length = n
  read : ∀ {H : Type} (enc : TypeId × Value → H) (W : World) (fuel : Nat) (cs : List Value) (x : DataW H × List MemPlace), DataW.trod enc P W 0 (fun _ => true) true fuel T cs = some x → ∃ a, B a ∧ FroL W (okB W) (e a).cells cs
def B_int (n : Int) : Prop := -9223372036854775808 ≤ n ∧ n ≤ 9223372036854775807
def B_bool (b : Bool) : Prop := True
def B_string (b : ByteArray) : Prop := b.size ≤ maxLen
def B_list {α : Type} (B : α → Prop) (l : List α) : Prop := l.length ≤ maxLen ∧ ∀ x ∈ l, B x
structure OpnF (P : Program) (fs : List Field) (off tot : Nat) {α : Type} (e : α → List LV) (B : α → Prop) : Prop where
  len : ∀ x, off + (e x).length = tot
  read : ∀ {H : Type} (enc : TypeId × Value → H) (W : World) (fuel : Nat) (cs : List Value), cs.length = tot → (∀ (i : Nat) (f : Field), fs[i]? = some f → ∃ y, DataW.trod enc P W 0 (fun _ => true) true fuel f.type ((cs.drop f.offset).take (P.cellsOf f.type)) = some y) → ∃ a, B a ∧ FroL W (okB W) (e a) (cs.drop off)
theorem Opn.one {P : Program} {T : TypeId} {α : Type} {e : α → LV} {B : α → Prop} (h : Opn P T 1 e B) (he : ∀ a, (e a).cells = [e a]) {H : Type} {enc : TypeId × Value → H} {W : World} {v : Value} {d : DataW H} {p : List MemPlace} (hd : DataW.Trod enc P W 0 (fun _ => true) true T v d p) (hv : v.cells.toList = [v]) : ∃ a, B a ∧ Fro W (okB W) (e a) v := by
  obtain ⟨fuel, hf⟩ := hd; rw [hv] at hf; obtain ⟨a, ha, h1⟩ := h.read enc W fuel _ _ hf; rw [he a] at h1; cases h1 with
  | cons h2 _ _ => exact ⟨a, ha, h2⟩
theorem Opn.agg {P : Program} {T : TypeId} {n : Nat} {α : Type} {e : α → LV} {B : α → Prop} (h : Opn P T n e B) (he : ∀ a, e a = .agg (e a).cells) {H : Type} {enc : TypeId × Value → H} {W : World} {cs : Array Value} {d : DataW H} {p : List MemPlace} (hd : DataW.Trod enc P W 0 (fun _ => true) true T (.agg cs) d p) : ∃ a, B a ∧ Fro W (okB W) (e a) (.agg cs) := by
  obtain ⟨fuel, hf⟩ := hd; have e1 : (Value.agg cs).cells.toList = cs.toList := rfl; rw [e1] at hf; obtain ⟨a, ha, h1⟩ := h.read enc W fuel _ _ hf; refine ⟨a, ha, ?_⟩; rw [he a]; have := Fro.agg h1; simpa using this
end Go.Lift
/- The lifted logic, part 45: calls that read lists of one's own and hand back a list of flat elements. Own work. -/
namespace Go.Lift
open Go.RowKit
section
variable {P : Program} {E : Ent} {Q : Exit → LState → Prop} {s : LState} {all : Array Oper} {rest : List Oper} {d : Nat} {ty : TypeId} {pos : String} {af : Array Edge}
end
end Go.Lift
/- The lifted logic, part 46: lists that are owned with all that they lead to: what goes into them. Own work. -/
namespace Go.Lift
open Go.RowKit
theorem DeepL.cut {w : World} : ∀ {xs : List LV} {vs : List Value} {f : List Nat} (n : Nat), DeepL w xs vs f → ∃ fA fC, f = fA ++ fC ∧ DeepL w (xs.take n) (vs.take n) fA ∧ DeepL w (xs.drop n) (vs.drop n) fC
  | _, _, _, 0, h => ⟨[], _, rfl, by simpa using DeepL.nil, by simpa using h⟩
  | _, _, _, n + 1, .nil => ⟨[], [], rfl, by simpa using DeepL.nil, by simpa using DeepL.nil⟩
  | _, _, _, n + 1, .cons (f := f) h h1 h2 => by
    obtain ⟨fA, fC, rfl, hA, hC⟩ := DeepL.cut n h2; exact ⟨f ++ fA, fC, by rw [List.append_assoc], by simpa using DeepL.cons h h1 hA, by simpa using hC⟩
theorem DeepL.put {w : World} {xs ys : List LV} {vs us : List Value} {f g : List Nat} (h : DeepL w xs vs f) (q : Nat) (hy : DeepL w ys us g) : ∃ fA fB fC, f = fA ++ (fB ++ fC) ∧ DeepL w (setRange xs q ys) (vs.take q ++ us ++ vs.drop (q + ys.length)) (fA ++ g ++ fC) := by
  obtain ⟨fA, fR, rfl, hA, hR⟩ := h.cut q; obtain ⟨fB, fC, rfl, hB, hC⟩ := hR.cut ys.length; refine ⟨fA, fB, fC, rfl, ?_⟩; rw [List.drop_drop, List.drop_drop] at hC; exact (hA.append hy).append hC
theorem Deep.one {w : World} {x : LV} {v : Value} {f : List Nat} (h : Deep w x v f) (hx : ∃ sz xs, x = .sl sz xs) : v.oneCell' = true := by
  obtain ⟨sz, xs, rfl⟩ := hx; cases h <;> rfl
section
variable {P : Program} {E : Ent} {Q : Exit → LState → Prop} {s : LState} {all : Array Oper} {rest : List Oper} {d : Nat} {ty : TypeId} {pos : String} {af : Array Edge}
end
end Go.Lift
/- The lifted logic, part 47: lists that own: what is taken out and put back, what is made of lists of one's own. Own work. -/
namespace Go.Lift
open Go.RowKit
theorem DCells.append {w : World} {ρ : Env} {xs ys : List LV} {vs us : List Value} {f g : List Nat} (h : DCells w ρ xs vs f) (k : DCells w ρ ys us g) : DCells w ρ (xs ++ ys) (vs ++ us) (f ++ g) := by
  induction h with
  | nil => exact k
  | deep h h1 _ ih => rw [List.append_assoc]; exact .deep h h1 ih
  | own h h1 h2 _ ih => exact .own h h1 h2 ih
  | own0 _ ih => exact .own0 ih
theorem DCells.cut {w : World} {ρ : Env} {xs : List LV} {vs : List Value} {f : List Nat} (h : DCells w ρ xs vs f) : ∀ n : Nat, ∃ fA fC, f = fA ++ fC ∧ DCells w ρ (xs.take n) (vs.take n) fA ∧ DCells w ρ (xs.drop n) (vs.drop n) fC := by
  induction h with
  | nil => intro n; exact ⟨[], [], rfl, by simpa using DCells.nil, by simpa using DCells.nil⟩
  | @deep x v xs vs f g h h1 h2 ih =>
    intro n; cases n with
    | zero => exact ⟨[], _, rfl, by simpa using DCells.nil, by simpa using DCells.deep h h1 h2⟩
    | succ n =>
      obtain ⟨fA, fC, rfl, hA, hC⟩ := ih n; exact ⟨f ++ fA, fC, by rw [List.append_assoc], by simpa using DCells.deep h h1 hA, by simpa using hC⟩
  | own h h1 h2 h3 ih =>
    intro n; cases n with
    | zero => exact ⟨[], _, rfl, by simpa using DCells.nil, by simpa using DCells.own h h1 h2 h3⟩
    | succ n =>
      obtain ⟨fA, fC, rfl, hA, hC⟩ := ih n; exact ⟨fA, fC, rfl, by simpa using DCells.own h h1 h2 hA, by simpa using hC⟩
  | own0 h3 ih =>
    intro n; cases n with
    | zero => exact ⟨[], _, rfl, by simpa using DCells.nil, by simpa using DCells.own0 h3⟩
    | succ n =>
      obtain ⟨fA, fC, rfl, hA, hC⟩ := ih n; exact ⟨fA, fC, rfl, by simpa using DCells.own0 hA, by simpa using hC⟩
section
variable {P : Program} {E : Ent} {Q : Exit → LState → Prop} {s : LState} {all : Array Oper} {rest : List Oper} {d : Nat} {ty : TypeId} {pos : String} {af : Array Edge}
theorem settle_at {a : Act} {w : World} {ok : Nat → Prop} {ρ : Env} {F : Nat → List Nat} (hi : Inv' E s a w ok ρ F) (k : Nat) (hkp : E.keep.contains k = false) (hl : Lift.lone k (hdel k s.h) = true) {fr : List Nat} (hn : fr.Nodup)
    (hb : ∀ b ∈ fr, ¬ ok b ∧ b < w.heap.size ∧ b ∉ fpsOf F s.h ∧ (b < E.w0.heap.size → b ∈ E.lent)) (pl : Option Place) (obj : LObj) (ho : ObjRep w ok (upd ρ k pl) k obj fr) :
    Inv' E { tm := kill k s.tm, h := (k, obj) :: hdel k s.h } a w ok (upd ρ k pl) (upd F k fr) := by
  have h' := hi.sub (hdel_sub k s.h); have hne := not_key (hdel_key k s.h); have hF : ∀ p ∈ hdel k s.h, upd F k fr p.1 = F p.1 := fun p hp => upd_other _ _ (hne p hp)
  have hfps : fpsOf (upd F k fr) ((k, obj) :: hdel k s.h) = fr ++ fpsOf F (hdel k s.h) := by
    have e := fpsOf_congr hF; simp only [fpsOf, List.flatMap_cons, upd_same] at e ⊢; rw [e]
  have hdis : ∀ b ∈ fr, b ∉ fpsOf F (hdel k s.h) := fun b hb' hm => (hb b hb').2.2.1 ((fpsOf_sub (hdel_sub k s.h)).mem hm); refine { h' with heap := ⟨?_, ?_, ?_, ?_⟩, mine := ?_, slots := ?_, keep := fun j hj => (upd_other ρ _ (show j ≠ k from fun e => by subst e; simp [hj] at hkp)).trans (hi.keep j hj) }
  · simp only [hkeys, List.map_cons, List.nodup_cons]
    exact ⟨hdel_key k s.h, h'.heap.keys⟩
  · intro p hp
    rcases List.mem_cons.1 hp with rfl | hp
    · simpa using ho
    · rw [hF p hp]
      exact (h'.heap.objs p hp).stable (fun _ _ => rfl) (fun _ hb => hb) (fun _ _ => rfl) (upd_other _ _ (hne p hp)) (fun j hj => upd_other _ _ (fun e => lone_refs hl p hp (e ▸ hj)))
  · show (fpsOf (upd F k fr) _).Nodup
    rw [hfps, List.nodup_append]; exact ⟨hn, h'.heap.nodup, fun b h1 c h2 e => hdis b h1 (e ▸ h2)⟩
  · intro b hb'
    rw [show ({ tm := kill k s.tm, h := (k, obj) :: hdel k s.h } : LState).h = (k, obj) :: hdel k s.h from rfl, hfps] at hb'; rcases List.mem_append.1 hb' with h1 | h1
    · exact ⟨(hb b h1).1, (hb b h1).2.1⟩
    · exact h'.heap.apart b h1
  · intro p hp hro b hb' hlt
    rcases List.mem_cons.1 hp with rfl | hp
    · rw [upd_same] at hb'; exact (hb b hb').2.2.2 hlt
    · rw [hF p hp] at hb'
      exact h'.mine p hp hro b hb' hlt
  · intro t
    show Rep w ok _ (get t (kill k s.tm)) _; refine Rep.stable (w := w) (ρ := ρ) (fun _ _ => rfl) (fun _ hb => hb) (fun o ho => upd_other _ _ (fun e => kill_refs k t s.tm (e ▸ ho))) ?_; rw [get_kill]
    split
    · exact .junk _
    · exact hi.slots t
end
end Go.Lift
/- The lifted logic, part 48: appending to lists that own. Own work. -/
namespace Go.Lift
open Go.RowKit
section
variable {P : Program} {E : Ent} {Q : Exit → LState → Prop} {s : LState} {all : Array Oper} {rest : List Oper} {d : Nat} {ty : TypeId} {pos : String} {af : Array Edge}
theorem Inv'.alloc {a : Act} {w : World} {ok : Nat → Prop} {ρ : Env} {F : Nat → List Nat} (h : Inv' E s a w ok ρ F) (o : Obj) : Inv' E s a (w.alloc o) ok ρ F := by
  have hob : ∀ b, ok b → (w.alloc o).heap[b]? = w.heap[b]? := fun b hb => heap_alloc_lt w _ b (h.okk b hb).1; refine { defers := h.defers, size := h.size, ext := h.ext.alloc _, okk := fun b hb => ⟨by simp; have := (h.okk b hb).1; omega, (h.okk b hb).2⟩, heap := ⟨h.heap.keys, ?_, h.heap.nodup, ?_⟩, mine := h.mine, slots := ?_, keep := h.keep }
  · intro p hp
    exact (h.heap.objs p hp).stable hob (fun _ hb => hb) (fun b hb => heap_alloc_lt w _ b (h.heap.apart b (mem_fpsOf.2 ⟨p, hp, hb⟩)).2) rfl (fun _ _ => rfl)
  · intro b hb
    have := h.heap.apart b hb; exact ⟨this.1, by simp; omega⟩
  · intro t
    exact (h.slots t).stable hob (fun _ hb => hb) (fun _ _ => rfl)
end
end Go.Lift
/- The lifted logic, part 49: lists that own, as mirrors tell them. Own work. -/
namespace Go.Lift
open Go.RowKit
section
variable {P : Program} {E : Ent} {Q : Exit → LState → Prop} {s : LState} {all : Array Oper} {rest : List Oper} {d : Nat} {ty : TypeId} {pos : String} {af : Array Edge}
theorem SinkL.rep {h : LHeap} {cs ds : List LV} (hs : SinkL h cs ds []) : ∀ n : Nat, SinkL h (List.replicate n cs).flatten (List.replicate n ds).flatten []
  | 0 => .nil
  | n + 1 => by
    rw [List.replicate_succ, List.flatten_cons, List.replicate_succ, List.flatten_cons]
    have app : ∀ {a b c e : List LV} {k k' : List Nat}, SinkL h a b k → SinkL h c e k' → SinkL h (a ++ c) (b ++ e) (k ++ k') := by
      intro a
      induction a with
      | nil => intro b c e k k' h1 h2; cases h1; exact h2
      | cons x a ih =>
        intro b c e k k' h1 h2; cases h1 with
        | cons g1 g2 => rw [List.append_assoc]; exact .cons g1 (ih g2 h2)
    exact app hs (SinkL.rep hs n)
end
section
variable {P : Program}
end
end Go.Lift
/- The lifted logic, part 50: calls that take a list that owns, and hand one back. Own work. -/
namespace Go.Lift
open Go.RowKit
section
variable {P : Program} {E : Ent} {Q : Exit → LState → Prop} {s : LState} {all : Array Oper} {rest : List Oper} {d : Nat} {ty : TypeId} {pos : String} {af : Array Edge}
end
end Go.Lift
/- The lifted logic, part 51: structs that own, handed back. Own work. -/
namespace Go.Lift
open Go.RowKit
theorem DeepL.imms {w : World} {ok : Nat → Prop} : ∀ {xs : List LV} {us : List Value} {g : List Nat}, immL xs = true → DeepL w xs us g → g = [] ∧ FroL w ok xs us
  | [], _, _, _, .nil => ⟨rfl, .nil⟩
  | x :: xs, _, _, h1, .cons h3 h4 h5 => by
    cases x <;> simp [immL, LV.noFro.immL] at h1; cases h3; obtain ⟨rfl, h6⟩ := DeepL.imms (ok := ok) h1 h5; exact ⟨rfl, .cons (.imm _) h4 h6⟩
theorem Deep.sl_inv {w : World} {sz : Nat} {zs : List LV} {v : Value} {f : List Nat} (h : Deep w (.sl sz zs) v f) : (zs = [] ∧ f = [] ∧ ∃ a, v = .slice a 0 0) ∨
    ∃ c B vs arr t fps, f = B :: fps ∧ v = .slice (some ⟨B, 0, none⟩) zs.length c ∧ (∀ x ∈ zs, x.cells.length = sz) ∧ DeepL w (zs.flatMap LV.cells) vs fps ∧ w.heap[B]? = some (.cells arr t (0, 0)) ∧ c * sz ≤ arr.size ∧ (∀ (k : Nat) (v : Value), vs[k]? = some v → arr[k]? = some v) ∧ zs.length ≤ c ∧ c ≤ maxLen := by
  cases h with
  | sl0 => exact .inl ⟨rfl, rfl, _, rfl⟩
  | sl h1 h2 h3 h4 h5 h6 h7 => exact .inr ⟨_, _, _, _, _, _, rfl, rfl, h1, h2, h3, h4, h5, h6, h7⟩
section
variable {P : Program} {E : Ent} {Q : Exit → LState → Prop} {s : LState} {all : Array Oper} {rest : List Oper} {d : Nat} {ty : TypeId} {pos : String} {af : Array Edge}
end
end Go.Lift
/- The lifted logic, part 52: calls that hand back a list that owns, and a value. Own work. -/
namespace Go.Lift
open Go.RowKit
section
variable {P : Program} {E : Ent} {Q : Exit → LState → Prop} {s : LState} {all : Array Oper} {rest : List Oper} {d : Nat} {ty : TypeId} {pos : String} {af : Array Edge}
end
end Go.Lift
/- The lifted logic, part 53: structs that own several lists, handed back. Own work. -/
namespace Go.Lift
open Go.RowKit
inductive Outs : List LV → List LV → LHeap → Prop
  | nil : Outs [] [] []
  | imm {v : Value} {xs ys : List LV} {os : LHeap} : Outs xs ys os → Outs (.imm v :: xs) (.imm v :: ys) os
  | sl {k sz n : Nat} {kd : Kind} {zs xs ys : List LV} {os : LHeap} : (kd = .deep ∨ kd = .fro ∧ immL (zs.flatMap LV.cells) = true) → n = zs.length → Outs xs ys os → Outs (.sl sz zs :: xs) (.own k 0 n :: ys) ((k, { kind := kd, sz := sz, elems := zs }) :: os)
def killS : LHeap → Tm → Tm
  | [], t => t
  | (k, _) :: os, t => kill k (killS os t)
def addS : LHeap → LHeap → LHeap
  | [], h => h
  | (k, o) :: os, h => (k, o) :: hdel k (addS os h)
def loneS : LHeap → LHeap → Bool
  | [], _ => true
  | (k, _) :: os, h => lone k (hdel k (addS os h)) && (!(hkeys os).contains k && loneS os h)
theorem Outs.refs {xs ys : List LV} {os : LHeap} (h : Outs xs ys os) : LV.refs.refsL ys = hkeys os := by
  induction h with
  | nil => rfl
  | imm _ ih => simpa [LV.refs.refsL, LV.refs] using ih
  | sl _ _ _ ih => simp [LV.refs.refsL, LV.refs, hkeys] at ih ⊢; exact ih
section
variable {P : Program} {E : Ent} {Q : Exit → LState → Prop} {s : LState} {all : Array Oper} {rest : List Oper} {d : Nat} {ty : TypeId} {pos : String} {af : Array Edge}
theorem Outs.run {a : Act} {w : World} {ok : Nat → Prop} {ρ : Env} {F : Nat → List Nat} (hi : Inv' E s a w ok ρ F) {cs ys : List LV} {os : LHeap} (ho : Outs cs ys os) : ∀ {vs : List Value} {fr : List Nat}, DeepL w cs vs fr → fr.Nodup →
    (∀ b ∈ fr, ¬ ok b ∧ b < w.heap.size ∧ b ∉ fpsOf F s.h ∧ (b < E.w0.heap.size → b ∈ E.lent)) → loneS os s.h = true → (∀ k ∈ hkeys os, E.keep.contains k = false) →
    ∃ ρ' F', Inv' E { tm := killS os s.tm, h := addS os s.h } a w ok ρ' F' ∧ RepL w ok ρ' ys vs ∧ ∀ b ∈ fpsOf F' (addS os s.h), b ∈ fr ∨ b ∈ fpsOf F s.h := by
  induction ho with
  | nil =>
    intro vs fr hD _ _ _ _; cases hD; exact ⟨ρ, F, hi, .nil, fun b hb => .inr hb⟩
  | imm _ ih =>
    intro vs fr hD hn hb hl hk; cases hD with
    | cons h1 h2 h3 =>
      cases h1; obtain ⟨ρ', F', g1, g2, g3⟩ := ih h3 hn hb hl hk; exact ⟨ρ', F', g1, .cons (.fro (.imm _)) h2 g2, g3⟩
  | @sl k sz n kd zs xs ys os hkd hnz hO ih =>
    intro vs fr hD hn hb hl hk; subst hnz; unfold loneS at hl; rw [Bool.and_eq_true, Bool.and_eq_true] at hl; obtain ⟨hl1, hl2, hl3⟩ := hl; cases hD with
    | @cons _ v _ vs' fB g h1 h2 h3 =>
      rw [List.nodup_append] at hn; obtain ⟨n1, n2, n3⟩ := hn; obtain ⟨ρ1, F1, q1, q2, q3⟩ := ih h3 n2 (fun b hb' => hb b (by simp [hb'])) hl3 (fun j hj => hk j (by simp [hkeys] at hj ⊢; exact .inr hj)); have hkk := hk k (by simp [hkeys])
      have hkr : k ∉ LV.refs.refsL ys := by
        rw [hO.refs]; simpa using hl2
      have hbB : ∀ b ∈ fB, ¬ ok b ∧ b < w.heap.size ∧ b ∉ fpsOf F1 (addS os s.h) ∧ (b < E.w0.heap.size → b ∈ E.lent) := fun b hb' => by
        have h := hb b (by simp [hb']); refine ⟨h.1, h.2.1, fun hm => ?_, h.2.2.2⟩; rcases q3 b hm with h4 | h4
        · exact n3 b hb' b h4 rfl
        · exact h.2.2.1 h4
      have fin : ∀ pl : Option Place, ObjRep w ok (upd ρ1 k pl) k { kind := kd, sz := sz, elems := zs } fB → Rep w ok (upd ρ1 k pl) (.own k 0 zs.length) v →
          ∃ ρ' F', Inv' E { tm := killS ((k, { kind := kd, sz := sz, elems := zs }) :: os) s.tm, h := addS ((k, { kind := kd, sz := sz, elems := zs }) :: os) s.h } a w ok ρ' F' ∧ RepL w ok ρ' (.own k 0 zs.length :: ys) (v :: vs') ∧ ∀ b ∈ fpsOf F' (addS ((k, { kind := kd, sz := sz, elems := zs }) :: os) s.h), b ∈ fB ++ g ∨ b ∈ fpsOf F s.h := by
        intro pl p1 p2; have hi2 := settle_at q1 k hkk hl1 n1 hbB pl _ p1; refine ⟨_, _, hi2, .cons p2 h2 (RepL.stable (fun _ _ => rfl) (fun _ hb => hb) (fun o ho => upd_other _ _ (fun e => hkr (e ▸ ho))) q2), fun b hb' => ?_⟩; obtain ⟨q, hq, hb2⟩ := mem_fpsOf.1 hb'; rcases List.mem_cons.1 hq with rfl | hq
        · rw [upd_same] at hb2
          exact .inl (by simp [hb2])
        · rw [upd_other F1 fB (show q.1 ≠ k from not_key (hdel_key k _) q hq)] at hb2
          rcases q3 b (mem_fpsOf.2 ⟨q, (hdel_sub k _).mem hq, hb2⟩) with h4 | h4
          · exact .inl (by simp [h4])
          · exact .inr h4
      rcases h1.sl_inv with ⟨rfl, rfl, A, rfl⟩ | ⟨c, B, us, arr2, t2, fps2, rfl, rfl, m1, m2, m3, m4, m5, m6, m7⟩
      · exact fin none (.inl ⟨by simp, rfl, rfl⟩) .own0
      · refine fin (some ⟨B, c, sz⟩) (.inr ⟨⟨B, c, sz⟩, arr2, t2, us, fps2, by simp, rfl, { sz := rfl, unif := m1, len := m6, cap := m7, blk := m3, room := m4, vals := m5, cells := ?_ }⟩) ?_
        · rcases hkd with rfl | ⟨rfl, himm⟩
          · exact m2
          · exact DeepL.imms himm m2
        · have := Rep.own (w := w) (ok := ok) (ρ := upd ρ1 k (some ⟨B, c, sz⟩)) (o := k) (off := 0) (n := zs.length) (c := c) (p := ⟨B, c, sz⟩) (by simp) (by simp) m6
          simpa using this
end
end Go.Lift
/- The lifted logic, part 54: a list of one's own lent to be read; what comes back may lead to its elements, never to the list. Own work. -/
namespace Go.Lift
open Go.RowKit
section
variable {P : Program} {E : Ent} {Q : Exit → LState → Prop} {s : LState} {all : Array Oper} {rest : List Oper} {d : Nat} {ty : TypeId} {pos : String} {af : Array Edge}
end
end Go.Lift
/- The lifted logic, part 55: regions of open order in which what leads to what is told until an operation. Own work. -/
namespace Go.Lift
open Go.RowKit
section
variable {P : Program} {E : Ent} {Q : Exit → LState → Prop}
def DSEB (P : Program) (E : Ent) (KB : List ((Nat × Nat) × List Nat)) (all : Array Oper) : List Oper → List (List Nat × List Nat × List (Nat × Nat)) → Nat → List SF → List HF → (List SF → List HF → List Rec → Prop) → Prop
  | o :: os, (rd, hk, KS) :: ps, i, acc, ah, k => (rd.all (hasT · acc) && hk.all (hasH · ah)) = true ∧ ∃ ef : Ef, ef.good KS ∧ (∀ p ∈ KB, p.2.contains i = true ∨ ef.good [p.1]) ∧ (∀ u : LState, Good KS u → AllF u.tm (rd.map (look · acc)) → AllH u.h (hk.map (lookH · ah)) → LWo P E all [o] (fun e t => e = .normal ∧ (t = ef.run u ∨ t.le (ef.run u)) ∧ Good KS t) u) ∧
      DSEB P E KB all os ps (i + 1) (ef.accS i acc) (ef.accH i ah) (fun a b r => k a b (⟨ef, rd.map (look · acc), hk.map (lookH · ah)⟩ :: r))
  | [], [], _, acc, ah, k => k acc ah []
  | _, _, _, _, _, _ => False
theorem DSEB.out {KB : List ((Nat × Nat) × List Nat)} {all : Array Oper} : ∀ {os : List Oper} {ps : List (List Nat × List Nat × List (Nat × Nat))} {i : Nat} {acc : List SF} {ah : List HF} {k : List SF → List HF → List Rec → Prop}, DSEB P E KB all os ps i acc ah k →
    ∃ (acc' : List SF) (ah' : List HF) (recs : List Rec), k acc' ah' recs ∧ recs.length = os.length ∧ (∀ (j : Nat) (o : Oper) (r : Rec), os[j]? = some o → recs[j]? = some r → r.ok P E ((ps.map (·.2.2)).getD j []) all o ∧ ∀ p ∈ KB, p.2.contains (i + j) = true ∨ r.ef.good [p.1]) ∧
      (∀ f ∈ acc, f ∈ acc') ∧ (∀ f ∈ ah, f ∈ ah') ∧
      (∀ f ∈ acc', f ∈ acc ∨ ∃ j r, f.est = some (i + j) ∧ recs[j]? = some r ∧ r.ef.dst = some f.t ∧ (∀ s, get f.t (r.ef.run s).tm = f.v) ∧ f.rf = f.v.refs) ∧
      (∀ f ∈ ah', f ∈ ah ∨ ∃ j r, f.est = some (i + j) ∧ recs[j]? = some r ∧ (∀ s, hget f.k (r.ef.run s).h = some f.obj)) ∧
      (∀ r ∈ recs, (∀ f ∈ r.rs, f ∈ acc') ∧ ∀ f ∈ r.rk, f ∈ ah')
  | o :: os, (rd, hk, KS) :: ps, i, acc, ah, k, ⟨hin, ef, hgood, hb, h1, h2⟩ => by
    obtain ⟨acc', ah', recs, hk', hlen, hok, hsub, hsubH, hnew, hnewH, hreq⟩ := DSEB.out h2; simp only [Bool.and_eq_true] at hin
    have hs1 : ∀ f ∈ acc, f ∈ ef.accS i acc := by
      intro f hf; cases ef with
      | put d y => simp [Ef.accS, hf]
      | upd d y k o => cases d <;> simp [Ef.accS, hf]
      | make d y k o => simp [Ef.accS, hf]
    have hs2 : ∀ f ∈ ah, f ∈ ef.accH i ah := by
      intro f hf; cases ef <;> simp [Ef.accH, hf]
    refine ⟨acc', ah', _, hk', by simp [hlen], ?_, fun f hf => hsub f (hs1 f hf), fun f hf => hsubH f (hs2 f hf), ?_, ?_, ?_⟩
    · intro j o' r ho hr
      cases j with
      | zero =>
        simp at ho hr; subst ho; subst hr; refine ⟨⟨hgood, fun u hu hrs hrk => ?_⟩, by simpa using hb⟩; exact h1 u hu (AllF.of hrs) (AllH.of hrk)
      | succ j =>
        simp at ho hr; obtain ⟨g1, g2⟩ := hok j o' r ho hr; exact ⟨by simpa using g1, by rw [show i + (j + 1) = i + 1 + j from by omega]; exact g2⟩
    · intro f hf
      rcases hnew f hf with h | ⟨j, r, he, hr, h⟩
      · cases ef with
        | put d y =>
          rcases List.mem_cons.1 h with rfl | h
          · exact .inr ⟨0, _, by simp, rfl, rfl, fun s => by simp [Ef.run, LState.put, get], rfl⟩
          · exact .inl h
        | upd d y kk obj =>
          cases d with
          | none => exact .inl h
          | some d =>
            rcases List.mem_cons.1 h with rfl | h
            · exact .inr ⟨0, _, by simp, rfl, rfl, fun s => by simp [Ef.run, LState.put, get], rfl⟩
            · exact .inl h
        | make d y kk obj =>
          rcases List.mem_cons.1 h with rfl | h
          · exact .inr ⟨0, _, by simp, rfl, rfl, fun s => by simp [Ef.run, get], rfl⟩
          · exact .inl h
      · exact .inr ⟨j + 1, r, by rw [he]; congr 1; omega, by simpa using hr, h⟩
    · intro f hf
      rcases hnewH f hf with h | ⟨j, r, he, hr, h⟩
      · cases ef with
        | put d y => exact .inl h
        | upd d y kk obj =>
          rcases List.mem_cons.1 h with rfl | h
          · refine .inr ⟨0, _, by simp, rfl, fun s => ?_⟩
            cases d <;> simp [Ef.run, LState.put, hget]
          · exact .inl h
        | make d y kk obj =>
          rcases List.mem_cons.1 h with rfl | h
          · exact .inr ⟨0, _, by simp, rfl, fun s => by simp [Ef.run, hget]⟩
          · exact .inl h
      · exact .inr ⟨j + 1, r, by rw [he]; congr 1; omega, by simpa using hr, h⟩
    · intro r hr
      rcases List.mem_cons.1 hr with rfl | hr
      · refine ⟨fun f hf => ?_, fun f hf => ?_⟩
        · obtain ⟨t, ht, rfl⟩ := List.mem_map.1 hf
          exact hsub _ (hs1 _ (look_mem (List.all_eq_true.1 hin.1 t ht)))
        · obtain ⟨t, ht, rfl⟩ := List.mem_map.1 hf
          exact hsubH _ (hs2 _ (lookH_mem (List.all_eq_true.1 hin.2 t ht)))
      · exact hreq r hr
  | [], [], i, acc, ah, k, h => ⟨acc, ah, [], h, rfl, by simp, by simp, by simp, fun f hf => .inl hf, fun f hf => .inl hf, by simp⟩
end
end Go.Lift
/- The lifted logic, part 56: lists some of whose parts are owned: taken out, put back, stored. Own work. -/
namespace Go.Lift
open Go.RowKit
theorem MCells.length {w : World} {ok : Nat → Prop} {ρ : Env} {xs : List LV} {vs : List Value} {f : List Nat} (h : MCells w ok ρ xs vs f) : xs.length = vs.length := by
  induction h with
  | nil => rfl
  | cons _ _ _ ih => simp [ih]
theorem MCells.append {w : World} {ok : Nat → Prop} {ρ : Env} {xs ys : List LV} {vs us : List Value} {f g : List Nat} (h : MCells w ok ρ xs vs f) (k : MCells w ok ρ ys us g) : MCells w ok ρ (xs ++ ys) (vs ++ us) (f ++ g) := by
  induction h with
  | nil => exact k
  | cons h h1 _ ih => rw [List.append_assoc]; exact .cons h h1 ih
theorem MCells.cut {w : World} {ok : Nat → Prop} {ρ : Env} {xs : List LV} {vs : List Value} {f : List Nat} (h : MCells w ok ρ xs vs f) : ∀ n : Nat, ∃ fA fC, f = fA ++ fC ∧ MCells w ok ρ (xs.take n) (vs.take n) fA ∧ MCells w ok ρ (xs.drop n) (vs.drop n) fC := by
  induction h with
  | nil => intro n; exact ⟨[], [], rfl, by simpa using MCells.nil, by simpa using MCells.nil⟩
  | @cons x v xs vs f g h h1 h2 ih =>
    intro n; cases n with
    | zero => exact ⟨[], _, rfl, by simpa using MCells.nil, by simpa using MCells.cons h h1 h2⟩
    | succ n =>
      obtain ⟨fA, fC, rfl, hA, hC⟩ := ih n; exact ⟨f ++ fA, fC, by rw [List.append_assoc], by simpa using MCells.cons h h1 hA, by simpa using hC⟩
theorem MCells.put {w : World} {ok : Nat → Prop} {ρ : Env} {xs ys : List LV} {vs us : List Value} {f g : List Nat} (h : MCells w ok ρ xs vs f) (q : Nat) (hy : MCells w ok ρ ys us g) : ∃ fA fB fC, f = fA ++ (fB ++ fC) ∧ MCells w ok ρ (setRange xs q ys) (vs.take q ++ us ++ vs.drop (q + ys.length)) (fA ++ g ++ fC) := by
  obtain ⟨fA, fR, rfl, hA, hR⟩ := h.cut q; obtain ⟨fB, fC, rfl, hB, hC⟩ := hR.cut ys.length; refine ⟨fA, fB, fC, rfl, ?_⟩; rw [List.drop_drop, List.drop_drop] at hC; exact (hA.append hy).append hC
inductive SinkM1 (h : LHeap) : LV → LV → List Nat → Prop
  | imm (v : Value) : SinkM1 h (.imm v) (.imm v) []
  | nilnw {sz : Nat} : SinkM1 h (.imm (.slice none 0 0)) (.nw sz [] false) []
  | fz {x : LV} : x.pure = true → SinkM1 h x (.tup [x]) []
  | own {k n : Nat} {obj : LObj} : hget k h = some obj → obj.ro = false → obj.kind = .fro → n = obj.elems.length → SinkM1 h (.own k 0 n) (.nw obj.sz obj.elems false) [k]
inductive SinkM (h : LHeap) : List LV → List LV → List Nat → Prop
  | nil : SinkM h [] [] []
  | cons {x y : LV} {xs ys : List LV} {ks ks' : List Nat} : SinkM1 h x y ks → SinkM h xs ys ks' → SinkM h (x :: xs) (y :: ys) (ks ++ ks')
theorem SinkM.length {h : LHeap} : ∀ {xs ys : List LV} {ks : List Nat}, SinkM h xs ys ks → xs.length = ys.length
  | _, _, _, .nil => rfl
  | _, _, _, .cons _ h => by simp [h.length]
theorem SinkM1.inh {h : LHeap} {x y : LV} {ks : List Nat} (hs : SinkM1 h x y ks) : ∀ k ∈ ks, ∃ obj, hget k h = some obj ∧ obj.ro = false := by
  cases hs with
  | own ho hro _ _ => intro k hk; simp at hk; subst hk; exact ⟨_, ho, hro⟩
  | _ => simp
theorem SinkM.inh {h : LHeap} : ∀ {xs ys : List LV} {ks : List Nat}, SinkM h xs ys ks → ∀ k ∈ ks, ∃ obj, hget k h = some obj ∧ obj.ro = false
  | _, _, _, .nil, k, hk => by simp at hk
  | _, _, _, .cons h h', k, hk => by
    rcases List.mem_append.1 hk with hk | hk
    · exact h.inh k hk
    · exact h'.inh k hk
section
variable {P : Program} {E : Ent} {Q : Exit → LState → Prop} {s : LState} {all : Array Oper} {rest : List Oper} {d : Nat} {ty : TypeId} {pos : String} {af : Array Edge}
theorem SinkM1.mix {a : Act} {w : World} {ok : Nat → Prop} {ρ : Env} {F : Nat → List Nat} (hi : Inv' E s a w ok ρ F) {x y : LV} {ks : List Nat} (hs : SinkM1 s.h x y ks) {v : Value} (hr : Rep w ok ρ x v) : ∃ g, MCell w ok ρ y v g ∧ g.Sublist (ks.flatMap F) := by
  cases hs with
  | imm u => rw [hr.imm_inv]; exact ⟨[], .imm _, by simp⟩
  | nilnw => rw [hr.imm_inv]; exact ⟨[], .nw0, by simp⟩
  | fz hp => exact ⟨[], .fz (Rep.pure hp hr), by simp⟩
  | @own k n obj ho hro hk hn =>
    rcases hr.own_inv with ⟨p, c, hp, h2, h3, rfl⟩ | ⟨h0, A, rfl⟩
    · rcases hi.heap.objs _ (hget_mem ho) with ⟨h4, _⟩ | ⟨p', arr, t, vs, fps, h4, hF, hobj⟩
      · rw [hp] at h4; cases h4
      · rw [hp] at h4; cases h4
        have hF' : F k = p.blk :: fps := hF; have hsz : p.sz = obj.sz := hobj.sz; have hcells := hobj.cells; rw [show (k, obj).2.kind = obj.kind from rfl, hk] at hcells; have hroom : p.cap * p.sz ≤ arr.size := hobj.room; have hcap : p.cap ≤ maxLen := hobj.cap; refine ⟨[p.blk], ?_, by rw [List.flatMap_cons, hF']; simp⟩; have := MCell.nw (w := w) (ok := ok) (ρ := ρ) (sz := obj.sz) (c := c) (B := p.blk) (ys := obj.elems) hobj.unif hcells.2 hobj.blk (by rw [← hsz]; exact Nat.le_trans (Nat.mul_le_mul_right _ (by omega)) hroom) hobj.vals (by omega) (by omega); rw [← hn] at this; simpa using this
    · rw [h0] at hn
      have : obj.elems = [] := List.eq_nil_of_length_eq_zero hn.symm; rw [this]; exact ⟨[], .nw0, by simp⟩
theorem SinkM.mix {a : Act} {w : World} {ok : Nat → Prop} {ρ : Env} {F : Nat → List Nat} (hi : Inv' E s a w ok ρ F) : ∀ {xs ys : List LV} {ks : List Nat}, SinkM s.h xs ys ks → ∀ {vs : List Value}, RepL w ok ρ xs vs → ∃ g, MCells w ok ρ ys vs g ∧ g.Sublist (ks.flatMap F)
  | _, _, _, .nil, _, .nil => ⟨[], .nil, by simp⟩
  | _, _, _, .cons h h', _, .cons hr h1 hr' => by
    obtain ⟨g1, e1, e2⟩ := h.mix hi hr; obtain ⟨g2, e3, e4⟩ := SinkM.mix hi h' hr'; exact ⟨g1 ++ g2, .cons e1 h1 e3, by rw [List.flatMap_append]; exact e2.append e4⟩
end
end Go.Lift
/- The lifted logic, part 57: lists some of whose parts are owned, as mirrors tell them. Own work. -/
namespace Go.Lift
open Go.RowKit
inductive UnM1 : LV → LV → Prop
  | imm (v : Value) : UnM1 (.imm v) (.imm v)
  | fz (x : LV) : UnM1 (.tup [x]) x
  | nw (sz : Nat) (xs : List LV) : UnM1 (.nw sz xs false) (.sl sz xs)
inductive UnML : List LV → List LV → Prop
  | nil : UnML [] []
  | cons {x y : LV} {xs ys : List LV} : UnM1 x y → UnML xs ys → UnML (x :: xs) (y :: ys)
theorem UnML.append {a b c d : List LV} (h : UnML a b) (k : UnML c d) : UnML (a ++ c) (b ++ d) := by
  induction h with
  | nil => exact k
  | cons h _ ih => exact .cons h ih
theorem UnML.length {a b : List LV} (h : UnML a b) : a.length = b.length := by
  induction h with
  | nil => rfl
  | cons _ _ ih => simp [ih]
theorem UnML.map {α : Type} {f e : α → LV} (h : ∀ a, UnML (f a).cells (e a).cells) : ∀ l : List α, UnML ((l.map f).flatMap LV.cells) ((l.map e).flatMap LV.cells)
  | [] => .nil
  | a :: l => by
    rw [List.map_cons, List.flatMap_cons, List.map_cons, List.flatMap_cons]; exact (h a).append (UnML.map h l)
theorem UnML.fro {w : World} {ok ok' : Nat → Prop} {ρ : Env} (hok : ∀ b, ok b → ok' b) {xs : List LV} {vs : List Value} {fps : List Nat} (h : MCells w ok ρ xs vs fps) : ∀ {ys : List LV}, UnML xs ys → (∀ b ∈ fps, ok' b) → FroL w ok' ys vs := by
  induction h with
  | nil => intro ys hu _; cases hu; exact .nil
  | cons h h1 _ ih =>
    intro ys hu hf; cases hu with
    | cons h2 h3 =>
      refine .cons ?_ h1 (ih h3 (fun b hb => hf b (by simp [hb]))); cases h2 with
      | imm v => cases h; exact .imm _
      | fz x => cases h with | fz h => exact h.stable (fun _ _ => rfl) hok
      | nw sz zs =>
        cases h with
        | nw0 => exact .sl0 (Nat.zero_le _)
        | nw m1 m2 m3 m4 m5 m6 m7 =>
          rcases zs with _ | ⟨z, zs⟩
          · exact .sl0 m7
          · exact .sl (by simp) m1 (m2.stable (fun _ _ => rfl) hok) (cells_of m3 m5) (hf _ (by simp)) m6 m7
inductive MarkD1 : LV → LV → Prop
  | imm (v : Value) : MarkD1 (.imm v) (.imm v)
  | fz (sz : Nat) (xs : List LV) : MarkD1 (.sl sz xs) (.tup [.sl sz xs])
  | nw (sz : Nat) (xs : List LV) : MarkD1 (.sl sz xs) (.nw sz xs false)
inductive MarkDL : List LV → List LV → Prop
  | nil : MarkDL [] []
  | cons {x y : LV} {xs ys : List LV} : MarkD1 x y → MarkDL xs ys → MarkDL (x :: xs) (y :: ys)
theorem MarkDL.append {a b c d : List LV} (h : MarkDL a b) (k : MarkDL c d) : MarkDL (a ++ c) (b ++ d) := by
  induction h with
  | nil => exact k
  | cons h _ ih => exact .cons h ih
theorem MarkDL.length {a b : List LV} (h : MarkDL a b) : a.length = b.length := by
  induction h with
  | nil => rfl
  | cons _ _ ih => simp [ih]
theorem MarkDL.refs {a b : List LV} (h : MarkDL a b) : LV.refs.refsL b = [] := by
  induction h with
  | nil => rfl
  | cons h _ ih =>
    rw [LV.refs.refsL, ih, List.append_nil]; cases h <;> rfl
theorem MarkDL.map {α : Type} {f e : α → LV} (h : ∀ a, MarkDL (e a).cells (f a).cells) : ∀ l : List α, MarkDL ((l.map e).flatMap LV.cells) ((l.map f).flatMap LV.cells)
  | [] => .nil
  | a :: l => by
    rw [List.map_cons, List.flatMap_cons, List.map_cons, List.flatMap_cons]; exact (h a).append (MarkDL.map h l)
theorem MarkDL.cells {w : World} {ρ : Env} : ∀ {xs : List LV} {vs : List Value} {fps : List Nat}, DeepL w xs vs fps → fps.Nodup → ∀ {ys : List LV}, MarkDL xs ys → ∃ g : List Nat, g.Sublist fps ∧ ∀ ok : Nat → Prop, (∀ b ∈ fps, b ∉ g → ok b) → MCells w ok ρ ys vs g
  | _, _, _, .nil, _, _, .nil => ⟨[], by simp, fun _ _ => .nil⟩
  | _, _, _, .cons (v := v) (f := f) (g := g) h h1 h2, hn, _, .cons (y := y) k k2 => by
    rw [List.nodup_append] at hn; obtain ⟨n1, n2, n3⟩ := hn; obtain ⟨g2, s2, c2⟩ := MarkDL.cells (ρ := ρ) h2 n2 k2
    have one : ∃ g1 : List Nat, g1.Sublist f ∧ ∀ ok : Nat → Prop, (∀ b ∈ f, b ∉ g1 → ok b) → MCell w ok ρ y v g1 := by
      cases k with
      | imm v => cases h; exact ⟨[], by simp, fun _ _ => .imm v⟩
      | fz sz xs => exact ⟨[], by simp, fun ok hok => .fz (h.fro (fun b hb => hok b hb (by simp)))⟩
      | nw sz xs =>
        cases h with
        | sl0 => exact ⟨[], by simp, fun _ _ => .nw0⟩
        | @sl _ c B _ us arr t fps1 m1 m2 m3 m4 m5 m6 m7 =>
          refine ⟨[B], by simp, fun ok hok => .nw m1 (m2.fro (fun b hb => hok b (by simp [hb]) ?_)) m3 m4 m5 m6 m7⟩; have := (List.nodup_cons.1 n1).1; simp only [List.mem_singleton]; intro e; exact this (e ▸ hb)
    obtain ⟨g1, s1, c1⟩ := one; refine ⟨g1 ++ g2, s1.append s2, fun ok hok => .cons (c1 ok fun b hb hnb => hok b (by simp [hb]) ?_) h1 (c2 ok fun b hb hnb => hok b (by simp [hb]) ?_)⟩
    · rw [List.mem_append, not_or]
      exact ⟨hnb, fun hm => n3 b hb b (s2.mem hm) rfl⟩
    · rw [List.mem_append, not_or]
      exact ⟨fun hm => n3 b (s1.mem hm) b hb rfl, hnb⟩
section
variable {P : Program} {E : Ent} {Q : Exit → LState → Prop} {s : LState} {all : Array Oper} {rest : List Oper} {d : Nat} {ty : TypeId} {pos : String} {af : Array Edge}
theorem SinkM.rep {h : LHeap} {xs ys : List LV} (hs : SinkM h xs ys []) : ∀ n : Nat, SinkM h (List.replicate n xs).flatten (List.replicate n ys).flatten []
  | 0 => .nil
  | n + 1 => by
    rw [List.replicate_succ, List.flatten_cons, List.replicate_succ, List.flatten_cons]
    have app : ∀ {a b c d : List LV} {ks ks' : List Nat}, SinkM h a b ks → SinkM h c d ks' → SinkM h (a ++ c) (b ++ d) (ks ++ ks') := by
      intro a b c d ks ks' h1 h2
      induction h1 with
      | nil => exact h2
      | cons h h' ih => rw [List.append_assoc]; exact .cons h ih
    exact app hs (hs.rep n)
end
end Go.Lift
/- The lifted logic, part 58: lists some of whose parts are owned: appended to, handed back. Own work. -/
namespace Go.Lift
open Go.RowKit
theorem MCells.ones {w : World} {ok : Nat → Prop} {ρ : Env} {xs : List LV} {vs : List Value} {f : List Nat} (h : MCells w ok ρ xs vs f) : ∀ u ∈ vs, u.oneCell' = true := by
  induction h with
  | nil => simp
  | cons _ h1 _ ih =>
    intro u hu; rcases List.mem_cons.1 hu with rfl | hu
    · exact h1
    · exact ih u hu
section
variable {P : Program} {E : Ent} {Q : Exit → LState → Prop} {s : LState} {all : Array Oper} {rest : List Oper} {d : Nat} {ty : TypeId} {pos : String} {af : Array Edge}
end
end Go.Lift
/- Short forms of steps: what one may leave out. Own work. -/
namespace Go.Lift
open Go.RowKit
variable {P : Program} {E : Ent} {Q : Exit → LState → Prop} {s : LState} {all : Array Oper} {rest : List Oper} {ty : TypeId} {pos : String} {af : Array Edge}
theorem LWo.gN {op : Op} {j d : Nat} {b nw want : Bool} (t : Nat) (h : b = nw) (hn : LWo P E all rest Q (s.put (some d) (.imm undef)))
    (hb : get t s.tm = .imm (.bool b) := by exact rfl) (hd : (all[j]?).bind (·.dst) = some t := by exact rfl) (hlt : Nat.blt d E.n = true := by exact rfl) (hne : nw = !want := by exact rfl) :
    LWo P E all ({ dst := some d, op := op, type := ty, pos := pos, after := af, guard := some (j, want) } :: rest) Q s :=
  LWo.guardNU hb h rfl hd rfl hlt hne hn
theorem LWo.gU {op : Op} {j d : Nat} {want : Bool} (t : Nat) (hn : LWo P E all rest Q (s.put (some d) (.imm undef)))
    (hb : get t s.tm = .imm undef := by exact rfl) (hd : (all[j]?).bind (·.dst) = some t := by exact rfl) (hlt : Nat.blt d E.n = true := by exact rfl) :
    LWo P E all ({ dst := some d, op := op, type := ty, pos := pos, after := af, guard := some (j, want) } :: rest) Q s :=
  LWo.guardU hb rfl hd rfl hlt hn
theorem LWo.gY {dst : Option Nat} {op : Op} {j : Nat} {b want : Bool} (t : Nat) (h : b = want)
    (hn : LWo P E all ({ dst := dst, op := op, type := ty, pos := pos, after := af, guard := none } :: rest) Q s)
    (hb : get t s.tm = .imm (.bool b) := by exact rfl) (hd : (all[j]?).bind (·.dst) = some t := by exact rfl) :
    LWo P E all ({ dst := dst, op := op, type := ty, pos := pos, after := af, guard := some (j, want) } :: rest) Q s :=
  LWo.guardY hb h rfl hd hn
theorem so {α : Type} {a b : α} (h : some a = some b) : a = b := Option.some.inj h
theorem QG.p {t : Nat} {e : Exit} {r' : LV} (h1 : get t s.tm = r' := by exact rfl) (h2 : LV.pure r' = true := by exact rfl) (he : e = .normal ∨ e = .ret := by exact .inr rfl) : QG P E [.tmp t] (fun r h => r = r' ∧ h = []) e s :=
  QG.mk he (.cons (.tmp (x := r') h1) .nil) (RetOK.one0 (.pure h2) (by decide)) rfl rfl
end Go.Lift
/- The lifted logic, part 60: a list that was cut is given up. Own work. -/
namespace Go.Lift
open Go.RowKit
variable {P : Program} {E : Ent} {Q : Exit → LState → Prop} {s : LState} {all : Array Oper} {rest : List Oper}
end Go.Lift
/- The lifted logic, part 61: a state written out anew inside a region. Own work. -/
namespace Go.Lift
open Go.RowKit
variable {P : Program} {E : Ent} {Q : Exit → LState → Prop} {s : LState} {all : Array Oper} {rest : List Oper}
end Go.Lift
/- The lifted logic, part 62: a variable that a closure writes; it is lent under any name. Own work. -/
namespace Go.Lift
open Go.RowKit
section
variable {P : Program}
end
end Go.Lift
/- The lifted logic, part 63: a list without spare room, and what is put behind it. Own work. -/
namespace Go.Lift
open Go.RowKit
section
variable {P : Program} {E : Ent} {Q : Exit → LState → Prop} {s : LState} {all : Array Oper} {rest : List Oper} {d : Nat} {ty : TypeId} {pos : String} {af : Array Edge}
theorem LWo.lenI {x : Operand} {T e : TypeId} {A : Option Addr} {n c : Nat} (hu : P.underlying T = some (.slice e)) (hx : s.eval x = .imm (.slice A n c)) (hd : Nat.blt d E.n = true := by exact rfl)
    (hn : LWo P E all rest Q (s.put (some d) (.imm (.int .i64 n)))) :
    LWo P E all ({ dst := some d, op := .call { callee := .builtin .len, args := #[x], argTypes := #[T] }, type := ty, pos := pos, after := af, guard := none } :: rest) Q s :=
  LWo.still _ hd (fun a w ok ρ F hi => ⟨.int .i64 n, by
    simp [execOp, resolve, invoke, builtin, Builtin.len_, underlying, hu, hi.imm hx, program, goInt, Sem.run], .fro (.imm _)⟩) hn
theorem LWo.clipI {x : Operand} {hi mx : Operand} {T e : TypeId} {sz : Nat} {A : Option Addr} {n c : Nat} {k k' : IntKind} (hle : n ≤ c) (hu : P.underlying T = some (.slice e)) (hz : ∀ w, (sizeOf e).run P w = .ok sz w) (hx : s.eval x = .imm (.slice A n c)) (h1 : s.eval hi = .imm (.int k n)) (h2 : s.eval mx = .imm (.int k' n)) (hd : Nat.blt d E.n = true := by exact rfl)
    (hn : LWo P E all rest Q (s.put (some d) (.imm (.slice A n n)))) :
    LWo P E all ({ dst := some d, op := .slice T x none (some hi) (some mx), type := ty, pos := pos, after := af, guard := none } :: rest) Q s :=
  LWo.still _ hd (fun a w ok ρ F hinv => ⟨.slice A n n, by
    have hb : (Instr.sliceBounds true n c none (some (.int k n)) (some (.int k' n))).run P w = .ok (0, n, n) w := by
      simp [Instr.sliceBounds]; rw [run_sliceBound _ _ _ _ (by omega)]; simp; rw [run_sliceBound _ _ _ _ (by omega)]; simp
    cases A with
    | none => simp [execOp, Instr.sliceAt, Instr.slice, underlying, hu, program, Sem.run, hinv.imm hx, hinv.imm h1, hinv.imm h2, hb, hz w]
    | some A =>
      have ha : A.add 0 = A := by unfold Addr.add; split <;> simp_all
      simp [execOp, Instr.sliceAt, Instr.slice, underlying, hu, program, Sem.run, hinv.imm hx, hinv.imm h1, hinv.imm h2, hb, hz w, ha], .fro (.imm _)⟩) hn
theorem LWo.clipX {f x : Operand} {ts : Array TypeId} {g : FuncId} {o n : Nat} (hf : s.eval f = .clo g []) (hfn : ∀ A n c, n ≤ c → Ret P g [.imm (.slice A n c)] (.imm (.slice A n n))) (hx : s.eval x = .own o 0 n) (hd : Nat.blt d E.n = true := by exact rfl)
    (hn : LWo P E all rest Q (s.put (some d) (.ownc o 0 n n))) :
    LWo P E all ({ dst := some d, op := .call { callee := .value f, args := #[x], argTypes := ts }, type := ty, pos := pos, after := af, guard := none } :: rest) Q s := by
  intro a w ⟨ok, ρ, F, hi⟩; refine wpList_plain rfl fun K hK => ?_; have hF := hi.eval f; rw [hf] at hF; obtain ⟨cv, hfv, hcr⟩ := hF.clo_inv; cases hcr
  have key : ∃ A c, n ≤ c ∧ a.eval x = .slice A n c ∧ ∀ (w' : World) (ok' : Nat → Prop), Rep w' ok' ρ (.ownc o 0 n n) (.slice A n n) := by
    have hX := hi.eval x; rw [hx] at hX; rcases hX.own_inv with ⟨p, c, hp, h2, h3, hv⟩ | ⟨rfl, A, hv⟩
    · exact ⟨_, c, h3, hv, fun w' ok' => .ownc hp (by omega) (Nat.le_refl _)⟩
    · exact ⟨A, 0, Nat.le_refl _, hv, fun w' ok' => .ownc0⟩
  obtain ⟨A, c, hle, hv, hrep⟩ := key
  have hrun : (execOp a.eval { dst := some d, op := .call { callee := .value f, args := #[x], argTypes := ts }, type := ty, pos := pos, after := af, guard := none }).run P w = .ok (.enter g #[.slice A n c]) w := by
    have he := (hfn A n c hle).1 #[.slice A n c] w; simp only [execOp, resolve, hfv, Deferred.ofValue]; simp [invoke, hv]; simpa using he
  unfold Oper.wp; rw [hrun]; show Calls P g _ w _; refine ((hfn A n c hle).2 w [.slice A n c] ok ρ F (.cons (.fro (.imm _)) .nil) ⟨by simp [hkeys], by simp, by simp [fpsOf], by simp [fpsOf]⟩ (fun b hb => (hi.okk b hb).1)).mono ?_; rintro e w' ⟨v, r, hl', ok', F', fr, rfl, ⟨rfl, rfl⟩, hext, hres, hk1, ho1, hn1, hb1, hok1⟩; obtain ⟨okn, Fn, hI, hR, hnd, hbf⟩ := call_base (vw := []) hi ⟨by simp [hkeys], by simp⟩ (by simp) (.inl rfl) hext hres hk1 ho1 hn1 hb1 (fun k hk => ⟨(hok1 k hk).1, fun hlt => ((hok1 k hk).2 hlt).imp .inl id⟩)
  have hvv : v = .slice A n n := by
    cases hR with
    | fro h => cases h; rfl
  subst hvv; have e0 : ([] : LHeap) ++ hdels (hkeys (rwOf [])) s.h = s.h := by simp [rwOf, hkeys]
  rw [e0] at hI; have hI' : Inv' E s a w' okn ρ Fn := hI; exact hK _ _ (hn _ _ ⟨okn, ρ, Fn, hI'.put hd (hrep _ _)⟩)
end
end Go.Lift
/- The lifted logic, part 64: a variable is lent, and given up; what comes back takes its name. Own work. -/
namespace Go.Lift
open Go.RowKit
section
variable {P : Program} {E : Ent} {Q : Exit → LState → Prop} {s : LState} {all : Array Oper} {rest : List Oper} {d : Nat} {ty : TypeId} {pos : String} {af : Array Edge}
end
end Go.Lift
/- The lifted logic, part 65: lists that are read and have no spare room. Own work. -/
namespace Go.Lift
open Go.RowKit
section
variable {P : Program} {E : Ent} {Q : Exit → LState → Prop} {s : LState} {all : Array Oper} {rest : List Oper} {d : Nat} {ty : TypeId} {pos : String} {af : Array Edge}
theorem Inv.frzO {t k n : Nat} {obj : LObj} (hg : get t s.tm = .ownc k 0 n n) (ho : hget k s.h = some obj) (hk : obj.kind = .fro ∨ obj.kind = .deep) (hro : obj.ro = false) (hle : n = obj.elems.length) {a : Act} {w : World} (hi : Inv E s a w) :
    Inv E { tm := (t, .slx obj.sz obj.elems) :: kill k s.tm, h := hdel k s.h } a w := by
  obtain ⟨ok, ρ, F, h0⟩ := hi; have h := h0.freeze ho hk hro; refine ⟨_, ρ, F, { h with slots := fun j => ?_ }⟩; show Rep w _ ρ (if t = j then _ else get j (kill k s.tm)) _
  split
  · rename_i e
    subst e; have hs := h0.slots t; rw [hg] at hs; have hmem := hget_mem ho; generalize a.tmps.getD t undef = v at hs; rcases hs.ownc_inv with ⟨p, hp, h2, h3, rfl⟩ | ⟨rfl, _, A, rfl⟩
    · rcases h0.heap.objs _ hmem with ⟨h4, _⟩ | ⟨p', arr, t', vs, fps, h4, hF, hobj⟩
      · rw [hp] at h4; cases h4
      · rw [hp] at h4; cases h4
        have hF' : F k = p.blk :: fps := hF; have hsz : p.sz = obj.sz := hobj.sz; have hfr := hobj.cells.fro (ok' := fun b => ok b ∨ b ∈ F k) hk (fun _ hb => .inl hb) (fun b hb => .inr (by rw [hF']; simp [hb])); have hunif : ∀ x ∈ obj.elems, x.cells.length = obj.sz := hobj.unif; have hcap : p.cap ≤ maxLen := hobj.cap; rcases Nat.eq_zero_or_pos n with h0 | h0
        · subst h0
          rw [List.eq_nil_of_length_eq_zero hle.symm]; exact .fro .slx0
        · subst hle
          have hkey := Fro.slx (w := w) (ok := fun b => ok b ∨ b ∈ F k) (sz := obj.sz) (xs := obj.elems) (ad := ⟨p.blk, 0 * p.sz, none⟩) (by intro e; rw [e] at h0; simp at h0)
              hunif hfr (by
                intro j u hj; rw [add_plain, cellQ hobj.blk]; have := hobj.vals _ u hj; simpa using this) (.inr (by rw [hF']; simp)) (by omega)
          exact .fro hkey
    · rw [List.eq_nil_of_length_eq_zero hle.symm]
      exact .fro .slx0
  · have hj := h.slots j
    have e : get j (freezeTm k obj s.tm) = (get j s.tm).freeze k obj := get_freeze k j obj s.tm; have hj' : Rep w _ ρ ((get j s.tm).freeze k obj) (a.tmps.getD j undef) := e ▸ hj; rw [get_kill]
    split
    · exact .junk _
    · rename_i hat
      have : (get j s.tm).freeze k obj = get j s.tm := by
        have hat' : (get j s.tm).at? k = false := by simpa using hat
        unfold LV.freeze
        split
        · rename_i o off' n' e3
          rw [e3] at hat'; have : o ≠ k := by simpa [LV.at?] using hat'
          rw [if_neg this]
        · rw [hat']; rfl
      rwa [this] at hj'
theorem LWo.frzO {α : Type} {ops : List Oper} {sz n : Nat} {f : α → LV} {l : List α} (t k : Nat) (ho : hget k s.h = some (lob sz f l)) (hnl : n = l.length) (hg : get t s.tm = .ownc k 0 n n) (hn : LWo P E all ops Q { tm := (t, .slx sz (l.map f)) :: kill k s.tm, h := hdel k s.h }) : LWo P E all ops Q s :=
  LWo.ghost (fun _ _ hi => hi.frzO hg ho (.inl rfl) rfl (by simp [lob, hnl])) hn
theorem LWo.appendXS {α : Type} {T T' e : TypeId} {u' : TypeDesc} {sz bytes : Nat} {z : Value} {f : α → LV} {l m m' r : List α} {x y : Operand} (k : Nat) (hm : appN? m = some m') (he : app? l m = some r) (hu : P.underlying T = some (.slice e)) (hu' : P.underlying T' = some u') (hni : ∀ k, u' ≠ .int k)
    (hinfo : (P.info? e).map (fun i => (i.size, i.bytes, i.zero)) = some (sz, bytes, some z)) (hzz : z.cells.size = sz)
    (hx : s.eval x = .slx sz (l.map f)) (hsrc : SrcM s y sz f m) (hf : ∀ a, (f a).cells.length = sz) (hl : lone k (hdel k s.h) = true) (hby : Nat.ble bytes 140 = true) (hkp : E.keep.contains k = false := by exact rfl) (hd : Nat.blt d E.n = true := by exact rfl)
    (hn : LWo P E all rest Q { tm := (d, .own k 0 r.length) :: kill k s.tm, h := (k, lob sz f r) :: hdel k s.h }) :
    LWo P E all ({ dst := some d, op := .call { callee := .builtin .append, args := #[x, y], argTypes := #[T, T'] }, type := ty, pos := pos, after := af, guard := none } :: rest) Q s := by
  obtain ⟨rfl, hb⟩ := app_b he
  have hm0 : 0 < m.length := by
    unfold appN? at hm
    split at hm
    · rename_i h; exact h.1
    · cases hm
  have hby' := Nat.le_of_ble_eq_true hby
  have hux : ∀ x ∈ (l.map f ++ m.map f), x.cells.length = sz := by
    intro x hx; rcases List.mem_append.1 hx with hx | hx <;> (obtain ⟨a, _, rfl⟩ := List.mem_map.1 hx; exact hf a)
  have hbb : (l.length + (m.map f).length) * bytes ≤ 140737488355328 := by
    rw [List.length_map]; exact Nat.le_trans (Nat.mul_le_mul hb hby') (by decide)
  have h63 : l.length + (m.map f).length ≤ 140737488355328 := by rw [List.length_map]; omega
  refine LWo.make k { kind := .fro, sz := sz, elems := l.map f ++ m.map f } (.own k 0 (l.length + m.length)) hd hkp hl (.inl rfl) hux ?_ ?_
  · intro a w ok ρ F hi
    obtain ⟨V, vs, hyv, hlv, hfr, hu1, hread⟩ := hsrc.is.run (P := P) hi; have hvlen := hfr.length; rw [flat_len _ _ hu1] at hvlen
    have key : ∃ A olds, a.eval x = .slice A l.length l.length ∧ (∀ w1 : World, w1.heap = w.heap → (Builtin.firstCells sz l.length (.slice A l.length l.length)).run P w1 = .ok (olds : List Value).toArray w1) ∧ FroL w ok ((l.map f).flatMap LV.cells) olds := by
      have hX := hi.eval x; rw [hx] at hX; generalize a.eval x = v at hX; cases hX with
      | fro hX =>
      generalize hq : l.map f = q at hX; cases hX with
      | slx0 =>
        have hl0 : l = [] := List.map_eq_nil_iff.1 hq; subst hl0; rename_i A0; exact ⟨A0, [], rfl, fun w1 _ => by cases A0 <;> simp [Builtin.firstCells, loadCells, loadCellsFrom, Sem.run], by simp; exact .nil⟩
      | slx h0 h1 h2 h3 h4 h5 =>
        rename_i us ad; have hql : q.length = l.length := by rw [← hq, List.length_map]
        have hol := h2.length; rw [flat_len q sz h1] at hol; refine ⟨some ad, us, by rw [hql], fun w1 hw => ?_, h2⟩
        exact run_firstCells_some w1 sz l.length ad l.length l.length us (by rw [← hql]; exact hol.symm) (fun j v hj => by
          have := h3 j v hj; simpa [World.cell?, hw] using this)
    obtain ⟨A, olds, hv, hold, hfo⟩ := key; have hml : (m.map f).length = m.length := by simp
    obtain ⟨cap, hc1, hc2, hr⟩ := run_append_out (P := P) (T := T) (T' := T') (ty := ty) (z := z) hlv hu hu' hni hinfo hread hold (by rw [hml]; omega) hbb h63; have hol := hfo.length; rw [flat_len (l.map f) sz (by intro x hx; obtain ⟨a, _, rfl⟩ := List.mem_map.1 hx; exact hf a), List.length_map] at hol; refine ⟨.slice (some ⟨w.heap.size, 0, none⟩) (l.length + (m.map f).length) cap, olds.toArray ++ vs.toArray ++ Builtin.zeroCells z.cells (cap - (l.length + (m.map f).length)), e, olds ++ vs, cap, w.drew, ?_, .inr rfl, by simpa using hc1, by unfold maxLen; omega, ?_, ?_, ⟨rfl, by rw [List.flatMap_append]; exact hfo.append hfr⟩, ?_⟩
    · simp only [execOp]
      simp [resolve, invoke, builtin, hyv, hv]; simp only [List.length_map] at hr ⊢; simp only [hr]; simp
    · show cap * sz ≤ _
      have e1 : (olds.toArray ++ vs.toArray ++ Builtin.zeroCells z.cells (cap - (l.length + (m.map f).length))).size = (l.length + (m.map f).length + (cap - (l.length + (m.map f).length))) * sz := by
        simp only [Array.size_append, List.size_toArray, zero_size, hzz]; rw [← hol, ← hvlen, Nat.add_mul, Nat.add_mul]
      rw [e1]; exact Nat.mul_le_mul_right _ (by omega)
    · intro k v hk
      have hlt : k < (olds ++ vs).length := by
        rcases Nat.lt_or_ge k (olds ++ vs).length with h | h
        · exact h
        · rw [List.getElem?_eq_none h] at hk; cases hk
      rw [Array.getElem?_append_left (by simpa using hlt)]; simpa using hk
    · intro W ok' ρ' hρ
      have := Rep.own (w := W) (ok := ok') (off := 0) (n := l.length + (m.map f).length) (c := cap) hρ (by simp) hc1; simpa using this
  · have e1 : l.map f ++ m.map f = (l ++ m).map f := by simp
    rw [e1, ← List.length_append]; exact hn
end
end Go.Lift
/- Plain lemmas on mirrors: loops over lists, total functions. Own work. -/
namespace Go.Lift
def foldC {α S R : Type} (step : α → S → (S → Option R) → Option R) (J : S → Option R) : List α → S → Option R
  | [], s => J s
  | x :: xs, s => step x s (foldC step J xs)
theorem at_of {α : Type} {l : List α} {k : Nat} {x : α} (h : l[k]? = some x) : at? l (k : Int) = some x := by
  unfold at?; rw [if_pos (by omega)]; simpa using h
theorem lt_of_at {α : Type} {l : List α} {k : Nat} {x : α} (h : l[k]? = some x) : k < l.length := (List.getElem?_eq_some_iff.1 h).1
theorem scanC {α S R : Type} (xs : List α) (L : Nat → Int → S → Option R) (step : α → S → (S → Option R) → Option R) (J : S → Option R)
    (hs : ∀ n (k : Nat) x s, xs[k]? = some x → L (n + 1) (k : Int) s = step x s (fun s' => L n ((k : Int) + 1) s')) (he : ∀ n s, L (n + 1) (xs.length : Int) s = J s)
    (n : Nat) (hn : xs.length < n) (s : S) : L n 0 s = foldC step J xs s := by
  have key : ∀ (ys : List α) (k : Nat) (n : Nat) (s : S), xs.drop k = ys → k ≤ xs.length → ys.length < n → L n (k : Int) s = foldC step J ys s := by
    intro ys
    induction ys with
    | nil =>
      intro k n s hd hk hn
      have : k = xs.length := by
        have := congrArg List.length hd; simp at this; omega
      subst this; obtain ⟨m, rfl⟩ : ∃ m, n = m + 1 := ⟨n - 1, by simp at hn; omega⟩; exact he m s
    | cons y ys ih =>
      intro k n s hd hk hn
      have hlt : k < xs.length := by
        have := congrArg List.length hd; simp at this; omega
      have hy : xs[k]? = some y := by
        have := List.drop_eq_getElem_cons hlt; rw [hd] at this; simp only [List.cons.injEq] at this; rw [List.getElem?_eq_getElem hlt, this.1]
      have hd' : xs.drop (k + 1) = ys := by
        have := List.drop_eq_getElem_cons hlt; rw [hd] at this; simp only [List.cons.injEq] at this; exact this.2.symm
      obtain ⟨m, rfl⟩ : ∃ m, n = m + 1 := ⟨n - 1, by simp at hn; omega⟩; rw [hs m k y s hy]; simp only [foldC]
      congr 1
      funext s'
      have := ih (k + 1) m s' hd' (by omega) (by simp at hn; omega); simpa using this
  have := key xs 0 n s rfl (by omega) hn; simpa using this
theorem foldC_all {α R : Type} {p : α → Bool} {r0 r1 : R} : ∀ {l : List α}, foldC (S := Unit) (fun x s k => bif p x then some r0 else k s) (fun _ => some r1) l () = some (bif l.any p then r0 else r1)
  | [] => rfl
  | x :: l => by
    simp only [foldC, List.any_cons]; cases hp : p x
    · simpa using foldC_all (l := l)
    · simp
theorem scanA {α R : Type} {p : α → Bool} {r0 r1 : R} (xs : List α) (L : Nat → Int → Option R)
    (hs : ∀ n (k : Nat) x, xs[k]? = some x → L (n + 1) (k : Int) = bif p x then some r0 else L n ((k : Int) + 1)) (he : ∀ n, L (n + 1) (xs.length : Int) = some r1)
    (n : Nat) (hn : xs.length < n) : L n 0 = some (bif xs.any p then r0 else r1) := by
  have := scanC xs (fun n k (_ : Unit) => L n k) (fun x s k => bif p x then some r0 else k s) (fun _ => some r1) (fun n k x s hx => hs n k x hx) (fun n s => he n) n hn (); rw [this]; exact foldC_all
def all2 {α β : Type} (q : α → β → Bool) (a : List α) (b : List β) : Bool := (a.zip b).all fun p => q p.1 p.2
theorem scan2 {α β : Type} {q : α → β → Bool} (a : List α) (b : List β) (hl : a.length = b.length) (L : Nat → Int → Option Bool)
    (hs : ∀ n (k : Nat) x y, a[k]? = some x → b[k]? = some y → L (n + 1) (k : Int) = bif q x y then L n ((k : Int) + 1) else some false) (he : ∀ n, L (n + 1) (a.length : Int) = some true)
    (n : Nat) (hn : a.length < n) : L n 0 = some (all2 q a b) := by
  have hz : (a.zip b).length = a.length := by simp [hl]
  have := scanA (p := fun p : α × β => !(q p.1 p.2)) (r0 := false) (r1 := true) (a.zip b) L (by
    intro n k x hx; rw [List.getElem?_zip_eq_some] at hx; rw [hs n k x.1 x.2 hx.1 hx.2]; cases q x.1 x.2 <;> rfl) (by intro n; rw [hz]; exact he n) n (by rw [hz]; exact hn)
  rw [this]; unfold all2
  congr 1
  rw [List.all_eq_not_any_not]; cases (a.zip b).any fun p => !(q p.1 p.2) <;> rfl
theorem all2_eq {α : Type} [DecidableEq α] : ∀ {a b : List α}, a.length = b.length → all2 (fun x y => decide (x = y)) a b = decide (a = b)
  | [], [], _ => rfl
  | x :: a, y :: b, h => by
    have ih := all2_eq (a := a) (b := b) (by simpa using h); unfold all2 at ih ⊢; simp only [List.zip_cons_cons, List.all_cons, ih, List.cons.injEq]; rw [Bool.eq_iff_iff]; simp
theorem scanN {α R : Type} {p : α → Bool} {J : Int → Option R} (xs : List α) (L : Nat → Int → Int → Option R)
    (hs : ∀ n (k : Nat) x (s : Int), xs[k]? = some x → 0 ≤ s → s ≤ k → L (n + 1) (k : Int) s = L n ((k : Int) + 1) (bif p x then s + 1 else s)) (he : ∀ n s, L (n + 1) (xs.length : Int) s = J s)
    (n : Nat) (hn : xs.length < n) : L n 0 0 = J (xs.countP p) := by
  have key : ∀ (ys : List α) (k n : Nat) (s : Int), xs.drop k = ys → k ≤ xs.length → ys.length < n → 0 ≤ s → s ≤ k → L n (k : Int) s = J (s + ys.countP p) := by
    intro ys
    induction ys with
    | nil =>
      intro k n s hd hk hn h0 h1
      have : k = xs.length := by
        have := congrArg List.length hd; simp at this; omega
      subst this; obtain ⟨m, rfl⟩ : ∃ m, n = m + 1 := ⟨n - 1, by simp at hn; omega⟩; rw [he]; simp
    | cons y ys ih =>
      intro k n s hd hk hn h0 h1
      have hlt : k < xs.length := by
        have := congrArg List.length hd; simp at this; omega
      have hc := List.drop_eq_getElem_cons hlt; rw [hd] at hc; simp only [List.cons.injEq] at hc; obtain ⟨m, rfl⟩ : ∃ m, n = m + 1 := ⟨n - 1, by simp at hn; omega⟩; rw [hs m k y s (by rw [List.getElem?_eq_getElem hlt, hc.1]) h0 h1]; have := ih (k + 1) m (bif p y then s + 1 else s) hc.2.symm (by omega) (by simp at hn; omega) (by cases p y <;> simp <;> omega) (by cases p y <;> simp <;> omega); rw [show ((k : Int) + 1) = ((k + 1 : Nat) : Int) by omega, this, List.countP_cons]
      congr 1
      cases p y <;> simp <;> omega
  have := key xs 0 n 0 rfl (by omega) hn (by omega) (by omega); simpa using this
theorem scanF {α S R : Type} {f : S → α → S} {J : S → Option R} (I : Nat → S → Prop) (xs : List α) (L : Nat → Int → S → Option R)
    (hs : ∀ n (k : Nat) x s, xs[k]? = some x → I k s → L (n + 1) (k : Int) s = L n ((k : Int) + 1) (f s x) ∧ I (k + 1) (f s x)) (he : ∀ n s, I xs.length s → L (n + 1) (xs.length : Int) s = J s)
    (n : Nat) (hn : xs.length < n) (s : S) (h0 : I 0 s) : L n 0 s = J (xs.foldl f s) ∧ I xs.length (xs.foldl f s) := by
  have key : ∀ (ys : List α) (k n : Nat) (s : S), xs.drop k = ys → k ≤ xs.length → ys.length < n → I k s → L n (k : Int) s = J (ys.foldl f s) ∧ I xs.length (ys.foldl f s) := by
    intro ys
    induction ys with
    | nil =>
      intro k n s hd hk hn hI
      have : k = xs.length := by
        have := congrArg List.length hd; simp at this; omega
      subst this; obtain ⟨m, rfl⟩ : ∃ m, n = m + 1 := ⟨n - 1, by simp at hn; omega⟩; exact ⟨he m s hI, hI⟩
    | cons y ys ih =>
      intro k n s hd hk hn hI
      have hlt : k < xs.length := by
        have := congrArg List.length hd; simp at this; omega
      have hc := List.drop_eq_getElem_cons hlt; rw [hd] at hc; simp only [List.cons.injEq] at hc; obtain ⟨m, rfl⟩ : ∃ m, n = m + 1 := ⟨n - 1, by simp at hn; omega⟩; obtain ⟨h1, h2⟩ := hs m k y s (by rw [List.getElem?_eq_getElem hlt, hc.1]) hI; rw [h1, show ((k : Int) + 1) = ((k + 1 : Nat) : Int) by omega]; exact ih (k + 1) m (f s y) hc.2.symm (by omega) (by simp at hn; omega) h2
  have := key xs 0 n s rfl (by omega) hn h0; simpa using this
theorem dlt {k : Nat} {n : Nat} (h : k < n) : decide ((k : Int) < (n : Int)) = true := by simp; omega
theorem dnlt {n : Nat} : decide ((n : Int) < (n : Int)) = false := by simp
theorem ck1 {k : Nat} (h : k < 1000000000000) : ckI ((k : Int) + 1) = some ((k : Int) + 1) := ckI_of (by omega) (by omega)
theorem beqF {a b : Int} (h : ¬ a = b) : (a == b) = false := by simp [h]
theorem beqF' {a b : Int} (h : ¬ a = b) : (a != b) = true := by simp [h]
theorem fuel0 {n : Nat} : n < (((n : Int) - 0).toNat + 1) := by omega
def Tot {α : Type} (o : Option α) (Q : α → Prop) : Prop := ∃ x, o = some x ∧ Q x
theorem Tot.ret {α : Type} {x : α} {Q : α → Prop} (h : Q x) : Tot (some x) Q := ⟨x, rfl, h⟩
theorem Tot.bind {α β : Type} {o : Option α} {f : α → Option β} {P : α → Prop} {Q : β → Prop} (h : Tot o P) (k : ∀ x, P x → Tot (f x) Q) : Tot (o.bind f) Q := by
  obtain ⟨x, rfl, hx⟩ := h; exact k x hx
theorem Tot.eq {α β : Type} {o : Option α} {x : α} {f : α → Option β} {Q : β → Prop} (h : o = some x) (k : Tot (f x) Q) : Tot (o.bind f) Q := by subst h; exact k
theorem Tot.bif {α : Type} {b : Bool} {x y : Option α} {Q : α → Prop} (h1 : b = true → Tot x Q) (h0 : b = false → Tot y Q) : Tot (bif b then x else y) Q := by cases b; exact h0 rfl; exact h1 rfl
theorem Tot.lt {α β : Type} {x : α} {f : α → Option β} {Q : β → Prop} (h : Tot (f x) Q) : Tot (lt x f) Q := h
theorem Tot.mono {α : Type} {o : Option α} {P Q : α → Prop} (h : Tot o P) (k : ∀ x, P x → Q x) : Tot o Q := by obtain ⟨x, h1, h2⟩ := h; exact ⟨x, h1, k x h2⟩
theorem Tot.ck {β : Type} {x : Int} {f : Int → Option β} {Q : β → Prop} (h0 : -9223372036854775808 ≤ x) (h1 : x ≤ 9223372036854775807) (k : Tot (f x) Q) : Tot ((ckI x).bind f) Q := Tot.eq (ckI_of h0 h1) k
theorem Tot.app {α β : Type} {l r : List α} {f : List α → Option β} {Q : β → Prop} (h : l.length + r.length ≤ 1000000000000) (k : Tot (f (l ++ r)) Q) : Tot ((app? l r).bind f) Q := Tot.eq (app_of h) k
theorem Tot.at {α β : Type} {l : List α} {i : Int} {f : α → Option β} {Q : β → Prop} (h0 : 0 ≤ i) (h1 : i < l.length) (k : ∀ x ∈ l, Tot (f x) Q) : Tot ((at? l i).bind f) Q :=
  Tot.eq (at_someI h0 (by omega)) (k _ (List.getElem_mem _))
theorem Tot.cut {α β : Type} {l : List α} {lo hi : Int} {f : List α → Option β} {Q : β → Prop} (h : 0 ≤ lo ∧ lo ≤ hi ∧ hi ≤ l.length) (k : Tot (f ((l.take hi.toNat).drop lo.toNat)) Q) : Tot ((cut? l lo hi).bind f) Q :=
  Tot.eq (by unfold cut?; rw [if_pos h]) k
theorem Tot.cat {β : Type} {a b : ByteArray} {f : ByteArray → Option β} {Q : β → Prop} (h : a.size + b.size ≤ 9223372036854775807) (k : Tot (f (a ++ b)) Q) : Tot ((sCat? a b).bind f) Q :=
  Tot.eq (by unfold sCat?; rw [if_pos h]) k
theorem Tot.rem {β : Type} {m n : Int} {f : Int → Option β} {Q : β → Prop} (h : n ≠ 0) (k : Tot (f (m.tmod n)) Q) : Tot ((remI m n).bind f) Q := Tot.eq (by unfold remI; rw [if_neg h]) k
theorem Tot.quo {β : Type} {m n : Int} {f : Int → Option β} {Q : β → Prop} (h : n ≠ 0) (h0 : -9223372036854775808 ≤ m.tdiv n) (h1 : m.tdiv n ≤ 9223372036854775807) (k : Tot (f (m.tdiv n)) Q) : Tot ((quoI m n).bind f) Q := Tot.eq (by unfold quoI; rw [if_neg h, ckI_of h0 h1]) k
theorem Tot.xor {β : Type} {m n : Int} {f : Int → Option β} {Q : β → Prop} (h : 0 ≤ m ∧ m < 4611686018427387904 ∧ 0 ≤ n ∧ n < 4611686018427387904) (k : ∀ z, 0 ≤ z → z < 4611686018427387904 → Tot (f z) Q) : Tot ((xorI m n).bind f) Q :=
  Tot.eq (by unfold xorI; rw [if_pos h]) (k _ (by omega) (by
    have h1 : m.toNat < 2 ^ 62 := by omega
    have h2 : n.toNat < 2 ^ 62 := by omega
    have := Nat.xor_lt_two_pow h1 h2; omega))
theorem Tot.down {R : Type} {Q : R → Prop} {S : Type} (L : Nat → Int → S → Option R) (I : Int → S → Prop)
    (h0 : ∀ n s, I 0 s → Tot (L (n + 1) 0 s) Q) (h : ∀ n t s, 0 < t → I t s → (∀ s', I (t - 1) s' → Tot (L n (t - 1) s') Q) → Tot (L (n + 1) t s) Q) : ∀ (n : Nat) (t : Int) s, 0 ≤ t → t < n → I t s → Tot (L n t s) Q := by
  intro n
  induction n with
  | zero => intro t s h1 h2; omega
  | succ n ih =>
    intro t s h1 h2 hI; rcases Int.lt_or_le 0 t with hp | hp
    · exact h n t s hp hI fun s' hs' => ih (t - 1) s' (by omega) (by omega) hs'
    · have : t = 0 := by omega
      subst this; exact h0 n s hI
theorem Tot.up {R : Type} {Q : R → Prop} {S : Type} (m : Int) (L : Nat → Int → S → Option R) (I : Int → S → Prop)
    (h0 : ∀ n s, I m s → Tot (L (n + 1) m s) Q) (h : ∀ n t s, 0 ≤ t → t < m → I t s → (∀ s', I (t + 1) s' → Tot (L n (t + 1) s') Q) → Tot (L (n + 1) t s) Q) : ∀ (n : Nat) (t : Int) s, 0 ≤ t → t ≤ m → m - t < n → I t s → Tot (L n t s) Q := by
  intro n
  induction n with
  | zero => intro t s h1 h2; omega
  | succ n ih =>
    intro t s h1 h2 h3 hI; rcases Int.lt_or_le t m with hp | hp
    · exact h n t s h1 hp hI fun s' hs' => ih (t + 1) s' (by omega) (by omega) (by omega) hs'
    · have : t = m := by omega
      subst this; exact h0 n s hI
end Go.Lift
/- Plain Lean: putting in order by insertion, from the end; what holds of it. Own work. -/
namespace Go.Lift
def OrdB {α : Type} (gt : α → α → Bool) (l : List α) : Prop := l.Pairwise fun a b => gt a b = false
def idxI {α : Type} (q : α → Bool) : List α → Int
  | [] => -1
  | x :: l => if q x then 0 else if idxI q l < 0 then -1 else idxI q l + 1
theorem idxI_pos {α : Type} {q : α → Bool} {x : α} {l : List α} (h : q x = true) : idxI q (x :: l) = 0 := by unfold idxI; rw [if_pos h]
theorem idxI_neg {α : Type} {q : α → Bool} {x : α} {l : List α} (h : q x = false) : idxI q (x :: l) = if idxI q l < 0 then -1 else idxI q l + 1 := by
  rw [idxI]; rw [if_neg (by simp [h])]
theorem idxI_ge {α : Type} (q : α → Bool) : ∀ l : List α, -1 ≤ idxI q l ∧ idxI q l < l.length ∧ (decide (idxI q l ≥ 0) = l.any q)
  | [] => by simp [idxI]
  | x :: l => by
    obtain ⟨h1, h2, h3⟩ := idxI_ge q l; rw [List.any_cons, ← h3, List.length_cons]; cases hq : q x with
    | true => rw [idxI_pos hq]; simp
    | false =>
      rw [idxI_neg hq]
      by_cases h : idxI q l < 0
      · rw [if_pos h]
        have : ¬ idxI q l ≥ 0 := by omega
        simp [this]; omega
      · rw [if_neg h]
        have h4 : idxI q l ≥ 0 := by omega
        have h5 : idxI q l + 1 ≥ 0 := by omega
        simp only [decide_eq_true h4, decide_eq_true h5, Bool.false_or]; exact ⟨by omega, by omega, trivial⟩
theorem scanI {α R : Type} {q : α → Bool} {g : Int → Option R} (xs : List α) (L : Nat → Int → Option R)
    (hs : ∀ n (k : Nat) x, xs[k]? = some x → L (n + 1) (k : Int) = bif q x then g k else L n ((k : Int) + 1)) (he : ∀ n, L (n + 1) (xs.length : Int) = g (-1))
    (n : Nat) (hn : xs.length < n) : L n 0 = g (idxI q xs) := by
  have key : ∀ (ys : List α) (k n : Nat), xs.drop k = ys → k ≤ xs.length → ys.length < n → L n (k : Int) = g (if idxI q ys < 0 then -1 else idxI q ys + k) := by
    intro ys
    induction ys with
    | nil =>
      intro k n hd hk hn
      have : k = xs.length := by
        have := congrArg List.length hd; simp at this; omega
      subst this; obtain ⟨m, rfl⟩ : ∃ m, n = m + 1 := ⟨n - 1, by simp at hn; omega⟩; rw [he, if_pos (by simp [idxI])]
    | cons y ys ih =>
      intro k n hd hk hn
      have hlt : k < xs.length := by
        have := congrArg List.length hd; simp at this; omega
      have hc := List.drop_eq_getElem_cons hlt; rw [hd] at hc; simp only [List.cons.injEq] at hc; obtain ⟨m, rfl⟩ : ∃ m, n = m + 1 := ⟨n - 1, by simp at hn; omega⟩; rw [hs m k y (by rw [List.getElem?_eq_getElem hlt, hc.1])]; cases hq : q y with
      | true => rw [cond_true, idxI_pos hq, if_neg (by omega)]; congr 1; omega
      | false =>
        rw [cond_false, show ((k : Int) + 1) = ((k + 1 : Nat) : Int) by omega, ih (k + 1) m hc.2.symm (by omega) (by simp at hn; omega), idxI_neg hq]; have := idxI_ge q ys
        by_cases h : idxI q ys < 0
        · rw [if_pos h, if_pos h, if_pos (by omega)]
        · rw [if_neg h, if_neg h, if_neg (by omega)]
          congr 1; omega
  have := key xs 0 n rfl (by omega) hn; rw [show ((0 : Nat) : Int) = 0 from rfl] at this; rw [this]; have := idxI_ge q xs
  split
  · congr 1; omega
  · congr 1; omega
end Go.Lift
namespace Go.Lift
theorem ltE {α β : Type} (x : α) (f : α → β) : lt x f = f x := rfl
theorem neB (a b : Int) : (a != b) = !decide (a = b) := by by_cases h : a = b <;> simp [h, bne]
theorem neN (a b : Nat) : (((a : Nat) : Int) != ((b : Nat) : Int)) = !decide (a = b) := by rw [neB]; congr 1; rw [decide_eq_decide]; omega
end Go.Lift
/- Plain Lean: putting in order by blocks that are merged. Own work. -/
namespace Go.Lift
inductive Chk {α : Type} (gt : α → α → Bool) (bs : Nat) : List α → Prop
  | last {X : List α} : X.length ≤ bs → OrdB gt X → Chk gt bs X
  | cons {X R : List α} : X.length = bs → OrdB gt X → Chk gt bs R → Chk gt bs (X ++ R)
end Go.Lift
/- Plain Lean: loops that look at neighbours, that copy, that leave out. Own work. -/
namespace Go.Lift
theorem scanM {α β R : Type} {f : α → β} {J : List β → Option R} (xs : List α) (L : Nat → Int → List β → Option R)
    (hs : ∀ n (k : Nat) x o, xs[k]? = some x → o.length = k → L (n + 1) (k : Int) o = L n ((k : Int) + 1) (o ++ [f x])) (he : ∀ n o, o.length = xs.length → L (n + 1) (xs.length : Int) o = J o)
    (n : Nat) (hn : xs.length < n) : L n 0 [] = J (xs.map f) := by
  have := (scanF (f := fun o x => o ++ [f x]) (J := J) (fun k o => o.length = k) xs L (fun n k x o hx ho => ⟨hs n k x o hx ho, by simp [ho]⟩) (fun n o ho => he n o ho) n hn [] rfl).1; rw [this]
  congr 1
  have key : ∀ (l : List α) (a : List β), l.foldl (fun o x => o ++ [f x]) a = a ++ l.map f := by
    intro l
    induction l with
    | nil => intro a; simp
    | cons x l ih => intro a; rw [List.foldl_cons, ih]; simp
  rw [key]; simp
end Go.Lift
/- Plain Lean: putting in order so that equal ones keep their order. Own work. -/
namespace Go.Lift
structure StP {α κ : Type} (f : κ → α → Bool) (Z W : List α) : Prop where
  perm : Z.Perm W
  st : ∀ v, Z.filter (f v) = W.filter (f v)
theorem StP.refl {α κ : Type} {f : κ → α → Bool} (Z : List α) : StP f Z Z := ⟨.refl _, fun _ => rfl⟩
theorem StP.trans {α κ : Type} {f : κ → α → Bool} {Z W V : List α} (h : StP f Z W) (k : StP f W V) : StP f Z V := ⟨h.perm.trans k.perm, fun v => (h.st v).trans (k.st v)⟩
theorem StP.append {α κ : Type} {f : κ → α → Bool} {Z W Z2 W2 : List α} (h : StP f Z W) (k : StP f Z2 W2) : StP f (Z ++ Z2) (W ++ W2) := ⟨h.perm.append k.perm, fun v => by rw [List.filter_append, List.filter_append, h.st v, k.st v]⟩
theorem StP.mem_iff {α κ : Type} {f : κ → α → Bool} {Z W : List α} (h : StP f Z W) {x : α} : x ∈ Z ↔ x ∈ W := h.perm.mem_iff
end Go.Lift
/- Sizes, conversions and comparisons of arguments: the loops. Own work. -/
namespace Go.Lift
end Go.Lift
