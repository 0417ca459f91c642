/- Whatever the arguments, the law returns true, and they read as they did: the row, out of the law's contract and of its pure statement. -/
import Derived.Test.YtdkpmckpcejceaaXPlainA
import Derived.Test.YtdkpmckpcejceaaChecked
import Derived.Test.YtdkpmckpcejceaaRows
import Derived.WalkKit
import Derived.ProofKit
import Derived.OpenShut
import Derived.ShutString
import Derived.ChangeOld
import Derived.Below
import Derived.SizedLaws
set_option linter.unusedVariables false
set_option linter.unusedSimpArgs false
set_option linter.unnecessarySimpa false
namespace Go.Proofs.Ytdkpmckpcejceaa.fnExactLockRing
open Go.ChangeShapes Go.WideShapes Go.ChangeAt Go.RowKit Go.Lift
open Go.ChangeMaps (open_string shut_string)
theorem own : ownKnob Try.prog.godebug = none := by kernel_rfl
theorem laidOut : laidOutB Try.prog = true := by kernel_rfl
theorem ot_int : Opn Try.prog t_int 1 e_int B_int := opn_int u_int (by kernel_rfl)
theorem ot_laws_Ask : Opn Try.prog t_laws_Ask 3 e_laws_Ask B_laws_Ask :=
  opn_struct (fun p : Int × Int × Int × Unit => (⟨p.1, p.2.1, p.2.2.1⟩ : S_laws_Ask)) u_laws_Ask (by kernel_rfl) (opnF_cons ot_int rfl (opnF_cons ot_int rfl (opnF_cons ot_int rfl opnF_nil))) (fun a => rfl) (fun s => rfl) (fun p h => ⟨h.1, h.2.1, h.2.2.1⟩)
theorem ot_Llaws_Ask : Opn Try.prog t_Llaws_Ask 1 e_Llaws_Ask (B_list B_laws_Ask) := opn_slice u_Llaws_Ask (by kernel_rfl) (by decide) ot_laws_Ask
theorem ot_laws_Locks : Opn Try.prog t_laws_Locks 2 e_laws_Locks B_laws_Locks :=
  opn_struct (fun p : (List S_laws_Ask) × (List S_laws_Ask) × Unit => (⟨p.1, p.2.1⟩ : S_laws_Locks)) u_laws_Locks (by kernel_rfl) (opnF_cons ot_Llaws_Ask rfl (opnF_cons ot_Llaws_Ask rfl opnF_nil)) (fun a => rfl) (fun s => rfl) (fun p h => ⟨h.1, h.2.1⟩)
set_option maxRecDepth 100000 in
theorem lifted (os : Os) (started : os.Started) (H : Type) (enc : TypeId × Value → H) :
    ReturnsInHanded {} Try.checked os 3 .any (Rows.fnExactLockRingSpec.pre6 enc Try.prog Try.f3 Rows.fnExactLockRingRow.domain false) (Rows.fnExactLockRingSpec.post enc Try.prog Try.f3 false true false false) := by
  refine returnsInHanded_of_change_sized (C := Try.checked) own started (by kernel_rfl) Try.func3
    (ChangeSpec.witness6 (enc := enc) (C := Try.checked) false ⟨#[], #[.agg #[.slice none 0 0, .slice none 0 0]], []⟩ 8 (by kernel_rfl) (by kernel_rfl) (by kernel_rfl) (by kernel_rfl)) ?_
  intro W base args ds gs before hval0 hW hcnd hsz0 _; have hval : ∀ (j : Nat) t v, Try.f3.params[j]? = some t → args[j]? = some v → Value.okWide Try.prog W .any base t v := hval0; have hW' := hW; obtain ⟨p, q, hA0, hV, rfl, hfz, hnd⟩ := hW; have hA : DataW.TrodAll enc Try.prog W 0 (fun _ => true) true Try.f3.params.toList args.toList ds p := hA0; rw [Try.params3] at hA hval; obtain ⟨v0, vs0, d0, ds0, p0, q0, hargs, rfl, rfl, h0, r0⟩ := trodAll_cons hA; obtain ⟨rfl, rfl, rfl⟩ := trodAll_nil r0; obtain rfl : args = #[v0] := by cases args; simp_all
  obtain ⟨rfl, rfl⟩ := trodVars_none hV; have k0 := h0; have lt0 : ∀ x ∈ p0, x.block < W.heap.size := by obtain ⟨m, hm⟩ := k0; exact DataW.trod_lt m _ _ _ hm
  obtain ⟨c0, rfl⟩ := okW_agg Try.underlying24 (hval 0 24 v0 rfl rfl); obtain ⟨x0, b0, y0⟩ := ot_laws_Locks.agg (fun _ => rfl) h0; clear hA0 hval0 hsz0; refine (law_any (c_laws_FnExactLockRing x0 true (pure_FnExactLockRing x0 b0)) W _ (.cons (.fro y0) .nil)).mono fun e W' ⟨he, bel⟩ => ?_; subst he; exact ⟨_, rfl, _, _, _, [], _, [], hW', trodAll_mk1 (shut_bool Try.underlying4 _), (trodAll_cons_mk (Below.trod laidOut (by kernel_rfl) (of_decide_eq_true (by kernel_rfl)) k0 bel lt0) trodAll_mk0), rfl, bel.frame _, fun h => by cases h⟩
theorem andI {a b : Bool} (h : a = true) (k : b = true) : (a && b) = true := by rw [h, k]; rfl
set_option maxHeartbeats 4000000 in
theorem joined : joinedFacts Try.pinned.checked.prog 3 Try.f3 Rows.fnExactLockRingSpec Rows.fnExactLockRingRow = true := by
  unfold joinedFacts; refine andI (andI (andI (andI (andI (andI (andI (andI ?_ ?_) ?_) ?_) ?_) ?_) ?_) ?_) ?_
  all_goals as_aux_lemma => kernel_rfl
theorem over : Rows.fnExactLockRingRow.holds Try.pinned (OpenSpec.ofChange Rows.fnExactLockRingSpec) :=
  OpenClaim.holds_of_wide 3 Try.f3 rfl rfl rfl rfl rfl rfl rfl ⟨rfl, rfl, rfl, rfl, rfl⟩ rfl rfl rfl rfl rfl (by kernel_rfl) Try.func3 joined
    (of_decide_eq_true (by kernel_rfl)) (by unfold Func.isWrapper; first | (rw [if_pos (by decide +kernel)]; kernel_rfl) | (rw [if_neg (by decide +kernel)]; exact ⟨rfl, rfl⟩))
    (fun os started H enc _ => lifted os started H enc)
theorem proved : Rows.FnExactLockRingSaid := over
end Go.Proofs.Ytdkpmckpcejceaa.fnExactLockRing
namespace Go.Proofs.Ytdkpmckpcejceaa
theorem fnExactLockRing_holds : Rows.FnExactLockRingSaid := fnExactLockRing.proved
#print axioms fnExactLockRing_holds
end Go.Proofs.Ytdkpmckpcejceaa
