/- Whatever the arguments, the law returns true, and they read as they did: the row, out of the law's contract and of its pure statement. -/
import Derived.Test.YtogiaehagciojaaXPlainA
import Derived.Test.YtogiaehagciojaaChecked
import Derived.Test.YtogiaehagciojaaRows
import Derived.WalkKit
import Derived.ProofKit
import Derived.OpenShut
import Derived.ShutString
import Derived.ChangeOld
import Derived.Below
import Derived.SizedLaws
set_option linter.unusedVariables false
set_option linter.unusedSimpArgs false
set_option linter.unnecessarySimpa false
namespace Go.Proofs.Ytogiaehagciojaa.fnExactDeltaRows
open Go.ChangeShapes Go.WideShapes Go.ChangeAt Go.RowKit Go.Lift
open Go.ChangeMaps (open_string shut_string)
theorem own : ownKnob Try.prog.godebug = none := by kernel_rfl
theorem laidOut : laidOutB Try.prog = true := by kernel_rfl
theorem ot_int : Opn Try.prog t_int 1 e_int B_int := opn_int u_int (by kernel_rfl)
theorem ot_string : Opn Try.prog t_string 1 e_string B_string := opn_string u_string (by kernel_rfl)
theorem ot_laws_Value : Opn Try.prog t_laws_Value 3 e_laws_Value B_laws_Value :=
  opn_struct (fun p : Int × Int × ByteArray × Unit => (⟨p.1, p.2.1, p.2.2.1⟩ : S_laws_Value)) u_laws_Value (by kernel_rfl) (opnF_cons ot_int rfl (opnF_cons ot_int rfl (opnF_cons ot_string rfl opnF_nil))) (fun a => rfl) (fun s => rfl) (fun p h => ⟨h.1, h.2.1, h.2.2.1⟩)
theorem ot_Llaws_Value : Opn Try.prog t_Llaws_Value 1 e_Llaws_Value (B_list B_laws_Value) := opn_slice u_Llaws_Value (by kernel_rfl) (by decide) ot_laws_Value
theorem ot_LLlaws_Value : Opn Try.prog t_LLlaws_Value 1 e_LLlaws_Value (B_list (B_list B_laws_Value)) := opn_slice u_LLlaws_Value (by kernel_rfl) (by decide) ot_Llaws_Value
theorem ot_laws_Delta : Opn Try.prog t_laws_Delta 2 e_laws_Delta B_laws_Delta :=
  opn_struct (fun p : (List S_laws_Value) × Int × Unit => (⟨p.1, p.2.1⟩ : S_laws_Delta)) u_laws_Delta (by kernel_rfl) (opnF_cons ot_Llaws_Value rfl (opnF_cons ot_int rfl opnF_nil)) (fun a => rfl) (fun s => rfl) (fun p h => ⟨h.1, h.2.1⟩)
theorem ot_Llaws_Delta : Opn Try.prog t_Llaws_Delta 1 e_Llaws_Delta (B_list B_laws_Delta) := opn_slice u_Llaws_Delta (by kernel_rfl) (by decide) ot_laws_Delta
set_option maxRecDepth 100000 in
theorem lifted (os : Os) (started : os.Started) (H : Type) (enc : TypeId × Value → H) :
    ReturnsInHanded {} Try.checked os 5 .any (Rows.fnExactDeltaRowsSpec.pre6 enc Try.prog Try.f5 Rows.fnExactDeltaRowsRow.domain false) (Rows.fnExactDeltaRowsSpec.post enc Try.prog Try.f5 false true false false) := by
  refine returnsInHanded_of_change_sized (C := Try.checked) own started (by kernel_rfl) Try.func5
    (ChangeSpec.witness6 (enc := enc) (C := Try.checked) false ⟨#[], #[.slice none 0 0, .slice none 0 0], []⟩ 8 (by kernel_rfl) (by kernel_rfl) (by kernel_rfl) (by kernel_rfl)) ?_
  intro W base args ds gs before hval0 hW hcnd hsz0 _
  have hval : ∀ (j : Nat) t v, Try.f5.params[j]? = some t → args[j]? = some v → Value.okWide Try.prog W .any base t v := hval0
  have hW' := hW
  obtain ⟨p, q, hA0, hV, rfl, hfz, hnd⟩ := hW
  have hA : DataW.TrodAll enc Try.prog W 0 (fun _ => true) true Try.f5.params.toList args.toList ds p := hA0
  rw [Try.params5] at hA hval
  obtain ⟨v0, vs0, d0, ds0, p0, q0, hargs, rfl, rfl, h0, r0⟩ := trodAll_cons hA
  obtain ⟨v1, vs1, d1, ds1, p1, q1, rfl, rfl, rfl, h1, r1⟩ := trodAll_cons r0
  obtain ⟨rfl, rfl, rfl⟩ := trodAll_nil r1
  obtain rfl : args = #[v0, v1] := by cases args; simp_all
  obtain ⟨rfl, rfl⟩ := trodVars_none hV
  have k0 := h0
  have lt0 : ∀ x ∈ p0, x.block < W.heap.size := by obtain ⟨m, hm⟩ := k0; exact DataW.trod_lt m _ _ _ hm
  obtain ⟨u0, l0, c0, rfl⟩ := okWide_slice Try.underlying42 (hval 0 42 v0 rfl rfl)
  obtain ⟨x0, b0, y0⟩ := ot_LLlaws_Value.one (fun _ => rfl) h0 rfl
  have k1 := h1
  have lt1 : ∀ x ∈ p1, x.block < W.heap.size := by obtain ⟨m, hm⟩ := k1; exact DataW.trod_lt m _ _ _ hm
  obtain ⟨u1, l1, c1, rfl⟩ := okWide_slice Try.underlying59 (hval 1 59 v1 rfl rfl)
  obtain ⟨x1, b1, y1⟩ := ot_Llaws_Delta.one (fun _ => rfl) h1 rfl
  clear hA0 hval0 hsz0
  refine (law_any (c_laws_FnExactDeltaRows x0 x1 true (pure_FnExactDeltaRows x0 x1 b0 b1)) W _ (.cons (.fro y0) (.cons (.fro y1) .nil))).mono fun e W' ⟨he, bel⟩ => ?_
  subst he
  exact ⟨_, rfl, _, _, _, [], _, [], hW', trodAll_mk1 (shut_bool Try.underlying4 _), (trodAll_cons_mk (Below.trod laidOut (by kernel_rfl) (of_decide_eq_true (by kernel_rfl)) k0 bel lt0) (trodAll_cons_mk (Below.trod laidOut (by kernel_rfl) (of_decide_eq_true (by kernel_rfl)) k1 bel lt1) trodAll_mk0)), rfl, bel.frame _, fun h => by cases h⟩
theorem andI {a b : Bool} (h : a = true) (k : b = true) : (a && b) = true := by rw [h, k]; rfl
set_option maxHeartbeats 4000000 in
theorem joined : joinedFacts Try.pinned.checked.prog 5 Try.f5 Rows.fnExactDeltaRowsSpec Rows.fnExactDeltaRowsRow = true := by
  unfold joinedFacts
  refine andI (andI (andI (andI (andI (andI (andI (andI ?_ ?_) ?_) ?_) ?_) ?_) ?_) ?_) ?_
  all_goals as_aux_lemma => kernel_rfl
theorem over : Rows.fnExactDeltaRowsRow.holds Try.pinned (OpenSpec.ofChange Rows.fnExactDeltaRowsSpec) :=
  OpenClaim.holds_of_wide 5 Try.f5 rfl rfl rfl rfl rfl rfl rfl ⟨rfl, rfl, rfl, rfl, rfl⟩ rfl rfl rfl rfl rfl (by kernel_rfl) Try.func5 joined
    (of_decide_eq_true (by kernel_rfl)) (by unfold Func.isWrapper; first | (rw [if_pos (by decide +kernel)]; kernel_rfl) | (rw [if_neg (by decide +kernel)]; exact ⟨rfl, rfl⟩))
    (fun os started H enc _ => lifted os started H enc)
theorem proved : Rows.FnExactDeltaRowsSaid := over
end Go.Proofs.Ytogiaehagciojaa.fnExactDeltaRows
namespace Go.Proofs.Ytogiaehagciojaa
/-- The row, under a short name, for the claim. -/
theorem fnExactDeltaRows_holds : Rows.FnExactDeltaRowsSaid := fnExactDeltaRows.proved
#print axioms fnExactDeltaRows_holds
end Go.Proofs.Ytogiaehagciojaa

