/- Whatever the arguments, the law returns true, and they read as they did: the row, out of the law's contract and of its pure statement. -/
import Derived.Test.YtgepipglchpabaaXPlainA
import Derived.Test.YtgepipglchpabaaChecked
import Derived.Test.YtgepipglchpabaaRows
import Derived.WalkKit
import Derived.ProofKit
import Derived.OpenShut
import Derived.ShutString
import Derived.ChangeOld
import Derived.Below
import Derived.SizedLaws
set_option linter.unusedVariables false
set_option linter.unusedSimpArgs false
set_option linter.unnecessarySimpa false
namespace Go.Proofs.Ytgepipglchpabaa.fnExactBondOk
open Go.ChangeShapes Go.WideShapes Go.ChangeAt Go.RowKit Go.Lift
open Go.ChangeMaps (open_string shut_string)
theorem own : ownKnob Try.prog.godebug = none := by kernel_rfl
theorem laidOut : laidOutB Try.prog = true := by kernel_rfl
theorem ot_int : Opn Try.prog t_int 1 e_int B_int := opn_int u_int (by kernel_rfl)
theorem ot_bool : Opn Try.prog t_bool 1 e_bool B_bool := opn_bool u_bool (by kernel_rfl)
theorem ot_laws_Column : Opn Try.prog t_laws_Column 2 e_laws_Column B_laws_Column :=
  opn_struct (fun p : Int × Bool × Unit => (⟨p.1, p.2.1⟩ : S_laws_Column)) u_laws_Column (by kernel_rfl) (opnF_cons ot_int rfl (opnF_cons ot_bool rfl opnF_nil)) (fun a => rfl) (fun s => rfl) (fun p h => ⟨h.1, h.2.1⟩)
theorem ot_Llaws_Column : Opn Try.prog t_Llaws_Column 1 e_Llaws_Column (B_list B_laws_Column) := opn_slice u_Llaws_Column (by kernel_rfl) (by decide) ot_laws_Column
theorem ot_string : Opn Try.prog t_string 1 e_string B_string := opn_string u_string (by kernel_rfl)
theorem ot_laws_Value : Opn Try.prog t_laws_Value 3 e_laws_Value B_laws_Value :=
  opn_struct (fun p : Int × Int × ByteArray × Unit => (⟨p.1, p.2.1, p.2.2.1⟩ : S_laws_Value)) u_laws_Value (by kernel_rfl) (opnF_cons ot_int rfl (opnF_cons ot_int rfl (opnF_cons ot_string rfl opnF_nil))) (fun a => rfl) (fun s => rfl) (fun p h => ⟨h.1, h.2.1, h.2.2.1⟩)
theorem ot_Llaws_Value : Opn Try.prog t_Llaws_Value 1 e_Llaws_Value (B_list B_laws_Value) := opn_slice u_Llaws_Value (by kernel_rfl) (by decide) ot_laws_Value
theorem ot_LLlaws_Value : Opn Try.prog t_LLlaws_Value 1 e_LLlaws_Value (B_list (B_list B_laws_Value)) := opn_slice u_LLlaws_Value (by kernel_rfl) (by decide) ot_Llaws_Value
theorem ot_laws_Table : Opn Try.prog t_laws_Table 2 e_laws_Table B_laws_Table :=
  opn_struct (fun p : (List S_laws_Column) × (List (List S_laws_Value)) × Unit => (⟨p.1, p.2.1⟩ : S_laws_Table)) u_laws_Table (by kernel_rfl) (opnF_cons ot_Llaws_Column rfl (opnF_cons ot_LLlaws_Value rfl opnF_nil)) (fun a => rfl) (fun s => rfl) (fun p h => ⟨h.1, h.2.1⟩)
theorem ot_Llaws_Table : Opn Try.prog t_Llaws_Table 1 e_Llaws_Table (B_list B_laws_Table) := opn_slice u_Llaws_Table (by kernel_rfl) (by decide) ot_laws_Table
theorem ot_Lint : Opn Try.prog t_Lint 1 e_Lint (B_list B_int) := opn_slice u_Lint (by kernel_rfl) (by decide) ot_int
theorem ot_laws_Part : Opn Try.prog t_laws_Part 5 e_laws_Part B_laws_Part :=
  opn_struct (fun p : Int × Int × S_laws_Value × Unit => (⟨p.1, p.2.1, p.2.2.1⟩ : S_laws_Part)) u_laws_Part (by kernel_rfl) (opnF_cons ot_int rfl (opnF_cons ot_int rfl (opnF_cons ot_laws_Value rfl opnF_nil))) (fun a => rfl) (fun s => rfl) (fun p h => ⟨h.1, h.2.1, h.2.2.1⟩)
theorem ot_Llaws_Part : Opn Try.prog t_Llaws_Part 1 e_Llaws_Part (B_list B_laws_Part) := opn_slice u_Llaws_Part (by kernel_rfl) (by decide) ot_laws_Part
theorem ot_laws_Bond : Opn Try.prog t_laws_Bond 7 e_laws_Bond B_laws_Bond :=
  opn_struct (fun p : Int × Int × (List Int) × Int × (List Int) × Bool × (List S_laws_Part) × Unit => (⟨p.1, p.2.1, p.2.2.1, p.2.2.2.1, p.2.2.2.2.1, p.2.2.2.2.2.1, p.2.2.2.2.2.2.1⟩ : S_laws_Bond)) u_laws_Bond (by kernel_rfl) (opnF_cons ot_int rfl (opnF_cons ot_int rfl (opnF_cons ot_Lint rfl (opnF_cons ot_int rfl (opnF_cons ot_Lint rfl (opnF_cons ot_bool rfl (opnF_cons ot_Llaws_Part rfl opnF_nil))))))) (fun a => rfl) (fun s => rfl) (fun p h => ⟨h.1, h.2.1, h.2.2.1, h.2.2.2.1, h.2.2.2.2.1, h.2.2.2.2.2.1, h.2.2.2.2.2.2.1⟩)
set_option maxRecDepth 100000 in
theorem lifted (os : Os) (started : os.Started) (H : Type) (enc : TypeId × Value → H) :
    ReturnsInHanded {} Try.checked os 8 .any (Rows.fnExactBondOkSpec.pre6 enc Try.prog Try.f8 Rows.fnExactBondOkRow.domain false) (Rows.fnExactBondOkSpec.post enc Try.prog Try.f8 false true false false) := by
  refine returnsInHanded_of_change_sized (C := Try.checked) own started (by kernel_rfl) Try.func8
    (ChangeSpec.witness6 (enc := enc) (C := Try.checked) false ⟨#[], #[.slice none 0 0, .agg #[.int .i64 0, .int .i64 0, .slice none 0 0, .int .i64 0, .slice none 0 0, .bool false, .slice none 0 0]], []⟩ 8 (by kernel_rfl) (by kernel_rfl) (by kernel_rfl) (by kernel_rfl)) ?_
  intro W base args ds gs before hval0 hW hcnd hsz0 _
  have hval : ∀ (j : Nat) t v, Try.f8.params[j]? = some t → args[j]? = some v → Value.okWide Try.prog W .any base t v := hval0
  have hW' := hW
  obtain ⟨p, q, hA0, hV, rfl, hfz, hnd⟩ := hW
  have hA : DataW.TrodAll enc Try.prog W 0 (fun _ => true) true Try.f8.params.toList args.toList ds p := hA0
  rw [Try.params8] at hA hval
  obtain ⟨v0, vs0, d0, ds0, p0, q0, hargs, rfl, rfl, h0, r0⟩ := trodAll_cons hA
  obtain ⟨v1, vs1, d1, ds1, p1, q1, rfl, rfl, rfl, h1, r1⟩ := trodAll_cons r0
  obtain ⟨rfl, rfl, rfl⟩ := trodAll_nil r1
  obtain rfl : args = #[v0, v1] := by cases args; simp_all
  obtain ⟨rfl, rfl⟩ := trodVars_none hV
  have k0 := h0
  have lt0 : ∀ x ∈ p0, x.block < W.heap.size := by obtain ⟨m, hm⟩ := k0; exact DataW.trod_lt m _ _ _ hm
  obtain ⟨u0, l0, c0, rfl⟩ := okWide_slice Try.underlying53 (hval 0 53 v0 rfl rfl)
  obtain ⟨x0, b0, y0⟩ := ot_Llaws_Table.one (fun _ => rfl) h0 rfl
  have k1 := h1
  have lt1 : ∀ x ∈ p1, x.block < W.heap.size := by obtain ⟨m, hm⟩ := k1; exact DataW.trod_lt m _ _ _ hm
  obtain ⟨c1, rfl⟩ := okW_agg Try.underlying67 (hval 1 67 v1 rfl rfl)
  obtain ⟨x1, b1, y1⟩ := ot_laws_Bond.agg (fun _ => rfl) h1
  clear hA0 hval0 hsz0
  refine (law_any (c_laws_FnExactBondOk x0 x1 true (pure_FnExactBondOk x0 x1 b0 b1)) W _ (.cons (.fro y0) (.cons (.fro y1) .nil))).mono fun e W' ⟨he, bel⟩ => ?_
  subst he
  exact ⟨_, rfl, _, _, _, [], _, [], hW', trodAll_mk1 (shut_bool Try.underlying4 _), (trodAll_cons_mk (Below.trod laidOut (by kernel_rfl) (of_decide_eq_true (by kernel_rfl)) k0 bel lt0) (trodAll_cons_mk (Below.trod laidOut (by kernel_rfl) (of_decide_eq_true (by kernel_rfl)) k1 bel lt1) trodAll_mk0)), rfl, bel.frame _, fun h => by cases h⟩
theorem andI {a b : Bool} (h : a = true) (k : b = true) : (a && b) = true := by rw [h, k]; rfl
set_option maxHeartbeats 4000000 in
theorem joined : joinedFacts Try.pinned.checked.prog 8 Try.f8 Rows.fnExactBondOkSpec Rows.fnExactBondOkRow = true := by
  unfold joinedFacts
  refine andI (andI (andI (andI (andI (andI (andI (andI ?_ ?_) ?_) ?_) ?_) ?_) ?_) ?_) ?_
  all_goals as_aux_lemma => kernel_rfl
theorem over : Rows.fnExactBondOkRow.holds Try.pinned (OpenSpec.ofChange Rows.fnExactBondOkSpec) :=
  OpenClaim.holds_of_wide 8 Try.f8 rfl rfl rfl rfl rfl rfl rfl ⟨rfl, rfl, rfl, rfl, rfl⟩ rfl rfl rfl rfl rfl (by kernel_rfl) Try.func8 joined
    (of_decide_eq_true (by kernel_rfl)) (by unfold Func.isWrapper; first | (rw [if_pos (by decide +kernel)]; kernel_rfl) | (rw [if_neg (by decide +kernel)]; exact ⟨rfl, rfl⟩))
    (fun os started H enc _ => lifted os started H enc)
theorem proved : Rows.FnExactBondOkSaid := over
end Go.Proofs.Ytgepipglchpabaa.fnExactBondOk
namespace Go.Proofs.Ytgepipglchpabaa
/-- The row, under a short name, for the claim. -/
theorem fnExactBondOk_holds : Rows.FnExactBondOkSaid := fnExactBondOk.proved
#print axioms fnExactBondOk_holds
end Go.Proofs.Ytgepipglchpabaa

