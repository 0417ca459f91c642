/- Whatever the arguments, the law returns true, and they read as they did: the row, out of the law's contract and of its pure statement. -/
import Derived.Test.YtbaldobhhpigbaaXPlainA
import Derived.Test.YtbaldobhhpigbaaChecked
import Derived.Test.YtbaldobhhpigbaaRows
import Derived.WalkKit
import Derived.ProofKit
import Derived.OpenShut
import Derived.ShutString
import Derived.ChangeOld
import Derived.Below
import Derived.SizedLaws
set_option linter.unusedVariables false
set_option linter.unusedSimpArgs false
set_option linter.unnecessarySimpa false
namespace Go.Proofs.Ytbaldobhhpigbaa.fnExactGroupRows
open Go.ChangeShapes Go.WideShapes Go.ChangeAt Go.RowKit Go.Lift
open Go.ChangeMaps (open_string shut_string)
theorem own : ownKnob Try.prog.godebug = none := by kernel_rfl
theorem laidOut : laidOutB Try.prog = true := by kernel_rfl
theorem ot_int : Opn Try.prog t_int 1 e_int B_int := opn_int u_int (by kernel_rfl)
theorem ot_bool : Opn Try.prog t_bool 1 e_bool B_bool := opn_bool u_bool (by kernel_rfl)
theorem ot_laws_Column : Opn Try.prog t_laws_Column 2 e_laws_Column B_laws_Column :=
  opn_struct (fun p : Int × Bool × Unit => (⟨p.1, p.2.1⟩ : S_laws_Column)) u_laws_Column (by kernel_rfl) (opnF_cons ot_int rfl (opnF_cons ot_bool rfl opnF_nil)) (fun a => rfl) (fun s => rfl) (fun p h => ⟨h.1, h.2.1⟩)
theorem ot_Llaws_Column : Opn Try.prog t_Llaws_Column 1 e_Llaws_Column (B_list B_laws_Column) := opn_slice u_Llaws_Column (by kernel_rfl) (by decide) ot_laws_Column
theorem ot_string : Opn Try.prog t_string 1 e_string B_string := opn_string u_string (by kernel_rfl)
theorem ot_laws_Value : Opn Try.prog t_laws_Value 3 e_laws_Value B_laws_Value :=
  opn_struct (fun p : Int × Int × ByteArray × Unit => (⟨p.1, p.2.1, p.2.2.1⟩ : S_laws_Value)) u_laws_Value (by kernel_rfl) (opnF_cons ot_int rfl (opnF_cons ot_int rfl (opnF_cons ot_string rfl opnF_nil))) (fun a => rfl) (fun s => rfl) (fun p h => ⟨h.1, h.2.1, h.2.2.1⟩)
theorem ot_Llaws_Value : Opn Try.prog t_Llaws_Value 1 e_Llaws_Value (B_list B_laws_Value) := opn_slice u_Llaws_Value (by kernel_rfl) (by decide) ot_laws_Value
theorem ot_LLlaws_Value : Opn Try.prog t_LLlaws_Value 1 e_LLlaws_Value (B_list (B_list B_laws_Value)) := opn_slice u_LLlaws_Value (by kernel_rfl) (by decide) ot_Llaws_Value
theorem ot_Lint : Opn Try.prog t_Lint 1 e_Lint (B_list B_int) := opn_slice u_Lint (by kernel_rfl) (by decide) ot_int
set_option maxRecDepth 100000 in
theorem lifted (os : Os) (started : os.Started) (H : Type) (enc : TypeId × Value → H) :
    ReturnsInHanded {} Try.checked os 7 .any (Rows.fnExactGroupRowsSpec.pre6 enc Try.prog Try.f7 Rows.fnExactGroupRowsRow.domain false) (Rows.fnExactGroupRowsSpec.post enc Try.prog Try.f7 false true false false) := by
  refine returnsInHanded_of_change_sized (C := Try.checked) own started (by kernel_rfl) Try.func7
    (ChangeSpec.witness6 (enc := enc) (C := Try.checked) false ⟨#[], #[.slice none 0 0, .slice none 0 0, .slice none 0 0, .int .i64 0, .int .i64 0], []⟩ 8 (by kernel_rfl) (by kernel_rfl) (by kernel_rfl) (by kernel_rfl)) ?_
  intro W base args ds gs before hval0 hW hcnd hsz0 _; have hval : ∀ (j : Nat) t v, Try.f7.params[j]? = some t → args[j]? = some v → Value.okWide Try.prog W .any base t v := hval0; have hW' := hW; obtain ⟨p, q, hA0, hV, rfl, hfz, hnd⟩ := hW; have hA : DataW.TrodAll enc Try.prog W 0 (fun _ => true) true Try.f7.params.toList args.toList ds p := hA0; rw [Try.params7] at hA hval; obtain ⟨v0, vs0, d0, ds0, p0, q0, hargs, rfl, rfl, h0, r0⟩ := trodAll_cons hA; obtain ⟨v1, vs1, d1, ds1, p1, q1, rfl, rfl, rfl, h1, r1⟩ := trodAll_cons r0; obtain ⟨v2, vs2, d2, ds2, p2, q2, rfl, rfl, rfl, h2, r2⟩ := trodAll_cons r1; obtain ⟨v3, vs3, d3, ds3, p3, q3, rfl, rfl, rfl, h3, r3⟩ := trodAll_cons r2; obtain ⟨v4, vs4, d4, ds4, p4, q4, rfl, rfl, rfl, h4, r4⟩ := trodAll_cons r3; obtain ⟨rfl, rfl, rfl⟩ := trodAll_nil r4; obtain rfl : args = #[v0, v1, v2, v3, v4] := by cases args; simp_all
  obtain ⟨rfl, rfl⟩ := trodVars_none hV; have k0 := h0; have lt0 : ∀ x ∈ p0, x.block < W.heap.size := by obtain ⟨m, hm⟩ := k0; exact DataW.trod_lt m _ _ _ hm
  obtain ⟨u0, l0, c0, rfl⟩ := okWide_slice Try.underlying60 (hval 0 60 v0 rfl rfl); obtain ⟨x0, b0, y0⟩ := ot_Llaws_Column.one (fun _ => rfl) h0 rfl; have k1 := h1; have lt1 : ∀ x ∈ p1, x.block < W.heap.size := by obtain ⟨m, hm⟩ := k1; exact DataW.trod_lt m _ _ _ hm
  obtain ⟨u1, l1, c1, rfl⟩ := okWide_slice Try.underlying61 (hval 1 61 v1 rfl rfl); obtain ⟨x1, b1, y1⟩ := ot_LLlaws_Value.one (fun _ => rfl) h1 rfl; have k2 := h2; have lt2 : ∀ x ∈ p2, x.block < W.heap.size := by obtain ⟨m, hm⟩ := k2; exact DataW.trod_lt m _ _ _ hm
  obtain ⟨u2, l2, c2, rfl⟩ := okWide_slice Try.underlying40 (hval 2 40 v2 rfl rfl); obtain ⟨x2, b2, y2⟩ := ot_Lint.one (fun _ => rfl) h2 rfl; have k3 := h3; have lt3 : ∀ x ∈ p3, x.block < W.heap.size := by obtain ⟨m, hm⟩ := k3; exact DataW.trod_lt m _ _ _ hm
  obtain ⟨u3, rfl⟩ := okWide_int Try.underlying3 (hval 3 3 v3 rfl rfl); obtain ⟨x3, b3, y3⟩ := ot_int.one (fun _ => rfl) h3 rfl; have k4 := h4; have lt4 : ∀ x ∈ p4, x.block < W.heap.size := by obtain ⟨m, hm⟩ := k4; exact DataW.trod_lt m _ _ _ hm
  obtain ⟨u4, rfl⟩ := okWide_int Try.underlying3 (hval 4 3 v4 rfl rfl); obtain ⟨x4, b4, y4⟩ := ot_int.one (fun _ => rfl) h4 rfl; clear hA0 hval0 hsz0; refine (law_any (c_laws_FnExactGroupRows x0 x1 x2 x3 x4 true (pure_FnExactGroupRows x0 x1 x2 x3 x4 b0 b1 b2 b3 b4)) W _ (.cons (.fro y0) (.cons (.fro y1) (.cons (.fro y2) (.cons (.fro y3) (.cons (.fro y4) .nil)))))).mono fun e W' ⟨he, bel⟩ => ?_; subst he; exact ⟨_, rfl, _, _, _, [], _, [], hW', trodAll_mk1 (shut_bool Try.underlying4 _), (trodAll_cons_mk (Below.trod laidOut (by kernel_rfl) (of_decide_eq_true (by kernel_rfl)) k0 bel lt0) (trodAll_cons_mk (Below.trod laidOut (by kernel_rfl) (of_decide_eq_true (by kernel_rfl)) k1 bel lt1) (trodAll_cons_mk (Below.trod laidOut (by kernel_rfl) (of_decide_eq_true (by kernel_rfl)) k2 bel lt2) (trodAll_cons_mk (Below.trod laidOut (by kernel_rfl) (of_decide_eq_true (by kernel_rfl)) k3 bel lt3) (trodAll_cons_mk (Below.trod laidOut (by kernel_rfl) (of_decide_eq_true (by kernel_rfl)) k4 bel lt4) trodAll_mk0))))), rfl, bel.frame _, fun h => by cases h⟩
theorem andI {a b : Bool} (h : a = true) (k : b = true) : (a && b) = true := by rw [h, k]; rfl
set_option maxHeartbeats 4000000 in
theorem joined : joinedFacts Try.pinned.checked.prog 7 Try.f7 Rows.fnExactGroupRowsSpec Rows.fnExactGroupRowsRow = true := by
  unfold joinedFacts; refine andI (andI (andI (andI (andI (andI (andI (andI ?_ ?_) ?_) ?_) ?_) ?_) ?_) ?_) ?_
  all_goals as_aux_lemma => kernel_rfl
theorem over : Rows.fnExactGroupRowsRow.holds Try.pinned (OpenSpec.ofChange Rows.fnExactGroupRowsSpec) :=
  OpenClaim.holds_of_wide 7 Try.f7 rfl rfl rfl rfl rfl rfl rfl ⟨rfl, rfl, rfl, rfl, rfl⟩ rfl rfl rfl rfl rfl (by kernel_rfl) Try.func7 joined
    (of_decide_eq_true (by kernel_rfl)) (by unfold Func.isWrapper; first | (rw [if_pos (by decide +kernel)]; kernel_rfl) | (rw [if_neg (by decide +kernel)]; exact ⟨rfl, rfl⟩))
    (fun os started H enc _ => lifted os started H enc)
theorem proved : Rows.FnExactGroupRowsSaid := over
end Go.Proofs.Ytbaldobhhpigbaa.fnExactGroupRows
namespace Go.Proofs.Ytbaldobhhpigbaa
theorem fnExactGroupRows_holds : Rows.FnExactGroupRowsSaid := fnExactGroupRows.proved
#print axioms fnExactGroupRows_holds
end Go.Proofs.Ytbaldobhhpigbaa
