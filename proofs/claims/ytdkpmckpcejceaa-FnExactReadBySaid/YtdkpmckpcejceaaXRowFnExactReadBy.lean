/- Whatever the arguments, the law returns true, and they read as they did: the row, out of the law's contract and of its pure statement. -/
import Derived.Test.YtdkpmckpcejceaaXPlainA
import Derived.Test.YtdkpmckpcejceaaChecked
import Derived.Test.YtdkpmckpcejceaaRows
import Derived.WalkKit
import Derived.ProofKit
import Derived.OpenShut
import Derived.ShutString
import Derived.ChangeOld
import Derived.Below
import Derived.SizedLaws
set_option linter.unusedVariables false
set_option linter.unusedSimpArgs false
set_option linter.unnecessarySimpa false
namespace Go.Proofs.Ytdkpmckpcejceaa.fnExactReadBy
open Go.ChangeShapes Go.WideShapes Go.ChangeAt Go.RowKit Go.Lift
open Go.ChangeMaps (open_string shut_string)
theorem own : ownKnob Try.prog.godebug = none := by kernel_rfl
theorem laidOut : laidOutB Try.prog = true := by kernel_rfl
theorem ot_int : Opn Try.prog t_int 1 e_int B_int := opn_int u_int (by kernel_rfl)
theorem ot_string : Opn Try.prog t_string 1 e_string B_string := opn_string u_string (by kernel_rfl)
theorem ot_laws_Value : Opn Try.prog t_laws_Value 3 e_laws_Value B_laws_Value :=
  opn_struct (fun p : Int × Int × ByteArray × Unit => (⟨p.1, p.2.1, p.2.2.1⟩ : S_laws_Value)) u_laws_Value (by kernel_rfl) (opnF_cons ot_int rfl (opnF_cons ot_int rfl (opnF_cons ot_string rfl opnF_nil))) (fun a => rfl) (fun s => rfl) (fun p h => ⟨h.1, h.2.1, h.2.2.1⟩)
theorem ot_Llaws_Value : Opn Try.prog t_Llaws_Value 1 e_Llaws_Value (B_list B_laws_Value) := opn_slice u_Llaws_Value (by kernel_rfl) (by decide) ot_laws_Value
theorem ot_laws_Version : Opn Try.prog t_laws_Version 4 e_laws_Version B_laws_Version :=
  opn_struct (fun p : Int × Int × Int × (List S_laws_Value) × Unit => (⟨p.1, p.2.1, p.2.2.1, p.2.2.2.1⟩ : S_laws_Version)) u_laws_Version (by kernel_rfl) (opnF_cons ot_int rfl (opnF_cons ot_int rfl (opnF_cons ot_int rfl (opnF_cons ot_Llaws_Value rfl opnF_nil)))) (fun a => rfl) (fun s => rfl) (fun p h => ⟨h.1, h.2.1, h.2.2.1, h.2.2.2.1⟩)
theorem ot_Llaws_Version : Opn Try.prog t_Llaws_Version 1 e_Llaws_Version (B_list B_laws_Version) := opn_slice u_Llaws_Version (by kernel_rfl) (by decide) ot_laws_Version
theorem ot_Lint : Opn Try.prog t_Lint 1 e_Lint (B_list B_int) := opn_slice u_Lint (by kernel_rfl) (by decide) ot_int
theorem ot_bool : Opn Try.prog t_bool 1 e_bool B_bool := opn_bool u_bool (by kernel_rfl)
theorem ot_laws_Write : Opn Try.prog t_laws_Write 3 e_laws_Write B_laws_Write :=
  opn_struct (fun p : Int × (List S_laws_Value) × Bool × Unit => (⟨p.1, p.2.1, p.2.2.1⟩ : S_laws_Write)) u_laws_Write (by kernel_rfl) (opnF_cons ot_int rfl (opnF_cons ot_Llaws_Value rfl (opnF_cons ot_bool rfl opnF_nil))) (fun a => rfl) (fun s => rfl) (fun p h => ⟨h.1, h.2.1, h.2.2.1⟩)
theorem ot_Llaws_Write : Opn Try.prog t_Llaws_Write 1 e_Llaws_Write (B_list B_laws_Write) := opn_slice u_Llaws_Write (by kernel_rfl) (by decide) ot_laws_Write
theorem ot_laws_Txn : Opn Try.prog t_laws_Txn 5 e_laws_Txn B_laws_Txn :=
  opn_struct (fun p : Int × Int × Int × (List Int) × (List S_laws_Write) × Unit => (⟨p.1, p.2.1, p.2.2.1, p.2.2.2.1, p.2.2.2.2.1⟩ : S_laws_Txn)) u_laws_Txn (by kernel_rfl) (opnF_cons ot_int rfl (opnF_cons ot_int rfl (opnF_cons ot_int rfl (opnF_cons ot_Lint rfl (opnF_cons ot_Llaws_Write rfl opnF_nil))))) (fun a => rfl) (fun s => rfl) (fun p h => ⟨h.1, h.2.1, h.2.2.1, h.2.2.2.1, h.2.2.2.2.1⟩)
theorem ot_Llaws_Txn : Opn Try.prog t_Llaws_Txn 1 e_Llaws_Txn (B_list B_laws_Txn) := opn_slice u_Llaws_Txn (by kernel_rfl) (by decide) ot_laws_Txn
theorem ot_laws_House : Opn Try.prog t_laws_House 3 e_laws_House B_laws_House :=
  opn_struct (fun p : (List S_laws_Version) × Int × (List S_laws_Txn) × Unit => (⟨p.1, p.2.1, p.2.2.1⟩ : S_laws_House)) u_laws_House (by kernel_rfl) (opnF_cons ot_Llaws_Version rfl (opnF_cons ot_int rfl (opnF_cons ot_Llaws_Txn rfl opnF_nil))) (fun a => rfl) (fun s => rfl) (fun p h => ⟨h.1, h.2.1, h.2.2.1⟩)
set_option maxRecDepth 100000 in
theorem lifted (os : Os) (started : os.Started) (H : Type) (enc : TypeId × Value → H) :
    ReturnsInHanded {} Try.checked os 4 .any (Rows.fnExactReadBySpec.pre6 enc Try.prog Try.f4 Rows.fnExactReadByRow.domain false) (Rows.fnExactReadBySpec.post enc Try.prog Try.f4 false true false false) := by
  refine returnsInHanded_of_change_sized (C := Try.checked) own started (by kernel_rfl) Try.func4
    (ChangeSpec.witness6 (enc := enc) (C := Try.checked) false ⟨#[], #[.agg #[.slice none 0 0, .int .i64 0, .slice none 0 0], .int .i64 0, .int .i64 0], []⟩ 8 (by kernel_rfl) (by kernel_rfl) (by kernel_rfl) (by kernel_rfl)) ?_
  intro W base args ds gs before hval0 hW hcnd hsz0 _; have hval : ∀ (j : Nat) t v, Try.f4.params[j]? = some t → args[j]? = some v → Value.okWide Try.prog W .any base t v := hval0; have hW' := hW; obtain ⟨p, q, hA0, hV, rfl, hfz, hnd⟩ := hW; have hA : DataW.TrodAll enc Try.prog W 0 (fun _ => true) true Try.f4.params.toList args.toList ds p := hA0; rw [Try.params4] at hA hval; obtain ⟨v0, vs0, d0, ds0, p0, q0, hargs, rfl, rfl, h0, r0⟩ := trodAll_cons hA; obtain ⟨v1, vs1, d1, ds1, p1, q1, rfl, rfl, rfl, h1, r1⟩ := trodAll_cons r0; obtain ⟨v2, vs2, d2, ds2, p2, q2, rfl, rfl, rfl, h2, r2⟩ := trodAll_cons r1; obtain ⟨rfl, rfl, rfl⟩ := trodAll_nil r2; obtain rfl : args = #[v0, v1, v2] := by cases args; simp_all
  obtain ⟨rfl, rfl⟩ := trodVars_none hV; have k0 := h0; have lt0 : ∀ x ∈ p0, x.block < W.heap.size := by obtain ⟨m, hm⟩ := k0; exact DataW.trod_lt m _ _ _ hm
  obtain ⟨c0, rfl⟩ := okW_agg Try.underlying40 (hval 0 40 v0 rfl rfl); obtain ⟨x0, b0, y0⟩ := ot_laws_House.agg (fun _ => rfl) h0; have k1 := h1; have lt1 : ∀ x ∈ p1, x.block < W.heap.size := by obtain ⟨m, hm⟩ := k1; exact DataW.trod_lt m _ _ _ hm
  obtain ⟨u1, rfl⟩ := okWide_int Try.underlying3 (hval 1 3 v1 rfl rfl); obtain ⟨x1, b1, y1⟩ := ot_int.one (fun _ => rfl) h1 rfl; have k2 := h2; have lt2 : ∀ x ∈ p2, x.block < W.heap.size := by obtain ⟨m, hm⟩ := k2; exact DataW.trod_lt m _ _ _ hm
  obtain ⟨u2, rfl⟩ := okWide_int Try.underlying3 (hval 2 3 v2 rfl rfl); obtain ⟨x2, b2, y2⟩ := ot_int.one (fun _ => rfl) h2 rfl; clear hA0 hval0 hsz0; refine (law_any (c_laws_FnExactReadBy x0 x1 x2 true (pure_FnExactReadBy x0 x1 x2 b0 b1 b2)) W _ (.cons (.fro y0) (.cons (.fro y1) (.cons (.fro y2) .nil)))).mono fun e W' ⟨he, bel⟩ => ?_; subst he; exact ⟨_, rfl, _, _, _, [], _, [], hW', trodAll_mk1 (shut_bool Try.underlying4 _), (trodAll_cons_mk (Below.trod laidOut (by kernel_rfl) (of_decide_eq_true (by kernel_rfl)) k0 bel lt0) (trodAll_cons_mk (Below.trod laidOut (by kernel_rfl) (of_decide_eq_true (by kernel_rfl)) k1 bel lt1) (trodAll_cons_mk (Below.trod laidOut (by kernel_rfl) (of_decide_eq_true (by kernel_rfl)) k2 bel lt2) trodAll_mk0))), rfl, bel.frame _, fun h => by cases h⟩
theorem andI {a b : Bool} (h : a = true) (k : b = true) : (a && b) = true := by rw [h, k]; rfl
set_option maxHeartbeats 4000000 in
theorem joined : joinedFacts Try.pinned.checked.prog 4 Try.f4 Rows.fnExactReadBySpec Rows.fnExactReadByRow = true := by
  unfold joinedFacts; refine andI (andI (andI (andI (andI (andI (andI (andI ?_ ?_) ?_) ?_) ?_) ?_) ?_) ?_) ?_
  all_goals as_aux_lemma => kernel_rfl
theorem over : Rows.fnExactReadByRow.holds Try.pinned (OpenSpec.ofChange Rows.fnExactReadBySpec) :=
  OpenClaim.holds_of_wide 4 Try.f4 rfl rfl rfl rfl rfl rfl rfl ⟨rfl, rfl, rfl, rfl, rfl⟩ rfl rfl rfl rfl rfl (by kernel_rfl) Try.func4 joined
    (of_decide_eq_true (by kernel_rfl)) (by unfold Func.isWrapper; first | (rw [if_pos (by decide +kernel)]; kernel_rfl) | (rw [if_neg (by decide +kernel)]; exact ⟨rfl, rfl⟩))
    (fun os started H enc _ => lifted os started H enc)
theorem proved : Rows.FnExactReadBySaid := over
end Go.Proofs.Ytdkpmckpcejceaa.fnExactReadBy
namespace Go.Proofs.Ytdkpmckpcejceaa
theorem fnExactReadBy_holds : Rows.FnExactReadBySaid := fnExactReadBy.proved
#print axioms fnExactReadBy_holds
end Go.Proofs.Ytdkpmckpcejceaa
