/- Whatever the arguments, the law returns true, and they read as they did: the row, out of the law's contract and of its pure statement. -/
import Derived.Test.YtkgmomocjkmipaaXPlainA
import Derived.Test.YtkgmomocjkmipaaChecked
import Derived.Test.YtkgmomocjkmipaaRows
import Derived.WalkKit
import Derived.ProofKit
import Derived.OpenShut
import Derived.ShutString
import Derived.ChangeOld
import Derived.Below
import Derived.SizedLaws
set_option linter.unusedVariables false
set_option linter.unusedSimpArgs false
set_option linter.unnecessarySimpa false
namespace Go.Proofs.Ytkgmomocjkmipaa.fnExactLogRun
open Go.ChangeShapes Go.WideShapes Go.ChangeAt Go.RowKit Go.Lift
open Go.ChangeMaps (open_string shut_string)
theorem own : ownKnob Try.prog.godebug = none := by kernel_rfl
theorem laidOut : laidOutB Try.prog = true := by kernel_rfl
theorem ot_int : Opn Try.prog t_int 1 e_int B_int := opn_int u_int (by kernel_rfl)
theorem ot_string : Opn Try.prog t_string 1 e_string B_string := opn_string u_string (by kernel_rfl)
theorem ot_laws_Value : Opn Try.prog t_laws_Value 3 e_laws_Value B_laws_Value :=
  opn_struct (fun p : Int × Int × ByteArray × Unit => (⟨p.1, p.2.1, p.2.2.1⟩ : S_laws_Value)) u_laws_Value (by kernel_rfl) (opnF_cons ot_int rfl (opnF_cons ot_int rfl (opnF_cons ot_string rfl opnF_nil))) (fun a => rfl) (fun s => rfl) (fun p h => ⟨h.1, h.2.1, h.2.2.1⟩)
theorem ot_Llaws_Value : Opn Try.prog t_Llaws_Value 1 e_Llaws_Value (B_list B_laws_Value) := opn_slice u_Llaws_Value (by kernel_rfl) (by decide) ot_laws_Value
theorem ot_bool : Opn Try.prog t_bool 1 e_bool B_bool := opn_bool u_bool (by kernel_rfl)
theorem ot_laws_Write : Opn Try.prog t_laws_Write 3 e_laws_Write B_laws_Write :=
  opn_struct (fun p : Int × (List S_laws_Value) × Bool × Unit => (⟨p.1, p.2.1, p.2.2.1⟩ : S_laws_Write)) u_laws_Write (by kernel_rfl) (opnF_cons ot_int rfl (opnF_cons ot_Llaws_Value rfl (opnF_cons ot_bool rfl opnF_nil))) (fun a => rfl) (fun s => rfl) (fun p h => ⟨h.1, h.2.1, h.2.2.1⟩)
theorem ot_Llaws_Write : Opn Try.prog t_Llaws_Write 1 e_Llaws_Write (B_list B_laws_Write) := opn_slice u_Llaws_Write (by kernel_rfl) (by decide) ot_laws_Write
theorem ot_laws_Entry : Opn Try.prog t_laws_Entry 2 e_laws_Entry B_laws_Entry :=
  opn_struct (fun p : Int × (List S_laws_Write) × Unit => (⟨p.1, p.2.1⟩ : S_laws_Entry)) u_laws_Entry (by kernel_rfl) (opnF_cons ot_int rfl (opnF_cons ot_Llaws_Write rfl opnF_nil)) (fun a => rfl) (fun s => rfl) (fun p h => ⟨h.1, h.2.1⟩)
theorem ot_Llaws_Entry : Opn Try.prog t_Llaws_Entry 1 e_Llaws_Entry (B_list B_laws_Entry) := opn_slice u_Llaws_Entry (by kernel_rfl) (by decide) ot_laws_Entry
set_option maxRecDepth 100000 in
theorem lifted (os : Os) (started : os.Started) (H : Type) (enc : TypeId × Value → H) :
    ReturnsInHanded {} Try.checked os 10 .any (Rows.fnExactLogRunSpec.pre6 enc Try.prog Try.f10 Rows.fnExactLogRunRow.domain false) (Rows.fnExactLogRunSpec.post enc Try.prog Try.f10 false true false false) := by
  refine returnsInHanded_of_change_sized (C := Try.checked) own started (by kernel_rfl) Try.func10
    (ChangeSpec.witness6 (enc := enc) (C := Try.checked) false ⟨#[], #[.slice none 0 0], []⟩ 8 (by kernel_rfl) (by kernel_rfl) (by kernel_rfl) (by kernel_rfl)) ?_
  intro W base args ds gs before hval0 hW hcnd hsz0 _
  have hval : ∀ (j : Nat) t v, Try.f10.params[j]? = some t → args[j]? = some v → Value.okWide Try.prog W .any base t v := hval0
  have hW' := hW
  obtain ⟨p, q, hA0, hV, rfl, hfz, hnd⟩ := hW
  have hA : DataW.TrodAll enc Try.prog W 0 (fun _ => true) true Try.f10.params.toList args.toList ds p := hA0
  rw [Try.params10] at hA hval
  obtain ⟨v0, vs0, d0, ds0, p0, q0, hargs, rfl, rfl, h0, r0⟩ := trodAll_cons hA
  obtain ⟨rfl, rfl, rfl⟩ := trodAll_nil r0
  obtain rfl : args = #[v0] := by cases args; simp_all
  obtain ⟨rfl, rfl⟩ := trodVars_none hV
  have k0 := h0
  have lt0 : ∀ x ∈ p0, x.block < W.heap.size := by obtain ⟨m, hm⟩ := k0; exact DataW.trod_lt m _ _ _ hm
  obtain ⟨u0, l0, c0, rfl⟩ := okWide_slice Try.underlying62 (hval 0 62 v0 rfl rfl)
  obtain ⟨x0, b0, y0⟩ := ot_Llaws_Entry.one (fun _ => rfl) h0 rfl
  clear hA0 hval0 hsz0
  refine (law_any (c_laws_FnExactLogRun x0 true (pure_FnExactLogRun x0 b0)) W _ (.cons (.fro y0) .nil)).mono fun e W' ⟨he, bel⟩ => ?_
  subst he
  exact ⟨_, rfl, _, _, _, [], _, [], hW', trodAll_mk1 (shut_bool Try.underlying4 _), (trodAll_cons_mk (Below.trod laidOut (by kernel_rfl) (of_decide_eq_true (by kernel_rfl)) k0 bel lt0) trodAll_mk0), rfl, bel.frame _, fun h => by cases h⟩
theorem andI {a b : Bool} (h : a = true) (k : b = true) : (a && b) = true := by rw [h, k]; rfl
set_option maxHeartbeats 4000000 in
theorem joined : joinedFacts Try.pinned.checked.prog 10 Try.f10 Rows.fnExactLogRunSpec Rows.fnExactLogRunRow = true := by
  unfold joinedFacts
  refine andI (andI (andI (andI (andI (andI (andI (andI ?_ ?_) ?_) ?_) ?_) ?_) ?_) ?_) ?_
  all_goals as_aux_lemma => kernel_rfl
theorem over : Rows.fnExactLogRunRow.holds Try.pinned (OpenSpec.ofChange Rows.fnExactLogRunSpec) :=
  OpenClaim.holds_of_wide 10 Try.f10 rfl rfl rfl rfl rfl rfl rfl ⟨rfl, rfl, rfl, rfl, rfl⟩ rfl rfl rfl rfl rfl (by kernel_rfl) Try.func10 joined
    (of_decide_eq_true (by kernel_rfl)) (by unfold Func.isWrapper; first | (rw [if_pos (by decide +kernel)]; kernel_rfl) | (rw [if_neg (by decide +kernel)]; exact ⟨rfl, rfl⟩))
    (fun os started H enc _ => lifted os started H enc)
theorem proved : Rows.FnExactLogRunSaid := over
end Go.Proofs.Ytkgmomocjkmipaa.fnExactLogRun
namespace Go.Proofs.Ytkgmomocjkmipaa
/-- The row, under a short name, for the claim. -/
theorem fnExactLogRun_holds : Rows.FnExactLogRunSaid := fnExactLogRun.proved
#print axioms fnExactLogRun_holds
end Go.Proofs.Ytkgmomocjkmipaa

