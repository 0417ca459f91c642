/- The numbers of functions and types, by name. -/
import Derived.Test.YtkgmomocjkmipaaProg
import Derived.KernelRfl
set_option linter.unusedVariables false
set_option linter.unusedSimpArgs false
set_option linter.unnecessarySimpa false
namespace Go.Proofs.Ytkgmomocjkmipaa
open Go.Proofs
/- The numbers of functions and types, by name, and the facts of the load under these names. Written by a program of this claim's work. -/
abbrev f_laws_FnExactClosureMore : FuncId := 4
abbrev F_laws_FnExactClosureMore := @Try.func4
abbrev n_laws_FnExactClosureMore := @Try.ntmps4
abbrev e_laws_FnExactClosureMore := @Try.call4
abbrev f_laws_szPairS : FuncId := 12
abbrev F_laws_szPairS := @Try.func12
abbrev n_laws_szPairS := @Try.ntmps12
abbrev e_laws_szPairS := @Try.call12
abbrev f_laws_toPairS : FuncId := 14
abbrev F_laws_toPairS := @Try.func14
abbrev n_laws_toPairS := @Try.ntmps14
abbrev e_laws_toPairS := @Try.call14
abbrev f_laws_eqPairS : FuncId := 16
abbrev F_laws_eqPairS := @Try.func16
abbrev n_laws_eqPairS := @Try.ntmps16
abbrev e_laws_eqPairS := @Try.call16
abbrev f_laws_markPairS : FuncId := 17
abbrev F_laws_markPairS := @Try.func17
abbrev n_laws_markPairS := @Try.ntmps17
abbrev e_laws_markPairS := @Try.call17
abbrev f_laws_heldPairS : FuncId := 18
abbrev F_laws_heldPairS := @Try.func18
abbrev n_laws_heldPairS := @Try.ntmps18
abbrev e_laws_heldPairS := @Try.call18
abbrev f_spec_ClosureMore : FuncId := 19
abbrev F_spec_ClosureMore := @Try.func19
abbrev n_spec_ClosureMore := @Try.ntmps19
abbrev e_spec_ClosureMore := @Try.call19
abbrev f_laws_toPair : FuncId := 20
abbrev F_laws_toPair := @Try.func20
abbrev n_laws_toPair := @Try.ntmps20
abbrev e_laws_toPair := @Try.call20
abbrev f_impl_ClosureMore : FuncId := 21
abbrev F_impl_ClosureMore := @Try.func21
abbrev n_impl_ClosureMore := @Try.ntmps21
abbrev e_impl_ClosureMore := @Try.call21
abbrev f_spec_ClosureOf : FuncId := 28
abbrev F_spec_ClosureOf := @Try.func28
abbrev n_spec_ClosureOf := @Try.ntmps28
abbrev e_spec_ClosureOf := @Try.call28
abbrev f_spec_PairsOk : FuncId := 62
abbrev F_spec_PairsOk := @Try.func62
abbrev n_spec_PairsOk := @Try.ntmps62
abbrev e_spec_PairsOk := @Try.call62
abbrev f_spec_l26With : FuncId := 63
abbrev F_spec_l26With := @Try.func63
abbrev n_spec_l26With := @Try.ntmps63
abbrev e_spec_l26With := @Try.call63
abbrev f_spec_PairsJoined : FuncId := 64
abbrev F_spec_PairsJoined := @Try.func64
abbrev n_spec_PairsJoined := @Try.ntmps64
abbrev e_spec_PairsJoined := @Try.call64
abbrev f_spec_l26Has : FuncId := 65
abbrev F_spec_l26Has := @Try.func65
abbrev n_spec_l26Has := @Try.ntmps65
abbrev e_spec_l26Has := @Try.call65
abbrev f_impl_PairsOk : FuncId := 66
abbrev F_impl_PairsOk := @Try.func66
abbrev n_impl_PairsOk := @Try.ntmps66
abbrev e_impl_PairsOk := @Try.call66
abbrev f_impl_clone_impl_Pair : FuncId := 67
abbrev F_impl_clone_impl_Pair := @Try.func67
abbrev n_impl_clone_impl_Pair := @Try.ntmps67
abbrev e_impl_clone_impl_Pair := @Try.call67
abbrev f_impl_joined : FuncId := 69
abbrev F_impl_joined := @Try.func69
abbrev n_impl_joined := @Try.ntmps69
abbrev e_impl_joined := @Try.call69
abbrev f_impl_pairs : FuncId := 72
abbrev F_impl_pairs := @Try.func72
abbrev n_impl_pairs := @Try.ntmps72
abbrev e_impl_pairs := @Try.call72
abbrev f_slices_Concat_Limpl_Pair_impl_Pair : FuncId := 73
abbrev F_slices_Concat_Limpl_Pair_impl_Pair := @Try.func73
abbrev n_slices_Concat_Limpl_Pair_impl_Pair := @Try.ntmps73
abbrev e_slices_Concat_Limpl_Pair_impl_Pair := @Try.call73
abbrev f_laws_eqPair : FuncId := 74
abbrev F_laws_eqPair := @Try.func74
abbrev n_laws_eqPair := @Try.ntmps74
abbrev e_laws_eqPair := @Try.call74
abbrev f_spec_l1In : FuncId := 75
abbrev F_spec_l1In := @Try.func75
abbrev n_spec_l1In := @Try.ntmps75
abbrev e_spec_l1In := @Try.call75
abbrev f_impl_Pair_ok : FuncId := 76
abbrev F_impl_Pair_ok := @Try.func76
abbrev n_impl_Pair_ok := @Try.ntmps76
abbrev e_impl_Pair_ok := @Try.call76
abbrev f_slices_Equal_Limpl_Pair_impl_Pair : FuncId := 77
abbrev F_slices_Equal_Limpl_Pair_impl_Pair := @Try.func77
abbrev n_slices_Equal_Limpl_Pair_impl_Pair := @Try.ntmps77
abbrev e_slices_Equal_Limpl_Pair_impl_Pair := @Try.call77
abbrev f_impl_closure : FuncId := 78
abbrev F_impl_closure := @Try.func78
abbrev n_impl_closure := @Try.ntmps78
abbrev e_impl_closure := @Try.call78
abbrev f_slices_Clone_Limpl_Pair_impl_Pair : FuncId := 79
abbrev F_slices_Clone_Limpl_Pair_impl_Pair := @Try.func79
abbrev n_slices_Clone_Limpl_Pair_impl_Pair := @Try.ntmps79
abbrev e_slices_Clone_Limpl_Pair_impl_Pair := @Try.call79
abbrev f_impl_between : FuncId := 93
abbrev F_impl_between := @Try.func93
abbrev n_impl_between := @Try.ntmps93
abbrev e_impl_between := @Try.call93
abbrev f_spec_l26Less : FuncId := 126
abbrev F_spec_l26Less := @Try.func126
abbrev n_spec_l26Less := @Try.ntmps126
abbrev e_spec_l26Less := @Try.call126
abbrev f_impl_Pair_order : FuncId := 127
abbrev F_impl_Pair_order := @Try.func127
abbrev n_impl_Pair_order := @Try.ntmps127
abbrev e_impl_Pair_order := @Try.call127
abbrev f_slices_Clip_Limpl_Pair_impl_Pair : FuncId := 128
abbrev F_slices_Clip_Limpl_Pair_impl_Pair := @Try.func128
abbrev n_slices_Clip_Limpl_Pair_impl_Pair := @Try.ntmps128
abbrev e_slices_Clip_Limpl_Pair_impl_Pair := @Try.call128
abbrev f_slices_SortFunc_Limpl_Pair_impl_Pair : FuncId := 131
abbrev f_slices_Compact_Limpl_Pair_impl_Pair : FuncId := 132
abbrev F_slices_Compact_Limpl_Pair_impl_Pair := @Try.func132
abbrev n_slices_Compact_Limpl_Pair_impl_Pair := @Try.ntmps132
abbrev e_slices_Compact_Limpl_Pair_impl_Pair := @Try.call132
abbrev f_slices_Grow_Limpl_Pair_impl_Pair : FuncId := 133
abbrev F_slices_Grow_Limpl_Pair_impl_Pair := @Try.func133
abbrev n_slices_Grow_Limpl_Pair_impl_Pair := @Try.ntmps133
abbrev e_slices_Grow_Limpl_Pair_impl_Pair := @Try.call133
abbrev f_cmp_Or_int : FuncId := 172
abbrev F_cmp_Or_int := @Try.func172
abbrev n_cmp_Or_int := @Try.ntmps172
abbrev e_cmp_Or_int := @Try.call172
abbrev f_cmp_Compare_int : FuncId := 173
abbrev F_cmp_Compare_int := @Try.func173
abbrev n_cmp_Compare_int := @Try.ntmps173
abbrev e_cmp_Compare_int := @Try.call173
abbrev f_cmp_isNaN_int : FuncId := 197
abbrev F_cmp_isNaN_int := @Try.func197
abbrev n_cmp_isNaN_int := @Try.ntmps197
abbrev e_cmp_isNaN_int := @Try.call197
abbrev t_int : TypeId := 3
abbrev u_int := @Try.underlying3
abbrev s_int := @Try.sizeOf3
abbrev g_int := @Try.isAgg3
abbrev z_int := @Try.zeroValue3
theorem i_int : (Try.prog.info? 3).map (fun i => (i.size, i.bytes, i.zero)) = some (1, 8, some ((Go.Value.int Go.IntKind.i64 0))) := by kernel_rfl
theorem i_uint8 : (Try.prog.info? 5).map (fun i => (i.size, i.bytes, i.zero)) = some (1, 1, some ((Go.Value.int Go.IntKind.u8 0))) := by kernel_rfl
theorem i_string : (Try.prog.info? 9).map (fun i => (i.size, i.bytes, i.zero)) = some (1, 16, some ((Go.Value.string { data := #[] }))) := by kernel_rfl
abbrev t_Llaws_Pair : TypeId := 22
abbrev u_Llaws_Pair := @Try.underlying22
abbrev u_Limpl_Pair := @Try.underlying24
abbrev s_Limpl_Pair := @Try.sizeOf24
abbrev g_Limpl_Pair := @Try.isAgg24
abbrev z_Limpl_Pair := @Try.zeroValue24
theorem i_Limpl_Pair : (Try.prog.info? 24).map (fun i => (i.size, i.bytes, i.zero)) = some (1, 24, some ((Go.Value.slice none 0 0))) := by kernel_rfl
abbrev t_laws_Pair : TypeId := 31
abbrev u_laws_Pair := @Try.underlying31
abbrev s_laws_Pair := @Try.sizeOf31
abbrev g_laws_Pair := @Try.isAgg31
theorem i_laws_Pair : (Try.prog.info? 31).map (fun i => (i.size, i.bytes, i.zero)) = some (2, 16, some ((Go.Value.agg #[Go.Value.int Go.IntKind.i64 0, Go.Value.int Go.IntKind.i64 0]))) := by kernel_rfl
abbrev t_impl_Pair : TypeId := 33
abbrev u_impl_Pair := @Try.underlying33
abbrev s_impl_Pair := @Try.sizeOf33
abbrev g_impl_Pair := @Try.isAgg33
abbrev z_impl_Pair := @Try.zeroValue33
abbrev h_impl_Pair := @Try.stoodInHeld33
abbrev q_impl_Pair := @Try.eqGuardType33
theorem i_impl_Pair : (Try.prog.info? 33).map (fun i => (i.size, i.bytes, i.zero)) = some (2, 16, some ((Go.Value.agg #[Go.Value.int Go.IntKind.i64 0, Go.Value.int Go.IntKind.i64 0]))) := by kernel_rfl
abbrev u_Lint := @Try.underlying91
theorem i_impl_Value : (Try.prog.info? 97).map (fun i => (i.size, i.bytes, i.zero)) = some (3, 32, some ((Go.Value.agg #[Go.Value.int Go.IntKind.i64 0, Go.Value.int Go.IntKind.i64 0, Go.Value.string { data := #[] }]))) := by kernel_rfl
theorem i_impl_Entry : (Try.prog.info? 101).map (fun i => (i.size, i.bytes, i.zero)) = some (2, 32, some ((Go.Value.agg #[Go.Value.int Go.IntKind.i64 0, Go.Value.slice none 0 0]))) := by kernel_rfl
theorem i_Llaws_Value : (Try.prog.info? 108).map (fun i => (i.size, i.bytes, i.zero)) = some (1, 24, some ((Go.Value.slice none 0 0))) := by kernel_rfl
theorem i_Limpl_Value : (Try.prog.info? 110).map (fun i => (i.size, i.bytes, i.zero)) = some (1, 24, some ((Go.Value.slice none 0 0))) := by kernel_rfl
theorem i_impl_Tally : (Try.prog.info? 118).map (fun i => (i.size, i.bytes, i.zero)) = some (4, 48, some ((Go.Value.agg #[Go.Value.slice none 0 0, Go.Value.int Go.IntKind.i64 0, Go.Value.int Go.IntKind.i64 0, Go.Value.int Go.IntKind.i64 0]))) := by kernel_rfl
theorem i_laws_Entry : (Try.prog.info? 123).map (fun i => (i.size, i.bytes, i.zero)) = some (2, 32, some ((Go.Value.agg #[Go.Value.int Go.IntKind.i64 0, Go.Value.slice none 0 0]))) := by kernel_rfl
theorem i_impl_Version : (Try.prog.info? 128).map (fun i => (i.size, i.bytes, i.zero)) = some (4, 48, some ((Go.Value.agg #[Go.Value.int Go.IntKind.i64 0, Go.Value.int Go.IntKind.i64 0, Go.Value.int Go.IntKind.i64 0, Go.Value.slice none 0 0]))) := by kernel_rfl
theorem i_laws_Version : (Try.prog.info? 132).map (fun i => (i.size, i.bytes, i.zero)) = some (4, 48, some ((Go.Value.agg #[Go.Value.int Go.IntKind.i64 0, Go.Value.int Go.IntKind.i64 0, Go.Value.int Go.IntKind.i64 0, Go.Value.slice none 0 0]))) := by kernel_rfl
theorem i_laws_Write : (Try.prog.info? 135).map (fun i => (i.size, i.bytes, i.zero)) = some (3, 40, some ((Go.Value.agg #[Go.Value.int Go.IntKind.i64 0, Go.Value.slice none 0 0, Go.Value.bool false]))) := by kernel_rfl
theorem i_impl_Write : (Try.prog.info? 140).map (fun i => (i.size, i.bytes, i.zero)) = some (3, 40, some ((Go.Value.agg #[Go.Value.int Go.IntKind.i64 0, Go.Value.slice none 0 0, Go.Value.bool false]))) := by kernel_rfl
abbrev u_LLimpl_Pair := @Try.underlying151
theorem i_laws_Value : (Try.prog.info? 169).map (fun i => (i.size, i.bytes, i.zero)) = some (3, 32, some ((Go.Value.agg #[Go.Value.int Go.IntKind.i64 0, Go.Value.int Go.IntKind.i64 0, Go.Value.string { data := #[] }]))) := by kernel_rfl
theorem i_impl_Column : (Try.prog.info? 229).map (fun i => (i.size, i.bytes, i.zero)) = some (2, 16, some ((Go.Value.agg #[Go.Value.int Go.IntKind.i64 0, Go.Value.bool false]))) := by kernel_rfl
theorem mixed : Try.prog.follows .mixedOrders = true := by kernel_rfl
end Go.Proofs.Ytkgmomocjkmipaa
