/- The numbers of functions and types, by name. -/
import Derived.Test.YtgepipglchpabaaProg
import Derived.KernelRfl
set_option linter.unusedVariables false
set_option linter.unusedSimpArgs false
set_option linter.unnecessarySimpa false
namespace Go.Proofs.Ytgepipglchpabaa
open Go.Proofs
/- The numbers of functions and types, by name, and the facts of the load under these names. Written by a program of this claim's work. -/
abbrev f_laws_FnClosureOf : FuncId := 13
abbrev F_laws_FnClosureOf := @Try.func13
abbrev n_laws_FnClosureOf := @Try.ntmps13
abbrev e_laws_FnClosureOf := @Try.call13
abbrev f_laws_alive : FuncId := 20
abbrev F_laws_alive := @Try.func20
abbrev n_laws_alive := @Try.ntmps20
abbrev e_laws_alive := @Try.call20
abbrev f_spec_DrawClosureOf : FuncId := 66
abbrev F_spec_DrawClosureOf := @Try.func66
abbrev n_spec_DrawClosureOf := @Try.ntmps66
abbrev e_spec_DrawClosureOf := @Try.call66
abbrev f_impl_ClosureOf : FuncId := 67
abbrev F_impl_ClosureOf := @Try.func67
abbrev n_impl_ClosureOf := @Try.ntmps67
abbrev e_impl_ClosureOf := @Try.call67
abbrev f_laws_samePairs : FuncId := 68
abbrev F_laws_samePairs := @Try.func68
abbrev n_laws_samePairs := @Try.ntmps68
abbrev e_laws_samePairs := @Try.call68
abbrev f_spec_ClosureOf : FuncId := 69
abbrev F_spec_ClosureOf := @Try.func69
abbrev n_spec_ClosureOf := @Try.ntmps69
abbrev e_spec_ClosureOf := @Try.call69
abbrev f_impl_PairsOk : FuncId := 70
abbrev F_impl_PairsOk := @Try.func70
abbrev n_impl_PairsOk := @Try.ntmps70
abbrev e_impl_PairsOk := @Try.call70
abbrev f_impl_PairsJoined : FuncId := 71
abbrev F_impl_PairsJoined := @Try.func71
abbrev n_impl_PairsJoined := @Try.ntmps71
abbrev e_impl_PairsJoined := @Try.call71
abbrev f_laws_manyPairs : FuncId := 72
abbrev F_laws_manyPairs := @Try.func72
abbrev n_laws_manyPairs := @Try.ntmps72
abbrev e_laws_manyPairs := @Try.call72
abbrev f_spec_l20Open : FuncId := 79
abbrev F_spec_l20Open := @Try.func79
abbrev n_spec_l20Open := @Try.ntmps79
abbrev e_spec_l20Open := @Try.call79
abbrev f_impl_ValueOk : FuncId := 88
abbrev F_impl_ValueOk := @Try.func88
abbrev n_impl_ValueOk := @Try.ntmps88
abbrev e_impl_ValueOk := @Try.call88
abbrev f_spec_l1In : FuncId := 101
abbrev F_spec_l1In := @Try.func101
abbrev n_spec_l1In := @Try.ntmps101
abbrev e_spec_l1In := @Try.call101
abbrev f_impl_between : FuncId := 106
abbrev F_impl_between := @Try.func106
abbrev n_impl_between := @Try.ntmps106
abbrev e_impl_between := @Try.call106
abbrev f_Pspec_l20Rd_pick : FuncId := 118
abbrev F_Pspec_l20Rd_pick := @Try.func118
abbrev n_Pspec_l20Rd_pick := @Try.ntmps118
abbrev e_Pspec_l20Rd_pick := @Try.call118
abbrev f_impl_Value_ok : FuncId := 129
abbrev F_impl_Value_ok := @Try.func129
abbrev n_impl_Value_ok := @Try.ntmps129
abbrev e_impl_Value_ok := @Try.call129
abbrev f_spec_l20Pairs : FuncId := 152
abbrev F_spec_l20Pairs := @Try.func152
abbrev n_spec_l20Pairs := @Try.ntmps152
abbrev e_spec_l20Pairs := @Try.call152
abbrev f_impl_closure : FuncId := 153
abbrev F_impl_closure := @Try.func153
abbrev n_impl_closure := @Try.ntmps153
abbrev e_impl_closure := @Try.call153
abbrev f_spec_PairsOk : FuncId := 154
abbrev F_spec_PairsOk := @Try.func154
abbrev n_spec_PairsOk := @Try.ntmps154
abbrev e_spec_PairsOk := @Try.call154
abbrev f_spec_l26With : FuncId := 155
abbrev F_spec_l26With := @Try.func155
abbrev n_spec_l26With := @Try.ntmps155
abbrev e_spec_l26With := @Try.call155
abbrev f_spec_PairsJoined : FuncId := 156
abbrev F_spec_PairsJoined := @Try.func156
abbrev n_spec_PairsJoined := @Try.ntmps156
abbrev e_spec_PairsJoined := @Try.call156
abbrev f_impl_Pair_ok : FuncId := 157
abbrev F_impl_Pair_ok := @Try.func157
abbrev n_impl_Pair_ok := @Try.ntmps157
abbrev e_impl_Pair_ok := @Try.call157
abbrev f_impl_Pair_order : FuncId := 158
abbrev F_impl_Pair_order := @Try.func158
abbrev n_impl_Pair_order := @Try.ntmps158
abbrev e_impl_Pair_order := @Try.call158
abbrev f_impl_joined : FuncId := 159
abbrev F_impl_joined := @Try.func159
abbrev n_impl_joined := @Try.ntmps159
abbrev e_impl_joined := @Try.call159
abbrev f_Pspec_l20Rd_odd : FuncId := 186
abbrev F_Pspec_l20Rd_odd := @Try.func186
abbrev n_Pspec_l20Rd_odd := @Try.ntmps186
abbrev e_Pspec_l20Rd_odd := @Try.call186
abbrev f_impl_letters : FuncId := 203
abbrev F_impl_letters := @Try.func203
abbrev n_impl_letters := @Try.ntmps203
abbrev e_impl_letters := @Try.call203
abbrev f_cmp_Or_int : FuncId := 204
abbrev F_cmp_Or_int := @Try.func204
abbrev n_cmp_Or_int := @Try.ntmps204
abbrev e_cmp_Or_int := @Try.call204
abbrev f_cmp_Compare_int : FuncId := 205
abbrev F_cmp_Compare_int := @Try.func205
abbrev n_cmp_Compare_int := @Try.ntmps205
abbrev e_cmp_Compare_int := @Try.call205
abbrev f_impl_clone_impl_Pair : FuncId := 227
abbrev F_impl_clone_impl_Pair := @Try.func227
abbrev n_impl_clone_impl_Pair := @Try.ntmps227
abbrev e_impl_clone_impl_Pair := @Try.call227
abbrev f_impl_pairs : FuncId := 228
abbrev F_impl_pairs := @Try.func228
abbrev n_impl_pairs := @Try.ntmps228
abbrev e_impl_pairs := @Try.call228
abbrev f_slices_Concat_Limpl_Pair_impl_Pair : FuncId := 229
abbrev F_slices_Concat_Limpl_Pair_impl_Pair := @Try.func229
abbrev n_slices_Concat_Limpl_Pair_impl_Pair := @Try.ntmps229
abbrev e_slices_Concat_Limpl_Pair_impl_Pair := @Try.call229
abbrev f_spec_l26Less : FuncId := 230
abbrev F_spec_l26Less := @Try.func230
abbrev n_spec_l26Less := @Try.ntmps230
abbrev e_spec_l26Less := @Try.call230
abbrev f_spec_l26Has : FuncId := 231
abbrev F_spec_l26Has := @Try.func231
abbrev n_spec_l26Has := @Try.ntmps231
abbrev e_spec_l26Has := @Try.call231
abbrev f_cmp_isNaN_int : FuncId := 259
abbrev F_cmp_isNaN_int := @Try.func259
abbrev n_cmp_isNaN_int := @Try.ntmps259
abbrev e_cmp_isNaN_int := @Try.call259
abbrev f_slices_Clip_Limpl_Pair_impl_Pair : FuncId := 265
abbrev F_slices_Clip_Limpl_Pair_impl_Pair := @Try.func265
abbrev n_slices_Clip_Limpl_Pair_impl_Pair := @Try.ntmps265
abbrev e_slices_Clip_Limpl_Pair_impl_Pair := @Try.call265
abbrev f_slices_SortFunc_Limpl_Pair_impl_Pair : FuncId := 266
abbrev f_slices_Compact_Limpl_Pair_impl_Pair : FuncId := 267
abbrev F_slices_Compact_Limpl_Pair_impl_Pair := @Try.func267
abbrev n_slices_Compact_Limpl_Pair_impl_Pair := @Try.ntmps267
abbrev e_slices_Compact_Limpl_Pair_impl_Pair := @Try.call267
abbrev f_slices_Grow_Limpl_Pair_impl_Pair : FuncId := 268
abbrev F_slices_Grow_Limpl_Pair_impl_Pair := @Try.func268
abbrev n_slices_Grow_Limpl_Pair_impl_Pair := @Try.ntmps268
abbrev e_slices_Grow_Limpl_Pair_impl_Pair := @Try.call268
abbrev u_int := @Try.underlying3
abbrev s_int := @Try.sizeOf3
abbrev g_int := @Try.isAgg3
abbrev z_int := @Try.zeroValue3
theorem i_int : (Try.prog.info? 3).map (fun i => (i.size, i.bytes, i.zero)) = some (1, 8, some ((Go.Value.int Go.IntKind.i64 0))) := by kernel_rfl
theorem i_bool : (Try.prog.info? 4).map (fun i => (i.size, i.bytes, i.zero)) = some (1, 1, some ((Go.Value.bool false))) := by kernel_rfl
abbrev u_uint8 := @Try.underlying5
abbrev s_uint8 := @Try.sizeOf5
abbrev g_uint8 := @Try.isAgg5
theorem i_uint8 : (Try.prog.info? 5).map (fun i => (i.size, i.bytes, i.zero)) = some (1, 1, some ((Go.Value.int Go.IntKind.u8 0))) := by kernel_rfl
abbrev u_string := @Try.underlying9
abbrev s_string := @Try.sizeOf9
abbrev g_string := @Try.isAgg9
theorem i_string : (Try.prog.info? 9).map (fun i => (i.size, i.bytes, i.zero)) = some (1, 16, some ((Go.Value.string { data := #[] }))) := by kernel_rfl
abbrev u_Luint8 := @Try.underlying22
abbrev s_Luint8 := @Try.sizeOf22
abbrev g_Luint8 := @Try.isAgg22
theorem i_Limpl_Column : (Try.prog.info? 23).map (fun i => (i.size, i.bytes, i.zero)) = some (1, 24, some ((Go.Value.slice none 0 0))) := by kernel_rfl
theorem i_Limpl_Value : (Try.prog.info? 24).map (fun i => (i.size, i.bytes, i.zero)) = some (1, 24, some ((Go.Value.slice none 0 0))) := by kernel_rfl
abbrev t_impl_Value : TypeId := 30
abbrev u_impl_Value := @Try.underlying30
abbrev s_impl_Value := @Try.sizeOf30
abbrev g_impl_Value := @Try.isAgg30
abbrev z_impl_Value := @Try.zeroValue30
abbrev h_impl_Value := @Try.stoodInHeld30
abbrev q_impl_Value := @Try.eqGuardType30
theorem i_impl_Value : (Try.prog.info? 30).map (fun i => (i.size, i.bytes, i.zero)) = some (3, 32, some ((Go.Value.agg #[Go.Value.int Go.IntKind.i64 0, Go.Value.int Go.IntKind.i64 0, Go.Value.string { data := #[] }]))) := by kernel_rfl
theorem i_impl_Part : (Try.prog.info? 32).map (fun i => (i.size, i.bytes, i.zero)) = some (5, 48, some ((Go.Value.agg #[Go.Value.int Go.IntKind.i64 0, Go.Value.int Go.IntKind.i64 0, Go.Value.int Go.IntKind.i64 0, Go.Value.int Go.IntKind.i64 0, Go.Value.string { data := #[] }]))) := by kernel_rfl
theorem i_Llaws_Value : (Try.prog.info? 40).map (fun i => (i.size, i.bytes, i.zero)) = some (1, 24, some ((Go.Value.slice none 0 0))) := by kernel_rfl
abbrev u_Lint := @Try.underlying65
theorem i_impl_Step : (Try.prog.info? 80).map (fun i => (i.size, i.bytes, i.zero)) = some (6, 80, some ((Go.Value.agg #[Go.Value.int Go.IntKind.i64 0, Go.Value.int Go.IntKind.i64 0, Go.Value.int Go.IntKind.i64 0, Go.Value.int Go.IntKind.i64 0, Go.Value.slice none 0 0, Go.Value.slice none 0 0]))) := by kernel_rfl
theorem i_LLimpl_Value : (Try.prog.info? 81).map (fun i => (i.size, i.bytes, i.zero)) = some (1, 24, some ((Go.Value.slice none 0 0))) := by kernel_rfl
abbrev u_Limpl_Pair := @Try.underlying99
abbrev s_Limpl_Pair := @Try.sizeOf99
abbrev g_Limpl_Pair := @Try.isAgg99
abbrev z_Limpl_Pair := @Try.zeroValue99
theorem i_Limpl_Pair : (Try.prog.info? 99).map (fun i => (i.size, i.bytes, i.zero)) = some (1, 24, some ((Go.Value.slice none 0 0))) := by kernel_rfl
abbrev t_impl_Pair : TypeId := 107
abbrev u_impl_Pair := @Try.underlying107
abbrev s_impl_Pair := @Try.sizeOf107
abbrev g_impl_Pair := @Try.isAgg107
abbrev z_impl_Pair := @Try.zeroValue107
abbrev h_impl_Pair := @Try.stoodInHeld107
abbrev q_impl_Pair := @Try.eqGuardType107
theorem i_impl_Pair : (Try.prog.info? 107).map (fun i => (i.size, i.bytes, i.zero)) = some (2, 16, some ((Go.Value.agg #[Go.Value.int Go.IntKind.i64 0, Go.Value.int Go.IntKind.i64 0]))) := by kernel_rfl
theorem i_impl_Column : (Try.prog.info? 124).map (fun i => (i.size, i.bytes, i.zero)) = some (2, 16, some ((Go.Value.agg #[Go.Value.int Go.IntKind.i64 0, Go.Value.bool false]))) := by kernel_rfl
theorem i_laws_Value : (Try.prog.info? 128).map (fun i => (i.size, i.bytes, i.zero)) = some (3, 32, some ((Go.Value.agg #[Go.Value.int Go.IntKind.i64 0, Go.Value.int Go.IntKind.i64 0, Go.Value.string { data := #[] }]))) := by kernel_rfl
theorem i_laws_Part : (Try.prog.info? 131).map (fun i => (i.size, i.bytes, i.zero)) = some (5, 48, some ((Go.Value.agg #[Go.Value.int Go.IntKind.i64 0, Go.Value.int Go.IntKind.i64 0, Go.Value.int Go.IntKind.i64 0, Go.Value.int Go.IntKind.i64 0, Go.Value.string { data := #[] }]))) := by kernel_rfl
theorem i_laws_Column : (Try.prog.info? 133).map (fun i => (i.size, i.bytes, i.zero)) = some (2, 16, some ((Go.Value.agg #[Go.Value.int Go.IntKind.i64 0, Go.Value.bool false]))) := by kernel_rfl
theorem i_laws_Table : (Try.prog.info? 141).map (fun i => (i.size, i.bytes, i.zero)) = some (2, 48, some ((Go.Value.agg #[Go.Value.slice none 0 0, Go.Value.slice none 0 0]))) := by kernel_rfl
theorem i_laws_Guard : (Try.prog.info? 144).map (fun i => (i.size, i.bytes, i.zero)) = some (2, 32, some ((Go.Value.agg #[Go.Value.int Go.IntKind.i64 0, Go.Value.slice none 0 0]))) := by kernel_rfl
theorem i_impl_Guard : (Try.prog.info? 146).map (fun i => (i.size, i.bytes, i.zero)) = some (2, 32, some ((Go.Value.agg #[Go.Value.int Go.IntKind.i64 0, Go.Value.slice none 0 0]))) := by kernel_rfl
theorem i_impl_Table : (Try.prog.info? 149).map (fun i => (i.size, i.bytes, i.zero)) = some (2, 48, some ((Go.Value.agg #[Go.Value.slice none 0 0, Go.Value.slice none 0 0]))) := by kernel_rfl
theorem i_impl_group : (Try.prog.info? 184).map (fun i => (i.size, i.bytes, i.zero)) = some (9, 104, some ((Go.Value.agg #[Go.Value.slice none 0 0, Go.Value.int Go.IntKind.i64 0, Go.Value.int Go.IntKind.i64 0, Go.Value.int Go.IntKind.i64 0, Go.Value.int Go.IntKind.i64 0, Go.Value.string { data := #[] }, Go.Value.int Go.IntKind.i64 0, Go.Value.int Go.IntKind.i64 0, Go.Value.string { data := #[] }]))) := by kernel_rfl
theorem i_laws_Pair : (Try.prog.info? 198).map (fun i => (i.size, i.bytes, i.zero)) = some (2, 16, some ((Go.Value.agg #[Go.Value.int Go.IntKind.i64 0, Go.Value.int Go.IntKind.i64 0]))) := by kernel_rfl
abbrev t_spec_l20Rd : TypeId := 204
abbrev u_spec_l20Rd := @Try.underlying204
abbrev z_spec_l20Rd := @Try.zeroValue204
theorem i_impl_made : (Try.prog.info? 221).map (fun i => (i.size, i.bytes, i.zero)) = some (2, 32, some ((Go.Value.agg #[Go.Value.slice none 0 0, Go.Value.int Go.IntKind.i64 0]))) := by kernel_rfl
abbrev u_LLimpl_Pair := @Try.underlying262
theorem mixed : Try.prog.follows .mixedOrders = true := by kernel_rfl
end Go.Proofs.Ytgepipglchpabaa
