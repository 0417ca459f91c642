/- The numbers of functions and types, by name. -/
import Derived.Test.YtdkpmckpcejceaaProg
import Derived.KernelRfl
set_option linter.unusedVariables false
set_option linter.unusedSimpArgs false
set_option linter.unnecessarySimpa false
set_option maxHeartbeats 4000000
namespace Go.Proofs.Ytdkpmckpcejceaa
open Go.Proofs
/- The numbers of functions and types, by name, and the facts of the load under these names. Written by a program of this claim's work. -/
abbrev f_laws_FnBeside : FuncId := 8
abbrev F_laws_FnBeside := @Try.func8
abbrev n_laws_FnBeside := @Try.ntmps8
abbrev e_laws_FnBeside := @Try.call8
abbrev f_laws_alive : FuncId := 46
abbrev F_laws_alive := @Try.func46
abbrev n_laws_alive := @Try.ntmps46
abbrev e_laws_alive := @Try.call46
abbrev f_impl_HouseOk : FuncId := 49
abbrev F_impl_HouseOk := @Try.func49
abbrev n_impl_HouseOk := @Try.ntmps49
abbrev e_impl_HouseOk := @Try.call49
abbrev f_spec_HouseOk : FuncId := 50
abbrev F_spec_HouseOk := @Try.func50
abbrev n_spec_HouseOk := @Try.ntmps50
abbrev e_spec_HouseOk := @Try.call50
abbrev f_spec_DrawBeside : FuncId := 52
abbrev F_spec_DrawBeside := @Try.func52
abbrev n_spec_DrawBeside := @Try.ntmps52
abbrev e_spec_DrawBeside := @Try.call52
abbrev f_impl_Beside : FuncId := 53
abbrev F_impl_Beside := @Try.func53
abbrev n_impl_Beside := @Try.ntmps53
abbrev e_impl_Beside := @Try.call53
abbrev f_spec_Beside : FuncId := 54
abbrev F_spec_Beside := @Try.func54
abbrev n_spec_Beside := @Try.ntmps54
abbrev e_spec_Beside := @Try.call54
abbrev f_spec_l1In : FuncId := 84
abbrev F_spec_l1In := @Try.func84
abbrev n_spec_l1In := @Try.ntmps84
abbrev e_spec_l1In := @Try.call84
abbrev f_spec_l14Own : FuncId := 85
abbrev F_spec_l14Own := @Try.func85
abbrev n_spec_l14Own := @Try.ntmps85
abbrev e_spec_l14Own := @Try.call85
abbrev f_spec_l3Own : FuncId := 86
abbrev F_spec_l3Own := @Try.func86
abbrev n_spec_l3Own := @Try.ntmps86
abbrev e_spec_l3Own := @Try.call86
abbrev f_impl_between : FuncId := 90
abbrev F_impl_between := @Try.func90
abbrev n_impl_between := @Try.ntmps90
abbrev e_impl_between := @Try.call90
abbrev f_impl_keyOk : FuncId := 91
abbrev F_impl_keyOk := @Try.func91
abbrev n_impl_keyOk := @Try.ntmps91
abbrev e_impl_keyOk := @Try.call91
abbrev f_spec_l20Open : FuncId := 114
abbrev F_spec_l20Open := @Try.func114
abbrev n_spec_l20Open := @Try.ntmps114
abbrev e_spec_l20Open := @Try.call114
abbrev f_Pspec_l20Rd_pick : FuncId := 116
abbrev F_Pspec_l20Rd_pick := @Try.func116
abbrev n_Pspec_l20Rd_pick := @Try.ntmps116
abbrev e_Pspec_l20Rd_pick := @Try.call116
abbrev f_impl_ValueOk : FuncId := 129
abbrev F_impl_ValueOk := @Try.func129
abbrev n_impl_ValueOk := @Try.ntmps129
abbrev e_impl_ValueOk := @Try.call129
abbrev f_impl_VersionsOk : FuncId := 131
abbrev F_impl_VersionsOk := @Try.func131
abbrev n_impl_VersionsOk := @Try.ntmps131
abbrev e_impl_VersionsOk := @Try.call131
abbrev f_impl_turnAny : FuncId := 132
abbrev F_impl_turnAny := @Try.func132
abbrev n_impl_turnAny := @Try.ntmps132
abbrev e_impl_turnAny := @Try.call132
abbrev f_impl_Txn_ok : FuncId := 133
abbrev F_impl_Txn_ok := @Try.func133
abbrev n_impl_Txn_ok := @Try.ntmps133
abbrev e_impl_Txn_ok := @Try.call133
abbrev f_spec_VersionsOk : FuncId := 134
abbrev F_spec_VersionsOk := @Try.func134
abbrev n_spec_VersionsOk := @Try.ntmps134
abbrev e_spec_VersionsOk := @Try.call134
abbrev f_spec_LastTurn : FuncId := 135
abbrev F_spec_LastTurn := @Try.func135
abbrev n_spec_LastTurn := @Try.ntmps135
abbrev e_spec_LastTurn := @Try.call135
abbrev f_spec_l14Txn : FuncId := 136
abbrev F_spec_l14Txn := @Try.func136
abbrev n_spec_l14Txn := @Try.ntmps136
abbrev e_spec_l14Txn := @Try.call136
abbrev f_spec_l20Late : FuncId := 137
abbrev F_spec_l20Late := @Try.func137
abbrev n_spec_l20Late := @Try.ntmps137
abbrev e_spec_l20Late := @Try.call137
abbrev f_impl_House_beside : FuncId := 138
abbrev F_impl_House_beside := @Try.func138
abbrev n_impl_House_beside := @Try.ntmps138
abbrev e_impl_House_beside := @Try.call138
abbrev f_spec_l15Beside : FuncId := 139
abbrev F_spec_l15Beside := @Try.func139
abbrev n_spec_l15Beside := @Try.ntmps139
abbrev e_spec_l15Beside := @Try.call139
abbrev f_spec_RowOk : FuncId := 155
abbrev F_spec_RowOk := @Try.func155
abbrev n_spec_RowOk := @Try.ntmps155
abbrev e_spec_RowOk := @Try.call155
abbrev f_Pspec_l20Rd_odd : FuncId := 198
abbrev F_Pspec_l20Rd_odd := @Try.func198
abbrev n_Pspec_l20Rd_odd := @Try.ntmps198
abbrev e_Pspec_l20Rd_odd := @Try.call198
abbrev f_impl_Value_ok : FuncId := 208
abbrev F_impl_Value_ok := @Try.func208
abbrev n_impl_Value_ok := @Try.ntmps208
abbrev e_impl_Value_ok := @Try.call208
abbrev f_spec_HouseRun : FuncId := 209
abbrev F_spec_HouseRun := @Try.func209
abbrev n_spec_HouseRun := @Try.ntmps209
abbrev e_spec_HouseRun := @Try.call209
abbrev f_spec_HouseNew : FuncId := 210
abbrev F_spec_HouseNew := @Try.func210
abbrev n_spec_HouseNew := @Try.ntmps210
abbrev e_spec_HouseNew := @Try.call210
abbrev f_impl_RowOk : FuncId := 212
abbrev F_impl_RowOk := @Try.func212
abbrev n_impl_RowOk := @Try.ntmps212
abbrev e_impl_RowOk := @Try.call212
abbrev f_impl_lastTurn : FuncId := 213
abbrev F_impl_lastTurn := @Try.func213
abbrev n_impl_lastTurn := @Try.ntmps213
abbrev e_impl_lastTurn := @Try.call213
abbrev f_impl_rising : FuncId := 214
abbrev F_impl_rising := @Try.func214
abbrev n_impl_rising := @Try.ntmps214
abbrev e_impl_rising := @Try.call214
abbrev f_impl_WritesOk : FuncId := 215
abbrev F_impl_WritesOk := @Try.func215
abbrev n_impl_WritesOk := @Try.ntmps215
abbrev e_impl_WritesOk := @Try.call215
abbrev f_spec_l13Version : FuncId := 216
abbrev F_spec_l13Version := @Try.func216
abbrev n_spec_l13Version := @Try.ntmps216
abbrev e_spec_l13Version := @Try.call216
abbrev f_spec_l14Reads : FuncId := 217
abbrev F_spec_l14Reads := @Try.func217
abbrev n_spec_l14Reads := @Try.ntmps217
abbrev e_spec_l14Reads := @Try.call217
abbrev f_spec_WritesOk : FuncId := 218
abbrev F_spec_WritesOk := @Try.func218
abbrev n_spec_WritesOk := @Try.ntmps218
abbrev e_spec_WritesOk := @Try.call218
abbrev f_spec_l20Ended : FuncId := 219
abbrev F_spec_l20Ended := @Try.func219
abbrev n_spec_l20Ended := @Try.ntmps219
abbrev e_spec_l20Ended := @Try.call219
abbrev f_spec_l20Writes : FuncId := 220
abbrev F_spec_l20Writes := @Try.func220
abbrev n_spec_l20Writes := @Try.ntmps220
abbrev e_spec_l20Writes := @Try.call220
abbrev f_spec_l20Columns : FuncId := 227
abbrev F_spec_l20Columns := @Try.func227
abbrev n_spec_l20Columns := @Try.ntmps227
abbrev e_spec_l20Columns := @Try.call227
abbrev f_spec_ValueOk : FuncId := 239
abbrev F_spec_ValueOk := @Try.func239
abbrev n_spec_ValueOk := @Try.ntmps239
abbrev e_spec_ValueOk := @Try.call239
abbrev f_impl_letters : FuncId := 271
abbrev F_impl_letters := @Try.func271
abbrev n_impl_letters := @Try.ntmps271
abbrev e_impl_letters := @Try.call271
abbrev f_spec_l14Copy : FuncId := 272
abbrev F_spec_l14Copy := @Try.func272
abbrev n_spec_l14Copy := @Try.ntmps272
abbrev e_spec_l14Copy := @Try.call272
abbrev f_spec_HouseStep : FuncId := 273
abbrev F_spec_HouseStep := @Try.func273
abbrev n_spec_HouseStep := @Try.ntmps273
abbrev e_spec_HouseStep := @Try.call273
abbrev f_slices_ContainsFunc_Limpl_Value_impl_Value : FuncId := 275
abbrev F_slices_ContainsFunc_Limpl_Value_impl_Value := @Try.func275
abbrev n_slices_ContainsFunc_Limpl_Value_impl_Value := @Try.ntmps275
abbrev e_slices_ContainsFunc_Limpl_Value_impl_Value := @Try.call275
abbrev f_impl_RowOk_1 : FuncId := 276
abbrev F_impl_RowOk_1 := @Try.func276
abbrev n_impl_RowOk_1 := @Try.ntmps276
abbrev e_impl_RowOk_1 := @Try.call276
abbrev f_spec_l20Small : FuncId := 277
abbrev F_spec_l20Small := @Try.func277
abbrev n_spec_l20Small := @Try.ntmps277
abbrev e_spec_l20Small := @Try.call277
abbrev f_spec_l20Any : FuncId := 278
abbrev F_spec_l20Any := @Try.func278
abbrev n_spec_l20Any := @Try.ntmps278
abbrev e_spec_l20Any := @Try.call278
abbrev f_spec_l20Fit : FuncId := 286
abbrev F_spec_l20Fit := @Try.func286
abbrev n_spec_l20Fit := @Try.ntmps286
abbrev e_spec_l20Fit := @Try.call286
abbrev f_spec_l1Text : FuncId := 289
abbrev F_spec_l1Text := @Try.func289
abbrev n_spec_l1Text := @Try.ntmps289
abbrev e_spec_l1Text := @Try.call289
abbrev f_spec_l13Copy : FuncId := 312
abbrev F_spec_l13Copy := @Try.func312
abbrev n_spec_l13Copy := @Try.ntmps312
abbrev e_spec_l13Copy := @Try.call312
abbrev f_spec_l14Writes : FuncId := 313
abbrev F_spec_l14Writes := @Try.func313
abbrev n_spec_l14Writes := @Try.ntmps313
abbrev e_spec_l14Writes := @Try.call313
abbrev f_spec_l14Note : FuncId := 314
abbrev F_spec_l14Note := @Try.func314
abbrev n_spec_l14Note := @Try.ntmps314
abbrev e_spec_l14Note := @Try.call314
abbrev f_spec_l14Put : FuncId := 315
abbrev F_spec_l14Put := @Try.func315
abbrev n_spec_l14Put := @Try.ntmps315
abbrev e_spec_l14Put := @Try.call315
abbrev f_spec_l14Late : FuncId := 316
abbrev F_spec_l14Late := @Try.func316
abbrev n_spec_l14Late := @Try.ntmps316
abbrev e_spec_l14Late := @Try.call316
abbrev f_spec_WrittenAt : FuncId := 317
abbrev F_spec_WrittenAt := @Try.func317
abbrev n_spec_WrittenAt := @Try.ntmps317
abbrev e_spec_WrittenAt := @Try.call317
abbrev f_slices_IndexFunc_Limpl_Value_impl_Value : FuncId := 318
abbrev F_slices_IndexFunc_Limpl_Value_impl_Value := @Try.func318
abbrev n_slices_IndexFunc_Limpl_Value_impl_Value := @Try.ntmps318
abbrev e_slices_IndexFunc_Limpl_Value_impl_Value := @Try.call318
abbrev f_spec_l20Like : FuncId := 326
abbrev F_spec_l20Like := @Try.func326
abbrev n_spec_l20Like := @Try.ntmps326
abbrev e_spec_l20Like := @Try.call326
abbrev f_spec_l20Value : FuncId := 327
abbrev F_spec_l20Value := @Try.func327
abbrev n_spec_l20Value := @Try.ntmps327
abbrev e_spec_l20Value := @Try.call327
abbrev f_spec_l13Written : FuncId := 338
abbrev F_spec_l13Written := @Try.func338
abbrev n_spec_l13Written := @Try.ntmps338
abbrev e_spec_l13Written := @Try.call338
abbrev u_int := @Try.underlying3
abbrev s_int := @Try.sizeOf3
abbrev g_int := @Try.isAgg3
abbrev z_int := @Try.zeroValue3
theorem i_int : (Try.prog.info? 3).map (fun i => (i.size, i.bytes, i.zero)) = some (1, 8, some ((Go.Value.int Go.IntKind.i64 0))) := by kernel_rfl
abbrev u_bool := @Try.underlying4
abbrev s_bool := @Try.sizeOf4
abbrev g_bool := @Try.isAgg4
abbrev z_bool := @Try.zeroValue4
theorem i_bool : (Try.prog.info? 4).map (fun i => (i.size, i.bytes, i.zero)) = some (1, 1, some ((Go.Value.bool false))) := by kernel_rfl
abbrev u_uint8 := @Try.underlying5
abbrev s_uint8 := @Try.sizeOf5
abbrev g_uint8 := @Try.isAgg5
abbrev z_uint8 := @Try.zeroValue5
theorem i_uint8 : (Try.prog.info? 5).map (fun i => (i.size, i.bytes, i.zero)) = some (1, 1, some ((Go.Value.int Go.IntKind.u8 0))) := by kernel_rfl
abbrev u_string := @Try.underlying9
abbrev s_string := @Try.sizeOf9
abbrev g_string := @Try.isAgg9
abbrev z_string := @Try.zeroValue9
theorem i_string : (Try.prog.info? 9).map (fun i => (i.size, i.bytes, i.zero)) = some (1, 16, some ((Go.Value.string { data := #[] }))) := by kernel_rfl
abbrev u_Lint := @Try.underlying26
abbrev s_Lint := @Try.sizeOf26
abbrev g_Lint := @Try.isAgg26
abbrev u_Limpl_Value := @Try.underlying42
abbrev s_Limpl_Value := @Try.sizeOf42
abbrev g_Limpl_Value := @Try.isAgg42
theorem i_Limpl_Value : (Try.prog.info? 42).map (fun i => (i.size, i.bytes, i.zero)) = some (1, 24, some ((Go.Value.slice none 0 0))) := by kernel_rfl
abbrev u_Limpl_Version := @Try.underlying45
abbrev s_Limpl_Version := @Try.sizeOf45
abbrev g_Limpl_Version := @Try.isAgg45
abbrev u_Limpl_Txn := @Try.underlying46
abbrev s_Limpl_Txn := @Try.sizeOf46
abbrev g_Limpl_Txn := @Try.isAgg46
abbrev t_impl_House : TypeId := 48
abbrev u_impl_House := @Try.underlying48
abbrev s_impl_House := @Try.sizeOf48
abbrev g_impl_House := @Try.isAgg48
abbrev z_impl_House := @Try.zeroValue48
theorem i_Llaws_Value : (Try.prog.info? 56).map (fun i => (i.size, i.bytes, i.zero)) = some (1, 24, some ((Go.Value.slice none 0 0))) := by kernel_rfl
abbrev u_Luint8 := @Try.underlying73
abbrev s_Luint8 := @Try.sizeOf73
abbrev g_Luint8 := @Try.isAgg73
theorem i_impl_Ask : (Try.prog.info? 80).map (fun i => (i.size, i.bytes, i.zero)) = some (3, 24, some ((Go.Value.agg #[Go.Value.int Go.IntKind.i64 0, Go.Value.int Go.IntKind.i64 0, Go.Value.int Go.IntKind.i64 0]))) := by kernel_rfl
theorem i_impl_Step : (Try.prog.info? 95).map (fun i => (i.size, i.bytes, i.zero)) = some (6, 80, some ((Go.Value.agg #[Go.Value.int Go.IntKind.i64 0, Go.Value.int Go.IntKind.i64 0, Go.Value.int Go.IntKind.i64 0, Go.Value.int Go.IntKind.i64 0, Go.Value.slice none 0 0, Go.Value.slice none 0 0]))) := by kernel_rfl
theorem i_LLimpl_Value : (Try.prog.info? 96).map (fun i => (i.size, i.bytes, i.zero)) = some (1, 24, some ((Go.Value.slice none 0 0))) := by kernel_rfl
abbrev u_Limpl_Write := @Try.underlying123
abbrev s_Limpl_Write := @Try.sizeOf123
abbrev g_Limpl_Write := @Try.isAgg123
abbrev t_impl_Txn : TypeId := 125
abbrev u_impl_Txn := @Try.underlying125
abbrev s_impl_Txn := @Try.sizeOf125
abbrev g_impl_Txn := @Try.isAgg125
abbrev z_impl_Txn := @Try.zeroValue125
theorem i_impl_Txn : (Try.prog.info? 125).map (fun i => (i.size, i.bytes, i.zero)) = some (5, 72, some ((Go.Value.agg #[Go.Value.int Go.IntKind.i64 0, Go.Value.int Go.IntKind.i64 0, Go.Value.int Go.IntKind.i64 0, Go.Value.slice none 0 0, Go.Value.slice none 0 0]))) := by kernel_rfl
abbrev t_impl_Write : TypeId := 129
abbrev u_impl_Write := @Try.underlying129
abbrev s_impl_Write := @Try.sizeOf129
abbrev g_impl_Write := @Try.isAgg129
abbrev z_impl_Write := @Try.zeroValue129
theorem i_impl_Write : (Try.prog.info? 129).map (fun i => (i.size, i.bytes, i.zero)) = some (3, 40, some ((Go.Value.agg #[Go.Value.int Go.IntKind.i64 0, Go.Value.slice none 0 0, Go.Value.bool false]))) := by kernel_rfl
abbrev t_impl_Value : TypeId := 137
abbrev u_impl_Value := @Try.underlying137
abbrev s_impl_Value := @Try.sizeOf137
abbrev g_impl_Value := @Try.isAgg137
abbrev z_impl_Value := @Try.zeroValue137
abbrev h_impl_Value := @Try.stoodInHeld137
abbrev q_impl_Value := @Try.eqGuardType137
theorem i_impl_Value : (Try.prog.info? 137).map (fun i => (i.size, i.bytes, i.zero)) = some (3, 32, some ((Go.Value.agg #[Go.Value.int Go.IntKind.i64 0, Go.Value.int Go.IntKind.i64 0, Go.Value.string { data := #[] }]))) := by kernel_rfl
abbrev t_impl_Version : TypeId := 139
abbrev u_impl_Version := @Try.underlying139
abbrev s_impl_Version := @Try.sizeOf139
abbrev g_impl_Version := @Try.isAgg139
abbrev z_impl_Version := @Try.zeroValue139
theorem i_impl_Version : (Try.prog.info? 139).map (fun i => (i.size, i.bytes, i.zero)) = some (4, 48, some ((Go.Value.agg #[Go.Value.int Go.IntKind.i64 0, Go.Value.int Go.IntKind.i64 0, Go.Value.int Go.IntKind.i64 0, Go.Value.slice none 0 0]))) := by kernel_rfl
theorem i_laws_Table : (Try.prog.info? 151).map (fun i => (i.size, i.bytes, i.zero)) = some (2, 48, some ((Go.Value.agg #[Go.Value.slice none 0 0, Go.Value.slice none 0 0]))) := by kernel_rfl
abbrev u_Limpl_Column := @Try.underlying155
theorem i_Limpl_Column : (Try.prog.info? 155).map (fun i => (i.size, i.bytes, i.zero)) = some (1, 24, some ((Go.Value.slice none 0 0))) := by kernel_rfl
theorem i_impl_Table : (Try.prog.info? 157).map (fun i => (i.size, i.bytes, i.zero)) = some (2, 48, some ((Go.Value.agg #[Go.Value.slice none 0 0, Go.Value.slice none 0 0]))) := by kernel_rfl
abbrev u_map_int_bool := @Try.underlying177
theorem i_impl_Delta : (Try.prog.info? 203).map (fun i => (i.size, i.bytes, i.zero)) = some (2, 32, some ((Go.Value.agg #[Go.Value.slice none 0 0, Go.Value.int Go.IntKind.i64 0]))) := by kernel_rfl
theorem i_laws_Ask : (Try.prog.info? 207).map (fun i => (i.size, i.bytes, i.zero)) = some (3, 24, some ((Go.Value.agg #[Go.Value.int Go.IntKind.i64 0, Go.Value.int Go.IntKind.i64 0, Go.Value.int Go.IntKind.i64 0]))) := by kernel_rfl
theorem i_laws_Version : (Try.prog.info? 211).map (fun i => (i.size, i.bytes, i.zero)) = some (4, 48, some ((Go.Value.agg #[Go.Value.int Go.IntKind.i64 0, Go.Value.int Go.IntKind.i64 0, Go.Value.int Go.IntKind.i64 0, Go.Value.slice none 0 0]))) := by kernel_rfl
theorem i_laws_Txn : (Try.prog.info? 215).map (fun i => (i.size, i.bytes, i.zero)) = some (5, 72, some ((Go.Value.agg #[Go.Value.int Go.IntKind.i64 0, Go.Value.int Go.IntKind.i64 0, Go.Value.int Go.IntKind.i64 0, Go.Value.slice none 0 0, Go.Value.slice none 0 0]))) := by kernel_rfl
theorem i_laws_Value : (Try.prog.info? 225).map (fun i => (i.size, i.bytes, i.zero)) = some (3, 32, some ((Go.Value.agg #[Go.Value.int Go.IntKind.i64 0, Go.Value.int Go.IntKind.i64 0, Go.Value.string { data := #[] }]))) := by kernel_rfl
abbrev t_impl_Column : TypeId := 234
abbrev u_impl_Column := @Try.underlying234
abbrev s_impl_Column := @Try.sizeOf234
abbrev g_impl_Column := @Try.isAgg234
abbrev z_impl_Column := @Try.zeroValue234
theorem i_impl_Column : (Try.prog.info? 234).map (fun i => (i.size, i.bytes, i.zero)) = some (2, 16, some ((Go.Value.agg #[Go.Value.int Go.IntKind.i64 0, Go.Value.bool false]))) := by kernel_rfl
abbrev t_spec_l20Rd : TypeId := 236
abbrev u_spec_l20Rd := @Try.underlying236
abbrev z_spec_l20Rd := @Try.zeroValue236
abbrev u_Limpl_Move := @Try.underlying247
theorem i_impl_made : (Try.prog.info? 258).map (fun i => (i.size, i.bytes, i.zero)) = some (2, 32, some ((Go.Value.agg #[Go.Value.slice none 0 0, Go.Value.int Go.IntKind.i64 0]))) := by kernel_rfl
theorem i_laws_Column : (Try.prog.info? 282).map (fun i => (i.size, i.bytes, i.zero)) = some (2, 16, some ((Go.Value.agg #[Go.Value.int Go.IntKind.i64 0, Go.Value.bool false]))) := by kernel_rfl
abbrev t_impl_Move : TypeId := 298
abbrev u_impl_Move := @Try.underlying298
abbrev s_impl_Move := @Try.sizeOf298
abbrev g_impl_Move := @Try.isAgg298
abbrev z_impl_Move := @Try.zeroValue298
theorem i_impl_Move : (Try.prog.info? 298).map (fun i => (i.size, i.bytes, i.zero)) = some (4, 48, some ((Go.Value.agg #[Go.Value.int Go.IntKind.i64 0, Go.Value.int Go.IntKind.i64 0, Go.Value.int Go.IntKind.i64 0, Go.Value.slice none 0 0]))) := by kernel_rfl
theorem i_laws_Write : (Try.prog.info? 313).map (fun i => (i.size, i.bytes, i.zero)) = some (3, 40, some ((Go.Value.agg #[Go.Value.int Go.IntKind.i64 0, Go.Value.slice none 0 0, Go.Value.bool false]))) := by kernel_rfl
theorem i_impl_Part : (Try.prog.info? 339).map (fun i => (i.size, i.bytes, i.zero)) = some (5, 48, some ((Go.Value.agg #[Go.Value.int Go.IntKind.i64 0, Go.Value.int Go.IntKind.i64 0, Go.Value.int Go.IntKind.i64 0, Go.Value.int Go.IntKind.i64 0, Go.Value.string { data := #[] }]))) := by kernel_rfl
abbrev u_Lstring := @Try.underlying360
theorem mixed : Try.prog.follows .mixedOrders = true := by kernel_rfl
end Go.Proofs.Ytdkpmckpcejceaa
