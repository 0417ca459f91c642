/- The numbers of functions and types, by name. -/
import Derived.Test.YtdkpmckpcejceaaProg
import Derived.KernelRfl
set_option linter.unusedVariables false
set_option linter.unusedSimpArgs false
set_option linter.unnecessarySimpa false
set_option maxHeartbeats 4000000
namespace Go.Proofs.Ytdkpmckpcejceaa
open Go.Proofs
/- The numbers of functions and types, by name, and the facts of the load under these names. Written by a program of this claim's work. -/
abbrev f_laws_FnLockWaits : FuncId := 6
abbrev F_laws_FnLockWaits := @Try.func6
abbrev n_laws_FnLockWaits := @Try.ntmps6
abbrev e_laws_FnLockWaits := @Try.call6
abbrev f_spec_DrawLockWaits : FuncId := 41
abbrev F_spec_DrawLockWaits := @Try.func41
abbrev n_spec_DrawLockWaits := @Try.ntmps41
abbrev e_spec_DrawLockWaits := @Try.call41
abbrev f_impl_LockWaits : FuncId := 42
abbrev F_impl_LockWaits := @Try.func42
abbrev n_impl_LockWaits := @Try.ntmps42
abbrev e_impl_LockWaits := @Try.call42
abbrev f_laws_sameInts : FuncId := 43
abbrev F_laws_sameInts := @Try.func43
abbrev n_laws_sameInts := @Try.ntmps43
abbrev e_laws_sameInts := @Try.call43
abbrev f_spec_LockWaits : FuncId := 44
abbrev F_spec_LockWaits := @Try.func44
abbrev n_spec_LockWaits := @Try.ntmps44
abbrev e_spec_LockWaits := @Try.call44
abbrev f_impl_LocksOk : FuncId := 45
abbrev F_impl_LocksOk := @Try.func45
abbrev n_impl_LocksOk := @Try.ntmps45
abbrev e_impl_LocksOk := @Try.call45
abbrev f_laws_alive : FuncId := 46
abbrev F_laws_alive := @Try.func46
abbrev n_laws_alive := @Try.ntmps46
abbrev e_laws_alive := @Try.call46
abbrev f_laws_hasInt : FuncId := 47
abbrev F_laws_hasInt := @Try.func47
abbrev n_laws_hasInt := @Try.ntmps47
abbrev e_laws_hasInt := @Try.call47
abbrev f_spec_l1In : FuncId := 84
abbrev F_spec_l1In := @Try.func84
abbrev n_spec_l1In := @Try.ntmps84
abbrev e_spec_l1In := @Try.call84
abbrev f_impl_between : FuncId := 90
abbrev F_impl_between := @Try.func90
abbrev n_impl_between := @Try.ntmps90
abbrev e_impl_between := @Try.call90
abbrev f_impl_keyOk : FuncId := 91
abbrev F_impl_keyOk := @Try.func91
abbrev n_impl_keyOk := @Try.ntmps91
abbrev e_impl_keyOk := @Try.call91
abbrev f_spec_l20Open : FuncId := 114
abbrev F_spec_l20Open := @Try.func114
abbrev n_spec_l20Open := @Try.ntmps114
abbrev e_spec_l20Open := @Try.call114
abbrev f_spec_l20Locks : FuncId := 115
abbrev F_spec_l20Locks := @Try.func115
abbrev n_spec_l20Locks := @Try.ntmps115
abbrev e_spec_l20Locks := @Try.call115
abbrev f_Pspec_l20Rd_pick : FuncId := 116
abbrev F_Pspec_l20Rd_pick := @Try.func116
abbrev n_Pspec_l20Rd_pick := @Try.ntmps116
abbrev e_Pspec_l20Rd_pick := @Try.call116
abbrev f_impl_Locks_waitsFor : FuncId := 117
abbrev F_impl_Locks_waitsFor := @Try.func117
abbrev n_impl_Locks_waitsFor := @Try.ntmps117
abbrev e_impl_Locks_waitsFor := @Try.call117
abbrev f_spec_LocksOk : FuncId := 118
abbrev F_spec_LocksOk := @Try.func118
abbrev n_spec_LocksOk := @Try.ntmps118
abbrev e_spec_LocksOk := @Try.call118
abbrev f_spec_l17Waits : FuncId := 119
abbrev F_spec_l17Waits := @Try.func119
abbrev n_spec_l17Waits := @Try.ntmps119
abbrev e_spec_l17Waits := @Try.call119
abbrev f_spec_l17Against : FuncId := 120
abbrev F_spec_l17Against := @Try.func120
abbrev n_spec_l17Against := @Try.ntmps120
abbrev e_spec_l17Against := @Try.call120
abbrev f_impl_Ask_ok : FuncId := 121
abbrev F_impl_Ask_ok := @Try.func121
abbrev n_impl_Ask_ok := @Try.ntmps121
abbrev e_impl_Ask_ok := @Try.call121
abbrev f_slices_ContainsFunc_Limpl_Ask_impl_Ask : FuncId := 122
abbrev F_slices_ContainsFunc_Limpl_Ask_impl_Ask := @Try.func122
abbrev n_slices_ContainsFunc_Limpl_Ask_impl_Ask := @Try.ntmps122
abbrev e_slices_ContainsFunc_Limpl_Ask_impl_Ask := @Try.call122
abbrev f_impl_LocksOk_1 : FuncId := 123
abbrev F_impl_LocksOk_1 := @Try.func123
abbrev n_impl_LocksOk_1 := @Try.ntmps123
abbrev e_impl_LocksOk_1 := @Try.call123
abbrev f_impl_Ask_against : FuncId := 124
abbrev F_impl_Ask_against := @Try.func124
abbrev n_impl_Ask_against := @Try.ntmps124
abbrev e_impl_Ask_against := @Try.call124
abbrev f_impl_LocksOk_2 : FuncId := 125
abbrev F_impl_LocksOk_2 := @Try.func125
abbrev n_impl_LocksOk_2 := @Try.ntmps125
abbrev e_impl_LocksOk_2 := @Try.call125
abbrev f_impl_LocksOk_3 : FuncId := 126
abbrev F_impl_LocksOk_3 := @Try.func126
abbrev n_impl_LocksOk_3 := @Try.ntmps126
abbrev e_impl_LocksOk_3 := @Try.call126
abbrev f_impl_Ask_covers : FuncId := 127
abbrev F_impl_Ask_covers := @Try.func127
abbrev n_impl_Ask_covers := @Try.ntmps127
abbrev e_impl_Ask_covers := @Try.call127
abbrev f_impl_Locks_free : FuncId := 128
abbrev F_impl_Locks_free := @Try.func128
abbrev n_impl_Locks_free := @Try.ntmps128
abbrev e_impl_Locks_free := @Try.call128
abbrev f_impl_ValueOk : FuncId := 129
abbrev F_impl_ValueOk := @Try.func129
abbrev n_impl_ValueOk := @Try.ntmps129
abbrev e_impl_ValueOk := @Try.call129
abbrev f_impl_clone_int : FuncId := 170
abbrev F_impl_clone_int := @Try.func170
abbrev n_impl_clone_int := @Try.ntmps170
abbrev e_impl_clone_int := @Try.call170
abbrev f_spec_LockAsk : FuncId := 195
abbrev F_spec_LockAsk := @Try.func195
abbrev n_spec_LockAsk := @Try.ntmps195
abbrev e_spec_LockAsk := @Try.call195
abbrev f_spec_l20Ask : FuncId := 196
abbrev F_spec_l20Ask := @Try.func196
abbrev n_spec_l20Ask := @Try.ntmps196
abbrev e_spec_l20Ask := @Try.call196
abbrev f_spec_LockFree : FuncId := 197
abbrev F_spec_LockFree := @Try.func197
abbrev n_spec_LockFree := @Try.ntmps197
abbrev e_spec_LockFree := @Try.call197
abbrev f_Pspec_l20Rd_odd : FuncId := 198
abbrev F_Pspec_l20Rd_odd := @Try.func198
abbrev n_Pspec_l20Rd_odd := @Try.ntmps198
abbrev e_Pspec_l20Rd_odd := @Try.call198
abbrev f_slices_IndexFunc_Limpl_Ask_impl_Ask : FuncId := 199
abbrev F_slices_IndexFunc_Limpl_Ask_impl_Ask := @Try.func199
abbrev n_slices_IndexFunc_Limpl_Ask_impl_Ask := @Try.ntmps199
abbrev e_slices_IndexFunc_Limpl_Ask_impl_Ask := @Try.call199
abbrev f_impl_Locks_waitsFor_1 : FuncId := 200
abbrev F_impl_Locks_waitsFor_1 := @Try.func200
abbrev n_impl_Locks_waitsFor_1 := @Try.ntmps200
abbrev e_impl_Locks_waitsFor_1 := @Try.call200
abbrev f_slices_Sort_Lint_int : FuncId := 201
abbrev f_slices_Compact_Lint_int : FuncId := 202
abbrev F_slices_Compact_Lint_int := @Try.func202
abbrev n_slices_Compact_Lint_int := @Try.ntmps202
abbrev e_slices_Compact_Lint_int := @Try.call202
abbrev f_spec_l17Ask : FuncId := 203
abbrev F_spec_l17Ask := @Try.func203
abbrev n_spec_l17Ask := @Try.ntmps203
abbrev e_spec_l17Ask := @Try.call203
abbrev f_spec_l17Held : FuncId := 204
abbrev F_spec_l17Held := @Try.func204
abbrev n_spec_l17Held := @Try.ntmps204
abbrev e_spec_l17Held := @Try.call204
abbrev f_spec_l17Blocked : FuncId := 205
abbrev F_spec_l17Blocked := @Try.func205
abbrev n_spec_l17Blocked := @Try.ntmps205
abbrev e_spec_l17Blocked := @Try.call205
abbrev f_spec_l17Ready : FuncId := 206
abbrev F_spec_l17Ready := @Try.func206
abbrev n_spec_l17Ready := @Try.ntmps206
abbrev e_spec_l17Ready := @Try.call206
abbrev f_impl_Locks_free_1 : FuncId := 207
abbrev F_impl_Locks_free_1 := @Try.func207
abbrev n_impl_Locks_free_1 := @Try.ntmps207
abbrev e_impl_Locks_free_1 := @Try.call207
abbrev f_impl_Value_ok : FuncId := 208
abbrev F_impl_Value_ok := @Try.func208
abbrev n_impl_Value_ok := @Try.ntmps208
abbrev e_impl_Value_ok := @Try.call208
abbrev f_slices_Clip_Lint_int : FuncId := 250
abbrev F_slices_Clip_Lint_int := @Try.func250
abbrev n_slices_Clip_Lint_int := @Try.ntmps250
abbrev e_slices_Clip_Lint_int := @Try.call250
abbrev f_spec_l17Grant : FuncId := 267
abbrev F_spec_l17Grant := @Try.func267
abbrev n_spec_l17Grant := @Try.ntmps267
abbrev e_spec_l17Grant := @Try.call267
abbrev f_spec_l17Settle : FuncId := 268
abbrev F_spec_l17Settle := @Try.func268
abbrev n_spec_l17Settle := @Try.ntmps268
abbrev e_spec_l17Settle := @Try.call268
abbrev f_impl_letters : FuncId := 271
abbrev F_impl_letters := @Try.func271
abbrev n_impl_letters := @Try.ntmps271
abbrev e_impl_letters := @Try.call271
abbrev u_int := @Try.underlying3
abbrev s_int := @Try.sizeOf3
abbrev g_int := @Try.isAgg3
abbrev z_int := @Try.zeroValue3
theorem i_int : (Try.prog.info? 3).map (fun i => (i.size, i.bytes, i.zero)) = some (1, 8, some ((Go.Value.int Go.IntKind.i64 0))) := by kernel_rfl
abbrev u_bool := @Try.underlying4
theorem i_bool : (Try.prog.info? 4).map (fun i => (i.size, i.bytes, i.zero)) = some (1, 1, some ((Go.Value.bool false))) := by kernel_rfl
abbrev u_uint8 := @Try.underlying5
abbrev s_uint8 := @Try.sizeOf5
abbrev g_uint8 := @Try.isAgg5
theorem i_uint8 : (Try.prog.info? 5).map (fun i => (i.size, i.bytes, i.zero)) = some (1, 1, some ((Go.Value.int Go.IntKind.u8 0))) := by kernel_rfl
abbrev u_string := @Try.underlying9
abbrev s_string := @Try.sizeOf9
abbrev g_string := @Try.isAgg9
theorem i_string : (Try.prog.info? 9).map (fun i => (i.size, i.bytes, i.zero)) = some (1, 16, some ((Go.Value.string { data := #[] }))) := by kernel_rfl
abbrev u_Lint := @Try.underlying26
abbrev u_Limpl_Ask := @Try.underlying28
abbrev s_Limpl_Ask := @Try.sizeOf28
abbrev g_Limpl_Ask := @Try.isAgg28
abbrev t_impl_Locks : TypeId := 30
abbrev u_impl_Locks := @Try.underlying30
abbrev s_impl_Locks := @Try.sizeOf30
abbrev g_impl_Locks := @Try.isAgg30
abbrev z_impl_Locks := @Try.zeroValue30
theorem i_Limpl_Value : (Try.prog.info? 42).map (fun i => (i.size, i.bytes, i.zero)) = some (1, 24, some ((Go.Value.slice none 0 0))) := by kernel_rfl
theorem i_Llaws_Value : (Try.prog.info? 56).map (fun i => (i.size, i.bytes, i.zero)) = some (1, 24, some ((Go.Value.slice none 0 0))) := by kernel_rfl
abbrev u_Luint8 := @Try.underlying73
abbrev s_Luint8 := @Try.sizeOf73
abbrev g_Luint8 := @Try.isAgg73
abbrev t_impl_Ask : TypeId := 80
abbrev u_impl_Ask := @Try.underlying80
abbrev s_impl_Ask := @Try.sizeOf80
abbrev g_impl_Ask := @Try.isAgg80
abbrev z_impl_Ask := @Try.zeroValue80
theorem i_impl_Ask : (Try.prog.info? 80).map (fun i => (i.size, i.bytes, i.zero)) = some (3, 24, some ((Go.Value.agg #[Go.Value.int Go.IntKind.i64 0, Go.Value.int Go.IntKind.i64 0, Go.Value.int Go.IntKind.i64 0]))) := by kernel_rfl
theorem i_impl_Step : (Try.prog.info? 95).map (fun i => (i.size, i.bytes, i.zero)) = some (6, 80, some ((Go.Value.agg #[Go.Value.int Go.IntKind.i64 0, Go.Value.int Go.IntKind.i64 0, Go.Value.int Go.IntKind.i64 0, Go.Value.int Go.IntKind.i64 0, Go.Value.slice none 0 0, Go.Value.slice none 0 0]))) := by kernel_rfl
theorem i_LLimpl_Value : (Try.prog.info? 96).map (fun i => (i.size, i.bytes, i.zero)) = some (1, 24, some ((Go.Value.slice none 0 0))) := by kernel_rfl
theorem i_impl_Txn : (Try.prog.info? 125).map (fun i => (i.size, i.bytes, i.zero)) = some (5, 72, some ((Go.Value.agg #[Go.Value.int Go.IntKind.i64 0, Go.Value.int Go.IntKind.i64 0, Go.Value.int Go.IntKind.i64 0, Go.Value.slice none 0 0, Go.Value.slice none 0 0]))) := by kernel_rfl
theorem i_impl_Write : (Try.prog.info? 129).map (fun i => (i.size, i.bytes, i.zero)) = some (3, 40, some ((Go.Value.agg #[Go.Value.int Go.IntKind.i64 0, Go.Value.slice none 0 0, Go.Value.bool false]))) := by kernel_rfl
abbrev t_impl_Value : TypeId := 137
abbrev u_impl_Value := @Try.underlying137
abbrev s_impl_Value := @Try.sizeOf137
abbrev g_impl_Value := @Try.isAgg137
abbrev z_impl_Value := @Try.zeroValue137
abbrev h_impl_Value := @Try.stoodInHeld137
abbrev q_impl_Value := @Try.eqGuardType137
theorem i_impl_Value : (Try.prog.info? 137).map (fun i => (i.size, i.bytes, i.zero)) = some (3, 32, some ((Go.Value.agg #[Go.Value.int Go.IntKind.i64 0, Go.Value.int Go.IntKind.i64 0, Go.Value.string { data := #[] }]))) := by kernel_rfl
theorem i_impl_Version : (Try.prog.info? 139).map (fun i => (i.size, i.bytes, i.zero)) = some (4, 48, some ((Go.Value.agg #[Go.Value.int Go.IntKind.i64 0, Go.Value.int Go.IntKind.i64 0, Go.Value.int Go.IntKind.i64 0, Go.Value.slice none 0 0]))) := by kernel_rfl
theorem i_laws_Table : (Try.prog.info? 151).map (fun i => (i.size, i.bytes, i.zero)) = some (2, 48, some ((Go.Value.agg #[Go.Value.slice none 0 0, Go.Value.slice none 0 0]))) := by kernel_rfl
theorem i_Limpl_Column : (Try.prog.info? 155).map (fun i => (i.size, i.bytes, i.zero)) = some (1, 24, some ((Go.Value.slice none 0 0))) := by kernel_rfl
theorem i_impl_Table : (Try.prog.info? 157).map (fun i => (i.size, i.bytes, i.zero)) = some (2, 48, some ((Go.Value.agg #[Go.Value.slice none 0 0, Go.Value.slice none 0 0]))) := by kernel_rfl
theorem i_impl_Delta : (Try.prog.info? 203).map (fun i => (i.size, i.bytes, i.zero)) = some (2, 32, some ((Go.Value.agg #[Go.Value.slice none 0 0, Go.Value.int Go.IntKind.i64 0]))) := by kernel_rfl
theorem i_laws_Ask : (Try.prog.info? 207).map (fun i => (i.size, i.bytes, i.zero)) = some (3, 24, some ((Go.Value.agg #[Go.Value.int Go.IntKind.i64 0, Go.Value.int Go.IntKind.i64 0, Go.Value.int Go.IntKind.i64 0]))) := by kernel_rfl
theorem i_laws_Version : (Try.prog.info? 211).map (fun i => (i.size, i.bytes, i.zero)) = some (4, 48, some ((Go.Value.agg #[Go.Value.int Go.IntKind.i64 0, Go.Value.int Go.IntKind.i64 0, Go.Value.int Go.IntKind.i64 0, Go.Value.slice none 0 0]))) := by kernel_rfl
theorem i_laws_Txn : (Try.prog.info? 215).map (fun i => (i.size, i.bytes, i.zero)) = some (5, 72, some ((Go.Value.agg #[Go.Value.int Go.IntKind.i64 0, Go.Value.int Go.IntKind.i64 0, Go.Value.int Go.IntKind.i64 0, Go.Value.slice none 0 0, Go.Value.slice none 0 0]))) := by kernel_rfl
theorem i_laws_Value : (Try.prog.info? 225).map (fun i => (i.size, i.bytes, i.zero)) = some (3, 32, some ((Go.Value.agg #[Go.Value.int Go.IntKind.i64 0, Go.Value.int Go.IntKind.i64 0, Go.Value.string { data := #[] }]))) := by kernel_rfl
theorem i_impl_Column : (Try.prog.info? 234).map (fun i => (i.size, i.bytes, i.zero)) = some (2, 16, some ((Go.Value.agg #[Go.Value.int Go.IntKind.i64 0, Go.Value.bool false]))) := by kernel_rfl
abbrev t_spec_l20Rd : TypeId := 236
abbrev u_spec_l20Rd := @Try.underlying236
abbrev z_spec_l20Rd := @Try.zeroValue236
theorem i_impl_made : (Try.prog.info? 258).map (fun i => (i.size, i.bytes, i.zero)) = some (2, 32, some ((Go.Value.agg #[Go.Value.slice none 0 0, Go.Value.int Go.IntKind.i64 0]))) := by kernel_rfl
theorem i_laws_Column : (Try.prog.info? 282).map (fun i => (i.size, i.bytes, i.zero)) = some (2, 16, some ((Go.Value.agg #[Go.Value.int Go.IntKind.i64 0, Go.Value.bool false]))) := by kernel_rfl
theorem i_impl_Move : (Try.prog.info? 298).map (fun i => (i.size, i.bytes, i.zero)) = some (4, 48, some ((Go.Value.agg #[Go.Value.int Go.IntKind.i64 0, Go.Value.int Go.IntKind.i64 0, Go.Value.int Go.IntKind.i64 0, Go.Value.slice none 0 0]))) := by kernel_rfl
theorem i_laws_Write : (Try.prog.info? 313).map (fun i => (i.size, i.bytes, i.zero)) = some (3, 40, some ((Go.Value.agg #[Go.Value.int Go.IntKind.i64 0, Go.Value.slice none 0 0, Go.Value.bool false]))) := by kernel_rfl
theorem i_impl_Part : (Try.prog.info? 339).map (fun i => (i.size, i.bytes, i.zero)) = some (5, 48, some ((Go.Value.agg #[Go.Value.int Go.IntKind.i64 0, Go.Value.int Go.IntKind.i64 0, Go.Value.int Go.IntKind.i64 0, Go.Value.int Go.IntKind.i64 0, Go.Value.string { data := #[] }]))) := by kernel_rfl
theorem mixed : Try.prog.follows .mixedOrders = true := by kernel_rfl
end Go.Proofs.Ytdkpmckpcejceaa
