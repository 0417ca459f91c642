/- The numbers of functions and types, by name. -/
import Derived.Test.YtdkpmckpcejceaaProg
import Derived.KernelRfl
set_option linter.unusedVariables false
set_option linter.unusedSimpArgs false
set_option linter.unnecessarySimpa false
set_option maxHeartbeats 4000000
namespace Go.Proofs.Ytdkpmckpcejceaa
open Go.Proofs
/- The numbers of functions and types, by name, and the facts of the load under these names. Written by a program of this claim's work. -/
abbrev f_laws_FnExactLockRing : FuncId := 3
abbrev F_laws_FnExactLockRing := @Try.func3
abbrev n_laws_FnExactLockRing := @Try.ntmps3
abbrev e_laws_FnExactLockRing := @Try.call3
abbrev f_laws_szLocks : FuncId := 12
abbrev F_laws_szLocks := @Try.func12
abbrev n_laws_szLocks := @Try.ntmps12
abbrev e_laws_szLocks := @Try.call12
abbrev f_spec_LockRing : FuncId := 13
abbrev F_spec_LockRing := @Try.func13
abbrev n_spec_LockRing := @Try.ntmps13
abbrev e_spec_LockRing := @Try.call13
abbrev f_laws_toLocks : FuncId := 14
abbrev F_laws_toLocks := @Try.func14
abbrev n_laws_toLocks := @Try.ntmps14
abbrev e_laws_toLocks := @Try.call14
abbrev f_impl_LockRing : FuncId := 15
abbrev F_impl_LockRing := @Try.func15
abbrev n_impl_LockRing := @Try.ntmps15
abbrev e_impl_LockRing := @Try.call15
abbrev f_laws_eqIntS : FuncId := 16
abbrev F_laws_eqIntS := @Try.func16
abbrev n_laws_eqIntS := @Try.ntmps16
abbrev e_laws_eqIntS := @Try.call16
abbrev f_laws_eqLocks : FuncId := 17
abbrev F_laws_eqLocks := @Try.func17
abbrev n_laws_eqLocks := @Try.ntmps17
abbrev e_laws_eqLocks := @Try.call17
abbrev f_laws_markLocks : FuncId := 18
abbrev F_laws_markLocks := @Try.func18
abbrev n_laws_markLocks := @Try.ntmps18
abbrev e_laws_markLocks := @Try.call18
abbrev f_laws_markIntS : FuncId := 19
abbrev F_laws_markIntS := @Try.func19
abbrev n_laws_markIntS := @Try.ntmps19
abbrev e_laws_markIntS := @Try.call19
abbrev f_laws_heldIntS : FuncId := 20
abbrev F_laws_heldIntS := @Try.func20
abbrev n_laws_heldIntS := @Try.ntmps20
abbrev e_laws_heldIntS := @Try.call20
abbrev f_spec_LockWaits : FuncId := 44
abbrev F_spec_LockWaits := @Try.func44
abbrev n_spec_LockWaits := @Try.ntmps44
abbrev e_spec_LockWaits := @Try.call44
abbrev f_impl_LocksOk : FuncId := 45
abbrev F_impl_LocksOk := @Try.func45
abbrev n_impl_LocksOk := @Try.ntmps45
abbrev e_impl_LocksOk := @Try.call45
abbrev f_laws_szAskS : FuncId := 77
abbrev F_laws_szAskS := @Try.func77
abbrev n_laws_szAskS := @Try.ntmps77
abbrev e_laws_szAskS := @Try.call77
abbrev f_laws_toAskS : FuncId := 78
abbrev F_laws_toAskS := @Try.func78
abbrev n_laws_toAskS := @Try.ntmps78
abbrev e_laws_toAskS := @Try.call78
abbrev f_impl_Locks_ring : FuncId := 79
abbrev F_impl_Locks_ring := @Try.func79
abbrev n_impl_Locks_ring := @Try.ntmps79
abbrev e_impl_Locks_ring := @Try.call79
abbrev f_laws_eqAskS : FuncId := 80
abbrev F_laws_eqAskS := @Try.func80
abbrev n_laws_eqAskS := @Try.ntmps80
abbrev e_laws_eqAskS := @Try.call80
abbrev f_laws_markAskS : FuncId := 81
abbrev F_laws_markAskS := @Try.func81
abbrev n_laws_markAskS := @Try.ntmps81
abbrev e_laws_markAskS := @Try.call81
abbrev f_spec_l1In : FuncId := 84
abbrev F_spec_l1In := @Try.func84
abbrev n_spec_l1In := @Try.ntmps84
abbrev e_spec_l1In := @Try.call84
abbrev f_impl_between : FuncId := 90
abbrev F_impl_between := @Try.func90
abbrev n_impl_between := @Try.ntmps90
abbrev e_impl_between := @Try.call90
abbrev f_impl_keyOk : FuncId := 91
abbrev F_impl_keyOk := @Try.func91
abbrev n_impl_keyOk := @Try.ntmps91
abbrev e_impl_keyOk := @Try.call91
abbrev f_impl_Locks_waitsFor : FuncId := 117
abbrev F_impl_Locks_waitsFor := @Try.func117
abbrev n_impl_Locks_waitsFor := @Try.ntmps117
abbrev e_impl_Locks_waitsFor := @Try.call117
abbrev f_spec_LocksOk : FuncId := 118
abbrev F_spec_LocksOk := @Try.func118
abbrev n_spec_LocksOk := @Try.ntmps118
abbrev e_spec_LocksOk := @Try.call118
abbrev f_spec_l17Waits : FuncId := 119
abbrev F_spec_l17Waits := @Try.func119
abbrev n_spec_l17Waits := @Try.ntmps119
abbrev e_spec_l17Waits := @Try.call119
abbrev f_spec_l17Against : FuncId := 120
abbrev F_spec_l17Against := @Try.func120
abbrev n_spec_l17Against := @Try.ntmps120
abbrev e_spec_l17Against := @Try.call120
abbrev f_impl_Ask_ok : FuncId := 121
abbrev F_impl_Ask_ok := @Try.func121
abbrev n_impl_Ask_ok := @Try.ntmps121
abbrev e_impl_Ask_ok := @Try.call121
abbrev f_slices_ContainsFunc_Limpl_Ask_impl_Ask : FuncId := 122
abbrev F_slices_ContainsFunc_Limpl_Ask_impl_Ask := @Try.func122
abbrev n_slices_ContainsFunc_Limpl_Ask_impl_Ask := @Try.ntmps122
abbrev e_slices_ContainsFunc_Limpl_Ask_impl_Ask := @Try.call122
abbrev f_impl_LocksOk_1 : FuncId := 123
abbrev F_impl_LocksOk_1 := @Try.func123
abbrev n_impl_LocksOk_1 := @Try.ntmps123
abbrev e_impl_LocksOk_1 := @Try.call123
abbrev f_impl_Ask_against : FuncId := 124
abbrev F_impl_Ask_against := @Try.func124
abbrev n_impl_Ask_against := @Try.ntmps124
abbrev e_impl_Ask_against := @Try.call124
abbrev f_impl_LocksOk_2 : FuncId := 125
abbrev F_impl_LocksOk_2 := @Try.func125
abbrev n_impl_LocksOk_2 := @Try.ntmps125
abbrev e_impl_LocksOk_2 := @Try.call125
abbrev f_impl_LocksOk_3 : FuncId := 126
abbrev F_impl_LocksOk_3 := @Try.func126
abbrev n_impl_LocksOk_3 := @Try.ntmps126
abbrev e_impl_LocksOk_3 := @Try.call126
abbrev f_impl_Ask_covers : FuncId := 127
abbrev F_impl_Ask_covers := @Try.func127
abbrev n_impl_Ask_covers := @Try.ntmps127
abbrev e_impl_Ask_covers := @Try.call127
abbrev f_impl_Locks_free : FuncId := 128
abbrev F_impl_Locks_free := @Try.func128
abbrev n_impl_Locks_free := @Try.ntmps128
abbrev e_impl_Locks_free := @Try.call128
abbrev f_laws_toAsk : FuncId := 168
abbrev F_laws_toAsk := @Try.func168
abbrev n_laws_toAsk := @Try.ntmps168
abbrev e_laws_toAsk := @Try.call168
abbrev f_impl_Locks_leads : FuncId := 169
abbrev F_impl_Locks_leads := @Try.func169
abbrev n_impl_Locks_leads := @Try.ntmps169
abbrev e_impl_Locks_leads := @Try.call169
abbrev f_impl_clone_int : FuncId := 170
abbrev F_impl_clone_int := @Try.func170
abbrev n_impl_clone_int := @Try.ntmps170
abbrev e_impl_clone_int := @Try.call170
abbrev f_laws_eqAsk : FuncId := 171
abbrev F_laws_eqAsk := @Try.func171
abbrev n_laws_eqAsk := @Try.ntmps171
abbrev e_laws_eqAsk := @Try.call171
abbrev f_slices_IndexFunc_Limpl_Ask_impl_Ask : FuncId := 199
abbrev F_slices_IndexFunc_Limpl_Ask_impl_Ask := @Try.func199
abbrev n_slices_IndexFunc_Limpl_Ask_impl_Ask := @Try.ntmps199
abbrev e_slices_IndexFunc_Limpl_Ask_impl_Ask := @Try.call199
abbrev f_impl_Locks_waitsFor_1 : FuncId := 200
abbrev F_impl_Locks_waitsFor_1 := @Try.func200
abbrev n_impl_Locks_waitsFor_1 := @Try.ntmps200
abbrev e_impl_Locks_waitsFor_1 := @Try.call200
abbrev f_slices_Sort_Lint_int : FuncId := 201
abbrev f_slices_Compact_Lint_int : FuncId := 202
abbrev F_slices_Compact_Lint_int := @Try.func202
abbrev n_slices_Compact_Lint_int := @Try.ntmps202
abbrev e_slices_Compact_Lint_int := @Try.call202
abbrev f_spec_l17Ask : FuncId := 203
abbrev F_spec_l17Ask := @Try.func203
abbrev n_spec_l17Ask := @Try.ntmps203
abbrev e_spec_l17Ask := @Try.call203
abbrev f_spec_l17Held : FuncId := 204
abbrev F_spec_l17Held := @Try.func204
abbrev n_spec_l17Held := @Try.ntmps204
abbrev e_spec_l17Held := @Try.call204
abbrev f_spec_l17Blocked : FuncId := 205
abbrev F_spec_l17Blocked := @Try.func205
abbrev n_spec_l17Blocked := @Try.ntmps205
abbrev e_spec_l17Blocked := @Try.call205
abbrev f_spec_l17Ready : FuncId := 206
abbrev F_spec_l17Ready := @Try.func206
abbrev n_spec_l17Ready := @Try.ntmps206
abbrev e_spec_l17Ready := @Try.call206
abbrev f_impl_Locks_free_1 : FuncId := 207
abbrev F_impl_Locks_free_1 := @Try.func207
abbrev n_impl_Locks_free_1 := @Try.ntmps207
abbrev e_impl_Locks_free_1 := @Try.call207
abbrev f_slices_Clip_Lint_int : FuncId := 250
abbrev F_slices_Clip_Lint_int := @Try.func250
abbrev n_slices_Clip_Lint_int := @Try.ntmps250
abbrev e_slices_Clip_Lint_int := @Try.call250
abbrev t_int : TypeId := 3
abbrev u_int := @Try.underlying3
abbrev s_int := @Try.sizeOf3
abbrev g_int := @Try.isAgg3
abbrev z_int := @Try.zeroValue3
theorem i_int : (Try.prog.info? 3).map (fun i => (i.size, i.bytes, i.zero)) = some (1, 8, some ((Go.Value.int Go.IntKind.i64 0))) := by kernel_rfl
abbrev s_bool := @Try.sizeOf4
abbrev g_bool := @Try.isAgg4
abbrev z_bool := @Try.zeroValue4
theorem i_bool : (Try.prog.info? 4).map (fun i => (i.size, i.bytes, i.zero)) = some (1, 1, some ((Go.Value.bool false))) := by kernel_rfl
theorem i_uint8 : (Try.prog.info? 5).map (fun i => (i.size, i.bytes, i.zero)) = some (1, 1, some ((Go.Value.int Go.IntKind.u8 0))) := by kernel_rfl
theorem i_string : (Try.prog.info? 9).map (fun i => (i.size, i.bytes, i.zero)) = some (1, 16, some ((Go.Value.string { data := #[] }))) := by kernel_rfl
abbrev t_Llaws_Ask : TypeId := 22
abbrev u_Llaws_Ask := @Try.underlying22
abbrev s_Llaws_Ask := @Try.sizeOf22
abbrev g_Llaws_Ask := @Try.isAgg22
abbrev t_laws_Locks : TypeId := 24
abbrev u_laws_Locks := @Try.underlying24
abbrev s_laws_Locks := @Try.sizeOf24
abbrev g_laws_Locks := @Try.isAgg24
abbrev u_Lint := @Try.underlying26
abbrev u_Limpl_Ask := @Try.underlying28
abbrev s_Limpl_Ask := @Try.sizeOf28
abbrev g_Limpl_Ask := @Try.isAgg28
abbrev t_impl_Locks : TypeId := 30
abbrev u_impl_Locks := @Try.underlying30
abbrev s_impl_Locks := @Try.sizeOf30
abbrev g_impl_Locks := @Try.isAgg30
abbrev z_impl_Locks := @Try.zeroValue30
theorem i_Limpl_Value : (Try.prog.info? 42).map (fun i => (i.size, i.bytes, i.zero)) = some (1, 24, some ((Go.Value.slice none 0 0))) := by kernel_rfl
theorem i_Llaws_Value : (Try.prog.info? 56).map (fun i => (i.size, i.bytes, i.zero)) = some (1, 24, some ((Go.Value.slice none 0 0))) := by kernel_rfl
abbrev t_impl_Ask : TypeId := 80
abbrev u_impl_Ask := @Try.underlying80
abbrev s_impl_Ask := @Try.sizeOf80
abbrev g_impl_Ask := @Try.isAgg80
abbrev z_impl_Ask := @Try.zeroValue80
abbrev h_impl_Ask := @Try.stoodInHeld80
abbrev q_impl_Ask := @Try.eqGuardType80
theorem i_impl_Ask : (Try.prog.info? 80).map (fun i => (i.size, i.bytes, i.zero)) = some (3, 24, some ((Go.Value.agg #[Go.Value.int Go.IntKind.i64 0, Go.Value.int Go.IntKind.i64 0, Go.Value.int Go.IntKind.i64 0]))) := by kernel_rfl
theorem i_impl_Step : (Try.prog.info? 95).map (fun i => (i.size, i.bytes, i.zero)) = some (6, 80, some ((Go.Value.agg #[Go.Value.int Go.IntKind.i64 0, Go.Value.int Go.IntKind.i64 0, Go.Value.int Go.IntKind.i64 0, Go.Value.int Go.IntKind.i64 0, Go.Value.slice none 0 0, Go.Value.slice none 0 0]))) := by kernel_rfl
theorem i_LLimpl_Value : (Try.prog.info? 96).map (fun i => (i.size, i.bytes, i.zero)) = some (1, 24, some ((Go.Value.slice none 0 0))) := by kernel_rfl
abbrev u_Lbool := @Try.underlying115
theorem i_impl_Txn : (Try.prog.info? 125).map (fun i => (i.size, i.bytes, i.zero)) = some (5, 72, some ((Go.Value.agg #[Go.Value.int Go.IntKind.i64 0, Go.Value.int Go.IntKind.i64 0, Go.Value.int Go.IntKind.i64 0, Go.Value.slice none 0 0, Go.Value.slice none 0 0]))) := by kernel_rfl
theorem i_impl_Write : (Try.prog.info? 129).map (fun i => (i.size, i.bytes, i.zero)) = some (3, 40, some ((Go.Value.agg #[Go.Value.int Go.IntKind.i64 0, Go.Value.slice none 0 0, Go.Value.bool false]))) := by kernel_rfl
theorem i_impl_Value : (Try.prog.info? 137).map (fun i => (i.size, i.bytes, i.zero)) = some (3, 32, some ((Go.Value.agg #[Go.Value.int Go.IntKind.i64 0, Go.Value.int Go.IntKind.i64 0, Go.Value.string { data := #[] }]))) := by kernel_rfl
theorem i_impl_Version : (Try.prog.info? 139).map (fun i => (i.size, i.bytes, i.zero)) = some (4, 48, some ((Go.Value.agg #[Go.Value.int Go.IntKind.i64 0, Go.Value.int Go.IntKind.i64 0, Go.Value.int Go.IntKind.i64 0, Go.Value.slice none 0 0]))) := by kernel_rfl
theorem i_laws_Table : (Try.prog.info? 151).map (fun i => (i.size, i.bytes, i.zero)) = some (2, 48, some ((Go.Value.agg #[Go.Value.slice none 0 0, Go.Value.slice none 0 0]))) := by kernel_rfl
theorem i_Limpl_Column : (Try.prog.info? 155).map (fun i => (i.size, i.bytes, i.zero)) = some (1, 24, some ((Go.Value.slice none 0 0))) := by kernel_rfl
theorem i_impl_Table : (Try.prog.info? 157).map (fun i => (i.size, i.bytes, i.zero)) = some (2, 48, some ((Go.Value.agg #[Go.Value.slice none 0 0, Go.Value.slice none 0 0]))) := by kernel_rfl
abbrev u_map_int_bool := @Try.underlying177
theorem i_impl_Delta : (Try.prog.info? 203).map (fun i => (i.size, i.bytes, i.zero)) = some (2, 32, some ((Go.Value.agg #[Go.Value.slice none 0 0, Go.Value.int Go.IntKind.i64 0]))) := by kernel_rfl
abbrev t_laws_Ask : TypeId := 207
abbrev u_laws_Ask := @Try.underlying207
abbrev s_laws_Ask := @Try.sizeOf207
abbrev g_laws_Ask := @Try.isAgg207
theorem i_laws_Ask : (Try.prog.info? 207).map (fun i => (i.size, i.bytes, i.zero)) = some (3, 24, some ((Go.Value.agg #[Go.Value.int Go.IntKind.i64 0, Go.Value.int Go.IntKind.i64 0, Go.Value.int Go.IntKind.i64 0]))) := by kernel_rfl
theorem i_laws_Version : (Try.prog.info? 211).map (fun i => (i.size, i.bytes, i.zero)) = some (4, 48, some ((Go.Value.agg #[Go.Value.int Go.IntKind.i64 0, Go.Value.int Go.IntKind.i64 0, Go.Value.int Go.IntKind.i64 0, Go.Value.slice none 0 0]))) := by kernel_rfl
theorem i_laws_Txn : (Try.prog.info? 215).map (fun i => (i.size, i.bytes, i.zero)) = some (5, 72, some ((Go.Value.agg #[Go.Value.int Go.IntKind.i64 0, Go.Value.int Go.IntKind.i64 0, Go.Value.int Go.IntKind.i64 0, Go.Value.slice none 0 0, Go.Value.slice none 0 0]))) := by kernel_rfl
theorem i_laws_Value : (Try.prog.info? 225).map (fun i => (i.size, i.bytes, i.zero)) = some (3, 32, some ((Go.Value.agg #[Go.Value.int Go.IntKind.i64 0, Go.Value.int Go.IntKind.i64 0, Go.Value.string { data := #[] }]))) := by kernel_rfl
theorem i_impl_Column : (Try.prog.info? 234).map (fun i => (i.size, i.bytes, i.zero)) = some (2, 16, some ((Go.Value.agg #[Go.Value.int Go.IntKind.i64 0, Go.Value.bool false]))) := by kernel_rfl
theorem i_impl_made : (Try.prog.info? 258).map (fun i => (i.size, i.bytes, i.zero)) = some (2, 32, some ((Go.Value.agg #[Go.Value.slice none 0 0, Go.Value.int Go.IntKind.i64 0]))) := by kernel_rfl
theorem i_laws_Column : (Try.prog.info? 282).map (fun i => (i.size, i.bytes, i.zero)) = some (2, 16, some ((Go.Value.agg #[Go.Value.int Go.IntKind.i64 0, Go.Value.bool false]))) := by kernel_rfl
theorem i_impl_Move : (Try.prog.info? 298).map (fun i => (i.size, i.bytes, i.zero)) = some (4, 48, some ((Go.Value.agg #[Go.Value.int Go.IntKind.i64 0, Go.Value.int Go.IntKind.i64 0, Go.Value.int Go.IntKind.i64 0, Go.Value.slice none 0 0]))) := by kernel_rfl
theorem i_laws_Write : (Try.prog.info? 313).map (fun i => (i.size, i.bytes, i.zero)) = some (3, 40, some ((Go.Value.agg #[Go.Value.int Go.IntKind.i64 0, Go.Value.slice none 0 0, Go.Value.bool false]))) := by kernel_rfl
theorem i_impl_Part : (Try.prog.info? 339).map (fun i => (i.size, i.bytes, i.zero)) = some (5, 48, some ((Go.Value.agg #[Go.Value.int Go.IntKind.i64 0, Go.Value.int Go.IntKind.i64 0, Go.Value.int Go.IntKind.i64 0, Go.Value.int Go.IntKind.i64 0, Go.Value.string { data := #[] }]))) := by kernel_rfl
theorem mixed : Try.prog.follows .mixedOrders = true := by kernel_rfl
end Go.Proofs.Ytdkpmckpcejceaa
