/- The numbers of functions and types, by name. -/
import Derived.Test.YtjmeoggmdnlicaaProg
import Derived.KernelRfl
set_option linter.unusedVariables false
set_option linter.unusedSimpArgs false
set_option linter.unnecessarySimpa false
set_option maxHeartbeats 4000000
namespace Go.Proofs.Ytjmeoggmdnlicaa
open Go.Proofs
/- The numbers of functions and types, by name, and the facts of the load under these names. Written by a program of this claim's work. -/
abbrev f_laws_FnExactLockWaits : FuncId := 5
abbrev F_laws_FnExactLockWaits := @Try.func5
abbrev n_laws_FnExactLockWaits := @Try.ntmps5
abbrev e_laws_FnExactLockWaits := @Try.call5
abbrev f_laws_szLocks : FuncId := 35
abbrev F_laws_szLocks := @Try.func35
abbrev n_laws_szLocks := @Try.ntmps35
abbrev e_laws_szLocks := @Try.call35
abbrev f_spec_LockWaits : FuncId := 36
abbrev F_spec_LockWaits := @Try.func36
abbrev n_spec_LockWaits := @Try.ntmps36
abbrev e_spec_LockWaits := @Try.call36
abbrev f_laws_toLocks : FuncId := 37
abbrev F_laws_toLocks := @Try.func37
abbrev n_laws_toLocks := @Try.ntmps37
abbrev e_laws_toLocks := @Try.call37
abbrev f_impl_LockWaits : FuncId := 38
abbrev F_impl_LockWaits := @Try.func38
abbrev n_impl_LockWaits := @Try.ntmps38
abbrev e_impl_LockWaits := @Try.call38
abbrev f_laws_eqIntS : FuncId := 39
abbrev F_laws_eqIntS := @Try.func39
abbrev n_laws_eqIntS := @Try.ntmps39
abbrev e_laws_eqIntS := @Try.call39
abbrev f_laws_eqLocks : FuncId := 40
abbrev F_laws_eqLocks := @Try.func40
abbrev n_laws_eqLocks := @Try.ntmps40
abbrev e_laws_eqLocks := @Try.call40
abbrev f_laws_markLocks : FuncId := 41
abbrev F_laws_markLocks := @Try.func41
abbrev n_laws_markLocks := @Try.ntmps41
abbrev e_laws_markLocks := @Try.call41
abbrev f_laws_markIntS : FuncId := 42
abbrev F_laws_markIntS := @Try.func42
abbrev n_laws_markIntS := @Try.ntmps42
abbrev e_laws_markIntS := @Try.call42
abbrev f_laws_heldIntS : FuncId := 43
abbrev F_laws_heldIntS := @Try.func43
abbrev n_laws_heldIntS := @Try.ntmps43
abbrev e_laws_heldIntS := @Try.call43
abbrev f_spec_l1In : FuncId := 107
abbrev F_spec_l1In := @Try.func107
abbrev n_spec_l1In := @Try.ntmps107
abbrev e_spec_l1In := @Try.call107
abbrev f_impl_between : FuncId := 112
abbrev F_impl_between := @Try.func112
abbrev n_impl_between := @Try.ntmps112
abbrev e_impl_between := @Try.call112
abbrev f_impl_keyOk : FuncId := 113
abbrev F_impl_keyOk := @Try.func113
abbrev n_impl_keyOk := @Try.ntmps113
abbrev e_impl_keyOk := @Try.call113
abbrev f_laws_szAskS : FuncId := 121
abbrev F_laws_szAskS := @Try.func121
abbrev n_laws_szAskS := @Try.ntmps121
abbrev e_laws_szAskS := @Try.call121
abbrev f_spec_LocksOk : FuncId := 122
abbrev F_spec_LocksOk := @Try.func122
abbrev n_spec_LocksOk := @Try.ntmps122
abbrev e_spec_LocksOk := @Try.call122
abbrev f_spec_l17Waits : FuncId := 123
abbrev F_spec_l17Waits := @Try.func123
abbrev n_spec_l17Waits := @Try.ntmps123
abbrev e_spec_l17Waits := @Try.call123
abbrev f_spec_l17Against : FuncId := 124
abbrev F_spec_l17Against := @Try.func124
abbrev n_spec_l17Against := @Try.ntmps124
abbrev e_spec_l17Against := @Try.call124
abbrev f_laws_toAskS : FuncId := 125
abbrev F_laws_toAskS := @Try.func125
abbrev n_laws_toAskS := @Try.ntmps125
abbrev e_laws_toAskS := @Try.call125
abbrev f_impl_LocksOk : FuncId := 126
abbrev F_impl_LocksOk := @Try.func126
abbrev n_impl_LocksOk := @Try.ntmps126
abbrev e_impl_LocksOk := @Try.call126
abbrev f_impl_Locks_waitsFor : FuncId := 127
abbrev F_impl_Locks_waitsFor := @Try.func127
abbrev n_impl_Locks_waitsFor := @Try.ntmps127
abbrev e_impl_Locks_waitsFor := @Try.call127
abbrev f_laws_eqAskS : FuncId := 128
abbrev F_laws_eqAskS := @Try.func128
abbrev n_laws_eqAskS := @Try.ntmps128
abbrev e_laws_eqAskS := @Try.call128
abbrev f_laws_markAskS : FuncId := 129
abbrev F_laws_markAskS := @Try.func129
abbrev n_laws_markAskS := @Try.ntmps129
abbrev e_laws_markAskS := @Try.call129
abbrev f_spec_l17Ask : FuncId := 216
abbrev F_spec_l17Ask := @Try.func216
abbrev n_spec_l17Ask := @Try.ntmps216
abbrev e_spec_l17Ask := @Try.call216
abbrev f_spec_l17Held : FuncId := 217
abbrev F_spec_l17Held := @Try.func217
abbrev n_spec_l17Held := @Try.ntmps217
abbrev e_spec_l17Held := @Try.call217
abbrev f_spec_l17Blocked : FuncId := 218
abbrev F_spec_l17Blocked := @Try.func218
abbrev n_spec_l17Blocked := @Try.ntmps218
abbrev e_spec_l17Blocked := @Try.call218
abbrev f_spec_l17Ready : FuncId := 219
abbrev F_spec_l17Ready := @Try.func219
abbrev n_spec_l17Ready := @Try.ntmps219
abbrev e_spec_l17Ready := @Try.call219
abbrev f_laws_toAsk : FuncId := 220
abbrev F_laws_toAsk := @Try.func220
abbrev n_laws_toAsk := @Try.ntmps220
abbrev e_laws_toAsk := @Try.call220
abbrev f_impl_Ask_ok : FuncId := 221
abbrev F_impl_Ask_ok := @Try.func221
abbrev n_impl_Ask_ok := @Try.ntmps221
abbrev e_impl_Ask_ok := @Try.call221
abbrev f_slices_ContainsFunc_Limpl_Ask_impl_Ask : FuncId := 222
abbrev F_slices_ContainsFunc_Limpl_Ask_impl_Ask := @Try.func222
abbrev n_slices_ContainsFunc_Limpl_Ask_impl_Ask := @Try.ntmps222
abbrev e_slices_ContainsFunc_Limpl_Ask_impl_Ask := @Try.call222
abbrev f_impl_LocksOk_1 : FuncId := 223
abbrev F_impl_LocksOk_1 := @Try.func223
abbrev n_impl_LocksOk_1 := @Try.ntmps223
abbrev e_impl_LocksOk_1 := @Try.call223
abbrev f_impl_Ask_against : FuncId := 224
abbrev F_impl_Ask_against := @Try.func224
abbrev n_impl_Ask_against := @Try.ntmps224
abbrev e_impl_Ask_against := @Try.call224
abbrev f_impl_LocksOk_2 : FuncId := 225
abbrev F_impl_LocksOk_2 := @Try.func225
abbrev n_impl_LocksOk_2 := @Try.ntmps225
abbrev e_impl_LocksOk_2 := @Try.call225
abbrev f_impl_LocksOk_3 : FuncId := 226
abbrev F_impl_LocksOk_3 := @Try.func226
abbrev n_impl_LocksOk_3 := @Try.ntmps226
abbrev e_impl_LocksOk_3 := @Try.call226
abbrev f_impl_Ask_covers : FuncId := 227
abbrev F_impl_Ask_covers := @Try.func227
abbrev n_impl_Ask_covers := @Try.ntmps227
abbrev e_impl_Ask_covers := @Try.call227
abbrev f_impl_Locks_free : FuncId := 228
abbrev F_impl_Locks_free := @Try.func228
abbrev n_impl_Locks_free := @Try.ntmps228
abbrev e_impl_Locks_free := @Try.call228
abbrev f_slices_IndexFunc_Limpl_Ask_impl_Ask : FuncId := 229
abbrev F_slices_IndexFunc_Limpl_Ask_impl_Ask := @Try.func229
abbrev n_slices_IndexFunc_Limpl_Ask_impl_Ask := @Try.ntmps229
abbrev e_slices_IndexFunc_Limpl_Ask_impl_Ask := @Try.call229
abbrev f_impl_Locks_waitsFor_1 : FuncId := 230
abbrev F_impl_Locks_waitsFor_1 := @Try.func230
abbrev n_impl_Locks_waitsFor_1 := @Try.ntmps230
abbrev e_impl_Locks_waitsFor_1 := @Try.call230
abbrev f_slices_Sort_Lint_int : FuncId := 231
abbrev f_impl_clone_int : FuncId := 232
abbrev F_impl_clone_int := @Try.func232
abbrev n_impl_clone_int := @Try.ntmps232
abbrev e_impl_clone_int := @Try.call232
abbrev f_slices_Compact_Lint_int : FuncId := 233
abbrev F_slices_Compact_Lint_int := @Try.func233
abbrev n_slices_Compact_Lint_int := @Try.ntmps233
abbrev e_slices_Compact_Lint_int := @Try.call233
abbrev f_laws_eqAsk : FuncId := 234
abbrev F_laws_eqAsk := @Try.func234
abbrev n_laws_eqAsk := @Try.ntmps234
abbrev e_laws_eqAsk := @Try.call234
abbrev f_impl_Locks_free_1 : FuncId := 306
abbrev F_impl_Locks_free_1 := @Try.func306
abbrev n_impl_Locks_free_1 := @Try.ntmps306
abbrev e_impl_Locks_free_1 := @Try.call306
abbrev f_slices_Clip_Lint_int : FuncId := 309
abbrev F_slices_Clip_Lint_int := @Try.func309
abbrev n_slices_Clip_Lint_int := @Try.ntmps309
abbrev e_slices_Clip_Lint_int := @Try.call309
abbrev t_int : TypeId := 3
abbrev u_int := @Try.underlying3
abbrev s_int := @Try.sizeOf3
abbrev g_int := @Try.isAgg3
abbrev z_int := @Try.zeroValue3
theorem i_int : (Try.prog.info? 3).map (fun i => (i.size, i.bytes, i.zero)) = some (1, 8, some ((Go.Value.int Go.IntKind.i64 0))) := by kernel_rfl
theorem i_bool : (Try.prog.info? 4).map (fun i => (i.size, i.bytes, i.zero)) = some (1, 1, some ((Go.Value.bool false))) := by kernel_rfl
theorem i_uint8 : (Try.prog.info? 5).map (fun i => (i.size, i.bytes, i.zero)) = some (1, 1, some ((Go.Value.int Go.IntKind.u8 0))) := by kernel_rfl
theorem i_string : (Try.prog.info? 9).map (fun i => (i.size, i.bytes, i.zero)) = some (1, 16, some ((Go.Value.string { data := #[] }))) := by kernel_rfl
theorem i_Llaws_Value : (Try.prog.info? 23).map (fun i => (i.size, i.bytes, i.zero)) = some (1, 24, some ((Go.Value.slice none 0 0))) := by kernel_rfl
theorem i_Limpl_Value : (Try.prog.info? 32).map (fun i => (i.size, i.bytes, i.zero)) = some (1, 24, some ((Go.Value.slice none 0 0))) := by kernel_rfl
abbrev t_Llaws_Ask : TypeId := 58
abbrev u_Llaws_Ask := @Try.underlying58
abbrev s_Llaws_Ask := @Try.sizeOf58
abbrev g_Llaws_Ask := @Try.isAgg58
abbrev t_laws_Locks : TypeId := 60
abbrev u_laws_Locks := @Try.underlying60
abbrev s_laws_Locks := @Try.sizeOf60
abbrev g_laws_Locks := @Try.isAgg60
abbrev u_Lint := @Try.underlying62
abbrev u_Limpl_Ask := @Try.underlying64
abbrev s_Limpl_Ask := @Try.sizeOf64
abbrev g_Limpl_Ask := @Try.isAgg64
abbrev t_impl_Locks : TypeId := 66
abbrev u_impl_Locks := @Try.underlying66
abbrev s_impl_Locks := @Try.sizeOf66
abbrev g_impl_Locks := @Try.isAgg66
abbrev z_impl_Locks := @Try.zeroValue66
theorem i_LLimpl_Value : (Try.prog.info? 79).map (fun i => (i.size, i.bytes, i.zero)) = some (1, 24, some ((Go.Value.slice none 0 0))) := by kernel_rfl
theorem i_Limpl_Column : (Try.prog.info? 81).map (fun i => (i.size, i.bytes, i.zero)) = some (1, 24, some ((Go.Value.slice none 0 0))) := by kernel_rfl
theorem i_impl_Value : (Try.prog.info? 98).map (fun i => (i.size, i.bytes, i.zero)) = some (3, 32, some ((Go.Value.agg #[Go.Value.int Go.IntKind.i64 0, Go.Value.int Go.IntKind.i64 0, Go.Value.string { data := #[] }]))) := by kernel_rfl
theorem i_impl_Column : (Try.prog.info? 103).map (fun i => (i.size, i.bytes, i.zero)) = some (2, 16, some ((Go.Value.agg #[Go.Value.int Go.IntKind.i64 0, Go.Value.bool false]))) := by kernel_rfl
theorem i_impl_Part : (Try.prog.info? 105).map (fun i => (i.size, i.bytes, i.zero)) = some (5, 48, some ((Go.Value.agg #[Go.Value.int Go.IntKind.i64 0, Go.Value.int Go.IntKind.i64 0, Go.Value.int Go.IntKind.i64 0, Go.Value.int Go.IntKind.i64 0, Go.Value.string { data := #[] }]))) := by kernel_rfl
theorem i_impl_Step : (Try.prog.info? 108).map (fun i => (i.size, i.bytes, i.zero)) = some (6, 80, some ((Go.Value.agg #[Go.Value.int Go.IntKind.i64 0, Go.Value.int Go.IntKind.i64 0, Go.Value.int Go.IntKind.i64 0, Go.Value.int Go.IntKind.i64 0, Go.Value.slice none 0 0, Go.Value.slice none 0 0]))) := by kernel_rfl
theorem i_impl_Table : (Try.prog.info? 112).map (fun i => (i.size, i.bytes, i.zero)) = some (2, 48, some ((Go.Value.agg #[Go.Value.slice none 0 0, Go.Value.slice none 0 0]))) := by kernel_rfl
theorem i_laws_Table : (Try.prog.info? 144).map (fun i => (i.size, i.bytes, i.zero)) = some (2, 48, some ((Go.Value.agg #[Go.Value.slice none 0 0, Go.Value.slice none 0 0]))) := by kernel_rfl
theorem i_impl_Txn : (Try.prog.info? 158).map (fun i => (i.size, i.bytes, i.zero)) = some (5, 72, some ((Go.Value.agg #[Go.Value.int Go.IntKind.i64 0, Go.Value.int Go.IntKind.i64 0, Go.Value.int Go.IntKind.i64 0, Go.Value.slice none 0 0, Go.Value.slice none 0 0]))) := by kernel_rfl
theorem i_impl_Write : (Try.prog.info? 161).map (fun i => (i.size, i.bytes, i.zero)) = some (3, 40, some ((Go.Value.agg #[Go.Value.int Go.IntKind.i64 0, Go.Value.slice none 0 0, Go.Value.bool false]))) := by kernel_rfl
theorem i_impl_Version : (Try.prog.info? 168).map (fun i => (i.size, i.bytes, i.zero)) = some (4, 48, some ((Go.Value.agg #[Go.Value.int Go.IntKind.i64 0, Go.Value.int Go.IntKind.i64 0, Go.Value.int Go.IntKind.i64 0, Go.Value.slice none 0 0]))) := by kernel_rfl
abbrev t_impl_Ask : TypeId := 178
abbrev u_impl_Ask := @Try.underlying178
abbrev s_impl_Ask := @Try.sizeOf178
abbrev g_impl_Ask := @Try.isAgg178
abbrev z_impl_Ask := @Try.zeroValue178
abbrev h_impl_Ask := @Try.stoodInHeld178
abbrev q_impl_Ask := @Try.eqGuardType178
theorem i_impl_Ask : (Try.prog.info? 178).map (fun i => (i.size, i.bytes, i.zero)) = some (3, 24, some ((Go.Value.agg #[Go.Value.int Go.IntKind.i64 0, Go.Value.int Go.IntKind.i64 0, Go.Value.int Go.IntKind.i64 0]))) := by kernel_rfl
theorem i_laws_Column : (Try.prog.info? 188).map (fun i => (i.size, i.bytes, i.zero)) = some (2, 16, some ((Go.Value.agg #[Go.Value.int Go.IntKind.i64 0, Go.Value.bool false]))) := by kernel_rfl
theorem i_impl_Delta : (Try.prog.info? 208).map (fun i => (i.size, i.bytes, i.zero)) = some (2, 32, some ((Go.Value.agg #[Go.Value.slice none 0 0, Go.Value.int Go.IntKind.i64 0]))) := by kernel_rfl
theorem i_laws_Version : (Try.prog.info? 222).map (fun i => (i.size, i.bytes, i.zero)) = some (4, 48, some ((Go.Value.agg #[Go.Value.int Go.IntKind.i64 0, Go.Value.int Go.IntKind.i64 0, Go.Value.int Go.IntKind.i64 0, Go.Value.slice none 0 0]))) := by kernel_rfl
theorem i_laws_Write : (Try.prog.info? 225).map (fun i => (i.size, i.bytes, i.zero)) = some (3, 40, some ((Go.Value.agg #[Go.Value.int Go.IntKind.i64 0, Go.Value.slice none 0 0, Go.Value.bool false]))) := by kernel_rfl
theorem i_impl_Entry : (Try.prog.info? 238).map (fun i => (i.size, i.bytes, i.zero)) = some (2, 32, some ((Go.Value.agg #[Go.Value.int Go.IntKind.i64 0, Go.Value.slice none 0 0]))) := by kernel_rfl
theorem i_laws_Value : (Try.prog.info? 252).map (fun i => (i.size, i.bytes, i.zero)) = some (3, 32, some ((Go.Value.agg #[Go.Value.int Go.IntKind.i64 0, Go.Value.int Go.IntKind.i64 0, Go.Value.string { data := #[] }]))) := by kernel_rfl
theorem i_laws_Txn : (Try.prog.info? 259).map (fun i => (i.size, i.bytes, i.zero)) = some (5, 72, some ((Go.Value.agg #[Go.Value.int Go.IntKind.i64 0, Go.Value.int Go.IntKind.i64 0, Go.Value.int Go.IntKind.i64 0, Go.Value.slice none 0 0, Go.Value.slice none 0 0]))) := by kernel_rfl
abbrev t_laws_Ask : TypeId := 272
abbrev u_laws_Ask := @Try.underlying272
abbrev s_laws_Ask := @Try.sizeOf272
abbrev g_laws_Ask := @Try.isAgg272
theorem i_laws_Ask : (Try.prog.info? 272).map (fun i => (i.size, i.bytes, i.zero)) = some (3, 24, some ((Go.Value.agg #[Go.Value.int Go.IntKind.i64 0, Go.Value.int Go.IntKind.i64 0, Go.Value.int Go.IntKind.i64 0]))) := by kernel_rfl
theorem i_impl_made : (Try.prog.info? 311).map (fun i => (i.size, i.bytes, i.zero)) = some (2, 32, some ((Go.Value.agg #[Go.Value.slice none 0 0, Go.Value.int Go.IntKind.i64 0]))) := by kernel_rfl
theorem mixed : Try.prog.follows .mixedOrders = true := by kernel_rfl
end Go.Proofs.Ytjmeoggmdnlicaa
