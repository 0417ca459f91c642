/- The numbers of functions and types, by name. -/
import Derived.Test.YtjmeoggmdnlicaaProg
import Derived.KernelRfl
set_option linter.unusedVariables false
set_option linter.unusedSimpArgs false
set_option linter.unnecessarySimpa false
set_option maxHeartbeats 4000000
namespace Go.Proofs.Ytjmeoggmdnlicaa
open Go.Proofs
/- The numbers of functions and types, by name, and the facts of the load under these names. Written by a program of this claim's work. -/
abbrev f_laws_FnLogFrom : FuncId := 13
abbrev F_laws_FnLogFrom := @Try.func13
abbrev n_laws_FnLogFrom := @Try.ntmps13
abbrev e_laws_FnLogFrom := @Try.call13
abbrev f_laws_alive : FuncId := 61
abbrev F_laws_alive := @Try.func61
abbrev n_laws_alive := @Try.ntmps61
abbrev e_laws_alive := @Try.call61
abbrev f_spec_DrawLogFrom : FuncId := 84
abbrev F_spec_DrawLogFrom := @Try.func84
abbrev n_spec_DrawLogFrom := @Try.ntmps84
abbrev e_spec_DrawLogFrom := @Try.call84
abbrev f_impl_LogFrom : FuncId := 85
abbrev F_impl_LogFrom := @Try.func85
abbrev n_impl_LogFrom := @Try.ntmps85
abbrev e_impl_LogFrom := @Try.call85
abbrev f_laws_sameLog : FuncId := 86
abbrev F_laws_sameLog := @Try.func86
abbrev n_laws_sameLog := @Try.ntmps86
abbrev e_laws_sameLog := @Try.call86
abbrev f_spec_LogFrom : FuncId := 87
abbrev F_spec_LogFrom := @Try.func87
abbrev n_spec_LogFrom := @Try.ntmps87
abbrev e_spec_LogFrom := @Try.call87
abbrev f_impl_LogBytes : FuncId := 88
abbrev F_impl_LogBytes := @Try.func88
abbrev n_impl_LogBytes := @Try.ntmps88
abbrev e_impl_LogBytes := @Try.call88
abbrev f_impl_LogOk : FuncId := 89
abbrev F_impl_LogOk := @Try.func89
abbrev n_impl_LogOk := @Try.ntmps89
abbrev e_impl_LogOk := @Try.call89
abbrev f_spec_l1In : FuncId := 107
abbrev F_spec_l1In := @Try.func107
abbrev n_spec_l1In := @Try.ntmps107
abbrev e_spec_l1In := @Try.call107
abbrev f_impl_between : FuncId := 112
abbrev F_impl_between := @Try.func112
abbrev n_impl_between := @Try.ntmps112
abbrev e_impl_between := @Try.call112
abbrev f_impl_keyOk : FuncId := 113
abbrev F_impl_keyOk := @Try.func113
abbrev n_impl_keyOk := @Try.ntmps113
abbrev e_impl_keyOk := @Try.call113
abbrev f_impl_clone_impl_Value : FuncId := 115
abbrev F_impl_clone_impl_Value := @Try.func115
abbrev n_impl_clone_impl_Value := @Try.ntmps115
abbrev e_impl_clone_impl_Value := @Try.call115
abbrev f_spec_l20Open : FuncId := 142
abbrev F_spec_l20Open := @Try.func142
abbrev n_spec_l20Open := @Try.ntmps142
abbrev e_spec_l20Open := @Try.call142
abbrev f_Pspec_l20Rd_pick : FuncId := 144
abbrev F_Pspec_l20Rd_pick := @Try.func144
abbrev n_Pspec_l20Rd_pick := @Try.ntmps144
abbrev e_Pspec_l20Rd_pick := @Try.call144
abbrev f_laws_sameRow : FuncId := 145
abbrev F_laws_sameRow := @Try.func145
abbrev n_laws_sameRow := @Try.ntmps145
abbrev e_laws_sameRow := @Try.call145
abbrev f_impl_ValueOk : FuncId := 146
abbrev F_impl_ValueOk := @Try.func146
abbrev n_impl_ValueOk := @Try.ntmps146
abbrev e_impl_ValueOk := @Try.call146
abbrev f_impl_Value_ok : FuncId := 147
abbrev F_impl_Value_ok := @Try.func147
abbrev n_impl_Value_ok := @Try.ntmps147
abbrev e_impl_Value_ok := @Try.call147
abbrev f_impl_truthIf : FuncId := 149
abbrev F_impl_truthIf := @Try.func149
abbrev n_impl_truthIf := @Try.ntmps149
abbrev e_impl_truthIf := @Try.call149
abbrev f_spec_RowOk : FuncId := 155
abbrev F_spec_RowOk := @Try.func155
abbrev n_spec_RowOk := @Try.ntmps155
abbrev e_spec_RowOk := @Try.call155
abbrev f_spec_WritesOk : FuncId := 172
abbrev F_spec_WritesOk := @Try.func172
abbrev n_spec_WritesOk := @Try.ntmps172
abbrev e_spec_WritesOk := @Try.call172
abbrev f_impl_WritesOk : FuncId := 179
abbrev F_impl_WritesOk := @Try.func179
abbrev n_impl_WritesOk := @Try.ntmps179
abbrev e_impl_WritesOk := @Try.call179
abbrev f_spec_LogBytes : FuncId := 184
abbrev F_spec_LogBytes := @Try.func184
abbrev n_spec_LogBytes := @Try.ntmps184
abbrev e_spec_LogBytes := @Try.call184
abbrev f_spec_l20Log : FuncId := 185
abbrev F_spec_l20Log := @Try.func185
abbrev n_spec_l20Log := @Try.ntmps185
abbrev e_spec_l20Log := @Try.call185
abbrev f_impl_EntryFrom : FuncId := 186
abbrev F_impl_EntryFrom := @Try.func186
abbrev n_impl_EntryFrom := @Try.ntmps186
abbrev e_impl_EntryFrom := @Try.call186
abbrev f_slices_Clip_Limpl_Entry_impl_Entry : FuncId := 187
abbrev F_slices_Clip_Limpl_Entry_impl_Entry := @Try.func187
abbrev n_slices_Clip_Limpl_Entry_impl_Entry := @Try.ntmps187
abbrev e_slices_Clip_Limpl_Entry_impl_Entry := @Try.call187
abbrev f_laws_sameWrites : FuncId := 188
abbrev F_laws_sameWrites := @Try.func188
abbrev n_laws_sameWrites := @Try.ntmps188
abbrev e_laws_sameWrites := @Try.call188
abbrev f_spec_EntryFrom : FuncId := 189
abbrev F_spec_EntryFrom := @Try.func189
abbrev n_spec_EntryFrom := @Try.ntmps189
abbrev e_spec_EntryFrom := @Try.call189
abbrev f_spec_LogOk : FuncId := 190
abbrev F_spec_LogOk := @Try.func190
abbrev n_spec_LogOk := @Try.ntmps190
abbrev e_spec_LogOk := @Try.call190
abbrev f_impl_entryBytes : FuncId := 191
abbrev F_impl_entryBytes := @Try.func191
abbrev n_impl_entryBytes := @Try.ntmps191
abbrev e_impl_entryBytes := @Try.call191
abbrev f_impl_clone_byte : FuncId := 192
abbrev F_impl_clone_byte := @Try.func192
abbrev n_impl_clone_byte := @Try.ntmps192
abbrev e_impl_clone_byte := @Try.call192
abbrev f_slices_Clip_Limpl_Value_impl_Value : FuncId := 214
abbrev F_slices_Clip_Limpl_Value_impl_Value := @Try.func214
abbrev n_slices_Clip_Limpl_Value_impl_Value := @Try.ntmps214
abbrev e_slices_Clip_Limpl_Value_impl_Value := @Try.call214
abbrev f_spec_ValueOk : FuncId := 239
abbrev F_spec_ValueOk := @Try.func239
abbrev n_spec_ValueOk := @Try.ntmps239
abbrev e_spec_ValueOk := @Try.call239
abbrev f_spec_l2Bool : FuncId := 240
abbrev F_spec_l2Bool := @Try.func240
abbrev n_spec_l2Bool := @Try.ntmps240
abbrev e_spec_l2Bool := @Try.call240
abbrev f_spec_l20Columns : FuncId := 247
abbrev F_spec_l20Columns := @Try.func247
abbrev n_spec_l20Columns := @Try.ntmps247
abbrev e_spec_l20Columns := @Try.call247
abbrev f_Pspec_l20Rd_odd : FuncId := 248
abbrev F_Pspec_l20Rd_odd := @Try.func248
abbrev n_Pspec_l20Rd_odd := @Try.ntmps248
abbrev e_Pspec_l20Rd_odd := @Try.call248
abbrev f_impl_letters : FuncId := 249
abbrev F_impl_letters := @Try.func249
abbrev n_impl_letters := @Try.ntmps249
abbrev e_impl_letters := @Try.call249
abbrev f_spec_l20Fit : FuncId := 255
abbrev F_spec_l20Fit := @Try.func255
abbrev n_spec_l20Fit := @Try.ntmps255
abbrev e_spec_l20Fit := @Try.call255
abbrev f_impl_RowOk : FuncId := 262
abbrev F_impl_RowOk := @Try.func262
abbrev n_impl_RowOk := @Try.ntmps262
abbrev e_impl_RowOk := @Try.call262
abbrev f_spec_EntryBytes : FuncId := 279
abbrev F_spec_EntryBytes := @Try.func279
abbrev n_spec_EntryBytes := @Try.ntmps279
abbrev e_spec_EntryBytes := @Try.call279
abbrev f_spec_l20Writes : FuncId := 280
abbrev F_spec_l20Writes := @Try.func280
abbrev n_spec_l20Writes := @Try.ntmps280
abbrev e_spec_l20Writes := @Try.call280
abbrev f_impl_unframed : FuncId := 281
abbrev F_impl_unframed := @Try.func281
abbrev n_impl_unframed := @Try.ntmps281
abbrev e_impl_unframed := @Try.call281
abbrev f_impl_RowFrom : FuncId := 282
abbrev F_impl_RowFrom := @Try.func282
abbrev n_impl_RowFrom := @Try.ntmps282
abbrev e_impl_RowFrom := @Try.call282
abbrev f_slices_Equal_Lbyte_byte : FuncId := 283
abbrev F_slices_Equal_Lbyte_byte := @Try.func283
abbrev n_slices_Equal_Lbyte_byte := @Try.ntmps283
abbrev e_slices_Equal_Lbyte_byte := @Try.call283
abbrev f_impl_EntryBytes : FuncId := 284
abbrev F_impl_EntryBytes := @Try.func284
abbrev n_impl_EntryBytes := @Try.ntmps284
abbrev e_impl_EntryBytes := @Try.call284
abbrev f_impl_writesCopy : FuncId := 285
abbrev F_impl_writesCopy := @Try.func285
abbrev n_impl_writesCopy := @Try.ntmps285
abbrev e_impl_writesCopy := @Try.call285
abbrev f_spec_l18Sum : FuncId := 286
abbrev F_spec_l18Sum := @Try.func286
abbrev n_spec_l18Sum := @Try.ntmps286
abbrev e_spec_l18Sum := @Try.call286
abbrev f_spec_l18Read : FuncId := 287
abbrev F_spec_l18Read := @Try.func287
abbrev n_spec_l18Read := @Try.ntmps287
abbrev e_spec_l18Read := @Try.call287
abbrev f_impl_RowBytes : FuncId := 288
abbrev F_impl_RowBytes := @Try.func288
abbrev n_impl_RowBytes := @Try.ntmps288
abbrev e_impl_RowBytes := @Try.call288
abbrev f_impl_framed : FuncId := 289
abbrev F_impl_framed := @Try.func289
abbrev n_impl_framed := @Try.ntmps289
abbrev e_impl_framed := @Try.call289
abbrev f_slices_Clip_Lbyte_byte : FuncId := 290
abbrev F_slices_Clip_Lbyte_byte := @Try.func290
abbrev n_slices_Clip_Lbyte_byte := @Try.ntmps290
abbrev e_slices_Clip_Lbyte_byte := @Try.call290
abbrev f_spec_l1Text : FuncId := 310
abbrev F_spec_l1Text := @Try.func310
abbrev n_spec_l1Text := @Try.ntmps310
abbrev e_spec_l1Text := @Try.call310
abbrev f_spec_l20Like : FuncId := 319
abbrev F_spec_l20Like := @Try.func319
abbrev n_spec_l20Like := @Try.ntmps319
abbrev e_spec_l20Like := @Try.call319
abbrev f_spec_l20Value : FuncId := 320
abbrev F_spec_l20Value := @Try.func320
abbrev n_spec_l20Value := @Try.ntmps320
abbrev e_spec_l20Value := @Try.call320
abbrev f_slices_ContainsFunc_Limpl_Value_impl_Value : FuncId := 324
abbrev F_slices_ContainsFunc_Limpl_Value_impl_Value := @Try.func324
abbrev n_slices_ContainsFunc_Limpl_Value_impl_Value := @Try.ntmps324
abbrev e_slices_ContainsFunc_Limpl_Value_impl_Value := @Try.call324
abbrev f_impl_RowOk_1 : FuncId := 325
abbrev F_impl_RowOk_1 := @Try.func325
abbrev n_impl_RowOk_1 := @Try.ntmps325
abbrev e_impl_RowOk_1 := @Try.call325
abbrev f_spec_l18Body : FuncId := 331
abbrev F_spec_l18Body := @Try.func331
abbrev n_spec_l18Body := @Try.ntmps331
abbrev e_spec_l18Body := @Try.call331
abbrev f_spec_l20Small : FuncId := 332
abbrev F_spec_l20Small := @Try.func332
abbrev n_spec_l20Small := @Try.ntmps332
abbrev e_spec_l20Small := @Try.call332
abbrev f_spec_l20Any : FuncId := 333
abbrev F_spec_l20Any := @Try.func333
abbrev n_spec_l20Any := @Try.ntmps333
abbrev e_spec_l20Any := @Try.call333
abbrev f_impl_sumOf : FuncId := 334
abbrev F_impl_sumOf := @Try.func334
abbrev n_impl_sumOf := @Try.ntmps334
abbrev e_impl_sumOf := @Try.call334
abbrev f_impl_ValueFrom : FuncId := 335
abbrev F_impl_ValueFrom := @Try.func335
abbrev n_impl_ValueFrom := @Try.ntmps335
abbrev e_impl_ValueFrom := @Try.call335
abbrev f_slices_Clip_Limpl_Write_impl_Write : FuncId := 336
abbrev F_slices_Clip_Limpl_Write_impl_Write := @Try.func336
abbrev n_slices_Clip_Limpl_Write_impl_Write := @Try.ntmps336
abbrev e_slices_Clip_Limpl_Write_impl_Write := @Try.call336
abbrev f_spec_RowFrom : FuncId := 337
abbrev F_spec_RowFrom := @Try.func337
abbrev n_spec_RowFrom := @Try.ntmps337
abbrev e_spec_RowFrom := @Try.call337
abbrev f_impl_Value_bytes : FuncId := 338
abbrev F_impl_Value_bytes := @Try.func338
abbrev n_impl_Value_bytes := @Try.ntmps338
abbrev e_impl_Value_bytes := @Try.call338
abbrev f_slices_IndexFunc_Limpl_Value_impl_Value : FuncId := 362
abbrev F_slices_IndexFunc_Limpl_Value_impl_Value := @Try.func362
abbrev n_slices_IndexFunc_Limpl_Value_impl_Value := @Try.ntmps362
abbrev e_slices_IndexFunc_Limpl_Value_impl_Value := @Try.call362
abbrev f_spec_RowBytes : FuncId := 368
abbrev F_spec_RowBytes := @Try.func368
abbrev n_spec_RowBytes := @Try.ntmps368
abbrev e_spec_RowBytes := @Try.call368
abbrev f_spec_ValueFrom : FuncId := 369
abbrev F_spec_ValueFrom := @Try.func369
abbrev n_spec_ValueFrom := @Try.ntmps369
abbrev e_spec_ValueFrom := @Try.call369
abbrev f_spec_ValueBytes : FuncId := 385
abbrev F_spec_ValueBytes := @Try.func385
abbrev n_spec_ValueBytes := @Try.ntmps385
abbrev e_spec_ValueBytes := @Try.call385
abbrev u_int := @Try.underlying3
abbrev s_int := @Try.sizeOf3
abbrev g_int := @Try.isAgg3
abbrev z_int := @Try.zeroValue3
theorem i_int : (Try.prog.info? 3).map (fun i => (i.size, i.bytes, i.zero)) = some (1, 8, some ((Go.Value.int Go.IntKind.i64 0))) := by kernel_rfl
abbrev u_bool := @Try.underlying4
abbrev s_bool := @Try.sizeOf4
abbrev g_bool := @Try.isAgg4
theorem i_bool : (Try.prog.info? 4).map (fun i => (i.size, i.bytes, i.zero)) = some (1, 1, some ((Go.Value.bool false))) := by kernel_rfl
abbrev u_uint8 := @Try.underlying5
abbrev s_uint8 := @Try.sizeOf5
abbrev g_uint8 := @Try.isAgg5
abbrev z_uint8 := @Try.zeroValue5
theorem i_uint8 : (Try.prog.info? 5).map (fun i => (i.size, i.bytes, i.zero)) = some (1, 1, some ((Go.Value.int Go.IntKind.u8 0))) := by kernel_rfl
abbrev u_string := @Try.underlying9
abbrev s_string := @Try.sizeOf9
abbrev g_string := @Try.isAgg9
abbrev z_string := @Try.zeroValue9
theorem i_string : (Try.prog.info? 9).map (fun i => (i.size, i.bytes, i.zero)) = some (1, 16, some ((Go.Value.string { data := #[] }))) := by kernel_rfl
theorem i_Llaws_Value : (Try.prog.info? 23).map (fun i => (i.size, i.bytes, i.zero)) = some (1, 24, some ((Go.Value.slice none 0 0))) := by kernel_rfl
abbrev u_Limpl_Value := @Try.underlying32
abbrev s_Limpl_Value := @Try.sizeOf32
abbrev g_Limpl_Value := @Try.isAgg32
theorem i_Limpl_Value : (Try.prog.info? 32).map (fun i => (i.size, i.bytes, i.zero)) = some (1, 24, some ((Go.Value.slice none 0 0))) := by kernel_rfl
abbrev u_Lint := @Try.underlying62
theorem i_LLimpl_Value : (Try.prog.info? 79).map (fun i => (i.size, i.bytes, i.zero)) = some (1, 24, some ((Go.Value.slice none 0 0))) := by kernel_rfl
abbrev u_Limpl_Column := @Try.underlying81
theorem i_Limpl_Column : (Try.prog.info? 81).map (fun i => (i.size, i.bytes, i.zero)) = some (1, 24, some ((Go.Value.slice none 0 0))) := by kernel_rfl
abbrev u_Luint8 := @Try.underlying90
abbrev s_Luint8 := @Try.sizeOf90
abbrev g_Luint8 := @Try.isAgg90
abbrev t_impl_Value : TypeId := 98
abbrev u_impl_Value := @Try.underlying98
abbrev s_impl_Value := @Try.sizeOf98
abbrev g_impl_Value := @Try.isAgg98
abbrev z_impl_Value := @Try.zeroValue98
abbrev h_impl_Value := @Try.stoodInHeld98
abbrev q_impl_Value := @Try.eqGuardType98
theorem i_impl_Value : (Try.prog.info? 98).map (fun i => (i.size, i.bytes, i.zero)) = some (3, 32, some ((Go.Value.agg #[Go.Value.int Go.IntKind.i64 0, Go.Value.int Go.IntKind.i64 0, Go.Value.string { data := #[] }]))) := by kernel_rfl
abbrev t_impl_Column : TypeId := 103
abbrev u_impl_Column := @Try.underlying103
abbrev s_impl_Column := @Try.sizeOf103
abbrev g_impl_Column := @Try.isAgg103
abbrev z_impl_Column := @Try.zeroValue103
theorem i_impl_Column : (Try.prog.info? 103).map (fun i => (i.size, i.bytes, i.zero)) = some (2, 16, some ((Go.Value.agg #[Go.Value.int Go.IntKind.i64 0, Go.Value.bool false]))) := by kernel_rfl
theorem i_impl_Part : (Try.prog.info? 105).map (fun i => (i.size, i.bytes, i.zero)) = some (5, 48, some ((Go.Value.agg #[Go.Value.int Go.IntKind.i64 0, Go.Value.int Go.IntKind.i64 0, Go.Value.int Go.IntKind.i64 0, Go.Value.int Go.IntKind.i64 0, Go.Value.string { data := #[] }]))) := by kernel_rfl
theorem i_impl_Step : (Try.prog.info? 108).map (fun i => (i.size, i.bytes, i.zero)) = some (6, 80, some ((Go.Value.agg #[Go.Value.int Go.IntKind.i64 0, Go.Value.int Go.IntKind.i64 0, Go.Value.int Go.IntKind.i64 0, Go.Value.int Go.IntKind.i64 0, Go.Value.slice none 0 0, Go.Value.slice none 0 0]))) := by kernel_rfl
theorem i_impl_Table : (Try.prog.info? 112).map (fun i => (i.size, i.bytes, i.zero)) = some (2, 48, some ((Go.Value.agg #[Go.Value.slice none 0 0, Go.Value.slice none 0 0]))) := by kernel_rfl
abbrev u_Limpl_Write := @Try.underlying126
abbrev s_Limpl_Write := @Try.sizeOf126
abbrev g_Limpl_Write := @Try.isAgg126
abbrev u_Limpl_Entry := @Try.underlying134
theorem i_laws_Table : (Try.prog.info? 144).map (fun i => (i.size, i.bytes, i.zero)) = some (2, 48, some ((Go.Value.agg #[Go.Value.slice none 0 0, Go.Value.slice none 0 0]))) := by kernel_rfl
theorem i_impl_Txn : (Try.prog.info? 158).map (fun i => (i.size, i.bytes, i.zero)) = some (5, 72, some ((Go.Value.agg #[Go.Value.int Go.IntKind.i64 0, Go.Value.int Go.IntKind.i64 0, Go.Value.int Go.IntKind.i64 0, Go.Value.slice none 0 0, Go.Value.slice none 0 0]))) := by kernel_rfl
abbrev t_impl_Write : TypeId := 161
abbrev u_impl_Write := @Try.underlying161
abbrev s_impl_Write := @Try.sizeOf161
abbrev g_impl_Write := @Try.isAgg161
abbrev z_impl_Write := @Try.zeroValue161
theorem i_impl_Write : (Try.prog.info? 161).map (fun i => (i.size, i.bytes, i.zero)) = some (3, 40, some ((Go.Value.agg #[Go.Value.int Go.IntKind.i64 0, Go.Value.slice none 0 0, Go.Value.bool false]))) := by kernel_rfl
theorem i_impl_Version : (Try.prog.info? 168).map (fun i => (i.size, i.bytes, i.zero)) = some (4, 48, some ((Go.Value.agg #[Go.Value.int Go.IntKind.i64 0, Go.Value.int Go.IntKind.i64 0, Go.Value.int Go.IntKind.i64 0, Go.Value.slice none 0 0]))) := by kernel_rfl
theorem i_impl_Ask : (Try.prog.info? 178).map (fun i => (i.size, i.bytes, i.zero)) = some (3, 24, some ((Go.Value.agg #[Go.Value.int Go.IntKind.i64 0, Go.Value.int Go.IntKind.i64 0, Go.Value.int Go.IntKind.i64 0]))) := by kernel_rfl
theorem i_laws_Column : (Try.prog.info? 188).map (fun i => (i.size, i.bytes, i.zero)) = some (2, 16, some ((Go.Value.agg #[Go.Value.int Go.IntKind.i64 0, Go.Value.bool false]))) := by kernel_rfl
theorem i_impl_Delta : (Try.prog.info? 208).map (fun i => (i.size, i.bytes, i.zero)) = some (2, 32, some ((Go.Value.agg #[Go.Value.slice none 0 0, Go.Value.int Go.IntKind.i64 0]))) := by kernel_rfl
theorem i_laws_Version : (Try.prog.info? 222).map (fun i => (i.size, i.bytes, i.zero)) = some (4, 48, some ((Go.Value.agg #[Go.Value.int Go.IntKind.i64 0, Go.Value.int Go.IntKind.i64 0, Go.Value.int Go.IntKind.i64 0, Go.Value.slice none 0 0]))) := by kernel_rfl
theorem i_laws_Write : (Try.prog.info? 225).map (fun i => (i.size, i.bytes, i.zero)) = some (3, 40, some ((Go.Value.agg #[Go.Value.int Go.IntKind.i64 0, Go.Value.slice none 0 0, Go.Value.bool false]))) := by kernel_rfl
abbrev t_impl_Entry : TypeId := 238
abbrev u_impl_Entry := @Try.underlying238
abbrev s_impl_Entry := @Try.sizeOf238
abbrev g_impl_Entry := @Try.isAgg238
abbrev z_impl_Entry := @Try.zeroValue238
theorem i_impl_Entry : (Try.prog.info? 238).map (fun i => (i.size, i.bytes, i.zero)) = some (2, 32, some ((Go.Value.agg #[Go.Value.int Go.IntKind.i64 0, Go.Value.slice none 0 0]))) := by kernel_rfl
theorem i_laws_Value : (Try.prog.info? 252).map (fun i => (i.size, i.bytes, i.zero)) = some (3, 32, some ((Go.Value.agg #[Go.Value.int Go.IntKind.i64 0, Go.Value.int Go.IntKind.i64 0, Go.Value.string { data := #[] }]))) := by kernel_rfl
theorem i_laws_Txn : (Try.prog.info? 259).map (fun i => (i.size, i.bytes, i.zero)) = some (5, 72, some ((Go.Value.agg #[Go.Value.int Go.IntKind.i64 0, Go.Value.int Go.IntKind.i64 0, Go.Value.int Go.IntKind.i64 0, Go.Value.slice none 0 0, Go.Value.slice none 0 0]))) := by kernel_rfl
theorem i_laws_Ask : (Try.prog.info? 272).map (fun i => (i.size, i.bytes, i.zero)) = some (3, 24, some ((Go.Value.agg #[Go.Value.int Go.IntKind.i64 0, Go.Value.int Go.IntKind.i64 0, Go.Value.int Go.IntKind.i64 0]))) := by kernel_rfl
abbrev t_spec_l20Rd : TypeId := 282
abbrev u_spec_l20Rd := @Try.underlying282
abbrev z_spec_l20Rd := @Try.zeroValue282
theorem i_impl_made : (Try.prog.info? 311).map (fun i => (i.size, i.bytes, i.zero)) = some (2, 32, some ((Go.Value.agg #[Go.Value.slice none 0 0, Go.Value.int Go.IntKind.i64 0]))) := by kernel_rfl
abbrev u_Lstring := @Try.underlying363
theorem mixed : Try.prog.follows .mixedOrders = true := by kernel_rfl
end Go.Proofs.Ytjmeoggmdnlicaa
