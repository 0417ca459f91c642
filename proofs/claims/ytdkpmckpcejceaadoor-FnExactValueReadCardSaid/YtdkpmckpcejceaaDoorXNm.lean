/- The numbers of functions and types, by name. -/
import Derived.Test.YtdkpmckpcejceaaDoorProg
import Derived.KernelRfl
set_option linter.unusedVariables false
set_option linter.unusedSimpArgs false
set_option linter.unnecessarySimpa false
set_option maxHeartbeats 4000000
namespace Go.Proofs.YtdkpmckpcejceaaDoor
open Go.Proofs
/- The numbers of functions and types, by name, and the facts of the load under these names. Written by a program of this claim's work. -/
abbrev f_laws_FnExactValueRead : FuncId := 5
abbrev F_laws_FnExactValueRead := @Tryd.func5
abbrev n_laws_FnExactValueRead := @Tryd.ntmps5
abbrev e_laws_FnExactValueRead := @Tryd.call5
abbrev f_impl_ValueText : FuncId := 7
abbrev F_impl_ValueText := @Tryd.func7
abbrev n_impl_ValueText := @Tryd.ntmps7
abbrev e_impl_ValueText := @Tryd.call7
abbrev f_spec_ValueText : FuncId := 8
abbrev F_spec_ValueText := @Tryd.func8
abbrev n_spec_ValueText := @Tryd.ntmps8
abbrev e_spec_ValueText := @Tryd.call8
abbrev f_impl_ValueRead : FuncId := 11
abbrev F_impl_ValueRead := @Tryd.func11
abbrev n_impl_ValueRead := @Tryd.ntmps11
abbrev e_impl_ValueRead := @Tryd.call11
abbrev f_spec_ValueRead : FuncId := 13
abbrev F_spec_ValueRead := @Tryd.func13
abbrev n_spec_ValueRead := @Tryd.ntmps13
abbrev e_spec_ValueRead := @Tryd.call13
abbrev f_laws_eqValue : FuncId := 14
abbrev F_laws_eqValue := @Tryd.func14
abbrev n_laws_eqValue := @Tryd.ntmps14
abbrev e_laws_eqValue := @Tryd.call14
abbrev f_impl_Value_ok : FuncId := 17
abbrev F_impl_Value_ok := @Tryd.func17
abbrev n_impl_Value_ok := @Tryd.ntmps17
abbrev e_impl_Value_ok := @Tryd.call17
abbrev f_strconv_Itoa : FuncId := 18
abbrev e_strconv_Itoa := @Tryd.call18
abbrev f_strconv_FormatBool : FuncId := 19
abbrev F_strconv_FormatBool := @Tryd.func19
abbrev n_strconv_FormatBool := @Tryd.ntmps19
abbrev e_strconv_FormatBool := @Tryd.call19
abbrev f_spec_ValueOk : FuncId := 20
abbrev F_spec_ValueOk := @Tryd.func20
abbrev n_spec_ValueOk := @Tryd.ntmps20
abbrev e_spec_ValueOk := @Tryd.call20
abbrev f_spec_l1Signed : FuncId := 21
abbrev F_spec_l1Signed := @Tryd.func21
abbrev n_spec_l1Signed := @Tryd.ntmps21
abbrev e_spec_l1Signed := @Tryd.call21
abbrev f_strconv_Atoi : FuncId := 22
abbrev e_strconv_Atoi := @Tryd.call22
abbrev f_spec_l1Digits : FuncId := 24
abbrev F_spec_l1Digits := @Tryd.func24
abbrev n_spec_l1Digits := @Tryd.ntmps24
abbrev e_spec_l1Digits := @Tryd.call24
abbrev f_impl_between : FuncId := 26
abbrev F_impl_between := @Tryd.func26
abbrev n_impl_between := @Tryd.ntmps26
abbrev e_impl_between := @Tryd.call26
abbrev f_impl_letters : FuncId := 27
abbrev F_impl_letters := @Tryd.func27
abbrev n_impl_letters := @Tryd.ntmps27
abbrev e_impl_letters := @Tryd.call27
abbrev f_internal_strconv_FormatBool : FuncId := 29
abbrev F_internal_strconv_FormatBool := @Tryd.func29
abbrev n_internal_strconv_FormatBool := @Tryd.ntmps29
abbrev e_internal_strconv_FormatBool := @Tryd.call29
abbrev f_spec_l1In : FuncId := 30
abbrev F_spec_l1In := @Tryd.func30
abbrev n_spec_l1In := @Tryd.ntmps30
abbrev e_spec_l1In := @Tryd.call30
abbrev f_spec_l1Text : FuncId := 31
abbrev F_spec_l1Text := @Tryd.func31
abbrev n_spec_l1Text := @Tryd.ntmps31
abbrev e_spec_l1Text := @Tryd.call31
abbrev f_spec_l1Plain : FuncId := 32
abbrev F_spec_l1Plain := @Tryd.func32
abbrev n_spec_l1Plain := @Tryd.ntmps32
abbrev e_spec_l1Plain := @Tryd.call32
abbrev u_int := @Tryd.underlying3
abbrev s_int := @Tryd.sizeOf3
abbrev g_int := @Tryd.isAgg3
theorem i_int : (Tryd.prog.info? 3).map (fun i => (i.size, i.bytes, i.zero)) = some (1, 8, some ((Go.Value.int Go.IntKind.i64 0))) := by kernel_rfl
abbrev u_bool := @Tryd.underlying4
abbrev u_uint8 := @Tryd.underlying5
abbrev s_uint8 := @Tryd.sizeOf5
abbrev g_uint8 := @Tryd.isAgg5
abbrev z_uint8 := @Tryd.zeroValue5
theorem i_uint8 : (Tryd.prog.info? 5).map (fun i => (i.size, i.bytes, i.zero)) = some (1, 1, some ((Go.Value.int Go.IntKind.u8 0))) := by kernel_rfl
abbrev t_string : TypeId := 9
abbrev u_string := @Tryd.underlying9
abbrev s_string := @Tryd.sizeOf9
abbrev g_string := @Tryd.isAgg9
abbrev z_string := @Tryd.zeroValue9
theorem i_string : (Tryd.prog.info? 9).map (fun i => (i.size, i.bytes, i.zero)) = some (1, 16, some ((Go.Value.string { data := #[] }))) := by kernel_rfl
abbrev u_Luint8 := @Tryd.underlying22
abbrev t_impl_Value : TypeId := 24
abbrev u_impl_Value := @Tryd.underlying24
abbrev s_impl_Value := @Tryd.sizeOf24
abbrev g_impl_Value := @Tryd.isAgg24
abbrev z_impl_Value := @Tryd.zeroValue24
abbrev h_impl_Value := @Tryd.stoodInHeld24
abbrev q_impl_Value := @Tryd.eqGuardType24
abbrev u_Lstring := @Tryd.underlying40
theorem mixed : Tryd.prog.follows .mixedOrders = true := by kernel_rfl
end Go.Proofs.YtdkpmckpcejceaaDoor
