/- The types of the seat. -/
import Derived.Test.YtocddfdkknhgcaaGreatM8
import Derived.Test.YtocddfdkknhgcaaGreatProg
set_option linter.unusedVariables false
set_option linter.unusedSimpArgs false
set_option maxRecDepth 100000
namespace Go.Sx.Tryz
open Go Go.Sx Go.Proofs
abbrev tInt64 : Ty := .int .i64
abbrev tInt : Ty := .int .i64
abbrev tBool : Ty := .bool
abbrev tUint8 : Ty := .int .u8
abbrev tXabi_BoundsErrorCode : Ty := .int .u8
abbrev tXstruct_x_int64_y_int_signed_bool_code_ab : Ty := .pair tInt64 (.pair tInt (.pair tBool (.pair tXabi_BoundsErrorCode (.unit))))
abbrev tXruntime_boundsError : Ty := .pair tInt64 (.pair tInt (.pair tBool (.pair tXabi_BoundsErrorCode (.unit))))
abbrev tString : Ty := .str
abbrev tXruntime_errorString : Ty := .str
abbrev tXruntime_plainError : Ty := .str
abbrev tUintptr : Ty := .int .u64
abbrev tXstruct_msg_string_addr_uintptr_ : Ty := .pair tString (.pair tUintptr (.unit))
abbrev tXruntime_errorAddressString : Ty := .pair tString (.pair tUintptr (.unit))
abbrev tInt32 : Ty := .int .i32
abbrev tSlUint8 : Ty := .sl false tUint8
abbrev tICmd : Ty := .pair tInt (.pair tString (.pair tInt (.unit)))
abbrev tSlICmd : Ty := .sl false tICmd
abbrev uSlICmd : Ty := .sl true tICmd
abbrev tIQc : Ty := .pair tInt (.pair tInt (.pair tInt (.pair tInt (.unit))))
abbrev tIBlock : Ty := .pair tInt (.pair tInt (.pair tSlICmd (.pair tIQc (.unit))))
abbrev uIBlock : Ty := .pair tInt (.pair tInt (.pair uSlICmd (.pair tIQc (.unit))))
abbrev tSlIBlock : Ty := .sl false tIBlock
abbrev uSlIBlock : Ty := .sl true uIBlock
abbrev tXstruct_Phase_int_View_int_Block_int_Sign : Ty := .pair tInt (.pair tInt (.pair tInt (.pair tInt (.unit))))
abbrev tXstruct_Phase_int_View_int_Block_int_By_i : Ty := .pair tInt (.pair tInt (.pair tInt (.pair tInt (.unit))))
abbrev tIVote : Ty := .pair tInt (.pair tInt (.pair tInt (.pair tInt (.unit))))
abbrev tSlInt : Ty := .sl false tInt
abbrev uSlInt : Ty := .sl true tInt
abbrev tICell : Ty := .pair tString (.pair tInt (.unit))
abbrev tSlICell : Ty := .sl false tICell
abbrev uSlICell : Ty := .sl true tICell
abbrev tIUndo : Ty := .pair tString (.pair tBool (.pair tInt (.unit)))
abbrev tSlIUndo : Ty := .sl false tIUndo
abbrev uSlIUndo : Ty := .sl true tIUndo
abbrev tSlIVote : Ty := .sl false tIVote
abbrev uSlIVote : Ty := .sl true tIVote
abbrev tILetter : Ty := .pair tInt (.pair tInt (.pair tInt (.pair tInt (.pair tInt (.pair tIQc (.pair tIVote (.unit)))))))
abbrev tSlILetter : Ty := .sl false tILetter
abbrev uSlILetter : Ty := .sl true tILetter
abbrev tXstruct_Id_int_View_int_High_impl_Qc_Lock : Ty := .pair tInt (.pair tInt (.pair tIQc (.pair tIQc (.pair tIVote (.pair tSlInt (.pair tSlICell (.pair tSlInt (.pair tSlIUndo (.pair tSlIVote (.pair tSlILetter (.pair tInt (.unit))))))))))))
abbrev uXstruct_Id_int_View_int_High_impl_Qc_Lock : Ty := .pair tInt (.pair tInt (.pair tIQc (.pair tIQc (.pair tIVote (.pair uSlInt (.pair uSlICell (.pair uSlInt (.pair uSlIUndo (.pair uSlIVote (.pair uSlILetter (.pair tInt (.unit))))))))))))
abbrev tIPeer : Ty := .pair tInt (.pair tInt (.pair tIQc (.pair tIQc (.pair tIVote (.pair tSlInt (.pair tSlICell (.pair tSlInt (.pair tSlIUndo (.pair tSlIVote (.pair tSlILetter (.pair tInt (.unit))))))))))))
abbrev uIPeer : Ty := .pair tInt (.pair tInt (.pair tIQc (.pair tIQc (.pair tIVote (.pair uSlInt (.pair uSlICell (.pair uSlInt (.pair uSlIUndo (.pair uSlIVote (.pair uSlILetter (.pair tInt (.unit))))))))))))
abbrev tXstruct_Kind_int_From_int_To_int_View_int : Ty := .pair tInt (.pair tInt (.pair tInt (.pair tInt (.pair tInt (.pair tIQc (.pair tIVote (.unit)))))))
abbrev tSlIPeer : Ty := .sl false tIPeer
abbrev uSlIPeer : Ty := .sl true uIPeer
abbrev tXstruct_N_int_Chain_bool_Liars_int_Tree_i : Ty := .pair tInt (.pair tBool (.pair tInt (.pair tSlIBlock (.pair tSlIPeer (.pair tSlILetter (.pair tSlIVote (.pair tSlICmd (.unit))))))))
abbrev tICluster : Ty := .pair tInt (.pair tBool (.pair tInt (.pair tSlIBlock (.pair tSlIPeer (.pair tSlILetter (.pair tSlIVote (.pair tSlICmd (.unit))))))))
abbrev uICluster : Ty := .pair tInt (.pair tBool (.pair tInt (.pair uSlIBlock (.pair uSlIPeer (.pair uSlILetter (.pair uSlIVote (.pair uSlICmd (.unit))))))))
abbrev tXstruct_Key_string_Num_int_ : Ty := .pair tString (.pair tInt (.unit))
abbrev tXstruct_Key_string_Had_bool_Num_int_ : Ty := .pair tString (.pair tBool (.pair tInt (.unit)))
abbrev tXstruct_Parent_int_View_int_Cmds_impl_Cmd : Ty := .pair tInt (.pair tInt (.pair tSlICmd (.pair tIQc (.unit))))
abbrev uXstruct_Parent_int_View_int_Cmds_impl_Cmd : Ty := .pair tInt (.pair tInt (.pair uSlICmd (.pair tIQc (.unit))))
abbrev tXstruct_b_uint8_i_int_h_int_ : Ty := .pair tSlUint8 (.pair tInt (.pair tInt (.unit)))
abbrev tSl01Cur : Ty := .pair tSlUint8 (.pair tInt (.pair tInt (.unit)))
abbrev tUint : Ty := .int .u64
abbrev tXstruct_Kind_int_Key_string_Num_int_ : Ty := .pair tInt (.pair tString (.pair tInt (.unit)))
abbrev tXstruct_Kind_int_At_int_To_int_Num_int_Cm : Ty := .pair tInt (.pair tInt (.pair tInt (.pair tInt (.pair tICmd (.unit)))))
abbrev tIEvent : Ty := .pair tInt (.pair tInt (.pair tInt (.pair tInt (.pair tICmd (.unit)))))
abbrev tSlString : Ty := .sl false tString
abbrev tSlIEvent : Ty := .sl false tIEvent
abbrev tXstruct_text_string_at_int_bad_bool_ : Ty := .pair tString (.pair tInt (.pair tBool (.unit)))
abbrev tSl08Cur : Ty := .pair tString (.pair tInt (.pair tBool (.unit)))
abbrev tUint32 : Ty := .int .u32
abbrev tXabi_TFlag : Ty := .int .u8
abbrev tXabi_Kind : Ty := .int .u8
abbrev tXabi_NameOff : Ty := .int .i32
abbrev tXabi_TypeOff : Ty := .int .i32
abbrev DSlUint8 : Type := List Int
abbrev DICmd : Type := Int × ByteArray × Int × Unit
abbrev DSlICmd : Type := List DICmd
abbrev DIQc : Type := Int × Int × Int × Int × Unit
abbrev DIBlock : Type := Int × Int × DSlICmd × DIQc × Unit
abbrev DSlIBlock : Type := List DIBlock
abbrev DXstruct_Phase_int_View_int_Block_int_Sign : Type := Int × Int × Int × Int × Unit
abbrev DIVote : Type := Int × Int × Int × Int × Unit
abbrev DSlInt : Type := List Int
abbrev DICell : Type := ByteArray × Int × Unit
abbrev DSlICell : Type := List DICell
abbrev DIUndo : Type := ByteArray × Bool × Int × Unit
abbrev DSlIUndo : Type := List DIUndo
abbrev DSlIVote : Type := List DIVote
abbrev DILetter : Type := Int × Int × Int × Int × Int × DIQc × DIVote × Unit
abbrev DSlILetter : Type := List DILetter
abbrev DXstruct_Id_int_View_int_High_impl_Qc_Lock : Type := Int × Int × DIQc × DIQc × DIVote × DSlInt × DSlICell × DSlInt × DSlIUndo × DSlIVote × DSlILetter × Int × Unit
abbrev DIPeer : Type := Int × Int × DIQc × DIQc × DIVote × DSlInt × DSlICell × DSlInt × DSlIUndo × DSlIVote × DSlILetter × Int × Unit
abbrev DXstruct_Kind_int_From_int_To_int_View_int : Type := Int × Int × Int × Int × Int × DIQc × DIVote × Unit
abbrev DSlIPeer : Type := List DIPeer
abbrev DICluster : Type := Int × Bool × Int × DSlIBlock × DSlIPeer × DSlILetter × DSlIVote × DSlICmd × Unit
abbrev DXstruct_Key_string_Num_int_ : Type := ByteArray × Int × Unit
abbrev DXstruct_Key_string_Had_bool_Num_int_ : Type := ByteArray × Bool × Int × Unit
abbrev DXstruct_Parent_int_View_int_Cmds_impl_Cmd : Type := Int × Int × DSlICmd × DIQc × Unit
abbrev DSl01Cur : Type := DSlUint8 × Int × Int × Unit
abbrev DXstruct_Kind_int_Key_string_Num_int_ : Type := Int × ByteArray × Int × Unit
abbrev DIEvent : Type := Int × Int × Int × Int × DICmd × Unit
abbrev DSlString : Type := List ByteArray
abbrev DSl08Cur : Type := ByteArray × Int × Bool × Unit
def tis : List (Nat × TI) := [
 (2, ⟨tInt64, 8, .scalar⟩),
 (3, ⟨tInt, 8, .scalar⟩),
 (4, ⟨tBool, 1, .scalar⟩),
 (5, ⟨tUint8, 1, .scalar⟩),
 (6, ⟨tXabi_BoundsErrorCode, 1, .scalar⟩),
 (7, ⟨tXstruct_x_int64_y_int_signed_bool_code_ab, 24, .struct [(0, 2), (1, 3), (2, 4), (3, 6)]⟩),
 (8, ⟨tXruntime_boundsError, 24, .struct [(0, 2), (1, 3), (2, 4), (3, 6)]⟩),
 (9, ⟨tString, 16, .scalar⟩),
 (10, ⟨tXruntime_errorString, 16, .scalar⟩),
 (11, ⟨tXruntime_plainError, 16, .scalar⟩),
 (12, ⟨tUintptr, 8, .scalar⟩),
 (13, ⟨tXstruct_msg_string_addr_uintptr_, 24, .struct [(0, 9), (1, 12)]⟩),
 (14, ⟨tXruntime_errorAddressString, 24, .struct [(0, 9), (1, 12)]⟩),
 (21, ⟨tInt32, 4, .scalar⟩),
 (22, ⟨tSlUint8, 24, .slice 5⟩),
 (24, ⟨tSlIBlock, 24, .slice 99⟩),
 (25, ⟨tXstruct_Phase_int_View_int_Block_int_Sign, 32, .struct [(0, 3), (1, 3), (2, 3), (3, 3)]⟩),
 (26, ⟨tIQc, 32, .struct [(0, 3), (1, 3), (2, 3), (3, 3)]⟩),
 (27, ⟨tXstruct_Phase_int_View_int_Block_int_By_i, 32, .struct [(0, 3), (1, 3), (2, 3), (3, 3)]⟩),
 (28, ⟨tIVote, 32, .struct [(0, 3), (1, 3), (2, 3), (3, 3)]⟩),
 (29, ⟨tSlInt, 24, .slice 3⟩),
 (30, ⟨tSlICell, 24, .slice 94⟩),
 (31, ⟨tSlIUndo, 24, .slice 97⟩),
 (32, ⟨tSlIVote, 24, .slice 28⟩),
 (33, ⟨tSlILetter, 24, .slice 47⟩),
 (34, ⟨tXstruct_Id_int_View_int_High_impl_Qc_Lock, 264, .struct [(0, 3), (1, 3), (2, 26), (6, 26), (10, 28), (14, 29), (15, 30), (16, 29), (17, 31), (18, 32), (19, 33), (20, 3)]⟩),
 (35, ⟨tIPeer, 264, .struct [(0, 3), (1, 3), (2, 26), (6, 26), (10, 28), (14, 29), (15, 30), (16, 29), (17, 31), (18, 32), (19, 33), (20, 3)]⟩),
 (46, ⟨tXstruct_Kind_int_From_int_To_int_View_int, 104, .struct [(0, 3), (1, 3), (2, 3), (3, 3), (4, 3), (5, 26), (9, 28)]⟩),
 (47, ⟨tILetter, 104, .struct [(0, 3), (1, 3), (2, 3), (3, 3), (4, 3), (5, 26), (9, 28)]⟩),
 (50, ⟨tSlIPeer, 24, .slice 35⟩),
 (68, ⟨tSlICmd, 24, .slice 139⟩),
 (69, ⟨tXstruct_N_int_Chain_bool_Liars_int_Tree_i, 144, .struct [(0, 3), (1, 4), (2, 3), (3, 24), (4, 50), (5, 33), (6, 32), (7, 68)]⟩),
 (70, ⟨tICluster, 144, .struct [(0, 3), (1, 4), (2, 3), (3, 24), (4, 50), (5, 33), (6, 32), (7, 68)]⟩),
 (93, ⟨tXstruct_Key_string_Num_int_, 24, .struct [(0, 9), (1, 3)]⟩),
 (94, ⟨tICell, 24, .struct [(0, 9), (1, 3)]⟩),
 (96, ⟨tXstruct_Key_string_Had_bool_Num_int_, 32, .struct [(0, 9), (1, 4), (2, 3)]⟩),
 (97, ⟨tIUndo, 32, .struct [(0, 9), (1, 4), (2, 3)]⟩),
 (98, ⟨tXstruct_Parent_int_View_int_Cmds_impl_Cmd, 72, .struct [(0, 3), (1, 3), (2, 68), (3, 26)]⟩),
 (99, ⟨tIBlock, 72, .struct [(0, 3), (1, 3), (2, 68), (3, 26)]⟩),
 (125, ⟨tXstruct_b_uint8_i_int_h_int_, 40, .struct [(0, 22), (1, 3), (2, 3)]⟩),
 (126, ⟨tSl01Cur, 40, .struct [(0, 22), (1, 3), (2, 3)]⟩),
 (127, ⟨tUint, 8, .scalar⟩),
 (138, ⟨tXstruct_Kind_int_Key_string_Num_int_, 32, .struct [(0, 3), (1, 9), (2, 3)]⟩),
 (139, ⟨tICmd, 32, .struct [(0, 3), (1, 9), (2, 3)]⟩),
 (140, ⟨tXstruct_Kind_int_At_int_To_int_Num_int_Cm, 64, .struct [(0, 3), (1, 3), (2, 3), (3, 3), (4, 139)]⟩),
 (141, ⟨tIEvent, 64, .struct [(0, 3), (1, 3), (2, 3), (3, 3), (4, 139)]⟩),
 (184, ⟨tSlString, 24, .slice 9⟩),
 (185, ⟨tSlIEvent, 24, .slice 141⟩),
 (224, ⟨tXstruct_text_string_at_int_bad_bool_, 32, .struct [(0, 9), (1, 3), (2, 4)]⟩),
 (225, ⟨tSl08Cur, 32, .struct [(0, 9), (1, 3), (2, 4)]⟩),
 (238, ⟨tUint32, 4, .scalar⟩),
 (252, ⟨tXabi_TFlag, 1, .scalar⟩),
 (253, ⟨tXabi_Kind, 1, .scalar⟩),
 (256, ⟨tXabi_NameOff, 4, .scalar⟩),
 (257, ⟨tXabi_TypeOff, 4, .scalar⟩)]
theorem tok2 (E : Env) (h : E.ti = assoc tis) : TIok Tryz.prog E 2 ⟨tInt64, 8, .scalar⟩ := tiok_scalar (inf := Tryz.t2) (by kernel_rfl) rfl rfl (by kernel_rfl) (by decide) (d := .int .i64) (by kernel_rfl) rfl
theorem tok3 (E : Env) (h : E.ti = assoc tis) : TIok Tryz.prog E 3 ⟨tInt, 8, .scalar⟩ := tiok_scalar (inf := Tryz.t3) (by kernel_rfl) rfl rfl (by kernel_rfl) (by decide) (d := .int .i64) (by kernel_rfl) rfl
theorem tok4 (E : Env) (h : E.ti = assoc tis) : TIok Tryz.prog E 4 ⟨tBool, 1, .scalar⟩ := tiok_scalar (inf := Tryz.t4) (by kernel_rfl) rfl rfl (by kernel_rfl) (by decide) (d := .bool) (by kernel_rfl) rfl
theorem tok5 (E : Env) (h : E.ti = assoc tis) : TIok Tryz.prog E 5 ⟨tUint8, 1, .scalar⟩ := tiok_scalar (inf := Tryz.t5) (by kernel_rfl) rfl rfl (by kernel_rfl) (by decide) (d := .int .u8) (by kernel_rfl) rfl
theorem tok6 (E : Env) (h : E.ti = assoc tis) : TIok Tryz.prog E 6 ⟨tXabi_BoundsErrorCode, 1, .scalar⟩ := tiok_scalar (inf := Tryz.t6) (by kernel_rfl) rfl rfl (by kernel_rfl) (by decide) (d := .int .u8) (by kernel_rfl) rfl
theorem tok7 (E : Env) (h : E.ti = assoc tis) : TIok Tryz.prog E 7 ⟨tXstruct_x_int64_y_int_signed_bool_code_ab, 24, .struct [(0, 2), (1, 3), (2, 4), (3, 6)]⟩ := tiok_struct (inf := Tryz.t7) (by kernel_rfl) (by kernel_rfl) rfl (by kernel_rfl) (by decide) (by decide) rfl (fields := #[{ name := "x", type := 2, offset := 0, embedded := false, tag := "", pkgPath := "runtime", byteOffset := 0 }, { name := "y", type := 3, offset := 1, embedded := false, tag := "", pkgPath := "runtime", byteOffset := 8 }, { name := "signed", type := 4, offset := 2, embedded := false, tag := "", pkgPath := "runtime", byteOffset := 16 }, { name := "code", type := 6, offset := 3, embedded := false, tag := "", pkgPath := "runtime", byteOffset := 17 }]) (by kernel_rfl) rfl (all_cons ⟨⟨tInt64, 8, .scalar⟩, by rw [h]; kernel_rfl⟩ (all_cons ⟨⟨tInt, 8, .scalar⟩, by rw [h]; kernel_rfl⟩ (all_cons ⟨⟨tBool, 1, .scalar⟩, by rw [h]; kernel_rfl⟩ (all_cons ⟨⟨tXabi_BoundsErrorCode, 1, .scalar⟩, by rw [h]; kernel_rfl⟩ all_nil))))
theorem tok8 (E : Env) (h : E.ti = assoc tis) : TIok Tryz.prog E 8 ⟨tXruntime_boundsError, 24, .struct [(0, 2), (1, 3), (2, 4), (3, 6)]⟩ := tiok_struct (inf := Tryz.t8) (by kernel_rfl) (by kernel_rfl) rfl (by kernel_rfl) (by decide) (by decide) rfl (fields := #[{ name := "x", type := 2, offset := 0, embedded := false, tag := "", pkgPath := "runtime", byteOffset := 0 }, { name := "y", type := 3, offset := 1, embedded := false, tag := "", pkgPath := "runtime", byteOffset := 8 }, { name := "signed", type := 4, offset := 2, embedded := false, tag := "", pkgPath := "runtime", byteOffset := 16 }, { name := "code", type := 6, offset := 3, embedded := false, tag := "", pkgPath := "runtime", byteOffset := 17 }]) (by kernel_rfl) rfl (all_cons ⟨⟨tInt64, 8, .scalar⟩, by rw [h]; kernel_rfl⟩ (all_cons ⟨⟨tInt, 8, .scalar⟩, by rw [h]; kernel_rfl⟩ (all_cons ⟨⟨tBool, 1, .scalar⟩, by rw [h]; kernel_rfl⟩ (all_cons ⟨⟨tXabi_BoundsErrorCode, 1, .scalar⟩, by rw [h]; kernel_rfl⟩ all_nil))))
theorem tok9 (E : Env) (h : E.ti = assoc tis) : TIok Tryz.prog E 9 ⟨tString, 16, .scalar⟩ := tiok_scalar (inf := Tryz.t9) (by kernel_rfl) rfl rfl (by kernel_rfl) (by decide) (d := .string) (by kernel_rfl) rfl
theorem tok10 (E : Env) (h : E.ti = assoc tis) : TIok Tryz.prog E 10 ⟨tXruntime_errorString, 16, .scalar⟩ := tiok_scalar (inf := Tryz.t10) (by kernel_rfl) rfl rfl (by kernel_rfl) (by decide) (d := .string) (by kernel_rfl) rfl
theorem tok11 (E : Env) (h : E.ti = assoc tis) : TIok Tryz.prog E 11 ⟨tXruntime_plainError, 16, .scalar⟩ := tiok_scalar (inf := Tryz.t11) (by kernel_rfl) rfl rfl (by kernel_rfl) (by decide) (d := .string) (by kernel_rfl) rfl
theorem tok12 (E : Env) (h : E.ti = assoc tis) : TIok Tryz.prog E 12 ⟨tUintptr, 8, .scalar⟩ := tiok_scalar (inf := Tryz.t12) (by kernel_rfl) rfl rfl (by kernel_rfl) (by decide) (d := .int .u64) (by kernel_rfl) rfl
theorem tok13 (E : Env) (h : E.ti = assoc tis) : TIok Tryz.prog E 13 ⟨tXstruct_msg_string_addr_uintptr_, 24, .struct [(0, 9), (1, 12)]⟩ := tiok_struct (inf := Tryz.t13) (by kernel_rfl) (by kernel_rfl) rfl (by kernel_rfl) (by decide) (by decide) rfl (fields := #[{ name := "msg", type := 9, offset := 0, embedded := false, tag := "", pkgPath := "runtime", byteOffset := 0 }, { name := "addr", type := 12, offset := 1, embedded := false, tag := "", pkgPath := "runtime", byteOffset := 16 }]) (by kernel_rfl) rfl (all_cons ⟨⟨tString, 16, .scalar⟩, by rw [h]; kernel_rfl⟩ (all_cons ⟨⟨tUintptr, 8, .scalar⟩, by rw [h]; kernel_rfl⟩ all_nil))
theorem tok14 (E : Env) (h : E.ti = assoc tis) : TIok Tryz.prog E 14 ⟨tXruntime_errorAddressString, 24, .struct [(0, 9), (1, 12)]⟩ := tiok_struct (inf := Tryz.t14) (by kernel_rfl) (by kernel_rfl) rfl (by kernel_rfl) (by decide) (by decide) rfl (fields := #[{ name := "msg", type := 9, offset := 0, embedded := false, tag := "", pkgPath := "runtime", byteOffset := 0 }, { name := "addr", type := 12, offset := 1, embedded := false, tag := "", pkgPath := "runtime", byteOffset := 16 }]) (by kernel_rfl) rfl (all_cons ⟨⟨tString, 16, .scalar⟩, by rw [h]; kernel_rfl⟩ (all_cons ⟨⟨tUintptr, 8, .scalar⟩, by rw [h]; kernel_rfl⟩ all_nil))
theorem tok21 (E : Env) (h : E.ti = assoc tis) : TIok Tryz.prog E 21 ⟨tInt32, 4, .scalar⟩ := tiok_scalar (inf := Tryz.t21) (by kernel_rfl) rfl rfl (by kernel_rfl) (by decide) (d := .int .i32) (by kernel_rfl) rfl
theorem tok22 (E : Env) (h : E.ti = assoc tis) : TIok Tryz.prog E 22 ⟨tSlUint8, 24, .slice 5⟩ := tiok_slice (ie := ⟨tUint8, 1, .scalar⟩) (inf := Tryz.t22) (by kernel_rfl) rfl rfl rfl (by decide) (by kernel_rfl) (by rw [h]; kernel_rfl)
theorem tok24 (E : Env) (h : E.ti = assoc tis) : TIok Tryz.prog E 24 ⟨tSlIBlock, 24, .slice 99⟩ := tiok_slice (ie := ⟨tIBlock, 72, .struct [(0, 3), (1, 3), (2, 68), (3, 26)]⟩) (inf := Tryz.t24) (by kernel_rfl) rfl rfl rfl (by decide) (by kernel_rfl) (by rw [h]; kernel_rfl)
theorem tok25 (E : Env) (h : E.ti = assoc tis) : TIok Tryz.prog E 25 ⟨tXstruct_Phase_int_View_int_Block_int_Sign, 32, .struct [(0, 3), (1, 3), (2, 3), (3, 3)]⟩ := tiok_struct (inf := Tryz.t25) (by kernel_rfl) (by kernel_rfl) rfl (by kernel_rfl) (by decide) (by decide) rfl (fields := #[{ name := "Phase", type := 3, offset := 0, embedded := false, tag := "", pkgPath := "", byteOffset := 0 }, { name := "View", type := 3, offset := 1, embedded := false, tag := "", pkgPath := "", byteOffset := 8 }, { name := "Block", type := 3, offset := 2, embedded := false, tag := "", pkgPath := "", byteOffset := 16 }, { name := "Signers", type := 3, offset := 3, embedded := false, tag := "", pkgPath := "", byteOffset := 24 }]) (by kernel_rfl) rfl (all_cons ⟨⟨tInt, 8, .scalar⟩, by rw [h]; kernel_rfl⟩ (all_cons ⟨⟨tInt, 8, .scalar⟩, by rw [h]; kernel_rfl⟩ (all_cons ⟨⟨tInt, 8, .scalar⟩, by rw [h]; kernel_rfl⟩ (all_cons ⟨⟨tInt, 8, .scalar⟩, by rw [h]; kernel_rfl⟩ all_nil))))
theorem tok26 (E : Env) (h : E.ti = assoc tis) : TIok Tryz.prog E 26 ⟨tIQc, 32, .struct [(0, 3), (1, 3), (2, 3), (3, 3)]⟩ := tiok_struct (inf := Tryz.t26) (by kernel_rfl) (by kernel_rfl) rfl (by kernel_rfl) (by decide) (by decide) rfl (fields := #[{ name := "Phase", type := 3, offset := 0, embedded := false, tag := "", pkgPath := "", byteOffset := 0 }, { name := "View", type := 3, offset := 1, embedded := false, tag := "", pkgPath := "", byteOffset := 8 }, { name := "Block", type := 3, offset := 2, embedded := false, tag := "", pkgPath := "", byteOffset := 16 }, { name := "Signers", type := 3, offset := 3, embedded := false, tag := "", pkgPath := "", byteOffset := 24 }]) (by kernel_rfl) rfl (all_cons ⟨⟨tInt, 8, .scalar⟩, by rw [h]; kernel_rfl⟩ (all_cons ⟨⟨tInt, 8, .scalar⟩, by rw [h]; kernel_rfl⟩ (all_cons ⟨⟨tInt, 8, .scalar⟩, by rw [h]; kernel_rfl⟩ (all_cons ⟨⟨tInt, 8, .scalar⟩, by rw [h]; kernel_rfl⟩ all_nil))))
theorem tok27 (E : Env) (h : E.ti = assoc tis) : TIok Tryz.prog E 27 ⟨tXstruct_Phase_int_View_int_Block_int_By_i, 32, .struct [(0, 3), (1, 3), (2, 3), (3, 3)]⟩ := tiok_struct (inf := Tryz.t27) (by kernel_rfl) (by kernel_rfl) rfl (by kernel_rfl) (by decide) (by decide) rfl (fields := #[{ name := "Phase", type := 3, offset := 0, embedded := false, tag := "", pkgPath := "", byteOffset := 0 }, { name := "View", type := 3, offset := 1, embedded := false, tag := "", pkgPath := "", byteOffset := 8 }, { name := "Block", type := 3, offset := 2, embedded := false, tag := "", pkgPath := "", byteOffset := 16 }, { name := "By", type := 3, offset := 3, embedded := false, tag := "", pkgPath := "", byteOffset := 24 }]) (by kernel_rfl) rfl (all_cons ⟨⟨tInt, 8, .scalar⟩, by rw [h]; kernel_rfl⟩ (all_cons ⟨⟨tInt, 8, .scalar⟩, by rw [h]; kernel_rfl⟩ (all_cons ⟨⟨tInt, 8, .scalar⟩, by rw [h]; kernel_rfl⟩ (all_cons ⟨⟨tInt, 8, .scalar⟩, by rw [h]; kernel_rfl⟩ all_nil))))
theorem tok28 (E : Env) (h : E.ti = assoc tis) : TIok Tryz.prog E 28 ⟨tIVote, 32, .struct [(0, 3), (1, 3), (2, 3), (3, 3)]⟩ := tiok_struct (inf := Tryz.t28) (by kernel_rfl) (by kernel_rfl) rfl (by kernel_rfl) (by decide) (by decide) rfl (fields := #[{ name := "Phase", type := 3, offset := 0, embedded := false, tag := "", pkgPath := "", byteOffset := 0 }, { name := "View", type := 3, offset := 1, embedded := false, tag := "", pkgPath := "", byteOffset := 8 }, { name := "Block", type := 3, offset := 2, embedded := false, tag := "", pkgPath := "", byteOffset := 16 }, { name := "By", type := 3, offset := 3, embedded := false, tag := "", pkgPath := "", byteOffset := 24 }]) (by kernel_rfl) rfl (all_cons ⟨⟨tInt, 8, .scalar⟩, by rw [h]; kernel_rfl⟩ (all_cons ⟨⟨tInt, 8, .scalar⟩, by rw [h]; kernel_rfl⟩ (all_cons ⟨⟨tInt, 8, .scalar⟩, by rw [h]; kernel_rfl⟩ (all_cons ⟨⟨tInt, 8, .scalar⟩, by rw [h]; kernel_rfl⟩ all_nil))))
theorem tok29 (E : Env) (h : E.ti = assoc tis) : TIok Tryz.prog E 29 ⟨tSlInt, 24, .slice 3⟩ := tiok_slice (ie := ⟨tInt, 8, .scalar⟩) (inf := Tryz.t29) (by kernel_rfl) rfl rfl rfl (by decide) (by kernel_rfl) (by rw [h]; kernel_rfl)
theorem tok30 (E : Env) (h : E.ti = assoc tis) : TIok Tryz.prog E 30 ⟨tSlICell, 24, .slice 94⟩ := tiok_slice (ie := ⟨tICell, 24, .struct [(0, 9), (1, 3)]⟩) (inf := Tryz.t30) (by kernel_rfl) rfl rfl rfl (by decide) (by kernel_rfl) (by rw [h]; kernel_rfl)
theorem tok31 (E : Env) (h : E.ti = assoc tis) : TIok Tryz.prog E 31 ⟨tSlIUndo, 24, .slice 97⟩ := tiok_slice (ie := ⟨tIUndo, 32, .struct [(0, 9), (1, 4), (2, 3)]⟩) (inf := Tryz.t31) (by kernel_rfl) rfl rfl rfl (by decide) (by kernel_rfl) (by rw [h]; kernel_rfl)
theorem tok32 (E : Env) (h : E.ti = assoc tis) : TIok Tryz.prog E 32 ⟨tSlIVote, 24, .slice 28⟩ := tiok_slice (ie := ⟨tIVote, 32, .struct [(0, 3), (1, 3), (2, 3), (3, 3)]⟩) (inf := Tryz.t32) (by kernel_rfl) rfl rfl rfl (by decide) (by kernel_rfl) (by rw [h]; kernel_rfl)
theorem tok33 (E : Env) (h : E.ti = assoc tis) : TIok Tryz.prog E 33 ⟨tSlILetter, 24, .slice 47⟩ := tiok_slice (ie := ⟨tILetter, 104, .struct [(0, 3), (1, 3), (2, 3), (3, 3), (4, 3), (5, 26), (9, 28)]⟩) (inf := Tryz.t33) (by kernel_rfl) rfl rfl rfl (by decide) (by kernel_rfl) (by rw [h]; kernel_rfl)
theorem tok34 (E : Env) (h : E.ti = assoc tis) : TIok Tryz.prog E 34 ⟨tXstruct_Id_int_View_int_High_impl_Qc_Lock, 264, .struct [(0, 3), (1, 3), (2, 26), (6, 26), (10, 28), (14, 29), (15, 30), (16, 29), (17, 31), (18, 32), (19, 33), (20, 3)]⟩ := tiok_struct (inf := Tryz.t34) (by kernel_rfl) (by kernel_rfl) rfl (by kernel_rfl) (by decide) (by decide) rfl (fields := #[{ name := "Id", type := 3, offset := 0, embedded := false, tag := "", pkgPath := "", byteOffset := 0 }, { name := "View", type := 3, offset := 1, embedded := false, tag := "", pkgPath := "", byteOffset := 8 }, { name := "High", type := 26, offset := 2, embedded := false, tag := "", pkgPath := "", byteOffset := 16 }, { name := "Lock", type := 26, offset := 6, embedded := false, tag := "", pkgPath := "", byteOffset := 48 }, { name := "Last", type := 28, offset := 10, embedded := false, tag := "", pkgPath := "", byteOffset := 80 }, { name := "Row", type := 29, offset := 14, embedded := false, tag := "", pkgPath := "", byteOffset := 112 }, { name := "Cells", type := 30, offset := 15, embedded := false, tag := "", pkgPath := "", byteOffset := 136 }, { name := "Early", type := 29, offset := 16, embedded := false, tag := "", pkgPath := "", byteOffset := 160 }, { name := "Undos", type := 31, offset := 17, embedded := false, tag := "", pkgPath := "", byteOffset := 184 }, { name := "Votes", type := 32, offset := 18, embedded := false, tag := "", pkgPath := "", byteOffset := 208 }, { name := "News", type := 33, offset := 19, embedded := false, tag := "", pkgPath := "", byteOffset := 232 }, { name := "Shown", type := 3, offset := 20, embedded := false, tag := "", pkgPath := "", byteOffset := 256 }]) (by kernel_rfl) rfl (all_cons ⟨⟨tInt, 8, .scalar⟩, by rw [h]; kernel_rfl⟩ (all_cons ⟨⟨tInt, 8, .scalar⟩, by rw [h]; kernel_rfl⟩ (all_cons ⟨⟨tIQc, 32, .struct [(0, 3), (1, 3), (2, 3), (3, 3)]⟩, by rw [h]; kernel_rfl⟩ (all_cons ⟨⟨tIQc, 32, .struct [(0, 3), (1, 3), (2, 3), (3, 3)]⟩, by rw [h]; kernel_rfl⟩ (all_cons ⟨⟨tIVote, 32, .struct [(0, 3), (1, 3), (2, 3), (3, 3)]⟩, by rw [h]; kernel_rfl⟩ (all_cons ⟨⟨tSlInt, 24, .slice 3⟩, by rw [h]; kernel_rfl⟩ (all_cons ⟨⟨tSlICell, 24, .slice 94⟩, by rw [h]; kernel_rfl⟩ (all_cons ⟨⟨tSlInt, 24, .slice 3⟩, by rw [h]; kernel_rfl⟩ (all_cons ⟨⟨tSlIUndo, 24, .slice 97⟩, by rw [h]; kernel_rfl⟩ (all_cons ⟨⟨tSlIVote, 24, .slice 28⟩, by rw [h]; kernel_rfl⟩ (all_cons ⟨⟨tSlILetter, 24, .slice 47⟩, by rw [h]; kernel_rfl⟩ (all_cons ⟨⟨tInt, 8, .scalar⟩, by rw [h]; kernel_rfl⟩ all_nil))))))))))))
theorem tok35 (E : Env) (h : E.ti = assoc tis) : TIok Tryz.prog E 35 ⟨tIPeer, 264, .struct [(0, 3), (1, 3), (2, 26), (6, 26), (10, 28), (14, 29), (15, 30), (16, 29), (17, 31), (18, 32), (19, 33), (20, 3)]⟩ := tiok_struct (inf := Tryz.t35) (by kernel_rfl) (by kernel_rfl) rfl (by kernel_rfl) (by decide) (by decide) rfl (fields := #[{ name := "Id", type := 3, offset := 0, embedded := false, tag := "", pkgPath := "", byteOffset := 0 }, { name := "View", type := 3, offset := 1, embedded := false, tag := "", pkgPath := "", byteOffset := 8 }, { name := "High", type := 26, offset := 2, embedded := false, tag := "", pkgPath := "", byteOffset := 16 }, { name := "Lock", type := 26, offset := 6, embedded := false, tag := "", pkgPath := "", byteOffset := 48 }, { name := "Last", type := 28, offset := 10, embedded := false, tag := "", pkgPath := "", byteOffset := 80 }, { name := "Row", type := 29, offset := 14, embedded := false, tag := "", pkgPath := "", byteOffset := 112 }, { name := "Cells", type := 30, offset := 15, embedded := false, tag := "", pkgPath := "", byteOffset := 136 }, { name := "Early", type := 29, offset := 16, embedded := false, tag := "", pkgPath := "", byteOffset := 160 }, { name := "Undos", type := 31, offset := 17, embedded := false, tag := "", pkgPath := "", byteOffset := 184 }, { name := "Votes", type := 32, offset := 18, embedded := false, tag := "", pkgPath := "", byteOffset := 208 }, { name := "News", type := 33, offset := 19, embedded := false, tag := "", pkgPath := "", byteOffset := 232 }, { name := "Shown", type := 3, offset := 20, embedded := false, tag := "", pkgPath := "", byteOffset := 256 }]) (by kernel_rfl) rfl (all_cons ⟨⟨tInt, 8, .scalar⟩, by rw [h]; kernel_rfl⟩ (all_cons ⟨⟨tInt, 8, .scalar⟩, by rw [h]; kernel_rfl⟩ (all_cons ⟨⟨tIQc, 32, .struct [(0, 3), (1, 3), (2, 3), (3, 3)]⟩, by rw [h]; kernel_rfl⟩ (all_cons ⟨⟨tIQc, 32, .struct [(0, 3), (1, 3), (2, 3), (3, 3)]⟩, by rw [h]; kernel_rfl⟩ (all_cons ⟨⟨tIVote, 32, .struct [(0, 3), (1, 3), (2, 3), (3, 3)]⟩, by rw [h]; kernel_rfl⟩ (all_cons ⟨⟨tSlInt, 24, .slice 3⟩, by rw [h]; kernel_rfl⟩ (all_cons ⟨⟨tSlICell, 24, .slice 94⟩, by rw [h]; kernel_rfl⟩ (all_cons ⟨⟨tSlInt, 24, .slice 3⟩, by rw [h]; kernel_rfl⟩ (all_cons ⟨⟨tSlIUndo, 24, .slice 97⟩, by rw [h]; kernel_rfl⟩ (all_cons ⟨⟨tSlIVote, 24, .slice 28⟩, by rw [h]; kernel_rfl⟩ (all_cons ⟨⟨tSlILetter, 24, .slice 47⟩, by rw [h]; kernel_rfl⟩ (all_cons ⟨⟨tInt, 8, .scalar⟩, by rw [h]; kernel_rfl⟩ all_nil))))))))))))
theorem tok46 (E : Env) (h : E.ti = assoc tis) : TIok Tryz.prog E 46 ⟨tXstruct_Kind_int_From_int_To_int_View_int, 104, .struct [(0, 3), (1, 3), (2, 3), (3, 3), (4, 3), (5, 26), (9, 28)]⟩ := tiok_struct (inf := Tryz.t46) (by kernel_rfl) (by kernel_rfl) rfl (by kernel_rfl) (by decide) (by decide) rfl (fields := #[{ name := "Kind", type := 3, offset := 0, embedded := false, tag := "", pkgPath := "", byteOffset := 0 }, { name := "From", type := 3, offset := 1, embedded := false, tag := "", pkgPath := "", byteOffset := 8 }, { name := "To", type := 3, offset := 2, embedded := false, tag := "", pkgPath := "", byteOffset := 16 }, { name := "View", type := 3, offset := 3, embedded := false, tag := "", pkgPath := "", byteOffset := 24 }, { name := "Block", type := 3, offset := 4, embedded := false, tag := "", pkgPath := "", byteOffset := 32 }, { name := "Qc", type := 26, offset := 5, embedded := false, tag := "", pkgPath := "", byteOffset := 40 }, { name := "Vote", type := 28, offset := 9, embedded := false, tag := "", pkgPath := "", byteOffset := 72 }]) (by kernel_rfl) rfl (all_cons ⟨⟨tInt, 8, .scalar⟩, by rw [h]; kernel_rfl⟩ (all_cons ⟨⟨tInt, 8, .scalar⟩, by rw [h]; kernel_rfl⟩ (all_cons ⟨⟨tInt, 8, .scalar⟩, by rw [h]; kernel_rfl⟩ (all_cons ⟨⟨tInt, 8, .scalar⟩, by rw [h]; kernel_rfl⟩ (all_cons ⟨⟨tInt, 8, .scalar⟩, by rw [h]; kernel_rfl⟩ (all_cons ⟨⟨tIQc, 32, .struct [(0, 3), (1, 3), (2, 3), (3, 3)]⟩, by rw [h]; kernel_rfl⟩ (all_cons ⟨⟨tIVote, 32, .struct [(0, 3), (1, 3), (2, 3), (3, 3)]⟩, by rw [h]; kernel_rfl⟩ all_nil)))))))
theorem tok47 (E : Env) (h : E.ti = assoc tis) : TIok Tryz.prog E 47 ⟨tILetter, 104, .struct [(0, 3), (1, 3), (2, 3), (3, 3), (4, 3), (5, 26), (9, 28)]⟩ := tiok_struct (inf := Tryz.t47) (by kernel_rfl) (by kernel_rfl) rfl (by kernel_rfl) (by decide) (by decide) rfl (fields := #[{ name := "Kind", type := 3, offset := 0, embedded := false, tag := "", pkgPath := "", byteOffset := 0 }, { name := "From", type := 3, offset := 1, embedded := false, tag := "", pkgPath := "", byteOffset := 8 }, { name := "To", type := 3, offset := 2, embedded := false, tag := "", pkgPath := "", byteOffset := 16 }, { name := "View", type := 3, offset := 3, embedded := false, tag := "", pkgPath := "", byteOffset := 24 }, { name := "Block", type := 3, offset := 4, embedded := false, tag := "", pkgPath := "", byteOffset := 32 }, { name := "Qc", type := 26, offset := 5, embedded := false, tag := "", pkgPath := "", byteOffset := 40 }, { name := "Vote", type := 28, offset := 9, embedded := false, tag := "", pkgPath := "", byteOffset := 72 }]) (by kernel_rfl) rfl (all_cons ⟨⟨tInt, 8, .scalar⟩, by rw [h]; kernel_rfl⟩ (all_cons ⟨⟨tInt, 8, .scalar⟩, by rw [h]; kernel_rfl⟩ (all_cons ⟨⟨tInt, 8, .scalar⟩, by rw [h]; kernel_rfl⟩ (all_cons ⟨⟨tInt, 8, .scalar⟩, by rw [h]; kernel_rfl⟩ (all_cons ⟨⟨tInt, 8, .scalar⟩, by rw [h]; kernel_rfl⟩ (all_cons ⟨⟨tIQc, 32, .struct [(0, 3), (1, 3), (2, 3), (3, 3)]⟩, by rw [h]; kernel_rfl⟩ (all_cons ⟨⟨tIVote, 32, .struct [(0, 3), (1, 3), (2, 3), (3, 3)]⟩, by rw [h]; kernel_rfl⟩ all_nil)))))))
theorem tok50 (E : Env) (h : E.ti = assoc tis) : TIok Tryz.prog E 50 ⟨tSlIPeer, 24, .slice 35⟩ := tiok_slice (ie := ⟨tIPeer, 264, .struct [(0, 3), (1, 3), (2, 26), (6, 26), (10, 28), (14, 29), (15, 30), (16, 29), (17, 31), (18, 32), (19, 33), (20, 3)]⟩) (inf := Tryz.t50) (by kernel_rfl) rfl rfl rfl (by decide) (by kernel_rfl) (by rw [h]; kernel_rfl)
theorem tok68 (E : Env) (h : E.ti = assoc tis) : TIok Tryz.prog E 68 ⟨tSlICmd, 24, .slice 139⟩ := tiok_slice (ie := ⟨tICmd, 32, .struct [(0, 3), (1, 9), (2, 3)]⟩) (inf := Tryz.t68) (by kernel_rfl) rfl rfl rfl (by decide) (by kernel_rfl) (by rw [h]; kernel_rfl)
theorem tok69 (E : Env) (h : E.ti = assoc tis) : TIok Tryz.prog E 69 ⟨tXstruct_N_int_Chain_bool_Liars_int_Tree_i, 144, .struct [(0, 3), (1, 4), (2, 3), (3, 24), (4, 50), (5, 33), (6, 32), (7, 68)]⟩ := tiok_struct (inf := Tryz.t69) (by kernel_rfl) (by kernel_rfl) rfl (by kernel_rfl) (by decide) (by decide) rfl (fields := #[{ name := "N", type := 3, offset := 0, embedded := false, tag := "", pkgPath := "", byteOffset := 0 }, { name := "Chain", type := 4, offset := 1, embedded := false, tag := "", pkgPath := "", byteOffset := 8 }, { name := "Liars", type := 3, offset := 2, embedded := false, tag := "", pkgPath := "", byteOffset := 16 }, { name := "Tree", type := 24, offset := 3, embedded := false, tag := "", pkgPath := "", byteOffset := 24 }, { name := "Peers", type := 50, offset := 4, embedded := false, tag := "", pkgPath := "", byteOffset := 48 }, { name := "Net", type := 33, offset := 5, embedded := false, tag := "", pkgPath := "", byteOffset := 72 }, { name := "Said", type := 32, offset := 6, embedded := false, tag := "", pkgPath := "", byteOffset := 96 }, { name := "Pending", type := 68, offset := 7, embedded := false, tag := "", pkgPath := "", byteOffset := 120 }]) (by kernel_rfl) rfl (all_cons ⟨⟨tInt, 8, .scalar⟩, by rw [h]; kernel_rfl⟩ (all_cons ⟨⟨tBool, 1, .scalar⟩, by rw [h]; kernel_rfl⟩ (all_cons ⟨⟨tInt, 8, .scalar⟩, by rw [h]; kernel_rfl⟩ (all_cons ⟨⟨tSlIBlock, 24, .slice 99⟩, by rw [h]; kernel_rfl⟩ (all_cons ⟨⟨tSlIPeer, 24, .slice 35⟩, by rw [h]; kernel_rfl⟩ (all_cons ⟨⟨tSlILetter, 24, .slice 47⟩, by rw [h]; kernel_rfl⟩ (all_cons ⟨⟨tSlIVote, 24, .slice 28⟩, by rw [h]; kernel_rfl⟩ (all_cons ⟨⟨tSlICmd, 24, .slice 139⟩, by rw [h]; kernel_rfl⟩ all_nil))))))))
theorem tok70 (E : Env) (h : E.ti = assoc tis) : TIok Tryz.prog E 70 ⟨tICluster, 144, .struct [(0, 3), (1, 4), (2, 3), (3, 24), (4, 50), (5, 33), (6, 32), (7, 68)]⟩ := tiok_struct (inf := Tryz.t70) (by kernel_rfl) (by kernel_rfl) rfl (by kernel_rfl) (by decide) (by decide) rfl (fields := #[{ name := "N", type := 3, offset := 0, embedded := false, tag := "", pkgPath := "", byteOffset := 0 }, { name := "Chain", type := 4, offset := 1, embedded := false, tag := "", pkgPath := "", byteOffset := 8 }, { name := "Liars", type := 3, offset := 2, embedded := false, tag := "", pkgPath := "", byteOffset := 16 }, { name := "Tree", type := 24, offset := 3, embedded := false, tag := "", pkgPath := "", byteOffset := 24 }, { name := "Peers", type := 50, offset := 4, embedded := false, tag := "", pkgPath := "", byteOffset := 48 }, { name := "Net", type := 33, offset := 5, embedded := false, tag := "", pkgPath := "", byteOffset := 72 }, { name := "Said", type := 32, offset := 6, embedded := false, tag := "", pkgPath := "", byteOffset := 96 }, { name := "Pending", type := 68, offset := 7, embedded := false, tag := "", pkgPath := "", byteOffset := 120 }]) (by kernel_rfl) rfl (all_cons ⟨⟨tInt, 8, .scalar⟩, by rw [h]; kernel_rfl⟩ (all_cons ⟨⟨tBool, 1, .scalar⟩, by rw [h]; kernel_rfl⟩ (all_cons ⟨⟨tInt, 8, .scalar⟩, by rw [h]; kernel_rfl⟩ (all_cons ⟨⟨tSlIBlock, 24, .slice 99⟩, by rw [h]; kernel_rfl⟩ (all_cons ⟨⟨tSlIPeer, 24, .slice 35⟩, by rw [h]; kernel_rfl⟩ (all_cons ⟨⟨tSlILetter, 24, .slice 47⟩, by rw [h]; kernel_rfl⟩ (all_cons ⟨⟨tSlIVote, 24, .slice 28⟩, by rw [h]; kernel_rfl⟩ (all_cons ⟨⟨tSlICmd, 24, .slice 139⟩, by rw [h]; kernel_rfl⟩ all_nil))))))))
theorem tok93 (E : Env) (h : E.ti = assoc tis) : TIok Tryz.prog E 93 ⟨tXstruct_Key_string_Num_int_, 24, .struct [(0, 9), (1, 3)]⟩ := tiok_struct (inf := Tryz.t93) (by kernel_rfl) (by kernel_rfl) rfl (by kernel_rfl) (by decide) (by decide) rfl (fields := #[{ name := "Key", type := 9, offset := 0, embedded := false, tag := "", pkgPath := "", byteOffset := 0 }, { name := "Num", type := 3, offset := 1, embedded := false, tag := "", pkgPath := "", byteOffset := 16 }]) (by kernel_rfl) rfl (all_cons ⟨⟨tString, 16, .scalar⟩, by rw [h]; kernel_rfl⟩ (all_cons ⟨⟨tInt, 8, .scalar⟩, by rw [h]; kernel_rfl⟩ all_nil))
theorem tok94 (E : Env) (h : E.ti = assoc tis) : TIok Tryz.prog E 94 ⟨tICell, 24, .struct [(0, 9), (1, 3)]⟩ := tiok_struct (inf := Tryz.t94) (by kernel_rfl) (by kernel_rfl) rfl (by kernel_rfl) (by decide) (by decide) rfl (fields := #[{ name := "Key", type := 9, offset := 0, embedded := false, tag := "", pkgPath := "", byteOffset := 0 }, { name := "Num", type := 3, offset := 1, embedded := false, tag := "", pkgPath := "", byteOffset := 16 }]) (by kernel_rfl) rfl (all_cons ⟨⟨tString, 16, .scalar⟩, by rw [h]; kernel_rfl⟩ (all_cons ⟨⟨tInt, 8, .scalar⟩, by rw [h]; kernel_rfl⟩ all_nil))
theorem tok96 (E : Env) (h : E.ti = assoc tis) : TIok Tryz.prog E 96 ⟨tXstruct_Key_string_Had_bool_Num_int_, 32, .struct [(0, 9), (1, 4), (2, 3)]⟩ := tiok_struct (inf := Tryz.t96) (by kernel_rfl) (by kernel_rfl) rfl (by kernel_rfl) (by decide) (by decide) rfl (fields := #[{ name := "Key", type := 9, offset := 0, embedded := false, tag := "", pkgPath := "", byteOffset := 0 }, { name := "Had", type := 4, offset := 1, embedded := false, tag := "", pkgPath := "", byteOffset := 16 }, { name := "Num", type := 3, offset := 2, embedded := false, tag := "", pkgPath := "", byteOffset := 24 }]) (by kernel_rfl) rfl (all_cons ⟨⟨tString, 16, .scalar⟩, by rw [h]; kernel_rfl⟩ (all_cons ⟨⟨tBool, 1, .scalar⟩, by rw [h]; kernel_rfl⟩ (all_cons ⟨⟨tInt, 8, .scalar⟩, by rw [h]; kernel_rfl⟩ all_nil)))
theorem tok97 (E : Env) (h : E.ti = assoc tis) : TIok Tryz.prog E 97 ⟨tIUndo, 32, .struct [(0, 9), (1, 4), (2, 3)]⟩ := tiok_struct (inf := Tryz.t97) (by kernel_rfl) (by kernel_rfl) rfl (by kernel_rfl) (by decide) (by decide) rfl (fields := #[{ name := "Key", type := 9, offset := 0, embedded := false, tag := "", pkgPath := "", byteOffset := 0 }, { name := "Had", type := 4, offset := 1, embedded := false, tag := "", pkgPath := "", byteOffset := 16 }, { name := "Num", type := 3, offset := 2, embedded := false, tag := "", pkgPath := "", byteOffset := 24 }]) (by kernel_rfl) rfl (all_cons ⟨⟨tString, 16, .scalar⟩, by rw [h]; kernel_rfl⟩ (all_cons ⟨⟨tBool, 1, .scalar⟩, by rw [h]; kernel_rfl⟩ (all_cons ⟨⟨tInt, 8, .scalar⟩, by rw [h]; kernel_rfl⟩ all_nil)))
theorem tok98 (E : Env) (h : E.ti = assoc tis) : TIok Tryz.prog E 98 ⟨tXstruct_Parent_int_View_int_Cmds_impl_Cmd, 72, .struct [(0, 3), (1, 3), (2, 68), (3, 26)]⟩ := tiok_struct (inf := Tryz.t98) (by kernel_rfl) (by kernel_rfl) rfl (by kernel_rfl) (by decide) (by decide) rfl (fields := #[{ name := "Parent", type := 3, offset := 0, embedded := false, tag := "", pkgPath := "", byteOffset := 0 }, { name := "View", type := 3, offset := 1, embedded := false, tag := "", pkgPath := "", byteOffset := 8 }, { name := "Cmds", type := 68, offset := 2, embedded := false, tag := "", pkgPath := "", byteOffset := 16 }, { name := "Just", type := 26, offset := 3, embedded := false, tag := "", pkgPath := "", byteOffset := 40 }]) (by kernel_rfl) rfl (all_cons ⟨⟨tInt, 8, .scalar⟩, by rw [h]; kernel_rfl⟩ (all_cons ⟨⟨tInt, 8, .scalar⟩, by rw [h]; kernel_rfl⟩ (all_cons ⟨⟨tSlICmd, 24, .slice 139⟩, by rw [h]; kernel_rfl⟩ (all_cons ⟨⟨tIQc, 32, .struct [(0, 3), (1, 3), (2, 3), (3, 3)]⟩, by rw [h]; kernel_rfl⟩ all_nil))))
theorem tok99 (E : Env) (h : E.ti = assoc tis) : TIok Tryz.prog E 99 ⟨tIBlock, 72, .struct [(0, 3), (1, 3), (2, 68), (3, 26)]⟩ := tiok_struct (inf := Tryz.t99) (by kernel_rfl) (by kernel_rfl) rfl (by kernel_rfl) (by decide) (by decide) rfl (fields := #[{ name := "Parent", type := 3, offset := 0, embedded := false, tag := "", pkgPath := "", byteOffset := 0 }, { name := "View", type := 3, offset := 1, embedded := false, tag := "", pkgPath := "", byteOffset := 8 }, { name := "Cmds", type := 68, offset := 2, embedded := false, tag := "", pkgPath := "", byteOffset := 16 }, { name := "Just", type := 26, offset := 3, embedded := false, tag := "", pkgPath := "", byteOffset := 40 }]) (by kernel_rfl) rfl (all_cons ⟨⟨tInt, 8, .scalar⟩, by rw [h]; kernel_rfl⟩ (all_cons ⟨⟨tInt, 8, .scalar⟩, by rw [h]; kernel_rfl⟩ (all_cons ⟨⟨tSlICmd, 24, .slice 139⟩, by rw [h]; kernel_rfl⟩ (all_cons ⟨⟨tIQc, 32, .struct [(0, 3), (1, 3), (2, 3), (3, 3)]⟩, by rw [h]; kernel_rfl⟩ all_nil))))
theorem tok125 (E : Env) (h : E.ti = assoc tis) : TIok Tryz.prog E 125 ⟨tXstruct_b_uint8_i_int_h_int_, 40, .struct [(0, 22), (1, 3), (2, 3)]⟩ := tiok_struct (inf := Tryz.t125) (by kernel_rfl) (by kernel_rfl) rfl (by kernel_rfl) (by decide) (by decide) rfl (fields := #[{ name := "b", type := 22, offset := 0, embedded := false, tag := "", pkgPath := "loop.example/g00330/spec", byteOffset := 0 }, { name := "i", type := 3, offset := 1, embedded := false, tag := "", pkgPath := "loop.example/g00330/spec", byteOffset := 24 }, { name := "h", type := 3, offset := 2, embedded := false, tag := "", pkgPath := "loop.example/g00330/spec", byteOffset := 32 }]) (by kernel_rfl) rfl (all_cons ⟨⟨tSlUint8, 24, .slice 5⟩, by rw [h]; kernel_rfl⟩ (all_cons ⟨⟨tInt, 8, .scalar⟩, by rw [h]; kernel_rfl⟩ (all_cons ⟨⟨tInt, 8, .scalar⟩, by rw [h]; kernel_rfl⟩ all_nil)))
theorem tok126 (E : Env) (h : E.ti = assoc tis) : TIok Tryz.prog E 126 ⟨tSl01Cur, 40, .struct [(0, 22), (1, 3), (2, 3)]⟩ := tiok_struct (inf := Tryz.t126) (by kernel_rfl) (by kernel_rfl) rfl (by kernel_rfl) (by decide) (by decide) rfl (fields := #[{ name := "b", type := 22, offset := 0, embedded := false, tag := "", pkgPath := "loop.example/g00330/spec", byteOffset := 0 }, { name := "i", type := 3, offset := 1, embedded := false, tag := "", pkgPath := "loop.example/g00330/spec", byteOffset := 24 }, { name := "h", type := 3, offset := 2, embedded := false, tag := "", pkgPath := "loop.example/g00330/spec", byteOffset := 32 }]) (by kernel_rfl) rfl (all_cons ⟨⟨tSlUint8, 24, .slice 5⟩, by rw [h]; kernel_rfl⟩ (all_cons ⟨⟨tInt, 8, .scalar⟩, by rw [h]; kernel_rfl⟩ (all_cons ⟨⟨tInt, 8, .scalar⟩, by rw [h]; kernel_rfl⟩ all_nil)))
theorem tok127 (E : Env) (h : E.ti = assoc tis) : TIok Tryz.prog E 127 ⟨tUint, 8, .scalar⟩ := tiok_scalar (inf := Tryz.t127) (by kernel_rfl) rfl rfl (by kernel_rfl) (by decide) (d := .int .u64) (by kernel_rfl) rfl
theorem tok138 (E : Env) (h : E.ti = assoc tis) : TIok Tryz.prog E 138 ⟨tXstruct_Kind_int_Key_string_Num_int_, 32, .struct [(0, 3), (1, 9), (2, 3)]⟩ := tiok_struct (inf := Tryz.t138) (by kernel_rfl) (by kernel_rfl) rfl (by kernel_rfl) (by decide) (by decide) rfl (fields := #[{ name := "Kind", type := 3, offset := 0, embedded := false, tag := "", pkgPath := "", byteOffset := 0 }, { name := "Key", type := 9, offset := 1, embedded := false, tag := "", pkgPath := "", byteOffset := 8 }, { name := "Num", type := 3, offset := 2, embedded := false, tag := "", pkgPath := "", byteOffset := 24 }]) (by kernel_rfl) rfl (all_cons ⟨⟨tInt, 8, .scalar⟩, by rw [h]; kernel_rfl⟩ (all_cons ⟨⟨tString, 16, .scalar⟩, by rw [h]; kernel_rfl⟩ (all_cons ⟨⟨tInt, 8, .scalar⟩, by rw [h]; kernel_rfl⟩ all_nil)))
theorem tok139 (E : Env) (h : E.ti = assoc tis) : TIok Tryz.prog E 139 ⟨tICmd, 32, .struct [(0, 3), (1, 9), (2, 3)]⟩ := tiok_struct (inf := Tryz.t139) (by kernel_rfl) (by kernel_rfl) rfl (by kernel_rfl) (by decide) (by decide) rfl (fields := #[{ name := "Kind", type := 3, offset := 0, embedded := false, tag := "", pkgPath := "", byteOffset := 0 }, { name := "Key", type := 9, offset := 1, embedded := false, tag := "", pkgPath := "", byteOffset := 8 }, { name := "Num", type := 3, offset := 2, embedded := false, tag := "", pkgPath := "", byteOffset := 24 }]) (by kernel_rfl) rfl (all_cons ⟨⟨tInt, 8, .scalar⟩, by rw [h]; kernel_rfl⟩ (all_cons ⟨⟨tString, 16, .scalar⟩, by rw [h]; kernel_rfl⟩ (all_cons ⟨⟨tInt, 8, .scalar⟩, by rw [h]; kernel_rfl⟩ all_nil)))
theorem tok140 (E : Env) (h : E.ti = assoc tis) : TIok Tryz.prog E 140 ⟨tXstruct_Kind_int_At_int_To_int_Num_int_Cm, 64, .struct [(0, 3), (1, 3), (2, 3), (3, 3), (4, 139)]⟩ := tiok_struct (inf := Tryz.t140) (by kernel_rfl) (by kernel_rfl) rfl (by kernel_rfl) (by decide) (by decide) rfl (fields := #[{ name := "Kind", type := 3, offset := 0, embedded := false, tag := "", pkgPath := "", byteOffset := 0 }, { name := "At", type := 3, offset := 1, embedded := false, tag := "", pkgPath := "", byteOffset := 8 }, { name := "To", type := 3, offset := 2, embedded := false, tag := "", pkgPath := "", byteOffset := 16 }, { name := "Num", type := 3, offset := 3, embedded := false, tag := "", pkgPath := "", byteOffset := 24 }, { name := "Cmd", type := 139, offset := 4, embedded := false, tag := "", pkgPath := "", byteOffset := 32 }]) (by kernel_rfl) rfl (all_cons ⟨⟨tInt, 8, .scalar⟩, by rw [h]; kernel_rfl⟩ (all_cons ⟨⟨tInt, 8, .scalar⟩, by rw [h]; kernel_rfl⟩ (all_cons ⟨⟨tInt, 8, .scalar⟩, by rw [h]; kernel_rfl⟩ (all_cons ⟨⟨tInt, 8, .scalar⟩, by rw [h]; kernel_rfl⟩ (all_cons ⟨⟨tICmd, 32, .struct [(0, 3), (1, 9), (2, 3)]⟩, by rw [h]; kernel_rfl⟩ all_nil)))))
theorem tok141 (E : Env) (h : E.ti = assoc tis) : TIok Tryz.prog E 141 ⟨tIEvent, 64, .struct [(0, 3), (1, 3), (2, 3), (3, 3), (4, 139)]⟩ := tiok_struct (inf := Tryz.t141) (by kernel_rfl) (by kernel_rfl) rfl (by kernel_rfl) (by decide) (by decide) rfl (fields := #[{ name := "Kind", type := 3, offset := 0, embedded := false, tag := "", pkgPath := "", byteOffset := 0 }, { name := "At", type := 3, offset := 1, embedded := false, tag := "", pkgPath := "", byteOffset := 8 }, { name := "To", type := 3, offset := 2, embedded := false, tag := "", pkgPath := "", byteOffset := 16 }, { name := "Num", type := 3, offset := 3, embedded := false, tag := "", pkgPath := "", byteOffset := 24 }, { name := "Cmd", type := 139, offset := 4, embedded := false, tag := "", pkgPath := "", byteOffset := 32 }]) (by kernel_rfl) rfl (all_cons ⟨⟨tInt, 8, .scalar⟩, by rw [h]; kernel_rfl⟩ (all_cons ⟨⟨tInt, 8, .scalar⟩, by rw [h]; kernel_rfl⟩ (all_cons ⟨⟨tInt, 8, .scalar⟩, by rw [h]; kernel_rfl⟩ (all_cons ⟨⟨tInt, 8, .scalar⟩, by rw [h]; kernel_rfl⟩ (all_cons ⟨⟨tICmd, 32, .struct [(0, 3), (1, 9), (2, 3)]⟩, by rw [h]; kernel_rfl⟩ all_nil)))))
theorem tok184 (E : Env) (h : E.ti = assoc tis) : TIok Tryz.prog E 184 ⟨tSlString, 24, .slice 9⟩ := tiok_slice (ie := ⟨tString, 16, .scalar⟩) (inf := Tryz.t184) (by kernel_rfl) rfl rfl rfl (by decide) (by kernel_rfl) (by rw [h]; kernel_rfl)
theorem tok185 (E : Env) (h : E.ti = assoc tis) : TIok Tryz.prog E 185 ⟨tSlIEvent, 24, .slice 141⟩ := tiok_slice (ie := ⟨tIEvent, 64, .struct [(0, 3), (1, 3), (2, 3), (3, 3), (4, 139)]⟩) (inf := Tryz.t185) (by kernel_rfl) rfl rfl rfl (by decide) (by kernel_rfl) (by rw [h]; kernel_rfl)
theorem tok224 (E : Env) (h : E.ti = assoc tis) : TIok Tryz.prog E 224 ⟨tXstruct_text_string_at_int_bad_bool_, 32, .struct [(0, 9), (1, 3), (2, 4)]⟩ := tiok_struct (inf := Tryz.t224) (by kernel_rfl) (by kernel_rfl) rfl (by kernel_rfl) (by decide) (by decide) rfl (fields := #[{ name := "text", type := 9, offset := 0, embedded := false, tag := "", pkgPath := "loop.example/g00330/spec", byteOffset := 0 }, { name := "at", type := 3, offset := 1, embedded := false, tag := "", pkgPath := "loop.example/g00330/spec", byteOffset := 16 }, { name := "bad", type := 4, offset := 2, embedded := false, tag := "", pkgPath := "loop.example/g00330/spec", byteOffset := 24 }]) (by kernel_rfl) rfl (all_cons ⟨⟨tString, 16, .scalar⟩, by rw [h]; kernel_rfl⟩ (all_cons ⟨⟨tInt, 8, .scalar⟩, by rw [h]; kernel_rfl⟩ (all_cons ⟨⟨tBool, 1, .scalar⟩, by rw [h]; kernel_rfl⟩ all_nil)))
theorem tok225 (E : Env) (h : E.ti = assoc tis) : TIok Tryz.prog E 225 ⟨tSl08Cur, 32, .struct [(0, 9), (1, 3), (2, 4)]⟩ := tiok_struct (inf := Tryz.t225) (by kernel_rfl) (by kernel_rfl) rfl (by kernel_rfl) (by decide) (by decide) rfl (fields := #[{ name := "text", type := 9, offset := 0, embedded := false, tag := "", pkgPath := "loop.example/g00330/spec", byteOffset := 0 }, { name := "at", type := 3, offset := 1, embedded := false, tag := "", pkgPath := "loop.example/g00330/spec", byteOffset := 16 }, { name := "bad", type := 4, offset := 2, embedded := false, tag := "", pkgPath := "loop.example/g00330/spec", byteOffset := 24 }]) (by kernel_rfl) rfl (all_cons ⟨⟨tString, 16, .scalar⟩, by rw [h]; kernel_rfl⟩ (all_cons ⟨⟨tInt, 8, .scalar⟩, by rw [h]; kernel_rfl⟩ (all_cons ⟨⟨tBool, 1, .scalar⟩, by rw [h]; kernel_rfl⟩ all_nil)))
theorem tok238 (E : Env) (h : E.ti = assoc tis) : TIok Tryz.prog E 238 ⟨tUint32, 4, .scalar⟩ := tiok_scalar (inf := Tryz.t238) (by kernel_rfl) rfl rfl (by kernel_rfl) (by decide) (d := .int .u32) (by kernel_rfl) rfl
theorem tok252 (E : Env) (h : E.ti = assoc tis) : TIok Tryz.prog E 252 ⟨tXabi_TFlag, 1, .scalar⟩ := tiok_scalar (inf := Tryz.t252) (by kernel_rfl) rfl rfl (by kernel_rfl) (by decide) (d := .int .u8) (by kernel_rfl) rfl
theorem tok253 (E : Env) (h : E.ti = assoc tis) : TIok Tryz.prog E 253 ⟨tXabi_Kind, 1, .scalar⟩ := tiok_scalar (inf := Tryz.t253) (by kernel_rfl) rfl rfl (by kernel_rfl) (by decide) (d := .int .u8) (by kernel_rfl) rfl
theorem tok256 (E : Env) (h : E.ti = assoc tis) : TIok Tryz.prog E 256 ⟨tXabi_NameOff, 4, .scalar⟩ := tiok_scalar (inf := Tryz.t256) (by kernel_rfl) rfl rfl (by kernel_rfl) (by decide) (d := .int .i32) (by kernel_rfl) rfl
theorem tok257 (E : Env) (h : E.ti = assoc tis) : TIok Tryz.prog E 257 ⟨tXabi_TypeOff, 4, .scalar⟩ := tiok_scalar (inf := Tryz.t257) (by kernel_rfl) rfl rfl (by kernel_rfl) (by decide) (d := .int .i32) (by kernel_rfl) rfl
theorem tisOk (E : Env) (h : E.ti = assoc tis) : ∀ t i, E.ti t = some i → TIok Tryz.prog E t i := by
 rw [h]
 refine tis_ok ?_
 refine all_cons (tok2 E h) ?_
 refine all_cons (tok3 E h) ?_
 refine all_cons (tok4 E h) ?_
 refine all_cons (tok5 E h) ?_
 refine all_cons (tok6 E h) ?_
 refine all_cons (tok7 E h) ?_
 refine all_cons (tok8 E h) ?_
 refine all_cons (tok9 E h) ?_
 refine all_cons (tok10 E h) ?_
 refine all_cons (tok11 E h) ?_
 refine all_cons (tok12 E h) ?_
 refine all_cons (tok13 E h) ?_
 refine all_cons (tok14 E h) ?_
 refine all_cons (tok21 E h) ?_
 refine all_cons (tok22 E h) ?_
 refine all_cons (tok24 E h) ?_
 refine all_cons (tok25 E h) ?_
 refine all_cons (tok26 E h) ?_
 refine all_cons (tok27 E h) ?_
 refine all_cons (tok28 E h) ?_
 refine all_cons (tok29 E h) ?_
 refine all_cons (tok30 E h) ?_
 refine all_cons (tok31 E h) ?_
 refine all_cons (tok32 E h) ?_
 refine all_cons (tok33 E h) ?_
 refine all_cons (tok34 E h) ?_
 refine all_cons (tok35 E h) ?_
 refine all_cons (tok46 E h) ?_
 refine all_cons (tok47 E h) ?_
 refine all_cons (tok50 E h) ?_
 refine all_cons (tok68 E h) ?_
 refine all_cons (tok69 E h) ?_
 refine all_cons (tok70 E h) ?_
 refine all_cons (tok93 E h) ?_
 refine all_cons (tok94 E h) ?_
 refine all_cons (tok96 E h) ?_
 refine all_cons (tok97 E h) ?_
 refine all_cons (tok98 E h) ?_
 refine all_cons (tok99 E h) ?_
 refine all_cons (tok125 E h) ?_
 refine all_cons (tok126 E h) ?_
 refine all_cons (tok127 E h) ?_
 refine all_cons (tok138 E h) ?_
 refine all_cons (tok139 E h) ?_
 refine all_cons (tok140 E h) ?_
 refine all_cons (tok141 E h) ?_
 refine all_cons (tok184 E h) ?_
 refine all_cons (tok185 E h) ?_
 refine all_cons (tok224 E h) ?_
 refine all_cons (tok225 E h) ?_
 refine all_cons (tok238 E h) ?_
 refine all_cons (tok252 E h) ?_
 refine all_cons (tok253 E h) ?_
 refine all_cons (tok256 E h) ?_
 refine all_cons (tok257 E h) ?_
 exact all_nil
theorem eq26 : EqOk Tryz.prog 26 tIQc := eqOk 6 (by decide) (.struct (fs := [({ name := "Phase", type := 3, offset := 0, embedded := false, tag := "", pkgPath := "", byteOffset := 0 } : Field), ({ name := "View", type := 3, offset := 1, embedded := false, tag := "", pkgPath := "", byteOffset := 8 } : Field), ({ name := "Block", type := 3, offset := 2, embedded := false, tag := "", pkgPath := "", byteOffset := 16 } : Field), ({ name := "Signers", type := 3, offset := 3, embedded := false, tag := "", pkgPath := "", byteOffset := 24 } : Field)]) (by kernel_rfl) (by kernel_rfl) rfl (by kernel_rfl) (.cons (f := ({ name := "Phase", type := 3, offset := 0, embedded := false, tag := "", pkgPath := "", byteOffset := 0 } : Field)) (a := tInt) rfl (by decide) ⟨Tryz.t3, by kernel_rfl, rfl⟩ ⟨TypeDesc.int IntKind.i64, by kernel_rfl, rfl⟩ rfl (.int (by kernel_rfl)) (.cons (f := ({ name := "View", type := 3, offset := 1, embedded := false, tag := "", pkgPath := "", byteOffset := 8 } : Field)) (a := tInt) rfl (by decide) ⟨Tryz.t3, by kernel_rfl, rfl⟩ ⟨TypeDesc.int IntKind.i64, by kernel_rfl, rfl⟩ rfl (.int (by kernel_rfl)) (.cons (f := ({ name := "Block", type := 3, offset := 2, embedded := false, tag := "", pkgPath := "", byteOffset := 16 } : Field)) (a := tInt) rfl (by decide) ⟨Tryz.t3, by kernel_rfl, rfl⟩ ⟨TypeDesc.int IntKind.i64, by kernel_rfl, rfl⟩ rfl (.int (by kernel_rfl)) (.cons (f := ({ name := "Signers", type := 3, offset := 3, embedded := false, tag := "", pkgPath := "", byteOffset := 24 } : Field)) (a := tInt) rfl (by decide) ⟨Tryz.t3, by kernel_rfl, rfl⟩ ⟨TypeDesc.int IntKind.i64, by kernel_rfl, rfl⟩ rfl (.int (by kernel_rfl)) .nil))))) rfl (by kernel_rfl)
theorem eq28 : EqOk Tryz.prog 28 tIVote := eqOk 6 (by decide) (.struct (fs := [({ name := "Phase", type := 3, offset := 0, embedded := false, tag := "", pkgPath := "", byteOffset := 0 } : Field), ({ name := "View", type := 3, offset := 1, embedded := false, tag := "", pkgPath := "", byteOffset := 8 } : Field), ({ name := "Block", type := 3, offset := 2, embedded := false, tag := "", pkgPath := "", byteOffset := 16 } : Field), ({ name := "By", type := 3, offset := 3, embedded := false, tag := "", pkgPath := "", byteOffset := 24 } : Field)]) (by kernel_rfl) (by kernel_rfl) rfl (by kernel_rfl) (.cons (f := ({ name := "Phase", type := 3, offset := 0, embedded := false, tag := "", pkgPath := "", byteOffset := 0 } : Field)) (a := tInt) rfl (by decide) ⟨Tryz.t3, by kernel_rfl, rfl⟩ ⟨TypeDesc.int IntKind.i64, by kernel_rfl, rfl⟩ rfl (.int (by kernel_rfl)) (.cons (f := ({ name := "View", type := 3, offset := 1, embedded := false, tag := "", pkgPath := "", byteOffset := 8 } : Field)) (a := tInt) rfl (by decide) ⟨Tryz.t3, by kernel_rfl, rfl⟩ ⟨TypeDesc.int IntKind.i64, by kernel_rfl, rfl⟩ rfl (.int (by kernel_rfl)) (.cons (f := ({ name := "Block", type := 3, offset := 2, embedded := false, tag := "", pkgPath := "", byteOffset := 16 } : Field)) (a := tInt) rfl (by decide) ⟨Tryz.t3, by kernel_rfl, rfl⟩ ⟨TypeDesc.int IntKind.i64, by kernel_rfl, rfl⟩ rfl (.int (by kernel_rfl)) (.cons (f := ({ name := "By", type := 3, offset := 3, embedded := false, tag := "", pkgPath := "", byteOffset := 24 } : Field)) (a := tInt) rfl (by decide) ⟨Tryz.t3, by kernel_rfl, rfl⟩ ⟨TypeDesc.int IntKind.i64, by kernel_rfl, rfl⟩ rfl (.int (by kernel_rfl)) .nil))))) rfl (by kernel_rfl)
theorem eq47 : EqOk Tryz.prog 47 tILetter := eqOk 6 (by decide) (.struct (fs := [({ name := "Kind", type := 3, offset := 0, embedded := false, tag := "", pkgPath := "", byteOffset := 0 } : Field), ({ name := "From", type := 3, offset := 1, embedded := false, tag := "", pkgPath := "", byteOffset := 8 } : Field), ({ name := "To", type := 3, offset := 2, embedded := false, tag := "", pkgPath := "", byteOffset := 16 } : Field), ({ name := "View", type := 3, offset := 3, embedded := false, tag := "", pkgPath := "", byteOffset := 24 } : Field), ({ name := "Block", type := 3, offset := 4, embedded := false, tag := "", pkgPath := "", byteOffset := 32 } : Field), ({ name := "Qc", type := 26, offset := 5, embedded := false, tag := "", pkgPath := "", byteOffset := 40 } : Field), ({ name := "Vote", type := 28, offset := 9, embedded := false, tag := "", pkgPath := "", byteOffset := 72 } : Field)]) (by kernel_rfl) (by kernel_rfl) rfl (by kernel_rfl) (.cons (f := ({ name := "Kind", type := 3, offset := 0, embedded := false, tag := "", pkgPath := "", byteOffset := 0 } : Field)) (a := tInt) rfl (by decide) ⟨Tryz.t3, by kernel_rfl, rfl⟩ ⟨TypeDesc.int IntKind.i64, by kernel_rfl, rfl⟩ rfl (.int (by kernel_rfl)) (.cons (f := ({ name := "From", type := 3, offset := 1, embedded := false, tag := "", pkgPath := "", byteOffset := 8 } : Field)) (a := tInt) rfl (by decide) ⟨Tryz.t3, by kernel_rfl, rfl⟩ ⟨TypeDesc.int IntKind.i64, by kernel_rfl, rfl⟩ rfl (.int (by kernel_rfl)) (.cons (f := ({ name := "To", type := 3, offset := 2, embedded := false, tag := "", pkgPath := "", byteOffset := 16 } : Field)) (a := tInt) rfl (by decide) ⟨Tryz.t3, by kernel_rfl, rfl⟩ ⟨TypeDesc.int IntKind.i64, by kernel_rfl, rfl⟩ rfl (.int (by kernel_rfl)) (.cons (f := ({ name := "View", type := 3, offset := 3, embedded := false, tag := "", pkgPath := "", byteOffset := 24 } : Field)) (a := tInt) rfl (by decide) ⟨Tryz.t3, by kernel_rfl, rfl⟩ ⟨TypeDesc.int IntKind.i64, by kernel_rfl, rfl⟩ rfl (.int (by kernel_rfl)) (.cons (f := ({ name := "Block", type := 3, offset := 4, embedded := false, tag := "", pkgPath := "", byteOffset := 32 } : Field)) (a := tInt) rfl (by decide) ⟨Tryz.t3, by kernel_rfl, rfl⟩ ⟨TypeDesc.int IntKind.i64, by kernel_rfl, rfl⟩ rfl (.int (by kernel_rfl)) (.cons (f := ({ name := "Qc", type := 26, offset := 5, embedded := false, tag := "", pkgPath := "", byteOffset := 40 } : Field)) (a := tIQc) rfl (by decide) ⟨Tryz.t26, by kernel_rfl, rfl⟩ ⟨TypeDesc.struct (Tryz.prog.fieldsOf 26), by kernel_rfl, rfl⟩ rfl (.struct (fs := [({ name := "Phase", type := 3, offset := 0, embedded := false, tag := "", pkgPath := "", byteOffset := 0 } : Field), ({ name := "View", type := 3, offset := 1, embedded := false, tag := "", pkgPath := "", byteOffset := 8 } : Field), ({ name := "Block", type := 3, offset := 2, embedded := false, tag := "", pkgPath := "", byteOffset := 16 } : Field), ({ name := "Signers", type := 3, offset := 3, embedded := false, tag := "", pkgPath := "", byteOffset := 24 } : Field)]) (by kernel_rfl) (by kernel_rfl) rfl (by kernel_rfl) (.cons (f := ({ name := "Phase", type := 3, offset := 0, embedded := false, tag := "", pkgPath := "", byteOffset := 0 } : Field)) (a := tInt) rfl (by decide) ⟨Tryz.t3, by kernel_rfl, rfl⟩ ⟨TypeDesc.int IntKind.i64, by kernel_rfl, rfl⟩ rfl (.int (by kernel_rfl)) (.cons (f := ({ name := "View", type := 3, offset := 1, embedded := false, tag := "", pkgPath := "", byteOffset := 8 } : Field)) (a := tInt) rfl (by decide) ⟨Tryz.t3, by kernel_rfl, rfl⟩ ⟨TypeDesc.int IntKind.i64, by kernel_rfl, rfl⟩ rfl (.int (by kernel_rfl)) (.cons (f := ({ name := "Block", type := 3, offset := 2, embedded := false, tag := "", pkgPath := "", byteOffset := 16 } : Field)) (a := tInt) rfl (by decide) ⟨Tryz.t3, by kernel_rfl, rfl⟩ ⟨TypeDesc.int IntKind.i64, by kernel_rfl, rfl⟩ rfl (.int (by kernel_rfl)) (.cons (f := ({ name := "Signers", type := 3, offset := 3, embedded := false, tag := "", pkgPath := "", byteOffset := 24 } : Field)) (a := tInt) rfl (by decide) ⟨Tryz.t3, by kernel_rfl, rfl⟩ ⟨TypeDesc.int IntKind.i64, by kernel_rfl, rfl⟩ rfl (.int (by kernel_rfl)) .nil))))) (.cons (f := ({ name := "Vote", type := 28, offset := 9, embedded := false, tag := "", pkgPath := "", byteOffset := 72 } : Field)) (a := tIVote) rfl (by decide) ⟨Tryz.t28, by kernel_rfl, rfl⟩ ⟨TypeDesc.struct (Tryz.prog.fieldsOf 28), by kernel_rfl, rfl⟩ rfl (.struct (fs := [({ name := "Phase", type := 3, offset := 0, embedded := false, tag := "", pkgPath := "", byteOffset := 0 } : Field), ({ name := "View", type := 3, offset := 1, embedded := false, tag := "", pkgPath := "", byteOffset := 8 } : Field), ({ name := "Block", type := 3, offset := 2, embedded := false, tag := "", pkgPath := "", byteOffset := 16 } : Field), ({ name := "By", type := 3, offset := 3, embedded := false, tag := "", pkgPath := "", byteOffset := 24 } : Field)]) (by kernel_rfl) (by kernel_rfl) rfl (by kernel_rfl) (.cons (f := ({ name := "Phase", type := 3, offset := 0, embedded := false, tag := "", pkgPath := "", byteOffset := 0 } : Field)) (a := tInt) rfl (by decide) ⟨Tryz.t3, by kernel_rfl, rfl⟩ ⟨TypeDesc.int IntKind.i64, by kernel_rfl, rfl⟩ rfl (.int (by kernel_rfl)) (.cons (f := ({ name := "View", type := 3, offset := 1, embedded := false, tag := "", pkgPath := "", byteOffset := 8 } : Field)) (a := tInt) rfl (by decide) ⟨Tryz.t3, by kernel_rfl, rfl⟩ ⟨TypeDesc.int IntKind.i64, by kernel_rfl, rfl⟩ rfl (.int (by kernel_rfl)) (.cons (f := ({ name := "Block", type := 3, offset := 2, embedded := false, tag := "", pkgPath := "", byteOffset := 16 } : Field)) (a := tInt) rfl (by decide) ⟨Tryz.t3, by kernel_rfl, rfl⟩ ⟨TypeDesc.int IntKind.i64, by kernel_rfl, rfl⟩ rfl (.int (by kernel_rfl)) (.cons (f := ({ name := "By", type := 3, offset := 3, embedded := false, tag := "", pkgPath := "", byteOffset := 24 } : Field)) (a := tInt) rfl (by decide) ⟨Tryz.t3, by kernel_rfl, rfl⟩ ⟨TypeDesc.int IntKind.i64, by kernel_rfl, rfl⟩ rfl (.int (by kernel_rfl)) .nil))))) .nil)))))))) rfl (by kernel_rfl)
theorem eq94 : EqOk Tryz.prog 94 tICell := eqOk 6 (by decide) (.struct (fs := [({ name := "Key", type := 9, offset := 0, embedded := false, tag := "", pkgPath := "", byteOffset := 0 } : Field), ({ name := "Num", type := 3, offset := 1, embedded := false, tag := "", pkgPath := "", byteOffset := 16 } : Field)]) (by kernel_rfl) (by kernel_rfl) rfl (by kernel_rfl) (.cons (f := ({ name := "Key", type := 9, offset := 0, embedded := false, tag := "", pkgPath := "", byteOffset := 0 } : Field)) (a := tString) rfl (by decide) ⟨Tryz.t9, by kernel_rfl, rfl⟩ ⟨TypeDesc.string, by kernel_rfl, rfl⟩ rfl (.str (by kernel_rfl)) (.cons (f := ({ name := "Num", type := 3, offset := 1, embedded := false, tag := "", pkgPath := "", byteOffset := 16 } : Field)) (a := tInt) rfl (by decide) ⟨Tryz.t3, by kernel_rfl, rfl⟩ ⟨TypeDesc.int IntKind.i64, by kernel_rfl, rfl⟩ rfl (.int (by kernel_rfl)) .nil))) rfl (by kernel_rfl)
theorem eq97 : EqOk Tryz.prog 97 tIUndo := eqOk 6 (by decide) (.struct (fs := [({ name := "Key", type := 9, offset := 0, embedded := false, tag := "", pkgPath := "", byteOffset := 0 } : Field), ({ name := "Had", type := 4, offset := 1, embedded := false, tag := "", pkgPath := "", byteOffset := 16 } : Field), ({ name := "Num", type := 3, offset := 2, embedded := false, tag := "", pkgPath := "", byteOffset := 24 } : Field)]) (by kernel_rfl) (by kernel_rfl) rfl (by kernel_rfl) (.cons (f := ({ name := "Key", type := 9, offset := 0, embedded := false, tag := "", pkgPath := "", byteOffset := 0 } : Field)) (a := tString) rfl (by decide) ⟨Tryz.t9, by kernel_rfl, rfl⟩ ⟨TypeDesc.string, by kernel_rfl, rfl⟩ rfl (.str (by kernel_rfl)) (.cons (f := ({ name := "Had", type := 4, offset := 1, embedded := false, tag := "", pkgPath := "", byteOffset := 16 } : Field)) (a := tBool) rfl (by decide) ⟨Tryz.t4, by kernel_rfl, rfl⟩ ⟨TypeDesc.bool, by kernel_rfl, rfl⟩ rfl (.bool (by kernel_rfl)) (.cons (f := ({ name := "Num", type := 3, offset := 2, embedded := false, tag := "", pkgPath := "", byteOffset := 24 } : Field)) (a := tInt) rfl (by decide) ⟨Tryz.t3, by kernel_rfl, rfl⟩ ⟨TypeDesc.int IntKind.i64, by kernel_rfl, rfl⟩ rfl (.int (by kernel_rfl)) .nil)))) rfl (by kernel_rfl)
theorem eq139 : EqOk Tryz.prog 139 tICmd := eqOk 6 (by decide) (.struct (fs := [({ name := "Kind", type := 3, offset := 0, embedded := false, tag := "", pkgPath := "", byteOffset := 0 } : Field), ({ name := "Key", type := 9, offset := 1, embedded := false, tag := "", pkgPath := "", byteOffset := 8 } : Field), ({ name := "Num", type := 3, offset := 2, embedded := false, tag := "", pkgPath := "", byteOffset := 24 } : Field)]) (by kernel_rfl) (by kernel_rfl) rfl (by kernel_rfl) (.cons (f := ({ name := "Kind", type := 3, offset := 0, embedded := false, tag := "", pkgPath := "", byteOffset := 0 } : Field)) (a := tInt) rfl (by decide) ⟨Tryz.t3, by kernel_rfl, rfl⟩ ⟨TypeDesc.int IntKind.i64, by kernel_rfl, rfl⟩ rfl (.int (by kernel_rfl)) (.cons (f := ({ name := "Key", type := 9, offset := 1, embedded := false, tag := "", pkgPath := "", byteOffset := 8 } : Field)) (a := tString) rfl (by decide) ⟨Tryz.t9, by kernel_rfl, rfl⟩ ⟨TypeDesc.string, by kernel_rfl, rfl⟩ rfl (.str (by kernel_rfl)) (.cons (f := ({ name := "Num", type := 3, offset := 2, embedded := false, tag := "", pkgPath := "", byteOffset := 24 } : Field)) (a := tInt) rfl (by decide) ⟨Tryz.t3, by kernel_rfl, rfl⟩ ⟨TypeDesc.int IntKind.i64, by kernel_rfl, rfl⟩ rfl (.int (by kernel_rfl)) .nil)))) rfl (by kernel_rfl)
def eqs (t : TypeId) : Bool := [26, 28, 47, 94, 97, 139].any (Nat.beq t)
theorem eqsOk (E : Env) (h : E.ti = assoc tis) (he : E.eqs = eqs) : ∀ t ty, E.eqs t = true → E.ty t = some ty → EqOk Tryz.prog t ty := by
 intro t ty h1 h2
 rw [he] at h1
 simp only [Env.ty, h] at h2
 unfold eqs at h1
 simp only [List.any_cons, List.any_nil, Bool.or_eq_true, Bool.or_false] at h1
 rcases h1 with h1 | h1 | h1 | h1 | h1 | h1
 ·have := Nat.eq_of_beq_eq_true h1
  subst this
  have e : (Option.map (fun x => x.ty) (assoc tis 26)) = some tIQc := by kernel_rfl
  rw [e] at h2
  cases h2
  exact eq26
 ·have := Nat.eq_of_beq_eq_true h1
  subst this
  have e : (Option.map (fun x => x.ty) (assoc tis 28)) = some tIVote := by kernel_rfl
  rw [e] at h2
  cases h2
  exact eq28
 ·have := Nat.eq_of_beq_eq_true h1
  subst this
  have e : (Option.map (fun x => x.ty) (assoc tis 47)) = some tILetter := by kernel_rfl
  rw [e] at h2
  cases h2
  exact eq47
 ·have := Nat.eq_of_beq_eq_true h1
  subst this
  have e : (Option.map (fun x => x.ty) (assoc tis 94)) = some tICell := by kernel_rfl
  rw [e] at h2
  cases h2
  exact eq94
 ·have := Nat.eq_of_beq_eq_true h1
  subst this
  have e : (Option.map (fun x => x.ty) (assoc tis 97)) = some tIUndo := by kernel_rfl
  rw [e] at h2
  cases h2
  exact eq97
 ·have := Nat.eq_of_beq_eq_true h1
  subst this
  have e : (Option.map (fun x => x.ty) (assoc tis 139)) = some tICmd := by kernel_rfl
  rw [e] at h2
  cases h2
  exact eq139
abbrev Fl : Type := Bool × Bool × List Nat
def env (u : Fl) (l : List (Nat × Con)) : Env := ⟨assoc tis, eqs, assoc l, u.1, u.2.1, fun t => u.2.2.any (Nat.beq t)⟩
theorem envOk {u : Fl} {l : List (Nat × Con)} (h : ∀ q ∈ l, ConOk Tryz.prog q.1 q.2) : EnvOk Tryz.prog (env u l) :=
 { ti := tisOk (env u l) rfl, eqs := eqsOk (env u l) rfl rfl, tbl := tbl_ok h }
def body (f : Func) : Code := f.body.getD .skip
abbrev KP : Type := List (Nat × (List Keep × List BK))
noncomputable def finX {X : Type} (u : Fl) (l : List (Nat × Con)) (rt : List (Option Ty)) (f : Func) (s : Sh X) (args : List SV) : Ex → St → Option X :=
 fun e st => (finK (env u l) rt f.results.toList (enterL [] args).2.2 e st).bind s.un
noncomputable def evX {X : Type} (u : Fl) (l : List (Nat × Con)) (kp : KP) (rt : List (Option Ty)) (f : Func) (s : Sh X) (N : Nat) (args : List SV) : Option X :=
 ev (env u l) (Lr (env u l) kp (body f) (finX u l rt f s args) N) (body f) (startSt f.ntmps args) (finX u l rt f s args)
theorem evX_ok {X : Type} {u : Fl} {l : List (Nat × Con)} (hl : ∀ q ∈ l, ConOk Tryz.prog q.1 q.2) {kp : KP} {rt : List (Option Ty)} {s : Sh X} {n : FuncId} {f : Func} {b : Code} (hf : Tryz.prog.funcs[n]? = some f) (hb : f.body = some b) (hn : noDup (idsOf kp b) = true)
  {args : List SV} (hbx : boxesOk args kp = true) (N : Nat) {v : X} (h : evX u l kp rt f s N args = some v) : CallOk Tryz.prog n args (s.sh v).1 (s.sh v).2 := by
 have e : body f = b := by unfold body; rw [hb]; rfl
 unfold evX at h
 rw [e] at h
 refine fn_ok (rt := rt) (envOk hl) hf hb hn hbx N (fun e st he => ?_) h
 obtain ⟨r, h1, h2⟩ := Option.bind_eq_some_iff.1 he
 exact ⟨r, h1, s.ok r v h2⟩
theorem cons_nil : ∀ q ∈ ([] : List (Nat × Con)), ConOk Tryz.prog q.1 q.2 := fun _ h => by cases h
theorem cons_cons {n : Nat} {c : Con} {l : List (Nat × Con)} (h : ConOk Tryz.prog n c) (t : ∀ q ∈ l, ConOk Tryz.prog q.1 q.2) : ∀ q ∈ (n, c) :: l, ConOk Tryz.prog q.1 q.2 := fun q hq => by
 rcases List.mem_cons.1 hq with rfl | hq
 ·exact h
 ·exact t q hq
def big : Nat := 4611686018427387904
end Go.Sx.Tryz
