/- The types of the seat. -/
import Derived.Test.YtbamlihfaobfeaaGreatM9
import Derived.Test.YtbamlihfaobfeaaGreatM8
import Derived.Test.YtbamlihfaobfeaaGreatProg
set_option linter.unusedVariables false
set_option linter.unusedSimpArgs false
set_option maxRecDepth 100000
namespace Go.Sx.Tryz
open Go Go.Sx Go.Proofs

abbrev tInt64 : Ty := .int .i64
abbrev tInt : Ty := .int .i64
abbrev tBool : Ty := .bool
abbrev tUint8 : Ty := .int .u8
abbrev tXabi_BoundsErrorCode : Ty := .int .u8
abbrev tXstruct_x_int64_y_int_signed_bool_code_ab : Ty := .pair tInt64 (.pair tInt (.pair tBool (.pair tXabi_BoundsErrorCode (.unit))))
abbrev tXruntime_boundsError : Ty := .pair tInt64 (.pair tInt (.pair tBool (.pair tXabi_BoundsErrorCode (.unit))))
abbrev tString : Ty := .str
abbrev tXruntime_errorString : Ty := .str
abbrev tXruntime_plainError : Ty := .str
abbrev tUintptr : Ty := .int .u64
abbrev tXstruct_msg_string_addr_uintptr_ : Ty := .pair tString (.pair tUintptr (.unit))
abbrev tXruntime_errorAddressString : Ty := .pair tString (.pair tUintptr (.unit))
abbrev tInt32 : Ty := .int .i32
abbrev tLCmd : Ty := .pair tInt (.pair tString (.pair tInt (.unit)))
abbrev tSlLCmd : Ty := .sl false tLCmd
abbrev uSlLCmd : Ty := .sl true tLCmd
abbrev tLQc : Ty := .pair tInt (.pair tInt (.pair tInt (.pair tInt (.unit))))
abbrev tLBlock : Ty := .pair tInt (.pair tInt (.pair tSlLCmd (.pair tLQc (.unit))))
abbrev uLBlock : Ty := .pair tInt (.pair tInt (.pair uSlLCmd (.pair tLQc (.unit))))
abbrev tSlLBlock : Ty := .sl false tLBlock
abbrev uSlLBlock : Ty := .sl true uLBlock
abbrev tXstruct_Phase_int_View_int_Block_int_Sign : Ty := .pair tInt (.pair tInt (.pair tInt (.pair tInt (.unit))))
abbrev tXstruct_Phase_int_View_int_Block_int_By_i : Ty := .pair tInt (.pair tInt (.pair tInt (.pair tInt (.unit))))
abbrev tLVote : Ty := .pair tInt (.pair tInt (.pair tInt (.pair tInt (.unit))))
abbrev tSlInt : Ty := .sl false tInt
abbrev uSlInt : Ty := .sl true tInt
abbrev tLCell : Ty := .pair tString (.pair tInt (.unit))
abbrev tSlLCell : Ty := .sl false tLCell
abbrev uSlLCell : Ty := .sl true tLCell
abbrev tLUndo : Ty := .pair tString (.pair tBool (.pair tInt (.unit)))
abbrev tSlLUndo : Ty := .sl false tLUndo
abbrev uSlLUndo : Ty := .sl true tLUndo
abbrev tSlLVote : Ty := .sl false tLVote
abbrev uSlLVote : Ty := .sl true tLVote
abbrev tLLetter : Ty := .pair tInt (.pair tInt (.pair tInt (.pair tInt (.pair tInt (.pair tLQc (.pair tLVote (.unit)))))))
abbrev tSlLLetter : Ty := .sl false tLLetter
abbrev uSlLLetter : Ty := .sl true tLLetter
abbrev tXstruct_Id_int_View_int_High_laws_Qc_Lock : Ty := .pair tInt (.pair tInt (.pair tLQc (.pair tLQc (.pair tLVote (.pair tSlInt (.pair tSlLCell (.pair tSlInt (.pair tSlLUndo (.pair tSlLVote (.pair tSlLLetter (.pair tInt (.unit))))))))))))
abbrev uXstruct_Id_int_View_int_High_laws_Qc_Lock : Ty := .pair tInt (.pair tInt (.pair tLQc (.pair tLQc (.pair tLVote (.pair uSlInt (.pair uSlLCell (.pair uSlInt (.pair uSlLUndo (.pair uSlLVote (.pair uSlLLetter (.pair tInt (.unit))))))))))))
abbrev tLPeer : Ty := .pair tInt (.pair tInt (.pair tLQc (.pair tLQc (.pair tLVote (.pair tSlInt (.pair tSlLCell (.pair tSlInt (.pair tSlLUndo (.pair tSlLVote (.pair tSlLLetter (.pair tInt (.unit))))))))))))
abbrev uLPeer : Ty := .pair tInt (.pair tInt (.pair tLQc (.pair tLQc (.pair tLVote (.pair uSlInt (.pair uSlLCell (.pair uSlInt (.pair uSlLUndo (.pair uSlLVote (.pair uSlLLetter (.pair tInt (.unit))))))))))))
abbrev tIQc : Ty := .pair tInt (.pair tInt (.pair tInt (.pair tInt (.unit))))
abbrev tIVote : Ty := .pair tInt (.pair tInt (.pair tInt (.pair tInt (.unit))))
abbrev tICell : Ty := .pair tString (.pair tInt (.unit))
abbrev tSlICell : Ty := .sl false tICell
abbrev uSlICell : Ty := .sl true tICell
abbrev tIUndo : Ty := .pair tString (.pair tBool (.pair tInt (.unit)))
abbrev tSlIUndo : Ty := .sl false tIUndo
abbrev uSlIUndo : Ty := .sl true tIUndo
abbrev tSlIVote : Ty := .sl false tIVote
abbrev uSlIVote : Ty := .sl true tIVote
abbrev tILetter : Ty := .pair tInt (.pair tInt (.pair tInt (.pair tInt (.pair tInt (.pair tIQc (.pair tIVote (.unit)))))))
abbrev tSlILetter : Ty := .sl false tILetter
abbrev uSlILetter : Ty := .sl true tILetter
abbrev tXstruct_Id_int_View_int_High_impl_Qc_Lock : Ty := .pair tInt (.pair tInt (.pair tIQc (.pair tIQc (.pair tIVote (.pair tSlInt (.pair tSlICell (.pair tSlInt (.pair tSlIUndo (.pair tSlIVote (.pair tSlILetter (.pair tInt (.unit))))))))))))
abbrev uXstruct_Id_int_View_int_High_impl_Qc_Lock : Ty := .pair tInt (.pair tInt (.pair tIQc (.pair tIQc (.pair tIVote (.pair uSlInt (.pair uSlICell (.pair uSlInt (.pair uSlIUndo (.pair uSlIVote (.pair uSlILetter (.pair tInt (.unit))))))))))))
abbrev tIPeer : Ty := .pair tInt (.pair tInt (.pair tIQc (.pair tIQc (.pair tIVote (.pair tSlInt (.pair tSlICell (.pair tSlInt (.pair tSlIUndo (.pair tSlIVote (.pair tSlILetter (.pair tInt (.unit))))))))))))
abbrev uIPeer : Ty := .pair tInt (.pair tInt (.pair tIQc (.pair tIQc (.pair tIVote (.pair uSlInt (.pair uSlICell (.pair uSlInt (.pair uSlIUndo (.pair uSlIVote (.pair uSlILetter (.pair tInt (.unit))))))))))))
abbrev tICmd : Ty := .pair tInt (.pair tString (.pair tInt (.unit)))
abbrev tSlICmd : Ty := .sl false tICmd
abbrev uSlICmd : Ty := .sl true tICmd
abbrev tIBlock : Ty := .pair tInt (.pair tInt (.pair tSlICmd (.pair tIQc (.unit))))
abbrev uIBlock : Ty := .pair tInt (.pair tInt (.pair uSlICmd (.pair tIQc (.unit))))
abbrev tSlIBlock : Ty := .sl false tIBlock
abbrev uSlIBlock : Ty := .sl true uIBlock
abbrev tXstruct_Parent_int_View_int_Cmds_laws_Cmd : Ty := .pair tInt (.pair tInt (.pair tSlLCmd (.pair tLQc (.unit))))
abbrev uXstruct_Parent_int_View_int_Cmds_laws_Cmd : Ty := .pair tInt (.pair tInt (.pair uSlLCmd (.pair tLQc (.unit))))
abbrev tXstruct_Parent_int_View_int_Cmds_impl_Cmd : Ty := .pair tInt (.pair tInt (.pair tSlICmd (.pair tIQc (.unit))))
abbrev uXstruct_Parent_int_View_int_Cmds_impl_Cmd : Ty := .pair tInt (.pair tInt (.pair uSlICmd (.pair tIQc (.unit))))
abbrev tXstruct_Key_string_Num_int_ : Ty := .pair tString (.pair tInt (.unit))
abbrev tXstruct_Key_string_Had_bool_Num_int_ : Ty := .pair tString (.pair tBool (.pair tInt (.unit)))
abbrev tXstruct_Kind_int_Key_string_Num_int_ : Ty := .pair tInt (.pair tString (.pair tInt (.unit)))
abbrev tXstruct_Kind_int_From_int_To_int_View_int : Ty := .pair tInt (.pair tInt (.pair tInt (.pair tInt (.pair tInt (.pair tIQc (.pair tIVote (.unit)))))))
abbrev tXstruct_Kind_int_From_int_To_int_View_int_118 : Ty := .pair tInt (.pair tInt (.pair tInt (.pair tInt (.pair tInt (.pair tLQc (.pair tLVote (.unit)))))))
abbrev tSlUint8 : Ty := .sl false tUint8
abbrev uSlUint8 : Ty := .sl true tUint8
abbrev tUint32 : Ty := .int .u32
abbrev tXabi_TFlag : Ty := .int .u8
abbrev tXabi_Kind : Ty := .int .u8
abbrev tXabi_NameOff : Ty := .int .i32
abbrev tXabi_TypeOff : Ty := .int .i32
abbrev DInt64 : Type := Int
abbrev DInt : Type := Int
abbrev DBool : Type := Bool
abbrev DUint8 : Type := Int
abbrev DXabi_BoundsErrorCode : Type := Int
abbrev DXstruct_x_int64_y_int_signed_bool_code_ab : Type := Int × Int × Bool × Int × Unit
abbrev DXruntime_boundsError : Type := Int × Int × Bool × Int × Unit
abbrev DString : Type := ByteArray
abbrev DXruntime_errorString : Type := ByteArray
abbrev DXruntime_plainError : Type := ByteArray
abbrev DUintptr : Type := Int
abbrev DXstruct_msg_string_addr_uintptr_ : Type := ByteArray × Int × Unit
abbrev DXruntime_errorAddressString : Type := ByteArray × Int × Unit
abbrev DInt32 : Type := Int
abbrev DLCmd : Type := Int × ByteArray × Int × Unit
abbrev DSlLCmd : Type := List DLCmd
abbrev DLQc : Type := Int × Int × Int × Int × Unit
abbrev DLBlock : Type := Int × Int × DSlLCmd × DLQc × Unit
abbrev DSlLBlock : Type := List DLBlock
abbrev DXstruct_Phase_int_View_int_Block_int_Sign : Type := Int × Int × Int × Int × Unit
abbrev DXstruct_Phase_int_View_int_Block_int_By_i : Type := Int × Int × Int × Int × Unit
abbrev DLVote : Type := Int × Int × Int × Int × Unit
abbrev DSlInt : Type := List Int
abbrev DLCell : Type := ByteArray × Int × Unit
abbrev DSlLCell : Type := List DLCell
abbrev DLUndo : Type := ByteArray × Bool × Int × Unit
abbrev DSlLUndo : Type := List DLUndo
abbrev DSlLVote : Type := List DLVote
abbrev DLLetter : Type := Int × Int × Int × Int × Int × DLQc × DLVote × Unit
abbrev DSlLLetter : Type := List DLLetter
abbrev DXstruct_Id_int_View_int_High_laws_Qc_Lock : Type := Int × Int × DLQc × DLQc × DLVote × DSlInt × DSlLCell × DSlInt × DSlLUndo × DSlLVote × DSlLLetter × Int × Unit
abbrev DLPeer : Type := Int × Int × DLQc × DLQc × DLVote × DSlInt × DSlLCell × DSlInt × DSlLUndo × DSlLVote × DSlLLetter × Int × Unit
abbrev DIQc : Type := Int × Int × Int × Int × Unit
abbrev DIVote : Type := Int × Int × Int × Int × Unit
abbrev DICell : Type := ByteArray × Int × Unit
abbrev DSlICell : Type := List DICell
abbrev DIUndo : Type := ByteArray × Bool × Int × Unit
abbrev DSlIUndo : Type := List DIUndo
abbrev DSlIVote : Type := List DIVote
abbrev DILetter : Type := Int × Int × Int × Int × Int × DIQc × DIVote × Unit
abbrev DSlILetter : Type := List DILetter
abbrev DXstruct_Id_int_View_int_High_impl_Qc_Lock : Type := Int × Int × DIQc × DIQc × DIVote × DSlInt × DSlICell × DSlInt × DSlIUndo × DSlIVote × DSlILetter × Int × Unit
abbrev DIPeer : Type := Int × Int × DIQc × DIQc × DIVote × DSlInt × DSlICell × DSlInt × DSlIUndo × DSlIVote × DSlILetter × Int × Unit
abbrev DICmd : Type := Int × ByteArray × Int × Unit
abbrev DSlICmd : Type := List DICmd
abbrev DIBlock : Type := Int × Int × DSlICmd × DIQc × Unit
abbrev DSlIBlock : Type := List DIBlock
abbrev DXstruct_Parent_int_View_int_Cmds_laws_Cmd : Type := Int × Int × DSlLCmd × DLQc × Unit
abbrev DXstruct_Parent_int_View_int_Cmds_impl_Cmd : Type := Int × Int × DSlICmd × DIQc × Unit
abbrev DXstruct_Key_string_Num_int_ : Type := ByteArray × Int × Unit
abbrev DXstruct_Key_string_Had_bool_Num_int_ : Type := ByteArray × Bool × Int × Unit
abbrev DXstruct_Kind_int_Key_string_Num_int_ : Type := Int × ByteArray × Int × Unit
abbrev DXstruct_Kind_int_From_int_To_int_View_int : Type := Int × Int × Int × Int × Int × DIQc × DIVote × Unit
abbrev DXstruct_Kind_int_From_int_To_int_View_int_118 : Type := Int × Int × Int × Int × Int × DLQc × DLVote × Unit
abbrev DSlUint8 : Type := List Int
abbrev DUint32 : Type := Int
abbrev DXabi_TFlag : Type := Int
abbrev DXabi_Kind : Type := Int
abbrev DXabi_NameOff : Type := Int
abbrev DXabi_TypeOff : Type := Int

def tis : List (Nat × TI) := [
  (2, ⟨tInt64, 8, .scalar⟩),
  (3, ⟨tInt, 8, .scalar⟩),
  (4, ⟨tBool, 1, .scalar⟩),
  (5, ⟨tUint8, 1, .scalar⟩),
  (6, ⟨tXabi_BoundsErrorCode, 1, .scalar⟩),
  (7, ⟨tXstruct_x_int64_y_int_signed_bool_code_ab, 24, .struct [(0, 2), (1, 3), (2, 4), (3, 6)]⟩),
  (8, ⟨tXruntime_boundsError, 24, .struct [(0, 2), (1, 3), (2, 4), (3, 6)]⟩),
  (9, ⟨tString, 16, .scalar⟩),
  (10, ⟨tXruntime_errorString, 16, .scalar⟩),
  (11, ⟨tXruntime_plainError, 16, .scalar⟩),
  (12, ⟨tUintptr, 8, .scalar⟩),
  (13, ⟨tXstruct_msg_string_addr_uintptr_, 24, .struct [(0, 9), (1, 12)]⟩),
  (14, ⟨tXruntime_errorAddressString, 24, .struct [(0, 9), (1, 12)]⟩),
  (21, ⟨tInt32, 4, .scalar⟩),
  (22, ⟨tSlLBlock, 24, .slice 56⟩),
  (23, ⟨tXstruct_Phase_int_View_int_Block_int_Sign, 32, .struct [(0, 3), (1, 3), (2, 3), (3, 3)]⟩),
  (24, ⟨tLQc, 32, .struct [(0, 3), (1, 3), (2, 3), (3, 3)]⟩),
  (25, ⟨tXstruct_Phase_int_View_int_Block_int_By_i, 32, .struct [(0, 3), (1, 3), (2, 3), (3, 3)]⟩),
  (26, ⟨tLVote, 32, .struct [(0, 3), (1, 3), (2, 3), (3, 3)]⟩),
  (27, ⟨tSlInt, 24, .slice 3⟩),
  (28, ⟨tSlLCell, 24, .slice 100⟩),
  (29, ⟨tSlLUndo, 24, .slice 103⟩),
  (30, ⟨tSlLVote, 24, .slice 26⟩),
  (31, ⟨tSlLLetter, 24, .slice 119⟩),
  (32, ⟨tXstruct_Id_int_View_int_High_laws_Qc_Lock, 264, .struct [(0, 3), (1, 3), (2, 24), (6, 24), (10, 26), (14, 27), (15, 28), (16, 27), (17, 29), (18, 30), (19, 31), (20, 3)]⟩),
  (33, ⟨tLPeer, 264, .struct [(0, 3), (1, 3), (2, 24), (6, 24), (10, 26), (14, 27), (15, 28), (16, 27), (17, 29), (18, 30), (19, 31), (20, 3)]⟩),
  (36, ⟨tIQc, 32, .struct [(0, 3), (1, 3), (2, 3), (3, 3)]⟩),
  (37, ⟨tIVote, 32, .struct [(0, 3), (1, 3), (2, 3), (3, 3)]⟩),
  (38, ⟨tSlICell, 24, .slice 111⟩),
  (39, ⟨tSlIUndo, 24, .slice 113⟩),
  (40, ⟨tSlIVote, 24, .slice 37⟩),
  (41, ⟨tSlILetter, 24, .slice 116⟩),
  (42, ⟨tXstruct_Id_int_View_int_High_impl_Qc_Lock, 264, .struct [(0, 3), (1, 3), (2, 36), (6, 36), (10, 37), (14, 27), (15, 38), (16, 27), (17, 39), (18, 40), (19, 41), (20, 3)]⟩),
  (43, ⟨tIPeer, 264, .struct [(0, 3), (1, 3), (2, 36), (6, 36), (10, 37), (14, 27), (15, 38), (16, 27), (17, 39), (18, 40), (19, 41), (20, 3)]⟩),
  (45, ⟨tSlIBlock, 24, .slice 72⟩),
  (54, ⟨tSlLCmd, 24, .slice 135⟩),
  (55, ⟨tXstruct_Parent_int_View_int_Cmds_laws_Cmd, 72, .struct [(0, 3), (1, 3), (2, 54), (3, 24)]⟩),
  (56, ⟨tLBlock, 72, .struct [(0, 3), (1, 3), (2, 54), (3, 24)]⟩),
  (70, ⟨tSlICmd, 24, .slice 109⟩),
  (71, ⟨tXstruct_Parent_int_View_int_Cmds_impl_Cmd, 72, .struct [(0, 3), (1, 3), (2, 70), (3, 36)]⟩),
  (72, ⟨tIBlock, 72, .struct [(0, 3), (1, 3), (2, 70), (3, 36)]⟩),
  (99, ⟨tXstruct_Key_string_Num_int_, 24, .struct [(0, 9), (1, 3)]⟩),
  (100, ⟨tLCell, 24, .struct [(0, 9), (1, 3)]⟩),
  (102, ⟨tXstruct_Key_string_Had_bool_Num_int_, 32, .struct [(0, 9), (1, 4), (2, 3)]⟩),
  (103, ⟨tLUndo, 32, .struct [(0, 9), (1, 4), (2, 3)]⟩),
  (108, ⟨tXstruct_Kind_int_Key_string_Num_int_, 32, .struct [(0, 3), (1, 9), (2, 3)]⟩),
  (109, ⟨tICmd, 32, .struct [(0, 3), (1, 9), (2, 3)]⟩),
  (111, ⟨tICell, 24, .struct [(0, 9), (1, 3)]⟩),
  (113, ⟨tIUndo, 32, .struct [(0, 9), (1, 4), (2, 3)]⟩),
  (115, ⟨tXstruct_Kind_int_From_int_To_int_View_int, 104, .struct [(0, 3), (1, 3), (2, 3), (3, 3), (4, 3), (5, 36), (9, 37)]⟩),
  (116, ⟨tILetter, 104, .struct [(0, 3), (1, 3), (2, 3), (3, 3), (4, 3), (5, 36), (9, 37)]⟩),
  (118, ⟨tXstruct_Kind_int_From_int_To_int_View_int_118, 104, .struct [(0, 3), (1, 3), (2, 3), (3, 3), (4, 3), (5, 24), (9, 26)]⟩),
  (119, ⟨tLLetter, 104, .struct [(0, 3), (1, 3), (2, 3), (3, 3), (4, 3), (5, 24), (9, 26)]⟩),
  (135, ⟨tLCmd, 32, .struct [(0, 3), (1, 9), (2, 3)]⟩),
  (145, ⟨tSlUint8, 24, .slice 5⟩),
  (161, ⟨tUint32, 4, .scalar⟩),
  (162, ⟨tXabi_TFlag, 1, .scalar⟩),
  (163, ⟨tXabi_Kind, 1, .scalar⟩),
  (166, ⟨tXabi_NameOff, 4, .scalar⟩),
  (167, ⟨tXabi_TypeOff, 4, .scalar⟩)]

theorem tok2 (E : Env) (h : E.ti = assoc tis) : TIok Tryz.prog E 2 ⟨tInt64, 8, .scalar⟩ := tiok_scalar (inf := Tryz.t2) (by kernel_rfl) rfl rfl (by kernel_rfl) (by decide) (d := .int .i64) (by kernel_rfl) rfl
theorem tok3 (E : Env) (h : E.ti = assoc tis) : TIok Tryz.prog E 3 ⟨tInt, 8, .scalar⟩ := tiok_scalar (inf := Tryz.t3) (by kernel_rfl) rfl rfl (by kernel_rfl) (by decide) (d := .int .i64) (by kernel_rfl) rfl
theorem tok4 (E : Env) (h : E.ti = assoc tis) : TIok Tryz.prog E 4 ⟨tBool, 1, .scalar⟩ := tiok_scalar (inf := Tryz.t4) (by kernel_rfl) rfl rfl (by kernel_rfl) (by decide) (d := .bool) (by kernel_rfl) rfl
theorem tok5 (E : Env) (h : E.ti = assoc tis) : TIok Tryz.prog E 5 ⟨tUint8, 1, .scalar⟩ := tiok_scalar (inf := Tryz.t5) (by kernel_rfl) rfl rfl (by kernel_rfl) (by decide) (d := .int .u8) (by kernel_rfl) rfl
theorem tok6 (E : Env) (h : E.ti = assoc tis) : TIok Tryz.prog E 6 ⟨tXabi_BoundsErrorCode, 1, .scalar⟩ := tiok_scalar (inf := Tryz.t6) (by kernel_rfl) rfl rfl (by kernel_rfl) (by decide) (d := .int .u8) (by kernel_rfl) rfl
theorem tok7 (E : Env) (h : E.ti = assoc tis) : TIok Tryz.prog E 7 ⟨tXstruct_x_int64_y_int_signed_bool_code_ab, 24, .struct [(0, 2), (1, 3), (2, 4), (3, 6)]⟩ := tiok_struct (inf := Tryz.t7) (by kernel_rfl) (by kernel_rfl) rfl (by kernel_rfl) (by decide) (by decide) rfl (fields := #[{ name := "x", type := 2, offset := 0, embedded := false, tag := "", pkgPath := "runtime", byteOffset := 0 }, { name := "y", type := 3, offset := 1, embedded := false, tag := "", pkgPath := "runtime", byteOffset := 8 }, { name := "signed", type := 4, offset := 2, embedded := false, tag := "", pkgPath := "runtime", byteOffset := 16 }, { name := "code", type := 6, offset := 3, embedded := false, tag := "", pkgPath := "runtime", byteOffset := 17 }]) (by kernel_rfl) rfl (all_cons ⟨⟨tInt64, 8, .scalar⟩, by rw [h]; kernel_rfl⟩ (all_cons ⟨⟨tInt, 8, .scalar⟩, by rw [h]; kernel_rfl⟩ (all_cons ⟨⟨tBool, 1, .scalar⟩, by rw [h]; kernel_rfl⟩ (all_cons ⟨⟨tXabi_BoundsErrorCode, 1, .scalar⟩, by rw [h]; kernel_rfl⟩ all_nil))))
theorem tok8 (E : Env) (h : E.ti = assoc tis) : TIok Tryz.prog E 8 ⟨tXruntime_boundsError, 24, .struct [(0, 2), (1, 3), (2, 4), (3, 6)]⟩ := tiok_struct (inf := Tryz.t8) (by kernel_rfl) (by kernel_rfl) rfl (by kernel_rfl) (by decide) (by decide) rfl (fields := #[{ name := "x", type := 2, offset := 0, embedded := false, tag := "", pkgPath := "runtime", byteOffset := 0 }, { name := "y", type := 3, offset := 1, embedded := false, tag := "", pkgPath := "runtime", byteOffset := 8 }, { name := "signed", type := 4, offset := 2, embedded := false, tag := "", pkgPath := "runtime", byteOffset := 16 }, { name := "code", type := 6, offset := 3, embedded := false, tag := "", pkgPath := "runtime", byteOffset := 17 }]) (by kernel_rfl) rfl (all_cons ⟨⟨tInt64, 8, .scalar⟩, by rw [h]; kernel_rfl⟩ (all_cons ⟨⟨tInt, 8, .scalar⟩, by rw [h]; kernel_rfl⟩ (all_cons ⟨⟨tBool, 1, .scalar⟩, by rw [h]; kernel_rfl⟩ (all_cons ⟨⟨tXabi_BoundsErrorCode, 1, .scalar⟩, by rw [h]; kernel_rfl⟩ all_nil))))
theorem tok9 (E : Env) (h : E.ti = assoc tis) : TIok Tryz.prog E 9 ⟨tString, 16, .scalar⟩ := tiok_scalar (inf := Tryz.t9) (by kernel_rfl) rfl rfl (by kernel_rfl) (by decide) (d := .string) (by kernel_rfl) rfl
theorem tok10 (E : Env) (h : E.ti = assoc tis) : TIok Tryz.prog E 10 ⟨tXruntime_errorString, 16, .scalar⟩ := tiok_scalar (inf := Tryz.t10) (by kernel_rfl) rfl rfl (by kernel_rfl) (by decide) (d := .string) (by kernel_rfl) rfl
theorem tok11 (E : Env) (h : E.ti = assoc tis) : TIok Tryz.prog E 11 ⟨tXruntime_plainError, 16, .scalar⟩ := tiok_scalar (inf := Tryz.t11) (by kernel_rfl) rfl rfl (by kernel_rfl) (by decide) (d := .string) (by kernel_rfl) rfl
theorem tok12 (E : Env) (h : E.ti = assoc tis) : TIok Tryz.prog E 12 ⟨tUintptr, 8, .scalar⟩ := tiok_scalar (inf := Tryz.t12) (by kernel_rfl) rfl rfl (by kernel_rfl) (by decide) (d := .int .u64) (by kernel_rfl) rfl
theorem tok13 (E : Env) (h : E.ti = assoc tis) : TIok Tryz.prog E 13 ⟨tXstruct_msg_string_addr_uintptr_, 24, .struct [(0, 9), (1, 12)]⟩ := tiok_struct (inf := Tryz.t13) (by kernel_rfl) (by kernel_rfl) rfl (by kernel_rfl) (by decide) (by decide) rfl (fields := #[{ name := "msg", type := 9, offset := 0, embedded := false, tag := "", pkgPath := "runtime", byteOffset := 0 }, { name := "addr", type := 12, offset := 1, embedded := false, tag := "", pkgPath := "runtime", byteOffset := 16 }]) (by kernel_rfl) rfl (all_cons ⟨⟨tString, 16, .scalar⟩, by rw [h]; kernel_rfl⟩ (all_cons ⟨⟨tUintptr, 8, .scalar⟩, by rw [h]; kernel_rfl⟩ all_nil))
theorem tok14 (E : Env) (h : E.ti = assoc tis) : TIok Tryz.prog E 14 ⟨tXruntime_errorAddressString, 24, .struct [(0, 9), (1, 12)]⟩ := tiok_struct (inf := Tryz.t14) (by kernel_rfl) (by kernel_rfl) rfl (by kernel_rfl) (by decide) (by decide) rfl (fields := #[{ name := "msg", type := 9, offset := 0, embedded := false, tag := "", pkgPath := "runtime", byteOffset := 0 }, { name := "addr", type := 12, offset := 1, embedded := false, tag := "", pkgPath := "runtime", byteOffset := 16 }]) (by kernel_rfl) rfl (all_cons ⟨⟨tString, 16, .scalar⟩, by rw [h]; kernel_rfl⟩ (all_cons ⟨⟨tUintptr, 8, .scalar⟩, by rw [h]; kernel_rfl⟩ all_nil))
theorem tok21 (E : Env) (h : E.ti = assoc tis) : TIok Tryz.prog E 21 ⟨tInt32, 4, .scalar⟩ := tiok_scalar (inf := Tryz.t21) (by kernel_rfl) rfl rfl (by kernel_rfl) (by decide) (d := .int .i32) (by kernel_rfl) rfl
theorem tok22 (E : Env) (h : E.ti = assoc tis) : TIok Tryz.prog E 22 ⟨tSlLBlock, 24, .slice 56⟩ := tiok_slice (ie := ⟨tLBlock, 72, .struct [(0, 3), (1, 3), (2, 54), (3, 24)]⟩) (inf := Tryz.t22) (by kernel_rfl) rfl rfl rfl (by decide) (by kernel_rfl) (by rw [h]; kernel_rfl)
theorem tok23 (E : Env) (h : E.ti = assoc tis) : TIok Tryz.prog E 23 ⟨tXstruct_Phase_int_View_int_Block_int_Sign, 32, .struct [(0, 3), (1, 3), (2, 3), (3, 3)]⟩ := tiok_struct (inf := Tryz.t23) (by kernel_rfl) (by kernel_rfl) rfl (by kernel_rfl) (by decide) (by decide) rfl (fields := #[{ name := "Phase", type := 3, offset := 0, embedded := false, tag := "", pkgPath := "", byteOffset := 0 }, { name := "View", type := 3, offset := 1, embedded := false, tag := "", pkgPath := "", byteOffset := 8 }, { name := "Block", type := 3, offset := 2, embedded := false, tag := "", pkgPath := "", byteOffset := 16 }, { name := "Signers", type := 3, offset := 3, embedded := false, tag := "", pkgPath := "", byteOffset := 24 }]) (by kernel_rfl) rfl (all_cons ⟨⟨tInt, 8, .scalar⟩, by rw [h]; kernel_rfl⟩ (all_cons ⟨⟨tInt, 8, .scalar⟩, by rw [h]; kernel_rfl⟩ (all_cons ⟨⟨tInt, 8, .scalar⟩, by rw [h]; kernel_rfl⟩ (all_cons ⟨⟨tInt, 8, .scalar⟩, by rw [h]; kernel_rfl⟩ all_nil))))
theorem tok24 (E : Env) (h : E.ti = assoc tis) : TIok Tryz.prog E 24 ⟨tLQc, 32, .struct [(0, 3), (1, 3), (2, 3), (3, 3)]⟩ := tiok_struct (inf := Tryz.t24) (by kernel_rfl) (by kernel_rfl) rfl (by kernel_rfl) (by decide) (by decide) rfl (fields := #[{ name := "Phase", type := 3, offset := 0, embedded := false, tag := "", pkgPath := "", byteOffset := 0 }, { name := "View", type := 3, offset := 1, embedded := false, tag := "", pkgPath := "", byteOffset := 8 }, { name := "Block", type := 3, offset := 2, embedded := false, tag := "", pkgPath := "", byteOffset := 16 }, { name := "Signers", type := 3, offset := 3, embedded := false, tag := "", pkgPath := "", byteOffset := 24 }]) (by kernel_rfl) rfl (all_cons ⟨⟨tInt, 8, .scalar⟩, by rw [h]; kernel_rfl⟩ (all_cons ⟨⟨tInt, 8, .scalar⟩, by rw [h]; kernel_rfl⟩ (all_cons ⟨⟨tInt, 8, .scalar⟩, by rw [h]; kernel_rfl⟩ (all_cons ⟨⟨tInt, 8, .scalar⟩, by rw [h]; kernel_rfl⟩ all_nil))))
theorem tok25 (E : Env) (h : E.ti = assoc tis) : TIok Tryz.prog E 25 ⟨tXstruct_Phase_int_View_int_Block_int_By_i, 32, .struct [(0, 3), (1, 3), (2, 3), (3, 3)]⟩ := tiok_struct (inf := Tryz.t25) (by kernel_rfl) (by kernel_rfl) rfl (by kernel_rfl) (by decide) (by decide) rfl (fields := #[{ name := "Phase", type := 3, offset := 0, embedded := false, tag := "", pkgPath := "", byteOffset := 0 }, { name := "View", type := 3, offset := 1, embedded := false, tag := "", pkgPath := "", byteOffset := 8 }, { name := "Block", type := 3, offset := 2, embedded := false, tag := "", pkgPath := "", byteOffset := 16 }, { name := "By", type := 3, offset := 3, embedded := false, tag := "", pkgPath := "", byteOffset := 24 }]) (by kernel_rfl) rfl (all_cons ⟨⟨tInt, 8, .scalar⟩, by rw [h]; kernel_rfl⟩ (all_cons ⟨⟨tInt, 8, .scalar⟩, by rw [h]; kernel_rfl⟩ (all_cons ⟨⟨tInt, 8, .scalar⟩, by rw [h]; kernel_rfl⟩ (all_cons ⟨⟨tInt, 8, .scalar⟩, by rw [h]; kernel_rfl⟩ all_nil))))
theorem tok26 (E : Env) (h : E.ti = assoc tis) : TIok Tryz.prog E 26 ⟨tLVote, 32, .struct [(0, 3), (1, 3), (2, 3), (3, 3)]⟩ := tiok_struct (inf := Tryz.t26) (by kernel_rfl) (by kernel_rfl) rfl (by kernel_rfl) (by decide) (by decide) rfl (fields := #[{ name := "Phase", type := 3, offset := 0, embedded := false, tag := "", pkgPath := "", byteOffset := 0 }, { name := "View", type := 3, offset := 1, embedded := false, tag := "", pkgPath := "", byteOffset := 8 }, { name := "Block", type := 3, offset := 2, embedded := false, tag := "", pkgPath := "", byteOffset := 16 }, { name := "By", type := 3, offset := 3, embedded := false, tag := "", pkgPath := "", byteOffset := 24 }]) (by kernel_rfl) rfl (all_cons ⟨⟨tInt, 8, .scalar⟩, by rw [h]; kernel_rfl⟩ (all_cons ⟨⟨tInt, 8, .scalar⟩, by rw [h]; kernel_rfl⟩ (all_cons ⟨⟨tInt, 8, .scalar⟩, by rw [h]; kernel_rfl⟩ (all_cons ⟨⟨tInt, 8, .scalar⟩, by rw [h]; kernel_rfl⟩ all_nil))))
theorem tok27 (E : Env) (h : E.ti = assoc tis) : TIok Tryz.prog E 27 ⟨tSlInt, 24, .slice 3⟩ := tiok_slice (ie := ⟨tInt, 8, .scalar⟩) (inf := Tryz.t27) (by kernel_rfl) rfl rfl rfl (by decide) (by kernel_rfl) (by rw [h]; kernel_rfl)
theorem tok28 (E : Env) (h : E.ti = assoc tis) : TIok Tryz.prog E 28 ⟨tSlLCell, 24, .slice 100⟩ := tiok_slice (ie := ⟨tLCell, 24, .struct [(0, 9), (1, 3)]⟩) (inf := Tryz.t28) (by kernel_rfl) rfl rfl rfl (by decide) (by kernel_rfl) (by rw [h]; kernel_rfl)
theorem tok29 (E : Env) (h : E.ti = assoc tis) : TIok Tryz.prog E 29 ⟨tSlLUndo, 24, .slice 103⟩ := tiok_slice (ie := ⟨tLUndo, 32, .struct [(0, 9), (1, 4), (2, 3)]⟩) (inf := Tryz.t29) (by kernel_rfl) rfl rfl rfl (by decide) (by kernel_rfl) (by rw [h]; kernel_rfl)
theorem tok30 (E : Env) (h : E.ti = assoc tis) : TIok Tryz.prog E 30 ⟨tSlLVote, 24, .slice 26⟩ := tiok_slice (ie := ⟨tLVote, 32, .struct [(0, 3), (1, 3), (2, 3), (3, 3)]⟩) (inf := Tryz.t30) (by kernel_rfl) rfl rfl rfl (by decide) (by kernel_rfl) (by rw [h]; kernel_rfl)
theorem tok31 (E : Env) (h : E.ti = assoc tis) : TIok Tryz.prog E 31 ⟨tSlLLetter, 24, .slice 119⟩ := tiok_slice (ie := ⟨tLLetter, 104, .struct [(0, 3), (1, 3), (2, 3), (3, 3), (4, 3), (5, 24), (9, 26)]⟩) (inf := Tryz.t31) (by kernel_rfl) rfl rfl rfl (by decide) (by kernel_rfl) (by rw [h]; kernel_rfl)
theorem tok32 (E : Env) (h : E.ti = assoc tis) : TIok Tryz.prog E 32 ⟨tXstruct_Id_int_View_int_High_laws_Qc_Lock, 264, .struct [(0, 3), (1, 3), (2, 24), (6, 24), (10, 26), (14, 27), (15, 28), (16, 27), (17, 29), (18, 30), (19, 31), (20, 3)]⟩ := tiok_struct (inf := Tryz.t32) (by kernel_rfl) (by kernel_rfl) rfl (by kernel_rfl) (by decide) (by decide) rfl (fields := #[{ name := "Id", type := 3, offset := 0, embedded := false, tag := "", pkgPath := "", byteOffset := 0 }, { name := "View", type := 3, offset := 1, embedded := false, tag := "", pkgPath := "", byteOffset := 8 }, { name := "High", type := 24, offset := 2, embedded := false, tag := "", pkgPath := "", byteOffset := 16 }, { name := "Lock", type := 24, offset := 6, embedded := false, tag := "", pkgPath := "", byteOffset := 48 }, { name := "Last", type := 26, offset := 10, embedded := false, tag := "", pkgPath := "", byteOffset := 80 }, { name := "Row", type := 27, offset := 14, embedded := false, tag := "", pkgPath := "", byteOffset := 112 }, { name := "Cells", type := 28, offset := 15, embedded := false, tag := "", pkgPath := "", byteOffset := 136 }, { name := "Early", type := 27, offset := 16, embedded := false, tag := "", pkgPath := "", byteOffset := 160 }, { name := "Undos", type := 29, offset := 17, embedded := false, tag := "", pkgPath := "", byteOffset := 184 }, { name := "Votes", type := 30, offset := 18, embedded := false, tag := "", pkgPath := "", byteOffset := 208 }, { name := "News", type := 31, offset := 19, embedded := false, tag := "", pkgPath := "", byteOffset := 232 }, { name := "Shown", type := 3, offset := 20, embedded := false, tag := "", pkgPath := "", byteOffset := 256 }]) (by kernel_rfl) rfl (all_cons ⟨⟨tInt, 8, .scalar⟩, by rw [h]; kernel_rfl⟩ (all_cons ⟨⟨tInt, 8, .scalar⟩, by rw [h]; kernel_rfl⟩ (all_cons ⟨⟨tLQc, 32, .struct [(0, 3), (1, 3), (2, 3), (3, 3)]⟩, by rw [h]; kernel_rfl⟩ (all_cons ⟨⟨tLQc, 32, .struct [(0, 3), (1, 3), (2, 3), (3, 3)]⟩, by rw [h]; kernel_rfl⟩ (all_cons ⟨⟨tLVote, 32, .struct [(0, 3), (1, 3), (2, 3), (3, 3)]⟩, by rw [h]; kernel_rfl⟩ (all_cons ⟨⟨tSlInt, 24, .slice 3⟩, by rw [h]; kernel_rfl⟩ (all_cons ⟨⟨tSlLCell, 24, .slice 100⟩, by rw [h]; kernel_rfl⟩ (all_cons ⟨⟨tSlInt, 24, .slice 3⟩, by rw [h]; kernel_rfl⟩ (all_cons ⟨⟨tSlLUndo, 24, .slice 103⟩, by rw [h]; kernel_rfl⟩ (all_cons ⟨⟨tSlLVote, 24, .slice 26⟩, by rw [h]; kernel_rfl⟩ (all_cons ⟨⟨tSlLLetter, 24, .slice 119⟩, by rw [h]; kernel_rfl⟩ (all_cons ⟨⟨tInt, 8, .scalar⟩, by rw [h]; kernel_rfl⟩ all_nil))))))))))))
theorem tok33 (E : Env) (h : E.ti = assoc tis) : TIok Tryz.prog E 33 ⟨tLPeer, 264, .struct [(0, 3), (1, 3), (2, 24), (6, 24), (10, 26), (14, 27), (15, 28), (16, 27), (17, 29), (18, 30), (19, 31), (20, 3)]⟩ := tiok_struct (inf := Tryz.t33) (by kernel_rfl) (by kernel_rfl) rfl (by kernel_rfl) (by decide) (by decide) rfl (fields := #[{ name := "Id", type := 3, offset := 0, embedded := false, tag := "", pkgPath := "", byteOffset := 0 }, { name := "View", type := 3, offset := 1, embedded := false, tag := "", pkgPath := "", byteOffset := 8 }, { name := "High", type := 24, offset := 2, embedded := false, tag := "", pkgPath := "", byteOffset := 16 }, { name := "Lock", type := 24, offset := 6, embedded := false, tag := "", pkgPath := "", byteOffset := 48 }, { name := "Last", type := 26, offset := 10, embedded := false, tag := "", pkgPath := "", byteOffset := 80 }, { name := "Row", type := 27, offset := 14, embedded := false, tag := "", pkgPath := "", byteOffset := 112 }, { name := "Cells", type := 28, offset := 15, embedded := false, tag := "", pkgPath := "", byteOffset := 136 }, { name := "Early", type := 27, offset := 16, embedded := false, tag := "", pkgPath := "", byteOffset := 160 }, { name := "Undos", type := 29, offset := 17, embedded := false, tag := "", pkgPath := "", byteOffset := 184 }, { name := "Votes", type := 30, offset := 18, embedded := false, tag := "", pkgPath := "", byteOffset := 208 }, { name := "News", type := 31, offset := 19, embedded := false, tag := "", pkgPath := "", byteOffset := 232 }, { name := "Shown", type := 3, offset := 20, embedded := false, tag := "", pkgPath := "", byteOffset := 256 }]) (by kernel_rfl) rfl (all_cons ⟨⟨tInt, 8, .scalar⟩, by rw [h]; kernel_rfl⟩ (all_cons ⟨⟨tInt, 8, .scalar⟩, by rw [h]; kernel_rfl⟩ (all_cons ⟨⟨tLQc, 32, .struct [(0, 3), (1, 3), (2, 3), (3, 3)]⟩, by rw [h]; kernel_rfl⟩ (all_cons ⟨⟨tLQc, 32, .struct [(0, 3), (1, 3), (2, 3), (3, 3)]⟩, by rw [h]; kernel_rfl⟩ (all_cons ⟨⟨tLVote, 32, .struct [(0, 3), (1, 3), (2, 3), (3, 3)]⟩, by rw [h]; kernel_rfl⟩ (all_cons ⟨⟨tSlInt, 24, .slice 3⟩, by rw [h]; kernel_rfl⟩ (all_cons ⟨⟨tSlLCell, 24, .slice 100⟩, by rw [h]; kernel_rfl⟩ (all_cons ⟨⟨tSlInt, 24, .slice 3⟩, by rw [h]; kernel_rfl⟩ (all_cons ⟨⟨tSlLUndo, 24, .slice 103⟩, by rw [h]; kernel_rfl⟩ (all_cons ⟨⟨tSlLVote, 24, .slice 26⟩, by rw [h]; kernel_rfl⟩ (all_cons ⟨⟨tSlLLetter, 24, .slice 119⟩, by rw [h]; kernel_rfl⟩ (all_cons ⟨⟨tInt, 8, .scalar⟩, by rw [h]; kernel_rfl⟩ all_nil))))))))))))
theorem tok36 (E : Env) (h : E.ti = assoc tis) : TIok Tryz.prog E 36 ⟨tIQc, 32, .struct [(0, 3), (1, 3), (2, 3), (3, 3)]⟩ := tiok_struct (inf := Tryz.t36) (by kernel_rfl) (by kernel_rfl) rfl (by kernel_rfl) (by decide) (by decide) rfl (fields := #[{ name := "Phase", type := 3, offset := 0, embedded := false, tag := "", pkgPath := "", byteOffset := 0 }, { name := "View", type := 3, offset := 1, embedded := false, tag := "", pkgPath := "", byteOffset := 8 }, { name := "Block", type := 3, offset := 2, embedded := false, tag := "", pkgPath := "", byteOffset := 16 }, { name := "Signers", type := 3, offset := 3, embedded := false, tag := "", pkgPath := "", byteOffset := 24 }]) (by kernel_rfl) rfl (all_cons ⟨⟨tInt, 8, .scalar⟩, by rw [h]; kernel_rfl⟩ (all_cons ⟨⟨tInt, 8, .scalar⟩, by rw [h]; kernel_rfl⟩ (all_cons ⟨⟨tInt, 8, .scalar⟩, by rw [h]; kernel_rfl⟩ (all_cons ⟨⟨tInt, 8, .scalar⟩, by rw [h]; kernel_rfl⟩ all_nil))))
theorem tok37 (E : Env) (h : E.ti = assoc tis) : TIok Tryz.prog E 37 ⟨tIVote, 32, .struct [(0, 3), (1, 3), (2, 3), (3, 3)]⟩ := tiok_struct (inf := Tryz.t37) (by kernel_rfl) (by kernel_rfl) rfl (by kernel_rfl) (by decide) (by decide) rfl (fields := #[{ name := "Phase", type := 3, offset := 0, embedded := false, tag := "", pkgPath := "", byteOffset := 0 }, { name := "View", type := 3, offset := 1, embedded := false, tag := "", pkgPath := "", byteOffset := 8 }, { name := "Block", type := 3, offset := 2, embedded := false, tag := "", pkgPath := "", byteOffset := 16 }, { name := "By", type := 3, offset := 3, embedded := false, tag := "", pkgPath := "", byteOffset := 24 }]) (by kernel_rfl) rfl (all_cons ⟨⟨tInt, 8, .scalar⟩, by rw [h]; kernel_rfl⟩ (all_cons ⟨⟨tInt, 8, .scalar⟩, by rw [h]; kernel_rfl⟩ (all_cons ⟨⟨tInt, 8, .scalar⟩, by rw [h]; kernel_rfl⟩ (all_cons ⟨⟨tInt, 8, .scalar⟩, by rw [h]; kernel_rfl⟩ all_nil))))
theorem tok38 (E : Env) (h : E.ti = assoc tis) : TIok Tryz.prog E 38 ⟨tSlICell, 24, .slice 111⟩ := tiok_slice (ie := ⟨tICell, 24, .struct [(0, 9), (1, 3)]⟩) (inf := Tryz.t38) (by kernel_rfl) rfl rfl rfl (by decide) (by kernel_rfl) (by rw [h]; kernel_rfl)
theorem tok39 (E : Env) (h : E.ti = assoc tis) : TIok Tryz.prog E 39 ⟨tSlIUndo, 24, .slice 113⟩ := tiok_slice (ie := ⟨tIUndo, 32, .struct [(0, 9), (1, 4), (2, 3)]⟩) (inf := Tryz.t39) (by kernel_rfl) rfl rfl rfl (by decide) (by kernel_rfl) (by rw [h]; kernel_rfl)
theorem tok40 (E : Env) (h : E.ti = assoc tis) : TIok Tryz.prog E 40 ⟨tSlIVote, 24, .slice 37⟩ := tiok_slice (ie := ⟨tIVote, 32, .struct [(0, 3), (1, 3), (2, 3), (3, 3)]⟩) (inf := Tryz.t40) (by kernel_rfl) rfl rfl rfl (by decide) (by kernel_rfl) (by rw [h]; kernel_rfl)
theorem tok41 (E : Env) (h : E.ti = assoc tis) : TIok Tryz.prog E 41 ⟨tSlILetter, 24, .slice 116⟩ := tiok_slice (ie := ⟨tILetter, 104, .struct [(0, 3), (1, 3), (2, 3), (3, 3), (4, 3), (5, 36), (9, 37)]⟩) (inf := Tryz.t41) (by kernel_rfl) rfl rfl rfl (by decide) (by kernel_rfl) (by rw [h]; kernel_rfl)
theorem tok42 (E : Env) (h : E.ti = assoc tis) : TIok Tryz.prog E 42 ⟨tXstruct_Id_int_View_int_High_impl_Qc_Lock, 264, .struct [(0, 3), (1, 3), (2, 36), (6, 36), (10, 37), (14, 27), (15, 38), (16, 27), (17, 39), (18, 40), (19, 41), (20, 3)]⟩ := tiok_struct (inf := Tryz.t42) (by kernel_rfl) (by kernel_rfl) rfl (by kernel_rfl) (by decide) (by decide) rfl (fields := #[{ name := "Id", type := 3, offset := 0, embedded := false, tag := "", pkgPath := "", byteOffset := 0 }, { name := "View", type := 3, offset := 1, embedded := false, tag := "", pkgPath := "", byteOffset := 8 }, { name := "High", type := 36, offset := 2, embedded := false, tag := "", pkgPath := "", byteOffset := 16 }, { name := "Lock", type := 36, offset := 6, embedded := false, tag := "", pkgPath := "", byteOffset := 48 }, { name := "Last", type := 37, offset := 10, embedded := false, tag := "", pkgPath := "", byteOffset := 80 }, { name := "Row", type := 27, offset := 14, embedded := false, tag := "", pkgPath := "", byteOffset := 112 }, { name := "Cells", type := 38, offset := 15, embedded := false, tag := "", pkgPath := "", byteOffset := 136 }, { name := "Early", type := 27, offset := 16, embedded := false, tag := "", pkgPath := "", byteOffset := 160 }, { name := "Undos", type := 39, offset := 17, embedded := false, tag := "", pkgPath := "", byteOffset := 184 }, { name := "Votes", type := 40, offset := 18, embedded := false, tag := "", pkgPath := "", byteOffset := 208 }, { name := "News", type := 41, offset := 19, embedded := false, tag := "", pkgPath := "", byteOffset := 232 }, { name := "Shown", type := 3, offset := 20, embedded := false, tag := "", pkgPath := "", byteOffset := 256 }]) (by kernel_rfl) rfl (all_cons ⟨⟨tInt, 8, .scalar⟩, by rw [h]; kernel_rfl⟩ (all_cons ⟨⟨tInt, 8, .scalar⟩, by rw [h]; kernel_rfl⟩ (all_cons ⟨⟨tIQc, 32, .struct [(0, 3), (1, 3), (2, 3), (3, 3)]⟩, by rw [h]; kernel_rfl⟩ (all_cons ⟨⟨tIQc, 32, .struct [(0, 3), (1, 3), (2, 3), (3, 3)]⟩, by rw [h]; kernel_rfl⟩ (all_cons ⟨⟨tIVote, 32, .struct [(0, 3), (1, 3), (2, 3), (3, 3)]⟩, by rw [h]; kernel_rfl⟩ (all_cons ⟨⟨tSlInt, 24, .slice 3⟩, by rw [h]; kernel_rfl⟩ (all_cons ⟨⟨tSlICell, 24, .slice 111⟩, by rw [h]; kernel_rfl⟩ (all_cons ⟨⟨tSlInt, 24, .slice 3⟩, by rw [h]; kernel_rfl⟩ (all_cons ⟨⟨tSlIUndo, 24, .slice 113⟩, by rw [h]; kernel_rfl⟩ (all_cons ⟨⟨tSlIVote, 24, .slice 37⟩, by rw [h]; kernel_rfl⟩ (all_cons ⟨⟨tSlILetter, 24, .slice 116⟩, by rw [h]; kernel_rfl⟩ (all_cons ⟨⟨tInt, 8, .scalar⟩, by rw [h]; kernel_rfl⟩ all_nil))))))))))))
theorem tok43 (E : Env) (h : E.ti = assoc tis) : TIok Tryz.prog E 43 ⟨tIPeer, 264, .struct [(0, 3), (1, 3), (2, 36), (6, 36), (10, 37), (14, 27), (15, 38), (16, 27), (17, 39), (18, 40), (19, 41), (20, 3)]⟩ := tiok_struct (inf := Tryz.t43) (by kernel_rfl) (by kernel_rfl) rfl (by kernel_rfl) (by decide) (by decide) rfl (fields := #[{ name := "Id", type := 3, offset := 0, embedded := false, tag := "", pkgPath := "", byteOffset := 0 }, { name := "View", type := 3, offset := 1, embedded := false, tag := "", pkgPath := "", byteOffset := 8 }, { name := "High", type := 36, offset := 2, embedded := false, tag := "", pkgPath := "", byteOffset := 16 }, { name := "Lock", type := 36, offset := 6, embedded := false, tag := "", pkgPath := "", byteOffset := 48 }, { name := "Last", type := 37, offset := 10, embedded := false, tag := "", pkgPath := "", byteOffset := 80 }, { name := "Row", type := 27, offset := 14, embedded := false, tag := "", pkgPath := "", byteOffset := 112 }, { name := "Cells", type := 38, offset := 15, embedded := false, tag := "", pkgPath := "", byteOffset := 136 }, { name := "Early", type := 27, offset := 16, embedded := false, tag := "", pkgPath := "", byteOffset := 160 }, { name := "Undos", type := 39, offset := 17, embedded := false, tag := "", pkgPath := "", byteOffset := 184 }, { name := "Votes", type := 40, offset := 18, embedded := false, tag := "", pkgPath := "", byteOffset := 208 }, { name := "News", type := 41, offset := 19, embedded := false, tag := "", pkgPath := "", byteOffset := 232 }, { name := "Shown", type := 3, offset := 20, embedded := false, tag := "", pkgPath := "", byteOffset := 256 }]) (by kernel_rfl) rfl (all_cons ⟨⟨tInt, 8, .scalar⟩, by rw [h]; kernel_rfl⟩ (all_cons ⟨⟨tInt, 8, .scalar⟩, by rw [h]; kernel_rfl⟩ (all_cons ⟨⟨tIQc, 32, .struct [(0, 3), (1, 3), (2, 3), (3, 3)]⟩, by rw [h]; kernel_rfl⟩ (all_cons ⟨⟨tIQc, 32, .struct [(0, 3), (1, 3), (2, 3), (3, 3)]⟩, by rw [h]; kernel_rfl⟩ (all_cons ⟨⟨tIVote, 32, .struct [(0, 3), (1, 3), (2, 3), (3, 3)]⟩, by rw [h]; kernel_rfl⟩ (all_cons ⟨⟨tSlInt, 24, .slice 3⟩, by rw [h]; kernel_rfl⟩ (all_cons ⟨⟨tSlICell, 24, .slice 111⟩, by rw [h]; kernel_rfl⟩ (all_cons ⟨⟨tSlInt, 24, .slice 3⟩, by rw [h]; kernel_rfl⟩ (all_cons ⟨⟨tSlIUndo, 24, .slice 113⟩, by rw [h]; kernel_rfl⟩ (all_cons ⟨⟨tSlIVote, 24, .slice 37⟩, by rw [h]; kernel_rfl⟩ (all_cons ⟨⟨tSlILetter, 24, .slice 116⟩, by rw [h]; kernel_rfl⟩ (all_cons ⟨⟨tInt, 8, .scalar⟩, by rw [h]; kernel_rfl⟩ all_nil))))))))))))
theorem tok45 (E : Env) (h : E.ti = assoc tis) : TIok Tryz.prog E 45 ⟨tSlIBlock, 24, .slice 72⟩ := tiok_slice (ie := ⟨tIBlock, 72, .struct [(0, 3), (1, 3), (2, 70), (3, 36)]⟩) (inf := Tryz.t45) (by kernel_rfl) rfl rfl rfl (by decide) (by kernel_rfl) (by rw [h]; kernel_rfl)
theorem tok54 (E : Env) (h : E.ti = assoc tis) : TIok Tryz.prog E 54 ⟨tSlLCmd, 24, .slice 135⟩ := tiok_slice (ie := ⟨tLCmd, 32, .struct [(0, 3), (1, 9), (2, 3)]⟩) (inf := Tryz.t54) (by kernel_rfl) rfl rfl rfl (by decide) (by kernel_rfl) (by rw [h]; kernel_rfl)
theorem tok55 (E : Env) (h : E.ti = assoc tis) : TIok Tryz.prog E 55 ⟨tXstruct_Parent_int_View_int_Cmds_laws_Cmd, 72, .struct [(0, 3), (1, 3), (2, 54), (3, 24)]⟩ := tiok_struct (inf := Tryz.t55) (by kernel_rfl) (by kernel_rfl) rfl (by kernel_rfl) (by decide) (by decide) rfl (fields := #[{ name := "Parent", type := 3, offset := 0, embedded := false, tag := "", pkgPath := "", byteOffset := 0 }, { name := "View", type := 3, offset := 1, embedded := false, tag := "", pkgPath := "", byteOffset := 8 }, { name := "Cmds", type := 54, offset := 2, embedded := false, tag := "", pkgPath := "", byteOffset := 16 }, { name := "Just", type := 24, offset := 3, embedded := false, tag := "", pkgPath := "", byteOffset := 40 }]) (by kernel_rfl) rfl (all_cons ⟨⟨tInt, 8, .scalar⟩, by rw [h]; kernel_rfl⟩ (all_cons ⟨⟨tInt, 8, .scalar⟩, by rw [h]; kernel_rfl⟩ (all_cons ⟨⟨tSlLCmd, 24, .slice 135⟩, by rw [h]; kernel_rfl⟩ (all_cons ⟨⟨tLQc, 32, .struct [(0, 3), (1, 3), (2, 3), (3, 3)]⟩, by rw [h]; kernel_rfl⟩ all_nil))))
theorem tok56 (E : Env) (h : E.ti = assoc tis) : TIok Tryz.prog E 56 ⟨tLBlock, 72, .struct [(0, 3), (1, 3), (2, 54), (3, 24)]⟩ := tiok_struct (inf := Tryz.t56) (by kernel_rfl) (by kernel_rfl) rfl (by kernel_rfl) (by decide) (by decide) rfl (fields := #[{ name := "Parent", type := 3, offset := 0, embedded := false, tag := "", pkgPath := "", byteOffset := 0 }, { name := "View", type := 3, offset := 1, embedded := false, tag := "", pkgPath := "", byteOffset := 8 }, { name := "Cmds", type := 54, offset := 2, embedded := false, tag := "", pkgPath := "", byteOffset := 16 }, { name := "Just", type := 24, offset := 3, embedded := false, tag := "", pkgPath := "", byteOffset := 40 }]) (by kernel_rfl) rfl (all_cons ⟨⟨tInt, 8, .scalar⟩, by rw [h]; kernel_rfl⟩ (all_cons ⟨⟨tInt, 8, .scalar⟩, by rw [h]; kernel_rfl⟩ (all_cons ⟨⟨tSlLCmd, 24, .slice 135⟩, by rw [h]; kernel_rfl⟩ (all_cons ⟨⟨tLQc, 32, .struct [(0, 3), (1, 3), (2, 3), (3, 3)]⟩, by rw [h]; kernel_rfl⟩ all_nil))))
theorem tok70 (E : Env) (h : E.ti = assoc tis) : TIok Tryz.prog E 70 ⟨tSlICmd, 24, .slice 109⟩ := tiok_slice (ie := ⟨tICmd, 32, .struct [(0, 3), (1, 9), (2, 3)]⟩) (inf := Tryz.t70) (by kernel_rfl) rfl rfl rfl (by decide) (by kernel_rfl) (by rw [h]; kernel_rfl)
theorem tok71 (E : Env) (h : E.ti = assoc tis) : TIok Tryz.prog E 71 ⟨tXstruct_Parent_int_View_int_Cmds_impl_Cmd, 72, .struct [(0, 3), (1, 3), (2, 70), (3, 36)]⟩ := tiok_struct (inf := Tryz.t71) (by kernel_rfl) (by kernel_rfl) rfl (by kernel_rfl) (by decide) (by decide) rfl (fields := #[{ name := "Parent", type := 3, offset := 0, embedded := false, tag := "", pkgPath := "", byteOffset := 0 }, { name := "View", type := 3, offset := 1, embedded := false, tag := "", pkgPath := "", byteOffset := 8 }, { name := "Cmds", type := 70, offset := 2, embedded := false, tag := "", pkgPath := "", byteOffset := 16 }, { name := "Just", type := 36, offset := 3, embedded := false, tag := "", pkgPath := "", byteOffset := 40 }]) (by kernel_rfl) rfl (all_cons ⟨⟨tInt, 8, .scalar⟩, by rw [h]; kernel_rfl⟩ (all_cons ⟨⟨tInt, 8, .scalar⟩, by rw [h]; kernel_rfl⟩ (all_cons ⟨⟨tSlICmd, 24, .slice 109⟩, by rw [h]; kernel_rfl⟩ (all_cons ⟨⟨tIQc, 32, .struct [(0, 3), (1, 3), (2, 3), (3, 3)]⟩, by rw [h]; kernel_rfl⟩ all_nil))))
theorem tok72 (E : Env) (h : E.ti = assoc tis) : TIok Tryz.prog E 72 ⟨tIBlock, 72, .struct [(0, 3), (1, 3), (2, 70), (3, 36)]⟩ := tiok_struct (inf := Tryz.t72) (by kernel_rfl) (by kernel_rfl) rfl (by kernel_rfl) (by decide) (by decide) rfl (fields := #[{ name := "Parent", type := 3, offset := 0, embedded := false, tag := "", pkgPath := "", byteOffset := 0 }, { name := "View", type := 3, offset := 1, embedded := false, tag := "", pkgPath := "", byteOffset := 8 }, { name := "Cmds", type := 70, offset := 2, embedded := false, tag := "", pkgPath := "", byteOffset := 16 }, { name := "Just", type := 36, offset := 3, embedded := false, tag := "", pkgPath := "", byteOffset := 40 }]) (by kernel_rfl) rfl (all_cons ⟨⟨tInt, 8, .scalar⟩, by rw [h]; kernel_rfl⟩ (all_cons ⟨⟨tInt, 8, .scalar⟩, by rw [h]; kernel_rfl⟩ (all_cons ⟨⟨tSlICmd, 24, .slice 109⟩, by rw [h]; kernel_rfl⟩ (all_cons ⟨⟨tIQc, 32, .struct [(0, 3), (1, 3), (2, 3), (3, 3)]⟩, by rw [h]; kernel_rfl⟩ all_nil))))
theorem tok99 (E : Env) (h : E.ti = assoc tis) : TIok Tryz.prog E 99 ⟨tXstruct_Key_string_Num_int_, 24, .struct [(0, 9), (1, 3)]⟩ := tiok_struct (inf := Tryz.t99) (by kernel_rfl) (by kernel_rfl) rfl (by kernel_rfl) (by decide) (by decide) rfl (fields := #[{ name := "Key", type := 9, offset := 0, embedded := false, tag := "", pkgPath := "", byteOffset := 0 }, { name := "Num", type := 3, offset := 1, embedded := false, tag := "", pkgPath := "", byteOffset := 16 }]) (by kernel_rfl) rfl (all_cons ⟨⟨tString, 16, .scalar⟩, by rw [h]; kernel_rfl⟩ (all_cons ⟨⟨tInt, 8, .scalar⟩, by rw [h]; kernel_rfl⟩ all_nil))
theorem tok100 (E : Env) (h : E.ti = assoc tis) : TIok Tryz.prog E 100 ⟨tLCell, 24, .struct [(0, 9), (1, 3)]⟩ := tiok_struct (inf := Tryz.t100) (by kernel_rfl) (by kernel_rfl) rfl (by kernel_rfl) (by decide) (by decide) rfl (fields := #[{ name := "Key", type := 9, offset := 0, embedded := false, tag := "", pkgPath := "", byteOffset := 0 }, { name := "Num", type := 3, offset := 1, embedded := false, tag := "", pkgPath := "", byteOffset := 16 }]) (by kernel_rfl) rfl (all_cons ⟨⟨tString, 16, .scalar⟩, by rw [h]; kernel_rfl⟩ (all_cons ⟨⟨tInt, 8, .scalar⟩, by rw [h]; kernel_rfl⟩ all_nil))
theorem tok102 (E : Env) (h : E.ti = assoc tis) : TIok Tryz.prog E 102 ⟨tXstruct_Key_string_Had_bool_Num_int_, 32, .struct [(0, 9), (1, 4), (2, 3)]⟩ := tiok_struct (inf := Tryz.t102) (by kernel_rfl) (by kernel_rfl) rfl (by kernel_rfl) (by decide) (by decide) rfl (fields := #[{ name := "Key", type := 9, offset := 0, embedded := false, tag := "", pkgPath := "", byteOffset := 0 }, { name := "Had", type := 4, offset := 1, embedded := false, tag := "", pkgPath := "", byteOffset := 16 }, { name := "Num", type := 3, offset := 2, embedded := false, tag := "", pkgPath := "", byteOffset := 24 }]) (by kernel_rfl) rfl (all_cons ⟨⟨tString, 16, .scalar⟩, by rw [h]; kernel_rfl⟩ (all_cons ⟨⟨tBool, 1, .scalar⟩, by rw [h]; kernel_rfl⟩ (all_cons ⟨⟨tInt, 8, .scalar⟩, by rw [h]; kernel_rfl⟩ all_nil)))
theorem tok103 (E : Env) (h : E.ti = assoc tis) : TIok Tryz.prog E 103 ⟨tLUndo, 32, .struct [(0, 9), (1, 4), (2, 3)]⟩ := tiok_struct (inf := Tryz.t103) (by kernel_rfl) (by kernel_rfl) rfl (by kernel_rfl) (by decide) (by decide) rfl (fields := #[{ name := "Key", type := 9, offset := 0, embedded := false, tag := "", pkgPath := "", byteOffset := 0 }, { name := "Had", type := 4, offset := 1, embedded := false, tag := "", pkgPath := "", byteOffset := 16 }, { name := "Num", type := 3, offset := 2, embedded := false, tag := "", pkgPath := "", byteOffset := 24 }]) (by kernel_rfl) rfl (all_cons ⟨⟨tString, 16, .scalar⟩, by rw [h]; kernel_rfl⟩ (all_cons ⟨⟨tBool, 1, .scalar⟩, by rw [h]; kernel_rfl⟩ (all_cons ⟨⟨tInt, 8, .scalar⟩, by rw [h]; kernel_rfl⟩ all_nil)))
theorem tok108 (E : Env) (h : E.ti = assoc tis) : TIok Tryz.prog E 108 ⟨tXstruct_Kind_int_Key_string_Num_int_, 32, .struct [(0, 3), (1, 9), (2, 3)]⟩ := tiok_struct (inf := Tryz.t108) (by kernel_rfl) (by kernel_rfl) rfl (by kernel_rfl) (by decide) (by decide) rfl (fields := #[{ name := "Kind", type := 3, offset := 0, embedded := false, tag := "", pkgPath := "", byteOffset := 0 }, { name := "Key", type := 9, offset := 1, embedded := false, tag := "", pkgPath := "", byteOffset := 8 }, { name := "Num", type := 3, offset := 2, embedded := false, tag := "", pkgPath := "", byteOffset := 24 }]) (by kernel_rfl) rfl (all_cons ⟨⟨tInt, 8, .scalar⟩, by rw [h]; kernel_rfl⟩ (all_cons ⟨⟨tString, 16, .scalar⟩, by rw [h]; kernel_rfl⟩ (all_cons ⟨⟨tInt, 8, .scalar⟩, by rw [h]; kernel_rfl⟩ all_nil)))
theorem tok109 (E : Env) (h : E.ti = assoc tis) : TIok Tryz.prog E 109 ⟨tICmd, 32, .struct [(0, 3), (1, 9), (2, 3)]⟩ := tiok_struct (inf := Tryz.t109) (by kernel_rfl) (by kernel_rfl) rfl (by kernel_rfl) (by decide) (by decide) rfl (fields := #[{ name := "Kind", type := 3, offset := 0, embedded := false, tag := "", pkgPath := "", byteOffset := 0 }, { name := "Key", type := 9, offset := 1, embedded := false, tag := "", pkgPath := "", byteOffset := 8 }, { name := "Num", type := 3, offset := 2, embedded := false, tag := "", pkgPath := "", byteOffset := 24 }]) (by kernel_rfl) rfl (all_cons ⟨⟨tInt, 8, .scalar⟩, by rw [h]; kernel_rfl⟩ (all_cons ⟨⟨tString, 16, .scalar⟩, by rw [h]; kernel_rfl⟩ (all_cons ⟨⟨tInt, 8, .scalar⟩, by rw [h]; kernel_rfl⟩ all_nil)))
theorem tok111 (E : Env) (h : E.ti = assoc tis) : TIok Tryz.prog E 111 ⟨tICell, 24, .struct [(0, 9), (1, 3)]⟩ := tiok_struct (inf := Tryz.t111) (by kernel_rfl) (by kernel_rfl) rfl (by kernel_rfl) (by decide) (by decide) rfl (fields := #[{ name := "Key", type := 9, offset := 0, embedded := false, tag := "", pkgPath := "", byteOffset := 0 }, { name := "Num", type := 3, offset := 1, embedded := false, tag := "", pkgPath := "", byteOffset := 16 }]) (by kernel_rfl) rfl (all_cons ⟨⟨tString, 16, .scalar⟩, by rw [h]; kernel_rfl⟩ (all_cons ⟨⟨tInt, 8, .scalar⟩, by rw [h]; kernel_rfl⟩ all_nil))
theorem tok113 (E : Env) (h : E.ti = assoc tis) : TIok Tryz.prog E 113 ⟨tIUndo, 32, .struct [(0, 9), (1, 4), (2, 3)]⟩ := tiok_struct (inf := Tryz.t113) (by kernel_rfl) (by kernel_rfl) rfl (by kernel_rfl) (by decide) (by decide) rfl (fields := #[{ name := "Key", type := 9, offset := 0, embedded := false, tag := "", pkgPath := "", byteOffset := 0 }, { name := "Had", type := 4, offset := 1, embedded := false, tag := "", pkgPath := "", byteOffset := 16 }, { name := "Num", type := 3, offset := 2, embedded := false, tag := "", pkgPath := "", byteOffset := 24 }]) (by kernel_rfl) rfl (all_cons ⟨⟨tString, 16, .scalar⟩, by rw [h]; kernel_rfl⟩ (all_cons ⟨⟨tBool, 1, .scalar⟩, by rw [h]; kernel_rfl⟩ (all_cons ⟨⟨tInt, 8, .scalar⟩, by rw [h]; kernel_rfl⟩ all_nil)))
theorem tok115 (E : Env) (h : E.ti = assoc tis) : TIok Tryz.prog E 115 ⟨tXstruct_Kind_int_From_int_To_int_View_int, 104, .struct [(0, 3), (1, 3), (2, 3), (3, 3), (4, 3), (5, 36), (9, 37)]⟩ := tiok_struct (inf := Tryz.t115) (by kernel_rfl) (by kernel_rfl) rfl (by kernel_rfl) (by decide) (by decide) rfl (fields := #[{ name := "Kind", type := 3, offset := 0, embedded := false, tag := "", pkgPath := "", byteOffset := 0 }, { name := "From", type := 3, offset := 1, embedded := false, tag := "", pkgPath := "", byteOffset := 8 }, { name := "To", type := 3, offset := 2, embedded := false, tag := "", pkgPath := "", byteOffset := 16 }, { name := "View", type := 3, offset := 3, embedded := false, tag := "", pkgPath := "", byteOffset := 24 }, { name := "Block", type := 3, offset := 4, embedded := false, tag := "", pkgPath := "", byteOffset := 32 }, { name := "Qc", type := 36, offset := 5, embedded := false, tag := "", pkgPath := "", byteOffset := 40 }, { name := "Vote", type := 37, offset := 9, embedded := false, tag := "", pkgPath := "", byteOffset := 72 }]) (by kernel_rfl) rfl (all_cons ⟨⟨tInt, 8, .scalar⟩, by rw [h]; kernel_rfl⟩ (all_cons ⟨⟨tInt, 8, .scalar⟩, by rw [h]; kernel_rfl⟩ (all_cons ⟨⟨tInt, 8, .scalar⟩, by rw [h]; kernel_rfl⟩ (all_cons ⟨⟨tInt, 8, .scalar⟩, by rw [h]; kernel_rfl⟩ (all_cons ⟨⟨tInt, 8, .scalar⟩, by rw [h]; kernel_rfl⟩ (all_cons ⟨⟨tIQc, 32, .struct [(0, 3), (1, 3), (2, 3), (3, 3)]⟩, by rw [h]; kernel_rfl⟩ (all_cons ⟨⟨tIVote, 32, .struct [(0, 3), (1, 3), (2, 3), (3, 3)]⟩, by rw [h]; kernel_rfl⟩ all_nil)))))))
theorem tok116 (E : Env) (h : E.ti = assoc tis) : TIok Tryz.prog E 116 ⟨tILetter, 104, .struct [(0, 3), (1, 3), (2, 3), (3, 3), (4, 3), (5, 36), (9, 37)]⟩ := tiok_struct (inf := Tryz.t116) (by kernel_rfl) (by kernel_rfl) rfl (by kernel_rfl) (by decide) (by decide) rfl (fields := #[{ name := "Kind", type := 3, offset := 0, embedded := false, tag := "", pkgPath := "", byteOffset := 0 }, { name := "From", type := 3, offset := 1, embedded := false, tag := "", pkgPath := "", byteOffset := 8 }, { name := "To", type := 3, offset := 2, embedded := false, tag := "", pkgPath := "", byteOffset := 16 }, { name := "View", type := 3, offset := 3, embedded := false, tag := "", pkgPath := "", byteOffset := 24 }, { name := "Block", type := 3, offset := 4, embedded := false, tag := "", pkgPath := "", byteOffset := 32 }, { name := "Qc", type := 36, offset := 5, embedded := false, tag := "", pkgPath := "", byteOffset := 40 }, { name := "Vote", type := 37, offset := 9, embedded := false, tag := "", pkgPath := "", byteOffset := 72 }]) (by kernel_rfl) rfl (all_cons ⟨⟨tInt, 8, .scalar⟩, by rw [h]; kernel_rfl⟩ (all_cons ⟨⟨tInt, 8, .scalar⟩, by rw [h]; kernel_rfl⟩ (all_cons ⟨⟨tInt, 8, .scalar⟩, by rw [h]; kernel_rfl⟩ (all_cons ⟨⟨tInt, 8, .scalar⟩, by rw [h]; kernel_rfl⟩ (all_cons ⟨⟨tInt, 8, .scalar⟩, by rw [h]; kernel_rfl⟩ (all_cons ⟨⟨tIQc, 32, .struct [(0, 3), (1, 3), (2, 3), (3, 3)]⟩, by rw [h]; kernel_rfl⟩ (all_cons ⟨⟨tIVote, 32, .struct [(0, 3), (1, 3), (2, 3), (3, 3)]⟩, by rw [h]; kernel_rfl⟩ all_nil)))))))
theorem tok118 (E : Env) (h : E.ti = assoc tis) : TIok Tryz.prog E 118 ⟨tXstruct_Kind_int_From_int_To_int_View_int_118, 104, .struct [(0, 3), (1, 3), (2, 3), (3, 3), (4, 3), (5, 24), (9, 26)]⟩ := tiok_struct (inf := Tryz.t118) (by kernel_rfl) (by kernel_rfl) rfl (by kernel_rfl) (by decide) (by decide) rfl (fields := #[{ name := "Kind", type := 3, offset := 0, embedded := false, tag := "", pkgPath := "", byteOffset := 0 }, { name := "From", type := 3, offset := 1, embedded := false, tag := "", pkgPath := "", byteOffset := 8 }, { name := "To", type := 3, offset := 2, embedded := false, tag := "", pkgPath := "", byteOffset := 16 }, { name := "View", type := 3, offset := 3, embedded := false, tag := "", pkgPath := "", byteOffset := 24 }, { name := "Block", type := 3, offset := 4, embedded := false, tag := "", pkgPath := "", byteOffset := 32 }, { name := "Qc", type := 24, offset := 5, embedded := false, tag := "", pkgPath := "", byteOffset := 40 }, { name := "Vote", type := 26, offset := 9, embedded := false, tag := "", pkgPath := "", byteOffset := 72 }]) (by kernel_rfl) rfl (all_cons ⟨⟨tInt, 8, .scalar⟩, by rw [h]; kernel_rfl⟩ (all_cons ⟨⟨tInt, 8, .scalar⟩, by rw [h]; kernel_rfl⟩ (all_cons ⟨⟨tInt, 8, .scalar⟩, by rw [h]; kernel_rfl⟩ (all_cons ⟨⟨tInt, 8, .scalar⟩, by rw [h]; kernel_rfl⟩ (all_cons ⟨⟨tInt, 8, .scalar⟩, by rw [h]; kernel_rfl⟩ (all_cons ⟨⟨tLQc, 32, .struct [(0, 3), (1, 3), (2, 3), (3, 3)]⟩, by rw [h]; kernel_rfl⟩ (all_cons ⟨⟨tLVote, 32, .struct [(0, 3), (1, 3), (2, 3), (3, 3)]⟩, by rw [h]; kernel_rfl⟩ all_nil)))))))
theorem tok119 (E : Env) (h : E.ti = assoc tis) : TIok Tryz.prog E 119 ⟨tLLetter, 104, .struct [(0, 3), (1, 3), (2, 3), (3, 3), (4, 3), (5, 24), (9, 26)]⟩ := tiok_struct (inf := Tryz.t119) (by kernel_rfl) (by kernel_rfl) rfl (by kernel_rfl) (by decide) (by decide) rfl (fields := #[{ name := "Kind", type := 3, offset := 0, embedded := false, tag := "", pkgPath := "", byteOffset := 0 }, { name := "From", type := 3, offset := 1, embedded := false, tag := "", pkgPath := "", byteOffset := 8 }, { name := "To", type := 3, offset := 2, embedded := false, tag := "", pkgPath := "", byteOffset := 16 }, { name := "View", type := 3, offset := 3, embedded := false, tag := "", pkgPath := "", byteOffset := 24 }, { name := "Block", type := 3, offset := 4, embedded := false, tag := "", pkgPath := "", byteOffset := 32 }, { name := "Qc", type := 24, offset := 5, embedded := false, tag := "", pkgPath := "", byteOffset := 40 }, { name := "Vote", type := 26, offset := 9, embedded := false, tag := "", pkgPath := "", byteOffset := 72 }]) (by kernel_rfl) rfl (all_cons ⟨⟨tInt, 8, .scalar⟩, by rw [h]; kernel_rfl⟩ (all_cons ⟨⟨tInt, 8, .scalar⟩, by rw [h]; kernel_rfl⟩ (all_cons ⟨⟨tInt, 8, .scalar⟩, by rw [h]; kernel_rfl⟩ (all_cons ⟨⟨tInt, 8, .scalar⟩, by rw [h]; kernel_rfl⟩ (all_cons ⟨⟨tInt, 8, .scalar⟩, by rw [h]; kernel_rfl⟩ (all_cons ⟨⟨tLQc, 32, .struct [(0, 3), (1, 3), (2, 3), (3, 3)]⟩, by rw [h]; kernel_rfl⟩ (all_cons ⟨⟨tLVote, 32, .struct [(0, 3), (1, 3), (2, 3), (3, 3)]⟩, by rw [h]; kernel_rfl⟩ all_nil)))))))
theorem tok135 (E : Env) (h : E.ti = assoc tis) : TIok Tryz.prog E 135 ⟨tLCmd, 32, .struct [(0, 3), (1, 9), (2, 3)]⟩ := tiok_struct (inf := Tryz.t135) (by kernel_rfl) (by kernel_rfl) rfl (by kernel_rfl) (by decide) (by decide) rfl (fields := #[{ name := "Kind", type := 3, offset := 0, embedded := false, tag := "", pkgPath := "", byteOffset := 0 }, { name := "Key", type := 9, offset := 1, embedded := false, tag := "", pkgPath := "", byteOffset := 8 }, { name := "Num", type := 3, offset := 2, embedded := false, tag := "", pkgPath := "", byteOffset := 24 }]) (by kernel_rfl) rfl (all_cons ⟨⟨tInt, 8, .scalar⟩, by rw [h]; kernel_rfl⟩ (all_cons ⟨⟨tString, 16, .scalar⟩, by rw [h]; kernel_rfl⟩ (all_cons ⟨⟨tInt, 8, .scalar⟩, by rw [h]; kernel_rfl⟩ all_nil)))
theorem tok145 (E : Env) (h : E.ti = assoc tis) : TIok Tryz.prog E 145 ⟨tSlUint8, 24, .slice 5⟩ := tiok_slice (ie := ⟨tUint8, 1, .scalar⟩) (inf := Tryz.t145) (by kernel_rfl) rfl rfl rfl (by decide) (by kernel_rfl) (by rw [h]; kernel_rfl)
theorem tok161 (E : Env) (h : E.ti = assoc tis) : TIok Tryz.prog E 161 ⟨tUint32, 4, .scalar⟩ := tiok_scalar (inf := Tryz.t161) (by kernel_rfl) rfl rfl (by kernel_rfl) (by decide) (d := .int .u32) (by kernel_rfl) rfl
theorem tok162 (E : Env) (h : E.ti = assoc tis) : TIok Tryz.prog E 162 ⟨tXabi_TFlag, 1, .scalar⟩ := tiok_scalar (inf := Tryz.t162) (by kernel_rfl) rfl rfl (by kernel_rfl) (by decide) (d := .int .u8) (by kernel_rfl) rfl
theorem tok163 (E : Env) (h : E.ti = assoc tis) : TIok Tryz.prog E 163 ⟨tXabi_Kind, 1, .scalar⟩ := tiok_scalar (inf := Tryz.t163) (by kernel_rfl) rfl rfl (by kernel_rfl) (by decide) (d := .int .u8) (by kernel_rfl) rfl
theorem tok166 (E : Env) (h : E.ti = assoc tis) : TIok Tryz.prog E 166 ⟨tXabi_NameOff, 4, .scalar⟩ := tiok_scalar (inf := Tryz.t166) (by kernel_rfl) rfl rfl (by kernel_rfl) (by decide) (d := .int .i32) (by kernel_rfl) rfl
theorem tok167 (E : Env) (h : E.ti = assoc tis) : TIok Tryz.prog E 167 ⟨tXabi_TypeOff, 4, .scalar⟩ := tiok_scalar (inf := Tryz.t167) (by kernel_rfl) rfl rfl (by kernel_rfl) (by decide) (d := .int .i32) (by kernel_rfl) rfl
theorem tisOk (E : Env) (h : E.ti = assoc tis) : ∀ t i, E.ti t = some i → TIok Tryz.prog E t i := by
  rw [h]
  refine tis_ok ?_
  refine all_cons (tok2 E h) ?_
  refine all_cons (tok3 E h) ?_
  refine all_cons (tok4 E h) ?_
  refine all_cons (tok5 E h) ?_
  refine all_cons (tok6 E h) ?_
  refine all_cons (tok7 E h) ?_
  refine all_cons (tok8 E h) ?_
  refine all_cons (tok9 E h) ?_
  refine all_cons (tok10 E h) ?_
  refine all_cons (tok11 E h) ?_
  refine all_cons (tok12 E h) ?_
  refine all_cons (tok13 E h) ?_
  refine all_cons (tok14 E h) ?_
  refine all_cons (tok21 E h) ?_
  refine all_cons (tok22 E h) ?_
  refine all_cons (tok23 E h) ?_
  refine all_cons (tok24 E h) ?_
  refine all_cons (tok25 E h) ?_
  refine all_cons (tok26 E h) ?_
  refine all_cons (tok27 E h) ?_
  refine all_cons (tok28 E h) ?_
  refine all_cons (tok29 E h) ?_
  refine all_cons (tok30 E h) ?_
  refine all_cons (tok31 E h) ?_
  refine all_cons (tok32 E h) ?_
  refine all_cons (tok33 E h) ?_
  refine all_cons (tok36 E h) ?_
  refine all_cons (tok37 E h) ?_
  refine all_cons (tok38 E h) ?_
  refine all_cons (tok39 E h) ?_
  refine all_cons (tok40 E h) ?_
  refine all_cons (tok41 E h) ?_
  refine all_cons (tok42 E h) ?_
  refine all_cons (tok43 E h) ?_
  refine all_cons (tok45 E h) ?_
  refine all_cons (tok54 E h) ?_
  refine all_cons (tok55 E h) ?_
  refine all_cons (tok56 E h) ?_
  refine all_cons (tok70 E h) ?_
  refine all_cons (tok71 E h) ?_
  refine all_cons (tok72 E h) ?_
  refine all_cons (tok99 E h) ?_
  refine all_cons (tok100 E h) ?_
  refine all_cons (tok102 E h) ?_
  refine all_cons (tok103 E h) ?_
  refine all_cons (tok108 E h) ?_
  refine all_cons (tok109 E h) ?_
  refine all_cons (tok111 E h) ?_
  refine all_cons (tok113 E h) ?_
  refine all_cons (tok115 E h) ?_
  refine all_cons (tok116 E h) ?_
  refine all_cons (tok118 E h) ?_
  refine all_cons (tok119 E h) ?_
  refine all_cons (tok135 E h) ?_
  refine all_cons (tok145 E h) ?_
  refine all_cons (tok161 E h) ?_
  refine all_cons (tok162 E h) ?_
  refine all_cons (tok163 E h) ?_
  refine all_cons (tok166 E h) ?_
  refine all_cons (tok167 E h) ?_
  exact all_nil

def eqs (t : TypeId) : Bool := [].any (Nat.beq t)
theorem eqsOk (E : Env) (h : E.ti = assoc tis) (he : E.eqs = eqs) : ∀ t ty, E.eqs t = true → E.ty t = some ty → EqOk Tryz.prog t ty := by
  intro t ty h1 h2
  rw [he] at h1
  simp only [Env.ty, h] at h2
  unfold eqs at h1
  simp only [List.any_cons, List.any_nil, Bool.or_eq_true, Bool.or_false] at h1
  cases h1

/-- how lists of lists are kept; whether elements are taken apart; the slots of places of variables -/
abbrev Fl : Type := Bool × Bool × List Nat
def env (u : Fl) (l : List (Nat × Con)) : Env := ⟨assoc tis, eqs, assoc l, u.1, u.2.1, fun t => u.2.2.any (Nat.beq t)⟩
theorem envOk {u : Fl} {l : List (Nat × Con)} (h : ∀ q ∈ l, ConOk Tryz.prog q.1 q.2) : EnvOk Tryz.prog (env u l) :=
  { ti := tisOk (env u l) rfl, eqs := eqsOk (env u l) rfl rfl, tbl := tbl_ok h }

def body (f : Func) : Code := f.body.getD .skip
abbrev KP : Type := List (Nat × (List Keep × List BK))

/-- a function's evaluation -/
noncomputable def finX {X : Type} (u : Fl) (l : List (Nat × Con)) (rt : List (Option Ty)) (f : Func) (s : Sh X) (args : List SV) : Ex → St → Option X :=
  fun e st => (finK (env u l) rt f.results.toList (enterL [] args).2.2 e st).bind s.un
noncomputable def evX {X : Type} (u : Fl) (l : List (Nat × Con)) (kp : KP) (rt : List (Option Ty)) (f : Func) (s : Sh X) (N : Nat) (args : List SV) : Option X :=
  ev (env u l) (Lr (env u l) kp (body f) (finX u l rt f s args) N) (body f) (startSt f.ntmps args) (finX u l rt f s args)

theorem evX_ok {X : Type} {u : Fl} {l : List (Nat × Con)} (hl : ∀ q ∈ l, ConOk Tryz.prog q.1 q.2) {kp : KP} {rt : List (Option Ty)} {s : Sh X} {n : FuncId} {f : Func} {b : Code} (hf : Tryz.prog.funcs[n]? = some f) (hb : f.body = some b) (hn : noDup (idsOf kp b) = true)
    {args : List SV} (hbx : boxesOk args kp = true) (N : Nat) {v : X} (h : evX u l kp rt f s N args = some v) : CallOk Tryz.prog n args (s.sh v).1 (s.sh v).2 := by
  have e : body f = b := by unfold body; rw [hb]; rfl
  unfold evX at h
  rw [e] at h
  refine fn_ok (rt := rt) (envOk hl) hf hb hn hbx N (fun e st he => ?_) h
  obtain ⟨r, h1, h2⟩ := Option.bind_eq_some_iff.1 he
  rw [h1, s.ok r v h2]

theorem cons_nil : ∀ q ∈ ([] : List (Nat × Con)), ConOk Tryz.prog q.1 q.2 := fun _ h => by cases h
theorem cons_cons {n : Nat} {c : Con} {l : List (Nat × Con)} (h : ConOk Tryz.prog n c) (t : ∀ q ∈ l, ConOk Tryz.prog q.1 q.2) : ∀ q ∈ (n, c) :: l, ConOk Tryz.prog q.1 q.2 := fun q hq => by
  rcases List.mem_cons.1 hq with rfl | hq
  · exact h
  · exact t q hq
/-- enough rounds -/
def big : Nat := 4611686018427387904

end Go.Sx.Tryz
