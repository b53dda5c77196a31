/- The types of the seat. -/
import Derived.Test.YtbamlihfaobfeaaM9
import Derived.Test.YtbamlihfaobfeaaM8
import Derived.Test.YtbamlihfaobfeaaProg
set_option linter.unusedVariables false
set_option linter.unusedSimpArgs false
set_option maxRecDepth 100000
namespace Go.Sx.Try
open Go Go.Sx Go.Proofs

abbrev tInt64 : Ty := .int .i64
abbrev tInt : Ty := .int .i64
abbrev tBool : Ty := .bool
abbrev tUint8 : Ty := .int .u8
abbrev tXabi_BoundsErrorCode : Ty := .int .u8
abbrev tXstruct_x_int64_y_int_signed_bool_code_ab : Ty := .pair tInt64 (.pair tInt (.pair tBool (.pair tXabi_BoundsErrorCode (.unit))))
abbrev tXruntime_boundsError : Ty := .pair tInt64 (.pair tInt (.pair tBool (.pair tXabi_BoundsErrorCode (.unit))))
abbrev tString : Ty := .str
abbrev tXruntime_errorString : Ty := .str
abbrev tXruntime_plainError : Ty := .str
abbrev tUintptr : Ty := .int .u64
abbrev tXstruct_msg_string_addr_uintptr_ : Ty := .pair tString (.pair tUintptr (.unit))
abbrev tXruntime_errorAddressString : Ty := .pair tString (.pair tUintptr (.unit))
abbrev tInt32 : Ty := .int .i32
abbrev tXstruct_Phase_int_View_int_Block_int_Sign : Ty := .pair tInt (.pair tInt (.pair tInt (.pair tInt (.unit))))
abbrev tIQc : Ty := .pair tInt (.pair tInt (.pair tInt (.pair tInt (.unit))))
abbrev tXstruct_Phase_int_View_int_Block_int_By_i : Ty := .pair tInt (.pair tInt (.pair tInt (.pair tInt (.unit))))
abbrev tIVote : Ty := .pair tInt (.pair tInt (.pair tInt (.pair tInt (.unit))))
abbrev tSlInt : Ty := .sl false tInt
abbrev uSlInt : Ty := .sl true tInt
abbrev tICell : Ty := .pair tString (.pair tInt (.unit))
abbrev tSlICell : Ty := .sl false tICell
abbrev uSlICell : Ty := .sl true tICell
abbrev tIUndo : Ty := .pair tString (.pair tBool (.pair tInt (.unit)))
abbrev tSlIUndo : Ty := .sl false tIUndo
abbrev uSlIUndo : Ty := .sl true tIUndo
abbrev tSlIVote : Ty := .sl false tIVote
abbrev uSlIVote : Ty := .sl true tIVote
abbrev tILetter : Ty := .pair tInt (.pair tInt (.pair tInt (.pair tInt (.pair tInt (.pair tIQc (.pair tIVote (.unit)))))))
abbrev tSlILetter : Ty := .sl false tILetter
abbrev uSlILetter : Ty := .sl true tILetter
abbrev tXstruct_Id_int_View_int_High_impl_Qc_Lock : Ty := .pair tInt (.pair tInt (.pair tIQc (.pair tIQc (.pair tIVote (.pair tSlInt (.pair tSlICell (.pair tSlInt (.pair tSlIUndo (.pair tSlIVote (.pair tSlILetter (.pair tInt (.unit))))))))))))
abbrev uXstruct_Id_int_View_int_High_impl_Qc_Lock : Ty := .pair tInt (.pair tInt (.pair tIQc (.pair tIQc (.pair tIVote (.pair uSlInt (.pair uSlICell (.pair uSlInt (.pair uSlIUndo (.pair uSlIVote (.pair uSlILetter (.pair tInt (.unit))))))))))))
abbrev tIPeer : Ty := .pair tInt (.pair tInt (.pair tIQc (.pair tIQc (.pair tIVote (.pair tSlInt (.pair tSlICell (.pair tSlInt (.pair tSlIUndo (.pair tSlIVote (.pair tSlILetter (.pair tInt (.unit))))))))))))
abbrev uIPeer : Ty := .pair tInt (.pair tInt (.pair tIQc (.pair tIQc (.pair tIVote (.pair uSlInt (.pair uSlICell (.pair uSlInt (.pair uSlIUndo (.pair uSlIVote (.pair uSlILetter (.pair tInt (.unit))))))))))))
abbrev tLQc : Ty := .pair tInt (.pair tInt (.pair tInt (.pair tInt (.unit))))
abbrev tLVote : Ty := .pair tInt (.pair tInt (.pair tInt (.pair tInt (.unit))))
abbrev tLCell : Ty := .pair tString (.pair tInt (.unit))
abbrev tSlLCell : Ty := .sl false tLCell
abbrev uSlLCell : Ty := .sl true tLCell
abbrev tLUndo : Ty := .pair tString (.pair tBool (.pair tInt (.unit)))
abbrev tSlLUndo : Ty := .sl false tLUndo
abbrev uSlLUndo : Ty := .sl true tLUndo
abbrev tSlLVote : Ty := .sl false tLVote
abbrev uSlLVote : Ty := .sl true tLVote
abbrev tLLetter : Ty := .pair tInt (.pair tInt (.pair tInt (.pair tInt (.pair tInt (.pair tLQc (.pair tLVote (.unit)))))))
abbrev tSlLLetter : Ty := .sl false tLLetter
abbrev uSlLLetter : Ty := .sl true tLLetter
abbrev tXstruct_Id_int_View_int_High_laws_Qc_Lock : Ty := .pair tInt (.pair tInt (.pair tLQc (.pair tLQc (.pair tLVote (.pair tSlInt (.pair tSlLCell (.pair tSlInt (.pair tSlLUndo (.pair tSlLVote (.pair tSlLLetter (.pair tInt (.unit))))))))))))
abbrev uXstruct_Id_int_View_int_High_laws_Qc_Lock : Ty := .pair tInt (.pair tInt (.pair tLQc (.pair tLQc (.pair tLVote (.pair uSlInt (.pair uSlLCell (.pair uSlInt (.pair uSlLUndo (.pair uSlLVote (.pair uSlLLetter (.pair tInt (.unit))))))))))))
abbrev tLPeer : Ty := .pair tInt (.pair tInt (.pair tLQc (.pair tLQc (.pair tLVote (.pair tSlInt (.pair tSlLCell (.pair tSlInt (.pair tSlLUndo (.pair tSlLVote (.pair tSlLLetter (.pair tInt (.unit))))))))))))
abbrev uLPeer : Ty := .pair tInt (.pair tInt (.pair tLQc (.pair tLQc (.pair tLVote (.pair uSlInt (.pair uSlLCell (.pair uSlInt (.pair uSlLUndo (.pair uSlLVote (.pair uSlLLetter (.pair tInt (.unit))))))))))))
abbrev tXstruct_Kind_int_From_int_To_int_View_int : Ty := .pair tInt (.pair tInt (.pair tInt (.pair tInt (.pair tInt (.pair tIQc (.pair tIVote (.unit)))))))
abbrev tLCmd : Ty := .pair tInt (.pair tString (.pair tInt (.unit)))
abbrev tSlLCmd : Ty := .sl false tLCmd
abbrev uSlLCmd : Ty := .sl true tLCmd
abbrev tLBlock : Ty := .pair tInt (.pair tInt (.pair tSlLCmd (.pair tLQc (.unit))))
abbrev uLBlock : Ty := .pair tInt (.pair tInt (.pair uSlLCmd (.pair tLQc (.unit))))
abbrev tSlLBlock : Ty := .sl false tLBlock
abbrev uSlLBlock : Ty := .sl true uLBlock
abbrev tSlLPeer : Ty := .sl false tLPeer
abbrev uSlLPeer : Ty := .sl true uLPeer
abbrev tXstruct_N_int_Chain_bool_Liars_int_Tree_l : Ty := .pair tInt (.pair tBool (.pair tInt (.pair tSlLBlock (.pair tSlLPeer (.pair tSlLLetter (.pair tSlLVote (.pair tSlLCmd (.unit))))))))
abbrev uXstruct_N_int_Chain_bool_Liars_int_Tree_l : Ty := .pair tInt (.pair tBool (.pair tInt (.pair uSlLBlock (.pair uSlLPeer (.pair uSlLLetter (.pair uSlLVote (.pair uSlLCmd (.unit))))))))
abbrev tLCluster : Ty := .pair tInt (.pair tBool (.pair tInt (.pair tSlLBlock (.pair tSlLPeer (.pair tSlLLetter (.pair tSlLVote (.pair tSlLCmd (.unit))))))))
abbrev uLCluster : Ty := .pair tInt (.pair tBool (.pair tInt (.pair uSlLBlock (.pair uSlLPeer (.pair uSlLLetter (.pair uSlLVote (.pair uSlLCmd (.unit))))))))
abbrev tICmd : Ty := .pair tInt (.pair tString (.pair tInt (.unit)))
abbrev tSlICmd : Ty := .sl false tICmd
abbrev uSlICmd : Ty := .sl true tICmd
abbrev tIBlock : Ty := .pair tInt (.pair tInt (.pair tSlICmd (.pair tIQc (.unit))))
abbrev uIBlock : Ty := .pair tInt (.pair tInt (.pair uSlICmd (.pair tIQc (.unit))))
abbrev tSlIBlock : Ty := .sl false tIBlock
abbrev uSlIBlock : Ty := .sl true uIBlock
abbrev tSlIPeer : Ty := .sl false tIPeer
abbrev uSlIPeer : Ty := .sl true uIPeer
abbrev tXstruct_N_int_Chain_bool_Liars_int_Tree_i : Ty := .pair tInt (.pair tBool (.pair tInt (.pair tSlIBlock (.pair tSlIPeer (.pair tSlILetter (.pair tSlIVote (.pair tSlICmd (.unit))))))))
abbrev uXstruct_N_int_Chain_bool_Liars_int_Tree_i : Ty := .pair tInt (.pair tBool (.pair tInt (.pair uSlIBlock (.pair uSlIPeer (.pair uSlILetter (.pair uSlIVote (.pair uSlICmd (.unit))))))))
abbrev tICluster : Ty := .pair tInt (.pair tBool (.pair tInt (.pair tSlIBlock (.pair tSlIPeer (.pair tSlILetter (.pair tSlIVote (.pair tSlICmd (.unit))))))))
abbrev uICluster : Ty := .pair tInt (.pair tBool (.pair tInt (.pair uSlIBlock (.pair uSlIPeer (.pair uSlILetter (.pair uSlIVote (.pair uSlICmd (.unit))))))))
abbrev tXstruct_Kind_int_Key_string_Num_int_ : Ty := .pair tInt (.pair tString (.pair tInt (.unit)))
abbrev tXstruct_Kind_int_From_int_To_int_View_int_141 : Ty := .pair tInt (.pair tInt (.pair tInt (.pair tInt (.pair tInt (.pair tLQc (.pair tLVote (.unit)))))))
abbrev tUint : Ty := .int .u64
abbrev tXstruct_Parent_int_View_int_Cmds_laws_Cmd : Ty := .pair tInt (.pair tInt (.pair tSlLCmd (.pair tLQc (.unit))))
abbrev uXstruct_Parent_int_View_int_Cmds_laws_Cmd : Ty := .pair tInt (.pair tInt (.pair uSlLCmd (.pair tLQc (.unit))))
abbrev tXstruct_Parent_int_View_int_Cmds_impl_Cmd : Ty := .pair tInt (.pair tInt (.pair tSlICmd (.pair tIQc (.unit))))
abbrev uXstruct_Parent_int_View_int_Cmds_impl_Cmd : Ty := .pair tInt (.pair tInt (.pair uSlICmd (.pair tIQc (.unit))))
abbrev tXstruct_Key_string_Num_int_ : Ty := .pair tString (.pair tInt (.unit))
abbrev tXstruct_Key_string_Had_bool_Num_int_ : Ty := .pair tString (.pair tBool (.pair tInt (.unit)))
abbrev tSlUint8 : Ty := .sl false tUint8
abbrev uSlUint8 : Ty := .sl true tUint8
abbrev tUint32 : Ty := .int .u32
abbrev tXabi_TFlag : Ty := .int .u8
abbrev tXabi_Kind : Ty := .int .u8
abbrev tXabi_NameOff : Ty := .int .i32
abbrev tXabi_TypeOff : Ty := .int .i32
abbrev DInt64 : Type := Int
abbrev DInt : Type := Int
abbrev DBool : Type := Bool
abbrev DUint8 : Type := Int
abbrev DXabi_BoundsErrorCode : Type := Int
abbrev DXstruct_x_int64_y_int_signed_bool_code_ab : Type := Int × Int × Bool × Int × Unit
abbrev DXruntime_boundsError : Type := Int × Int × Bool × Int × Unit
abbrev DString : Type := ByteArray
abbrev DXruntime_errorString : Type := ByteArray
abbrev DXruntime_plainError : Type := ByteArray
abbrev DUintptr : Type := Int
abbrev DXstruct_msg_string_addr_uintptr_ : Type := ByteArray × Int × Unit
abbrev DXruntime_errorAddressString : Type := ByteArray × Int × Unit
abbrev DInt32 : Type := Int
abbrev DXstruct_Phase_int_View_int_Block_int_Sign : Type := Int × Int × Int × Int × Unit
abbrev DIQc : Type := Int × Int × Int × Int × Unit
abbrev DXstruct_Phase_int_View_int_Block_int_By_i : Type := Int × Int × Int × Int × Unit
abbrev DIVote : Type := Int × Int × Int × Int × Unit
abbrev DSlInt : Type := List Int
abbrev DICell : Type := ByteArray × Int × Unit
abbrev DSlICell : Type := List DICell
abbrev DIUndo : Type := ByteArray × Bool × Int × Unit
abbrev DSlIUndo : Type := List DIUndo
abbrev DSlIVote : Type := List DIVote
abbrev DILetter : Type := Int × Int × Int × Int × Int × DIQc × DIVote × Unit
abbrev DSlILetter : Type := List DILetter
abbrev DXstruct_Id_int_View_int_High_impl_Qc_Lock : Type := Int × Int × DIQc × DIQc × DIVote × DSlInt × DSlICell × DSlInt × DSlIUndo × DSlIVote × DSlILetter × Int × Unit
abbrev DIPeer : Type := Int × Int × DIQc × DIQc × DIVote × DSlInt × DSlICell × DSlInt × DSlIUndo × DSlIVote × DSlILetter × Int × Unit
abbrev DLQc : Type := Int × Int × Int × Int × Unit
abbrev DLVote : Type := Int × Int × Int × Int × Unit
abbrev DLCell : Type := ByteArray × Int × Unit
abbrev DSlLCell : Type := List DLCell
abbrev DLUndo : Type := ByteArray × Bool × Int × Unit
abbrev DSlLUndo : Type := List DLUndo
abbrev DSlLVote : Type := List DLVote
abbrev DLLetter : Type := Int × Int × Int × Int × Int × DLQc × DLVote × Unit
abbrev DSlLLetter : Type := List DLLetter
abbrev DXstruct_Id_int_View_int_High_laws_Qc_Lock : Type := Int × Int × DLQc × DLQc × DLVote × DSlInt × DSlLCell × DSlInt × DSlLUndo × DSlLVote × DSlLLetter × Int × Unit
abbrev DLPeer : Type := Int × Int × DLQc × DLQc × DLVote × DSlInt × DSlLCell × DSlInt × DSlLUndo × DSlLVote × DSlLLetter × Int × Unit
abbrev DXstruct_Kind_int_From_int_To_int_View_int : Type := Int × Int × Int × Int × Int × DIQc × DIVote × Unit
abbrev DLCmd : Type := Int × ByteArray × Int × Unit
abbrev DSlLCmd : Type := List DLCmd
abbrev DLBlock : Type := Int × Int × DSlLCmd × DLQc × Unit
abbrev DSlLBlock : Type := List DLBlock
abbrev DSlLPeer : Type := List DLPeer
abbrev DXstruct_N_int_Chain_bool_Liars_int_Tree_l : Type := Int × Bool × Int × DSlLBlock × DSlLPeer × DSlLLetter × DSlLVote × DSlLCmd × Unit
abbrev DLCluster : Type := Int × Bool × Int × DSlLBlock × DSlLPeer × DSlLLetter × DSlLVote × DSlLCmd × Unit
abbrev DICmd : Type := Int × ByteArray × Int × Unit
abbrev DSlICmd : Type := List DICmd
abbrev DIBlock : Type := Int × Int × DSlICmd × DIQc × Unit
abbrev DSlIBlock : Type := List DIBlock
abbrev DSlIPeer : Type := List DIPeer
abbrev DXstruct_N_int_Chain_bool_Liars_int_Tree_i : Type := Int × Bool × Int × DSlIBlock × DSlIPeer × DSlILetter × DSlIVote × DSlICmd × Unit
abbrev DICluster : Type := Int × Bool × Int × DSlIBlock × DSlIPeer × DSlILetter × DSlIVote × DSlICmd × Unit
abbrev DXstruct_Kind_int_Key_string_Num_int_ : Type := Int × ByteArray × Int × Unit
abbrev DXstruct_Kind_int_From_int_To_int_View_int_141 : Type := Int × Int × Int × Int × Int × DLQc × DLVote × Unit
abbrev DUint : Type := Int
abbrev DXstruct_Parent_int_View_int_Cmds_laws_Cmd : Type := Int × Int × DSlLCmd × DLQc × Unit
abbrev DXstruct_Parent_int_View_int_Cmds_impl_Cmd : Type := Int × Int × DSlICmd × DIQc × Unit
abbrev DXstruct_Key_string_Num_int_ : Type := ByteArray × Int × Unit
abbrev DXstruct_Key_string_Had_bool_Num_int_ : Type := ByteArray × Bool × Int × Unit
abbrev DSlUint8 : Type := List Int
abbrev DUint32 : Type := Int
abbrev DXabi_TFlag : Type := Int
abbrev DXabi_Kind : Type := Int
abbrev DXabi_NameOff : Type := Int
abbrev DXabi_TypeOff : Type := Int

def tis : List (Nat × TI) := [
  (2, ⟨tInt64, 8, .scalar⟩),
  (3, ⟨tInt, 8, .scalar⟩),
  (4, ⟨tBool, 1, .scalar⟩),
  (5, ⟨tUint8, 1, .scalar⟩),
  (6, ⟨tXabi_BoundsErrorCode, 1, .scalar⟩),
  (7, ⟨tXstruct_x_int64_y_int_signed_bool_code_ab, 24, .struct [(0, 2), (1, 3), (2, 4), (3, 6)]⟩),
  (8, ⟨tXruntime_boundsError, 24, .struct [(0, 2), (1, 3), (2, 4), (3, 6)]⟩),
  (9, ⟨tString, 16, .scalar⟩),
  (10, ⟨tXruntime_errorString, 16, .scalar⟩),
  (11, ⟨tXruntime_plainError, 16, .scalar⟩),
  (12, ⟨tUintptr, 8, .scalar⟩),
  (13, ⟨tXstruct_msg_string_addr_uintptr_, 24, .struct [(0, 9), (1, 12)]⟩),
  (14, ⟨tXruntime_errorAddressString, 24, .struct [(0, 9), (1, 12)]⟩),
  (21, ⟨tInt32, 4, .scalar⟩),
  (22, ⟨tXstruct_Phase_int_View_int_Block_int_Sign, 32, .struct [(0, 3), (1, 3), (2, 3), (3, 3)]⟩),
  (23, ⟨tIQc, 32, .struct [(0, 3), (1, 3), (2, 3), (3, 3)]⟩),
  (24, ⟨tXstruct_Phase_int_View_int_Block_int_By_i, 32, .struct [(0, 3), (1, 3), (2, 3), (3, 3)]⟩),
  (25, ⟨tIVote, 32, .struct [(0, 3), (1, 3), (2, 3), (3, 3)]⟩),
  (26, ⟨tSlInt, 24, .slice 3⟩),
  (27, ⟨tSlICell, 24, .slice 161⟩),
  (28, ⟨tSlIUndo, 24, .slice 171⟩),
  (29, ⟨tSlIVote, 24, .slice 25⟩),
  (30, ⟨tSlILetter, 24, .slice 54⟩),
  (31, ⟨tXstruct_Id_int_View_int_High_impl_Qc_Lock, 264, .struct [(0, 3), (1, 3), (2, 23), (6, 23), (10, 25), (14, 26), (15, 27), (16, 26), (17, 28), (18, 29), (19, 30), (20, 3)]⟩),
  (32, ⟨tIPeer, 264, .struct [(0, 3), (1, 3), (2, 23), (6, 23), (10, 25), (14, 26), (15, 27), (16, 26), (17, 28), (18, 29), (19, 30), (20, 3)]⟩),
  (37, ⟨tLQc, 32, .struct [(0, 3), (1, 3), (2, 3), (3, 3)]⟩),
  (38, ⟨tLVote, 32, .struct [(0, 3), (1, 3), (2, 3), (3, 3)]⟩),
  (39, ⟨tSlLCell, 24, .slice 173⟩),
  (40, ⟨tSlLUndo, 24, .slice 175⟩),
  (41, ⟨tSlLVote, 24, .slice 38⟩),
  (42, ⟨tSlLLetter, 24, .slice 142⟩),
  (43, ⟨tXstruct_Id_int_View_int_High_laws_Qc_Lock, 264, .struct [(0, 3), (1, 3), (2, 37), (6, 37), (10, 38), (14, 26), (15, 39), (16, 26), (17, 40), (18, 41), (19, 42), (20, 3)]⟩),
  (44, ⟨tLPeer, 264, .struct [(0, 3), (1, 3), (2, 37), (6, 37), (10, 38), (14, 26), (15, 39), (16, 26), (17, 40), (18, 41), (19, 42), (20, 3)]⟩),
  (53, ⟨tXstruct_Kind_int_From_int_To_int_View_int, 104, .struct [(0, 3), (1, 3), (2, 3), (3, 3), (4, 3), (5, 23), (9, 25)]⟩),
  (54, ⟨tILetter, 104, .struct [(0, 3), (1, 3), (2, 3), (3, 3), (4, 3), (5, 23), (9, 25)]⟩),
  (58, ⟨tSlLBlock, 24, .slice 152⟩),
  (59, ⟨tSlLPeer, 24, .slice 44⟩),
  (60, ⟨tSlLCmd, 24, .slice 74⟩),
  (61, ⟨tXstruct_N_int_Chain_bool_Liars_int_Tree_l, 144, .struct [(0, 3), (1, 4), (2, 3), (3, 58), (4, 59), (5, 42), (6, 41), (7, 60)]⟩),
  (62, ⟨tLCluster, 144, .struct [(0, 3), (1, 4), (2, 3), (3, 58), (4, 59), (5, 42), (6, 41), (7, 60)]⟩),
  (65, ⟨tSlIBlock, 24, .slice 156⟩),
  (66, ⟨tSlIPeer, 24, .slice 32⟩),
  (67, ⟨tSlICmd, 24, .slice 78⟩),
  (68, ⟨tXstruct_N_int_Chain_bool_Liars_int_Tree_i, 144, .struct [(0, 3), (1, 4), (2, 3), (3, 65), (4, 66), (5, 30), (6, 29), (7, 67)]⟩),
  (69, ⟨tICluster, 144, .struct [(0, 3), (1, 4), (2, 3), (3, 65), (4, 66), (5, 30), (6, 29), (7, 67)]⟩),
  (73, ⟨tXstruct_Kind_int_Key_string_Num_int_, 32, .struct [(0, 3), (1, 9), (2, 3)]⟩),
  (74, ⟨tLCmd, 32, .struct [(0, 3), (1, 9), (2, 3)]⟩),
  (78, ⟨tICmd, 32, .struct [(0, 3), (1, 9), (2, 3)]⟩),
  (141, ⟨tXstruct_Kind_int_From_int_To_int_View_int_141, 104, .struct [(0, 3), (1, 3), (2, 3), (3, 3), (4, 3), (5, 37), (9, 38)]⟩),
  (142, ⟨tLLetter, 104, .struct [(0, 3), (1, 3), (2, 3), (3, 3), (4, 3), (5, 37), (9, 38)]⟩),
  (147, ⟨tUint, 8, .scalar⟩),
  (151, ⟨tXstruct_Parent_int_View_int_Cmds_laws_Cmd, 72, .struct [(0, 3), (1, 3), (2, 60), (3, 37)]⟩),
  (152, ⟨tLBlock, 72, .struct [(0, 3), (1, 3), (2, 60), (3, 37)]⟩),
  (155, ⟨tXstruct_Parent_int_View_int_Cmds_impl_Cmd, 72, .struct [(0, 3), (1, 3), (2, 67), (3, 23)]⟩),
  (156, ⟨tIBlock, 72, .struct [(0, 3), (1, 3), (2, 67), (3, 23)]⟩),
  (160, ⟨tXstruct_Key_string_Num_int_, 24, .struct [(0, 9), (1, 3)]⟩),
  (161, ⟨tICell, 24, .struct [(0, 9), (1, 3)]⟩),
  (170, ⟨tXstruct_Key_string_Had_bool_Num_int_, 32, .struct [(0, 9), (1, 4), (2, 3)]⟩),
  (171, ⟨tIUndo, 32, .struct [(0, 9), (1, 4), (2, 3)]⟩),
  (173, ⟨tLCell, 24, .struct [(0, 9), (1, 3)]⟩),
  (175, ⟨tLUndo, 32, .struct [(0, 9), (1, 4), (2, 3)]⟩),
  (190, ⟨tSlUint8, 24, .slice 5⟩),
  (215, ⟨tUint32, 4, .scalar⟩),
  (216, ⟨tXabi_TFlag, 1, .scalar⟩),
  (217, ⟨tXabi_Kind, 1, .scalar⟩),
  (220, ⟨tXabi_NameOff, 4, .scalar⟩),
  (221, ⟨tXabi_TypeOff, 4, .scalar⟩)]

theorem tok2 (E : Env) (h : E.ti = assoc tis) : TIok Try.prog E 2 ⟨tInt64, 8, .scalar⟩ := tiok_scalar (inf := Try.t2) (by kernel_rfl) rfl rfl (by kernel_rfl) (by decide) (d := .int .i64) (by kernel_rfl) rfl
theorem tok3 (E : Env) (h : E.ti = assoc tis) : TIok Try.prog E 3 ⟨tInt, 8, .scalar⟩ := tiok_scalar (inf := Try.t3) (by kernel_rfl) rfl rfl (by kernel_rfl) (by decide) (d := .int .i64) (by kernel_rfl) rfl
theorem tok4 (E : Env) (h : E.ti = assoc tis) : TIok Try.prog E 4 ⟨tBool, 1, .scalar⟩ := tiok_scalar (inf := Try.t4) (by kernel_rfl) rfl rfl (by kernel_rfl) (by decide) (d := .bool) (by kernel_rfl) rfl
theorem tok5 (E : Env) (h : E.ti = assoc tis) : TIok Try.prog E 5 ⟨tUint8, 1, .scalar⟩ := tiok_scalar (inf := Try.t5) (by kernel_rfl) rfl rfl (by kernel_rfl) (by decide) (d := .int .u8) (by kernel_rfl) rfl
theorem tok6 (E : Env) (h : E.ti = assoc tis) : TIok Try.prog E 6 ⟨tXabi_BoundsErrorCode, 1, .scalar⟩ := tiok_scalar (inf := Try.t6) (by kernel_rfl) rfl rfl (by kernel_rfl) (by decide) (d := .int .u8) (by kernel_rfl) rfl
theorem tok7 (E : Env) (h : E.ti = assoc tis) : TIok Try.prog E 7 ⟨tXstruct_x_int64_y_int_signed_bool_code_ab, 24, .struct [(0, 2), (1, 3), (2, 4), (3, 6)]⟩ := tiok_struct (inf := Try.t7) (by kernel_rfl) (by kernel_rfl) rfl (by kernel_rfl) (by decide) (by decide) rfl (fields := #[{ name := "x", type := 2, offset := 0, embedded := false, tag := "", pkgPath := "runtime", byteOffset := 0 }, { name := "y", type := 3, offset := 1, embedded := false, tag := "", pkgPath := "runtime", byteOffset := 8 }, { name := "signed", type := 4, offset := 2, embedded := false, tag := "", pkgPath := "runtime", byteOffset := 16 }, { name := "code", type := 6, offset := 3, embedded := false, tag := "", pkgPath := "runtime", byteOffset := 17 }]) (by kernel_rfl) rfl (all_cons ⟨⟨tInt64, 8, .scalar⟩, by rw [h]; kernel_rfl⟩ (all_cons ⟨⟨tInt, 8, .scalar⟩, by rw [h]; kernel_rfl⟩ (all_cons ⟨⟨tBool, 1, .scalar⟩, by rw [h]; kernel_rfl⟩ (all_cons ⟨⟨tXabi_BoundsErrorCode, 1, .scalar⟩, by rw [h]; kernel_rfl⟩ all_nil))))
theorem tok8 (E : Env) (h : E.ti = assoc tis) : TIok Try.prog E 8 ⟨tXruntime_boundsError, 24, .struct [(0, 2), (1, 3), (2, 4), (3, 6)]⟩ := tiok_struct (inf := Try.t8) (by kernel_rfl) (by kernel_rfl) rfl (by kernel_rfl) (by decide) (by decide) rfl (fields := #[{ name := "x", type := 2, offset := 0, embedded := false, tag := "", pkgPath := "runtime", byteOffset := 0 }, { name := "y", type := 3, offset := 1, embedded := false, tag := "", pkgPath := "runtime", byteOffset := 8 }, { name := "signed", type := 4, offset := 2, embedded := false, tag := "", pkgPath := "runtime", byteOffset := 16 }, { name := "code", type := 6, offset := 3, embedded := false, tag := "", pkgPath := "runtime", byteOffset := 17 }]) (by kernel_rfl) rfl (all_cons ⟨⟨tInt64, 8, .scalar⟩, by rw [h]; kernel_rfl⟩ (all_cons ⟨⟨tInt, 8, .scalar⟩, by rw [h]; kernel_rfl⟩ (all_cons ⟨⟨tBool, 1, .scalar⟩, by rw [h]; kernel_rfl⟩ (all_cons ⟨⟨tXabi_BoundsErrorCode, 1, .scalar⟩, by rw [h]; kernel_rfl⟩ all_nil))))
theorem tok9 (E : Env) (h : E.ti = assoc tis) : TIok Try.prog E 9 ⟨tString, 16, .scalar⟩ := tiok_scalar (inf := Try.t9) (by kernel_rfl) rfl rfl (by kernel_rfl) (by decide) (d := .string) (by kernel_rfl) rfl
theorem tok10 (E : Env) (h : E.ti = assoc tis) : TIok Try.prog E 10 ⟨tXruntime_errorString, 16, .scalar⟩ := tiok_scalar (inf := Try.t10) (by kernel_rfl) rfl rfl (by kernel_rfl) (by decide) (d := .string) (by kernel_rfl) rfl
theorem tok11 (E : Env) (h : E.ti = assoc tis) : TIok Try.prog E 11 ⟨tXruntime_plainError, 16, .scalar⟩ := tiok_scalar (inf := Try.t11) (by kernel_rfl) rfl rfl (by kernel_rfl) (by decide) (d := .string) (by kernel_rfl) rfl
theorem tok12 (E : Env) (h : E.ti = assoc tis) : TIok Try.prog E 12 ⟨tUintptr, 8, .scalar⟩ := tiok_scalar (inf := Try.t12) (by kernel_rfl) rfl rfl (by kernel_rfl) (by decide) (d := .int .u64) (by kernel_rfl) rfl
theorem tok13 (E : Env) (h : E.ti = assoc tis) : TIok Try.prog E 13 ⟨tXstruct_msg_string_addr_uintptr_, 24, .struct [(0, 9), (1, 12)]⟩ := tiok_struct (inf := Try.t13) (by kernel_rfl) (by kernel_rfl) rfl (by kernel_rfl) (by decide) (by decide) rfl (fields := #[{ name := "msg", type := 9, offset := 0, embedded := false, tag := "", pkgPath := "runtime", byteOffset := 0 }, { name := "addr", type := 12, offset := 1, embedded := false, tag := "", pkgPath := "runtime", byteOffset := 16 }]) (by kernel_rfl) rfl (all_cons ⟨⟨tString, 16, .scalar⟩, by rw [h]; kernel_rfl⟩ (all_cons ⟨⟨tUintptr, 8, .scalar⟩, by rw [h]; kernel_rfl⟩ all_nil))
theorem tok14 (E : Env) (h : E.ti = assoc tis) : TIok Try.prog E 14 ⟨tXruntime_errorAddressString, 24, .struct [(0, 9), (1, 12)]⟩ := tiok_struct (inf := Try.t14) (by kernel_rfl) (by kernel_rfl) rfl (by kernel_rfl) (by decide) (by decide) rfl (fields := #[{ name := "msg", type := 9, offset := 0, embedded := false, tag := "", pkgPath := "runtime", byteOffset := 0 }, { name := "addr", type := 12, offset := 1, embedded := false, tag := "", pkgPath := "runtime", byteOffset := 16 }]) (by kernel_rfl) rfl (all_cons ⟨⟨tString, 16, .scalar⟩, by rw [h]; kernel_rfl⟩ (all_cons ⟨⟨tUintptr, 8, .scalar⟩, by rw [h]; kernel_rfl⟩ all_nil))
theorem tok21 (E : Env) (h : E.ti = assoc tis) : TIok Try.prog E 21 ⟨tInt32, 4, .scalar⟩ := tiok_scalar (inf := Try.t21) (by kernel_rfl) rfl rfl (by kernel_rfl) (by decide) (d := .int .i32) (by kernel_rfl) rfl
theorem tok22 (E : Env) (h : E.ti = assoc tis) : TIok Try.prog E 22 ⟨tXstruct_Phase_int_View_int_Block_int_Sign, 32, .struct [(0, 3), (1, 3), (2, 3), (3, 3)]⟩ := tiok_struct (inf := Try.t22) (by kernel_rfl) (by kernel_rfl) rfl (by kernel_rfl) (by decide) (by decide) rfl (fields := #[{ name := "Phase", type := 3, offset := 0, embedded := false, tag := "", pkgPath := "", byteOffset := 0 }, { name := "View", type := 3, offset := 1, embedded := false, tag := "", pkgPath := "", byteOffset := 8 }, { name := "Block", type := 3, offset := 2, embedded := false, tag := "", pkgPath := "", byteOffset := 16 }, { name := "Signers", type := 3, offset := 3, embedded := false, tag := "", pkgPath := "", byteOffset := 24 }]) (by kernel_rfl) rfl (all_cons ⟨⟨tInt, 8, .scalar⟩, by rw [h]; kernel_rfl⟩ (all_cons ⟨⟨tInt, 8, .scalar⟩, by rw [h]; kernel_rfl⟩ (all_cons ⟨⟨tInt, 8, .scalar⟩, by rw [h]; kernel_rfl⟩ (all_cons ⟨⟨tInt, 8, .scalar⟩, by rw [h]; kernel_rfl⟩ all_nil))))
theorem tok23 (E : Env) (h : E.ti = assoc tis) : TIok Try.prog E 23 ⟨tIQc, 32, .struct [(0, 3), (1, 3), (2, 3), (3, 3)]⟩ := tiok_struct (inf := Try.t23) (by kernel_rfl) (by kernel_rfl) rfl (by kernel_rfl) (by decide) (by decide) rfl (fields := #[{ name := "Phase", type := 3, offset := 0, embedded := false, tag := "", pkgPath := "", byteOffset := 0 }, { name := "View", type := 3, offset := 1, embedded := false, tag := "", pkgPath := "", byteOffset := 8 }, { name := "Block", type := 3, offset := 2, embedded := false, tag := "", pkgPath := "", byteOffset := 16 }, { name := "Signers", type := 3, offset := 3, embedded := false, tag := "", pkgPath := "", byteOffset := 24 }]) (by kernel_rfl) rfl (all_cons ⟨⟨tInt, 8, .scalar⟩, by rw [h]; kernel_rfl⟩ (all_cons ⟨⟨tInt, 8, .scalar⟩, by rw [h]; kernel_rfl⟩ (all_cons ⟨⟨tInt, 8, .scalar⟩, by rw [h]; kernel_rfl⟩ (all_cons ⟨⟨tInt, 8, .scalar⟩, by rw [h]; kernel_rfl⟩ all_nil))))
theorem tok24 (E : Env) (h : E.ti = assoc tis) : TIok Try.prog E 24 ⟨tXstruct_Phase_int_View_int_Block_int_By_i, 32, .struct [(0, 3), (1, 3), (2, 3), (3, 3)]⟩ := tiok_struct (inf := Try.t24) (by kernel_rfl) (by kernel_rfl) rfl (by kernel_rfl) (by decide) (by decide) rfl (fields := #[{ name := "Phase", type := 3, offset := 0, embedded := false, tag := "", pkgPath := "", byteOffset := 0 }, { name := "View", type := 3, offset := 1, embedded := false, tag := "", pkgPath := "", byteOffset := 8 }, { name := "Block", type := 3, offset := 2, embedded := false, tag := "", pkgPath := "", byteOffset := 16 }, { name := "By", type := 3, offset := 3, embedded := false, tag := "", pkgPath := "", byteOffset := 24 }]) (by kernel_rfl) rfl (all_cons ⟨⟨tInt, 8, .scalar⟩, by rw [h]; kernel_rfl⟩ (all_cons ⟨⟨tInt, 8, .scalar⟩, by rw [h]; kernel_rfl⟩ (all_cons ⟨⟨tInt, 8, .scalar⟩, by rw [h]; kernel_rfl⟩ (all_cons ⟨⟨tInt, 8, .scalar⟩, by rw [h]; kernel_rfl⟩ all_nil))))
theorem tok25 (E : Env) (h : E.ti = assoc tis) : TIok Try.prog E 25 ⟨tIVote, 32, .struct [(0, 3), (1, 3), (2, 3), (3, 3)]⟩ := tiok_struct (inf := Try.t25) (by kernel_rfl) (by kernel_rfl) rfl (by kernel_rfl) (by decide) (by decide) rfl (fields := #[{ name := "Phase", type := 3, offset := 0, embedded := false, tag := "", pkgPath := "", byteOffset := 0 }, { name := "View", type := 3, offset := 1, embedded := false, tag := "", pkgPath := "", byteOffset := 8 }, { name := "Block", type := 3, offset := 2, embedded := false, tag := "", pkgPath := "", byteOffset := 16 }, { name := "By", type := 3, offset := 3, embedded := false, tag := "", pkgPath := "", byteOffset := 24 }]) (by kernel_rfl) rfl (all_cons ⟨⟨tInt, 8, .scalar⟩, by rw [h]; kernel_rfl⟩ (all_cons ⟨⟨tInt, 8, .scalar⟩, by rw [h]; kernel_rfl⟩ (all_cons ⟨⟨tInt, 8, .scalar⟩, by rw [h]; kernel_rfl⟩ (all_cons ⟨⟨tInt, 8, .scalar⟩, by rw [h]; kernel_rfl⟩ all_nil))))
theorem tok26 (E : Env) (h : E.ti = assoc tis) : TIok Try.prog E 26 ⟨tSlInt, 24, .slice 3⟩ := tiok_slice (ie := ⟨tInt, 8, .scalar⟩) (inf := Try.t26) (by kernel_rfl) rfl rfl rfl (by decide) (by kernel_rfl) (by rw [h]; kernel_rfl)
theorem tok27 (E : Env) (h : E.ti = assoc tis) : TIok Try.prog E 27 ⟨tSlICell, 24, .slice 161⟩ := tiok_slice (ie := ⟨tICell, 24, .struct [(0, 9), (1, 3)]⟩) (inf := Try.t27) (by kernel_rfl) rfl rfl rfl (by decide) (by kernel_rfl) (by rw [h]; kernel_rfl)
theorem tok28 (E : Env) (h : E.ti = assoc tis) : TIok Try.prog E 28 ⟨tSlIUndo, 24, .slice 171⟩ := tiok_slice (ie := ⟨tIUndo, 32, .struct [(0, 9), (1, 4), (2, 3)]⟩) (inf := Try.t28) (by kernel_rfl) rfl rfl rfl (by decide) (by kernel_rfl) (by rw [h]; kernel_rfl)
theorem tok29 (E : Env) (h : E.ti = assoc tis) : TIok Try.prog E 29 ⟨tSlIVote, 24, .slice 25⟩ := tiok_slice (ie := ⟨tIVote, 32, .struct [(0, 3), (1, 3), (2, 3), (3, 3)]⟩) (inf := Try.t29) (by kernel_rfl) rfl rfl rfl (by decide) (by kernel_rfl) (by rw [h]; kernel_rfl)
theorem tok30 (E : Env) (h : E.ti = assoc tis) : TIok Try.prog E 30 ⟨tSlILetter, 24, .slice 54⟩ := tiok_slice (ie := ⟨tILetter, 104, .struct [(0, 3), (1, 3), (2, 3), (3, 3), (4, 3), (5, 23), (9, 25)]⟩) (inf := Try.t30) (by kernel_rfl) rfl rfl rfl (by decide) (by kernel_rfl) (by rw [h]; kernel_rfl)
theorem tok31 (E : Env) (h : E.ti = assoc tis) : TIok Try.prog E 31 ⟨tXstruct_Id_int_View_int_High_impl_Qc_Lock, 264, .struct [(0, 3), (1, 3), (2, 23), (6, 23), (10, 25), (14, 26), (15, 27), (16, 26), (17, 28), (18, 29), (19, 30), (20, 3)]⟩ := tiok_struct (inf := Try.t31) (by kernel_rfl) (by kernel_rfl) rfl (by kernel_rfl) (by decide) (by decide) rfl (fields := #[{ name := "Id", type := 3, offset := 0, embedded := false, tag := "", pkgPath := "", byteOffset := 0 }, { name := "View", type := 3, offset := 1, embedded := false, tag := "", pkgPath := "", byteOffset := 8 }, { name := "High", type := 23, offset := 2, embedded := false, tag := "", pkgPath := "", byteOffset := 16 }, { name := "Lock", type := 23, offset := 6, embedded := false, tag := "", pkgPath := "", byteOffset := 48 }, { name := "Last", type := 25, offset := 10, embedded := false, tag := "", pkgPath := "", byteOffset := 80 }, { name := "Row", type := 26, offset := 14, embedded := false, tag := "", pkgPath := "", byteOffset := 112 }, { name := "Cells", type := 27, offset := 15, embedded := false, tag := "", pkgPath := "", byteOffset := 136 }, { name := "Early", type := 26, offset := 16, embedded := false, tag := "", pkgPath := "", byteOffset := 160 }, { name := "Undos", type := 28, offset := 17, embedded := false, tag := "", pkgPath := "", byteOffset := 184 }, { name := "Votes", type := 29, offset := 18, embedded := false, tag := "", pkgPath := "", byteOffset := 208 }, { name := "News", type := 30, offset := 19, embedded := false, tag := "", pkgPath := "", byteOffset := 232 }, { name := "Shown", type := 3, offset := 20, embedded := false, tag := "", pkgPath := "", byteOffset := 256 }]) (by kernel_rfl) rfl (all_cons ⟨⟨tInt, 8, .scalar⟩, by rw [h]; kernel_rfl⟩ (all_cons ⟨⟨tInt, 8, .scalar⟩, by rw [h]; kernel_rfl⟩ (all_cons ⟨⟨tIQc, 32, .struct [(0, 3), (1, 3), (2, 3), (3, 3)]⟩, by rw [h]; kernel_rfl⟩ (all_cons ⟨⟨tIQc, 32, .struct [(0, 3), (1, 3), (2, 3), (3, 3)]⟩, by rw [h]; kernel_rfl⟩ (all_cons ⟨⟨tIVote, 32, .struct [(0, 3), (1, 3), (2, 3), (3, 3)]⟩, by rw [h]; kernel_rfl⟩ (all_cons ⟨⟨tSlInt, 24, .slice 3⟩, by rw [h]; kernel_rfl⟩ (all_cons ⟨⟨tSlICell, 24, .slice 161⟩, by rw [h]; kernel_rfl⟩ (all_cons ⟨⟨tSlInt, 24, .slice 3⟩, by rw [h]; kernel_rfl⟩ (all_cons ⟨⟨tSlIUndo, 24, .slice 171⟩, by rw [h]; kernel_rfl⟩ (all_cons ⟨⟨tSlIVote, 24, .slice 25⟩, by rw [h]; kernel_rfl⟩ (all_cons ⟨⟨tSlILetter, 24, .slice 54⟩, by rw [h]; kernel_rfl⟩ (all_cons ⟨⟨tInt, 8, .scalar⟩, by rw [h]; kernel_rfl⟩ all_nil))))))))))))
theorem tok32 (E : Env) (h : E.ti = assoc tis) : TIok Try.prog E 32 ⟨tIPeer, 264, .struct [(0, 3), (1, 3), (2, 23), (6, 23), (10, 25), (14, 26), (15, 27), (16, 26), (17, 28), (18, 29), (19, 30), (20, 3)]⟩ := tiok_struct (inf := Try.t32) (by kernel_rfl) (by kernel_rfl) rfl (by kernel_rfl) (by decide) (by decide) rfl (fields := #[{ name := "Id", type := 3, offset := 0, embedded := false, tag := "", pkgPath := "", byteOffset := 0 }, { name := "View", type := 3, offset := 1, embedded := false, tag := "", pkgPath := "", byteOffset := 8 }, { name := "High", type := 23, offset := 2, embedded := false, tag := "", pkgPath := "", byteOffset := 16 }, { name := "Lock", type := 23, offset := 6, embedded := false, tag := "", pkgPath := "", byteOffset := 48 }, { name := "Last", type := 25, offset := 10, embedded := false, tag := "", pkgPath := "", byteOffset := 80 }, { name := "Row", type := 26, offset := 14, embedded := false, tag := "", pkgPath := "", byteOffset := 112 }, { name := "Cells", type := 27, offset := 15, embedded := false, tag := "", pkgPath := "", byteOffset := 136 }, { name := "Early", type := 26, offset := 16, embedded := false, tag := "", pkgPath := "", byteOffset := 160 }, { name := "Undos", type := 28, offset := 17, embedded := false, tag := "", pkgPath := "", byteOffset := 184 }, { name := "Votes", type := 29, offset := 18, embedded := false, tag := "", pkgPath := "", byteOffset := 208 }, { name := "News", type := 30, offset := 19, embedded := false, tag := "", pkgPath := "", byteOffset := 232 }, { name := "Shown", type := 3, offset := 20, embedded := false, tag := "", pkgPath := "", byteOffset := 256 }]) (by kernel_rfl) rfl (all_cons ⟨⟨tInt, 8, .scalar⟩, by rw [h]; kernel_rfl⟩ (all_cons ⟨⟨tInt, 8, .scalar⟩, by rw [h]; kernel_rfl⟩ (all_cons ⟨⟨tIQc, 32, .struct [(0, 3), (1, 3), (2, 3), (3, 3)]⟩, by rw [h]; kernel_rfl⟩ (all_cons ⟨⟨tIQc, 32, .struct [(0, 3), (1, 3), (2, 3), (3, 3)]⟩, by rw [h]; kernel_rfl⟩ (all_cons ⟨⟨tIVote, 32, .struct [(0, 3), (1, 3), (2, 3), (3, 3)]⟩, by rw [h]; kernel_rfl⟩ (all_cons ⟨⟨tSlInt, 24, .slice 3⟩, by rw [h]; kernel_rfl⟩ (all_cons ⟨⟨tSlICell, 24, .slice 161⟩, by rw [h]; kernel_rfl⟩ (all_cons ⟨⟨tSlInt, 24, .slice 3⟩, by rw [h]; kernel_rfl⟩ (all_cons ⟨⟨tSlIUndo, 24, .slice 171⟩, by rw [h]; kernel_rfl⟩ (all_cons ⟨⟨tSlIVote, 24, .slice 25⟩, by rw [h]; kernel_rfl⟩ (all_cons ⟨⟨tSlILetter, 24, .slice 54⟩, by rw [h]; kernel_rfl⟩ (all_cons ⟨⟨tInt, 8, .scalar⟩, by rw [h]; kernel_rfl⟩ all_nil))))))))))))
theorem tok37 (E : Env) (h : E.ti = assoc tis) : TIok Try.prog E 37 ⟨tLQc, 32, .struct [(0, 3), (1, 3), (2, 3), (3, 3)]⟩ := tiok_struct (inf := Try.t37) (by kernel_rfl) (by kernel_rfl) rfl (by kernel_rfl) (by decide) (by decide) rfl (fields := #[{ name := "Phase", type := 3, offset := 0, embedded := false, tag := "", pkgPath := "", byteOffset := 0 }, { name := "View", type := 3, offset := 1, embedded := false, tag := "", pkgPath := "", byteOffset := 8 }, { name := "Block", type := 3, offset := 2, embedded := false, tag := "", pkgPath := "", byteOffset := 16 }, { name := "Signers", type := 3, offset := 3, embedded := false, tag := "", pkgPath := "", byteOffset := 24 }]) (by kernel_rfl) rfl (all_cons ⟨⟨tInt, 8, .scalar⟩, by rw [h]; kernel_rfl⟩ (all_cons ⟨⟨tInt, 8, .scalar⟩, by rw [h]; kernel_rfl⟩ (all_cons ⟨⟨tInt, 8, .scalar⟩, by rw [h]; kernel_rfl⟩ (all_cons ⟨⟨tInt, 8, .scalar⟩, by rw [h]; kernel_rfl⟩ all_nil))))
theorem tok38 (E : Env) (h : E.ti = assoc tis) : TIok Try.prog E 38 ⟨tLVote, 32, .struct [(0, 3), (1, 3), (2, 3), (3, 3)]⟩ := tiok_struct (inf := Try.t38) (by kernel_rfl) (by kernel_rfl) rfl (by kernel_rfl) (by decide) (by decide) rfl (fields := #[{ name := "Phase", type := 3, offset := 0, embedded := false, tag := "", pkgPath := "", byteOffset := 0 }, { name := "View", type := 3, offset := 1, embedded := false, tag := "", pkgPath := "", byteOffset := 8 }, { name := "Block", type := 3, offset := 2, embedded := false, tag := "", pkgPath := "", byteOffset := 16 }, { name := "By", type := 3, offset := 3, embedded := false, tag := "", pkgPath := "", byteOffset := 24 }]) (by kernel_rfl) rfl (all_cons ⟨⟨tInt, 8, .scalar⟩, by rw [h]; kernel_rfl⟩ (all_cons ⟨⟨tInt, 8, .scalar⟩, by rw [h]; kernel_rfl⟩ (all_cons ⟨⟨tInt, 8, .scalar⟩, by rw [h]; kernel_rfl⟩ (all_cons ⟨⟨tInt, 8, .scalar⟩, by rw [h]; kernel_rfl⟩ all_nil))))
theorem tok39 (E : Env) (h : E.ti = assoc tis) : TIok Try.prog E 39 ⟨tSlLCell, 24, .slice 173⟩ := tiok_slice (ie := ⟨tLCell, 24, .struct [(0, 9), (1, 3)]⟩) (inf := Try.t39) (by kernel_rfl) rfl rfl rfl (by decide) (by kernel_rfl) (by rw [h]; kernel_rfl)
theorem tok40 (E : Env) (h : E.ti = assoc tis) : TIok Try.prog E 40 ⟨tSlLUndo, 24, .slice 175⟩ := tiok_slice (ie := ⟨tLUndo, 32, .struct [(0, 9), (1, 4), (2, 3)]⟩) (inf := Try.t40) (by kernel_rfl) rfl rfl rfl (by decide) (by kernel_rfl) (by rw [h]; kernel_rfl)
theorem tok41 (E : Env) (h : E.ti = assoc tis) : TIok Try.prog E 41 ⟨tSlLVote, 24, .slice 38⟩ := tiok_slice (ie := ⟨tLVote, 32, .struct [(0, 3), (1, 3), (2, 3), (3, 3)]⟩) (inf := Try.t41) (by kernel_rfl) rfl rfl rfl (by decide) (by kernel_rfl) (by rw [h]; kernel_rfl)
theorem tok42 (E : Env) (h : E.ti = assoc tis) : TIok Try.prog E 42 ⟨tSlLLetter, 24, .slice 142⟩ := tiok_slice (ie := ⟨tLLetter, 104, .struct [(0, 3), (1, 3), (2, 3), (3, 3), (4, 3), (5, 37), (9, 38)]⟩) (inf := Try.t42) (by kernel_rfl) rfl rfl rfl (by decide) (by kernel_rfl) (by rw [h]; kernel_rfl)
theorem tok43 (E : Env) (h : E.ti = assoc tis) : TIok Try.prog E 43 ⟨tXstruct_Id_int_View_int_High_laws_Qc_Lock, 264, .struct [(0, 3), (1, 3), (2, 37), (6, 37), (10, 38), (14, 26), (15, 39), (16, 26), (17, 40), (18, 41), (19, 42), (20, 3)]⟩ := tiok_struct (inf := Try.t43) (by kernel_rfl) (by kernel_rfl) rfl (by kernel_rfl) (by decide) (by decide) rfl (fields := #[{ name := "Id", type := 3, offset := 0, embedded := false, tag := "", pkgPath := "", byteOffset := 0 }, { name := "View", type := 3, offset := 1, embedded := false, tag := "", pkgPath := "", byteOffset := 8 }, { name := "High", type := 37, offset := 2, embedded := false, tag := "", pkgPath := "", byteOffset := 16 }, { name := "Lock", type := 37, offset := 6, embedded := false, tag := "", pkgPath := "", byteOffset := 48 }, { name := "Last", type := 38, offset := 10, embedded := false, tag := "", pkgPath := "", byteOffset := 80 }, { name := "Row", type := 26, offset := 14, embedded := false, tag := "", pkgPath := "", byteOffset := 112 }, { name := "Cells", type := 39, offset := 15, embedded := false, tag := "", pkgPath := "", byteOffset := 136 }, { name := "Early", type := 26, offset := 16, embedded := false, tag := "", pkgPath := "", byteOffset := 160 }, { name := "Undos", type := 40, offset := 17, embedded := false, tag := "", pkgPath := "", byteOffset := 184 }, { name := "Votes", type := 41, offset := 18, embedded := false, tag := "", pkgPath := "", byteOffset := 208 }, { name := "News", type := 42, offset := 19, embedded := false, tag := "", pkgPath := "", byteOffset := 232 }, { name := "Shown", type := 3, offset := 20, embedded := false, tag := "", pkgPath := "", byteOffset := 256 }]) (by kernel_rfl) rfl (all_cons ⟨⟨tInt, 8, .scalar⟩, by rw [h]; kernel_rfl⟩ (all_cons ⟨⟨tInt, 8, .scalar⟩, by rw [h]; kernel_rfl⟩ (all_cons ⟨⟨tLQc, 32, .struct [(0, 3), (1, 3), (2, 3), (3, 3)]⟩, by rw [h]; kernel_rfl⟩ (all_cons ⟨⟨tLQc, 32, .struct [(0, 3), (1, 3), (2, 3), (3, 3)]⟩, by rw [h]; kernel_rfl⟩ (all_cons ⟨⟨tLVote, 32, .struct [(0, 3), (1, 3), (2, 3), (3, 3)]⟩, by rw [h]; kernel_rfl⟩ (all_cons ⟨⟨tSlInt, 24, .slice 3⟩, by rw [h]; kernel_rfl⟩ (all_cons ⟨⟨tSlLCell, 24, .slice 173⟩, by rw [h]; kernel_rfl⟩ (all_cons ⟨⟨tSlInt, 24, .slice 3⟩, by rw [h]; kernel_rfl⟩ (all_cons ⟨⟨tSlLUndo, 24, .slice 175⟩, by rw [h]; kernel_rfl⟩ (all_cons ⟨⟨tSlLVote, 24, .slice 38⟩, by rw [h]; kernel_rfl⟩ (all_cons ⟨⟨tSlLLetter, 24, .slice 142⟩, by rw [h]; kernel_rfl⟩ (all_cons ⟨⟨tInt, 8, .scalar⟩, by rw [h]; kernel_rfl⟩ all_nil))))))))))))
theorem tok44 (E : Env) (h : E.ti = assoc tis) : TIok Try.prog E 44 ⟨tLPeer, 264, .struct [(0, 3), (1, 3), (2, 37), (6, 37), (10, 38), (14, 26), (15, 39), (16, 26), (17, 40), (18, 41), (19, 42), (20, 3)]⟩ := tiok_struct (inf := Try.t44) (by kernel_rfl) (by kernel_rfl) rfl (by kernel_rfl) (by decide) (by decide) rfl (fields := #[{ name := "Id", type := 3, offset := 0, embedded := false, tag := "", pkgPath := "", byteOffset := 0 }, { name := "View", type := 3, offset := 1, embedded := false, tag := "", pkgPath := "", byteOffset := 8 }, { name := "High", type := 37, offset := 2, embedded := false, tag := "", pkgPath := "", byteOffset := 16 }, { name := "Lock", type := 37, offset := 6, embedded := false, tag := "", pkgPath := "", byteOffset := 48 }, { name := "Last", type := 38, offset := 10, embedded := false, tag := "", pkgPath := "", byteOffset := 80 }, { name := "Row", type := 26, offset := 14, embedded := false, tag := "", pkgPath := "", byteOffset := 112 }, { name := "Cells", type := 39, offset := 15, embedded := false, tag := "", pkgPath := "", byteOffset := 136 }, { name := "Early", type := 26, offset := 16, embedded := false, tag := "", pkgPath := "", byteOffset := 160 }, { name := "Undos", type := 40, offset := 17, embedded := false, tag := "", pkgPath := "", byteOffset := 184 }, { name := "Votes", type := 41, offset := 18, embedded := false, tag := "", pkgPath := "", byteOffset := 208 }, { name := "News", type := 42, offset := 19, embedded := false, tag := "", pkgPath := "", byteOffset := 232 }, { name := "Shown", type := 3, offset := 20, embedded := false, tag := "", pkgPath := "", byteOffset := 256 }]) (by kernel_rfl) rfl (all_cons ⟨⟨tInt, 8, .scalar⟩, by rw [h]; kernel_rfl⟩ (all_cons ⟨⟨tInt, 8, .scalar⟩, by rw [h]; kernel_rfl⟩ (all_cons ⟨⟨tLQc, 32, .struct [(0, 3), (1, 3), (2, 3), (3, 3)]⟩, by rw [h]; kernel_rfl⟩ (all_cons ⟨⟨tLQc, 32, .struct [(0, 3), (1, 3), (2, 3), (3, 3)]⟩, by rw [h]; kernel_rfl⟩ (all_cons ⟨⟨tLVote, 32, .struct [(0, 3), (1, 3), (2, 3), (3, 3)]⟩, by rw [h]; kernel_rfl⟩ (all_cons ⟨⟨tSlInt, 24, .slice 3⟩, by rw [h]; kernel_rfl⟩ (all_cons ⟨⟨tSlLCell, 24, .slice 173⟩, by rw [h]; kernel_rfl⟩ (all_cons ⟨⟨tSlInt, 24, .slice 3⟩, by rw [h]; kernel_rfl⟩ (all_cons ⟨⟨tSlLUndo, 24, .slice 175⟩, by rw [h]; kernel_rfl⟩ (all_cons ⟨⟨tSlLVote, 24, .slice 38⟩, by rw [h]; kernel_rfl⟩ (all_cons ⟨⟨tSlLLetter, 24, .slice 142⟩, by rw [h]; kernel_rfl⟩ (all_cons ⟨⟨tInt, 8, .scalar⟩, by rw [h]; kernel_rfl⟩ all_nil))))))))))))
theorem tok53 (E : Env) (h : E.ti = assoc tis) : TIok Try.prog E 53 ⟨tXstruct_Kind_int_From_int_To_int_View_int, 104, .struct [(0, 3), (1, 3), (2, 3), (3, 3), (4, 3), (5, 23), (9, 25)]⟩ := tiok_struct (inf := Try.t53) (by kernel_rfl) (by kernel_rfl) rfl (by kernel_rfl) (by decide) (by decide) rfl (fields := #[{ name := "Kind", type := 3, offset := 0, embedded := false, tag := "", pkgPath := "", byteOffset := 0 }, { name := "From", type := 3, offset := 1, embedded := false, tag := "", pkgPath := "", byteOffset := 8 }, { name := "To", type := 3, offset := 2, embedded := false, tag := "", pkgPath := "", byteOffset := 16 }, { name := "View", type := 3, offset := 3, embedded := false, tag := "", pkgPath := "", byteOffset := 24 }, { name := "Block", type := 3, offset := 4, embedded := false, tag := "", pkgPath := "", byteOffset := 32 }, { name := "Qc", type := 23, offset := 5, embedded := false, tag := "", pkgPath := "", byteOffset := 40 }, { name := "Vote", type := 25, offset := 9, embedded := false, tag := "", pkgPath := "", byteOffset := 72 }]) (by kernel_rfl) rfl (all_cons ⟨⟨tInt, 8, .scalar⟩, by rw [h]; kernel_rfl⟩ (all_cons ⟨⟨tInt, 8, .scalar⟩, by rw [h]; kernel_rfl⟩ (all_cons ⟨⟨tInt, 8, .scalar⟩, by rw [h]; kernel_rfl⟩ (all_cons ⟨⟨tInt, 8, .scalar⟩, by rw [h]; kernel_rfl⟩ (all_cons ⟨⟨tInt, 8, .scalar⟩, by rw [h]; kernel_rfl⟩ (all_cons ⟨⟨tIQc, 32, .struct [(0, 3), (1, 3), (2, 3), (3, 3)]⟩, by rw [h]; kernel_rfl⟩ (all_cons ⟨⟨tIVote, 32, .struct [(0, 3), (1, 3), (2, 3), (3, 3)]⟩, by rw [h]; kernel_rfl⟩ all_nil)))))))
theorem tok54 (E : Env) (h : E.ti = assoc tis) : TIok Try.prog E 54 ⟨tILetter, 104, .struct [(0, 3), (1, 3), (2, 3), (3, 3), (4, 3), (5, 23), (9, 25)]⟩ := tiok_struct (inf := Try.t54) (by kernel_rfl) (by kernel_rfl) rfl (by kernel_rfl) (by decide) (by decide) rfl (fields := #[{ name := "Kind", type := 3, offset := 0, embedded := false, tag := "", pkgPath := "", byteOffset := 0 }, { name := "From", type := 3, offset := 1, embedded := false, tag := "", pkgPath := "", byteOffset := 8 }, { name := "To", type := 3, offset := 2, embedded := false, tag := "", pkgPath := "", byteOffset := 16 }, { name := "View", type := 3, offset := 3, embedded := false, tag := "", pkgPath := "", byteOffset := 24 }, { name := "Block", type := 3, offset := 4, embedded := false, tag := "", pkgPath := "", byteOffset := 32 }, { name := "Qc", type := 23, offset := 5, embedded := false, tag := "", pkgPath := "", byteOffset := 40 }, { name := "Vote", type := 25, offset := 9, embedded := false, tag := "", pkgPath := "", byteOffset := 72 }]) (by kernel_rfl) rfl (all_cons ⟨⟨tInt, 8, .scalar⟩, by rw [h]; kernel_rfl⟩ (all_cons ⟨⟨tInt, 8, .scalar⟩, by rw [h]; kernel_rfl⟩ (all_cons ⟨⟨tInt, 8, .scalar⟩, by rw [h]; kernel_rfl⟩ (all_cons ⟨⟨tInt, 8, .scalar⟩, by rw [h]; kernel_rfl⟩ (all_cons ⟨⟨tInt, 8, .scalar⟩, by rw [h]; kernel_rfl⟩ (all_cons ⟨⟨tIQc, 32, .struct [(0, 3), (1, 3), (2, 3), (3, 3)]⟩, by rw [h]; kernel_rfl⟩ (all_cons ⟨⟨tIVote, 32, .struct [(0, 3), (1, 3), (2, 3), (3, 3)]⟩, by rw [h]; kernel_rfl⟩ all_nil)))))))
theorem tok58 (E : Env) (h : E.ti = assoc tis) : TIok Try.prog E 58 ⟨tSlLBlock, 24, .slice 152⟩ := tiok_slice (ie := ⟨tLBlock, 72, .struct [(0, 3), (1, 3), (2, 60), (3, 37)]⟩) (inf := Try.t58) (by kernel_rfl) rfl rfl rfl (by decide) (by kernel_rfl) (by rw [h]; kernel_rfl)
theorem tok59 (E : Env) (h : E.ti = assoc tis) : TIok Try.prog E 59 ⟨tSlLPeer, 24, .slice 44⟩ := tiok_slice (ie := ⟨tLPeer, 264, .struct [(0, 3), (1, 3), (2, 37), (6, 37), (10, 38), (14, 26), (15, 39), (16, 26), (17, 40), (18, 41), (19, 42), (20, 3)]⟩) (inf := Try.t59) (by kernel_rfl) rfl rfl rfl (by decide) (by kernel_rfl) (by rw [h]; kernel_rfl)
theorem tok60 (E : Env) (h : E.ti = assoc tis) : TIok Try.prog E 60 ⟨tSlLCmd, 24, .slice 74⟩ := tiok_slice (ie := ⟨tLCmd, 32, .struct [(0, 3), (1, 9), (2, 3)]⟩) (inf := Try.t60) (by kernel_rfl) rfl rfl rfl (by decide) (by kernel_rfl) (by rw [h]; kernel_rfl)
theorem tok61 (E : Env) (h : E.ti = assoc tis) : TIok Try.prog E 61 ⟨tXstruct_N_int_Chain_bool_Liars_int_Tree_l, 144, .struct [(0, 3), (1, 4), (2, 3), (3, 58), (4, 59), (5, 42), (6, 41), (7, 60)]⟩ := tiok_struct (inf := Try.t61) (by kernel_rfl) (by kernel_rfl) rfl (by kernel_rfl) (by decide) (by decide) rfl (fields := #[{ name := "N", type := 3, offset := 0, embedded := false, tag := "", pkgPath := "", byteOffset := 0 }, { name := "Chain", type := 4, offset := 1, embedded := false, tag := "", pkgPath := "", byteOffset := 8 }, { name := "Liars", type := 3, offset := 2, embedded := false, tag := "", pkgPath := "", byteOffset := 16 }, { name := "Tree", type := 58, offset := 3, embedded := false, tag := "", pkgPath := "", byteOffset := 24 }, { name := "Peers", type := 59, offset := 4, embedded := false, tag := "", pkgPath := "", byteOffset := 48 }, { name := "Net", type := 42, offset := 5, embedded := false, tag := "", pkgPath := "", byteOffset := 72 }, { name := "Said", type := 41, offset := 6, embedded := false, tag := "", pkgPath := "", byteOffset := 96 }, { name := "Pending", type := 60, offset := 7, embedded := false, tag := "", pkgPath := "", byteOffset := 120 }]) (by kernel_rfl) rfl (all_cons ⟨⟨tInt, 8, .scalar⟩, by rw [h]; kernel_rfl⟩ (all_cons ⟨⟨tBool, 1, .scalar⟩, by rw [h]; kernel_rfl⟩ (all_cons ⟨⟨tInt, 8, .scalar⟩, by rw [h]; kernel_rfl⟩ (all_cons ⟨⟨tSlLBlock, 24, .slice 152⟩, by rw [h]; kernel_rfl⟩ (all_cons ⟨⟨tSlLPeer, 24, .slice 44⟩, by rw [h]; kernel_rfl⟩ (all_cons ⟨⟨tSlLLetter, 24, .slice 142⟩, by rw [h]; kernel_rfl⟩ (all_cons ⟨⟨tSlLVote, 24, .slice 38⟩, by rw [h]; kernel_rfl⟩ (all_cons ⟨⟨tSlLCmd, 24, .slice 74⟩, by rw [h]; kernel_rfl⟩ all_nil))))))))
theorem tok62 (E : Env) (h : E.ti = assoc tis) : TIok Try.prog E 62 ⟨tLCluster, 144, .struct [(0, 3), (1, 4), (2, 3), (3, 58), (4, 59), (5, 42), (6, 41), (7, 60)]⟩ := tiok_struct (inf := Try.t62) (by kernel_rfl) (by kernel_rfl) rfl (by kernel_rfl) (by decide) (by decide) rfl (fields := #[{ name := "N", type := 3, offset := 0, embedded := false, tag := "", pkgPath := "", byteOffset := 0 }, { name := "Chain", type := 4, offset := 1, embedded := false, tag := "", pkgPath := "", byteOffset := 8 }, { name := "Liars", type := 3, offset := 2, embedded := false, tag := "", pkgPath := "", byteOffset := 16 }, { name := "Tree", type := 58, offset := 3, embedded := false, tag := "", pkgPath := "", byteOffset := 24 }, { name := "Peers", type := 59, offset := 4, embedded := false, tag := "", pkgPath := "", byteOffset := 48 }, { name := "Net", type := 42, offset := 5, embedded := false, tag := "", pkgPath := "", byteOffset := 72 }, { name := "Said", type := 41, offset := 6, embedded := false, tag := "", pkgPath := "", byteOffset := 96 }, { name := "Pending", type := 60, offset := 7, embedded := false, tag := "", pkgPath := "", byteOffset := 120 }]) (by kernel_rfl) rfl (all_cons ⟨⟨tInt, 8, .scalar⟩, by rw [h]; kernel_rfl⟩ (all_cons ⟨⟨tBool, 1, .scalar⟩, by rw [h]; kernel_rfl⟩ (all_cons ⟨⟨tInt, 8, .scalar⟩, by rw [h]; kernel_rfl⟩ (all_cons ⟨⟨tSlLBlock, 24, .slice 152⟩, by rw [h]; kernel_rfl⟩ (all_cons ⟨⟨tSlLPeer, 24, .slice 44⟩, by rw [h]; kernel_rfl⟩ (all_cons ⟨⟨tSlLLetter, 24, .slice 142⟩, by rw [h]; kernel_rfl⟩ (all_cons ⟨⟨tSlLVote, 24, .slice 38⟩, by rw [h]; kernel_rfl⟩ (all_cons ⟨⟨tSlLCmd, 24, .slice 74⟩, by rw [h]; kernel_rfl⟩ all_nil))))))))
theorem tok65 (E : Env) (h : E.ti = assoc tis) : TIok Try.prog E 65 ⟨tSlIBlock, 24, .slice 156⟩ := tiok_slice (ie := ⟨tIBlock, 72, .struct [(0, 3), (1, 3), (2, 67), (3, 23)]⟩) (inf := Try.t65) (by kernel_rfl) rfl rfl rfl (by decide) (by kernel_rfl) (by rw [h]; kernel_rfl)
theorem tok66 (E : Env) (h : E.ti = assoc tis) : TIok Try.prog E 66 ⟨tSlIPeer, 24, .slice 32⟩ := tiok_slice (ie := ⟨tIPeer, 264, .struct [(0, 3), (1, 3), (2, 23), (6, 23), (10, 25), (14, 26), (15, 27), (16, 26), (17, 28), (18, 29), (19, 30), (20, 3)]⟩) (inf := Try.t66) (by kernel_rfl) rfl rfl rfl (by decide) (by kernel_rfl) (by rw [h]; kernel_rfl)
theorem tok67 (E : Env) (h : E.ti = assoc tis) : TIok Try.prog E 67 ⟨tSlICmd, 24, .slice 78⟩ := tiok_slice (ie := ⟨tICmd, 32, .struct [(0, 3), (1, 9), (2, 3)]⟩) (inf := Try.t67) (by kernel_rfl) rfl rfl rfl (by decide) (by kernel_rfl) (by rw [h]; kernel_rfl)
theorem tok68 (E : Env) (h : E.ti = assoc tis) : TIok Try.prog E 68 ⟨tXstruct_N_int_Chain_bool_Liars_int_Tree_i, 144, .struct [(0, 3), (1, 4), (2, 3), (3, 65), (4, 66), (5, 30), (6, 29), (7, 67)]⟩ := tiok_struct (inf := Try.t68) (by kernel_rfl) (by kernel_rfl) rfl (by kernel_rfl) (by decide) (by decide) rfl (fields := #[{ name := "N", type := 3, offset := 0, embedded := false, tag := "", pkgPath := "", byteOffset := 0 }, { name := "Chain", type := 4, offset := 1, embedded := false, tag := "", pkgPath := "", byteOffset := 8 }, { name := "Liars", type := 3, offset := 2, embedded := false, tag := "", pkgPath := "", byteOffset := 16 }, { name := "Tree", type := 65, offset := 3, embedded := false, tag := "", pkgPath := "", byteOffset := 24 }, { name := "Peers", type := 66, offset := 4, embedded := false, tag := "", pkgPath := "", byteOffset := 48 }, { name := "Net", type := 30, offset := 5, embedded := false, tag := "", pkgPath := "", byteOffset := 72 }, { name := "Said", type := 29, offset := 6, embedded := false, tag := "", pkgPath := "", byteOffset := 96 }, { name := "Pending", type := 67, offset := 7, embedded := false, tag := "", pkgPath := "", byteOffset := 120 }]) (by kernel_rfl) rfl (all_cons ⟨⟨tInt, 8, .scalar⟩, by rw [h]; kernel_rfl⟩ (all_cons ⟨⟨tBool, 1, .scalar⟩, by rw [h]; kernel_rfl⟩ (all_cons ⟨⟨tInt, 8, .scalar⟩, by rw [h]; kernel_rfl⟩ (all_cons ⟨⟨tSlIBlock, 24, .slice 156⟩, by rw [h]; kernel_rfl⟩ (all_cons ⟨⟨tSlIPeer, 24, .slice 32⟩, by rw [h]; kernel_rfl⟩ (all_cons ⟨⟨tSlILetter, 24, .slice 54⟩, by rw [h]; kernel_rfl⟩ (all_cons ⟨⟨tSlIVote, 24, .slice 25⟩, by rw [h]; kernel_rfl⟩ (all_cons ⟨⟨tSlICmd, 24, .slice 78⟩, by rw [h]; kernel_rfl⟩ all_nil))))))))
theorem tok69 (E : Env) (h : E.ti = assoc tis) : TIok Try.prog E 69 ⟨tICluster, 144, .struct [(0, 3), (1, 4), (2, 3), (3, 65), (4, 66), (5, 30), (6, 29), (7, 67)]⟩ := tiok_struct (inf := Try.t69) (by kernel_rfl) (by kernel_rfl) rfl (by kernel_rfl) (by decide) (by decide) rfl (fields := #[{ name := "N", type := 3, offset := 0, embedded := false, tag := "", pkgPath := "", byteOffset := 0 }, { name := "Chain", type := 4, offset := 1, embedded := false, tag := "", pkgPath := "", byteOffset := 8 }, { name := "Liars", type := 3, offset := 2, embedded := false, tag := "", pkgPath := "", byteOffset := 16 }, { name := "Tree", type := 65, offset := 3, embedded := false, tag := "", pkgPath := "", byteOffset := 24 }, { name := "Peers", type := 66, offset := 4, embedded := false, tag := "", pkgPath := "", byteOffset := 48 }, { name := "Net", type := 30, offset := 5, embedded := false, tag := "", pkgPath := "", byteOffset := 72 }, { name := "Said", type := 29, offset := 6, embedded := false, tag := "", pkgPath := "", byteOffset := 96 }, { name := "Pending", type := 67, offset := 7, embedded := false, tag := "", pkgPath := "", byteOffset := 120 }]) (by kernel_rfl) rfl (all_cons ⟨⟨tInt, 8, .scalar⟩, by rw [h]; kernel_rfl⟩ (all_cons ⟨⟨tBool, 1, .scalar⟩, by rw [h]; kernel_rfl⟩ (all_cons ⟨⟨tInt, 8, .scalar⟩, by rw [h]; kernel_rfl⟩ (all_cons ⟨⟨tSlIBlock, 24, .slice 156⟩, by rw [h]; kernel_rfl⟩ (all_cons ⟨⟨tSlIPeer, 24, .slice 32⟩, by rw [h]; kernel_rfl⟩ (all_cons ⟨⟨tSlILetter, 24, .slice 54⟩, by rw [h]; kernel_rfl⟩ (all_cons ⟨⟨tSlIVote, 24, .slice 25⟩, by rw [h]; kernel_rfl⟩ (all_cons ⟨⟨tSlICmd, 24, .slice 78⟩, by rw [h]; kernel_rfl⟩ all_nil))))))))
theorem tok73 (E : Env) (h : E.ti = assoc tis) : TIok Try.prog E 73 ⟨tXstruct_Kind_int_Key_string_Num_int_, 32, .struct [(0, 3), (1, 9), (2, 3)]⟩ := tiok_struct (inf := Try.t73) (by kernel_rfl) (by kernel_rfl) rfl (by kernel_rfl) (by decide) (by decide) rfl (fields := #[{ name := "Kind", type := 3, offset := 0, embedded := false, tag := "", pkgPath := "", byteOffset := 0 }, { name := "Key", type := 9, offset := 1, embedded := false, tag := "", pkgPath := "", byteOffset := 8 }, { name := "Num", type := 3, offset := 2, embedded := false, tag := "", pkgPath := "", byteOffset := 24 }]) (by kernel_rfl) rfl (all_cons ⟨⟨tInt, 8, .scalar⟩, by rw [h]; kernel_rfl⟩ (all_cons ⟨⟨tString, 16, .scalar⟩, by rw [h]; kernel_rfl⟩ (all_cons ⟨⟨tInt, 8, .scalar⟩, by rw [h]; kernel_rfl⟩ all_nil)))
theorem tok74 (E : Env) (h : E.ti = assoc tis) : TIok Try.prog E 74 ⟨tLCmd, 32, .struct [(0, 3), (1, 9), (2, 3)]⟩ := tiok_struct (inf := Try.t74) (by kernel_rfl) (by kernel_rfl) rfl (by kernel_rfl) (by decide) (by decide) rfl (fields := #[{ name := "Kind", type := 3, offset := 0, embedded := false, tag := "", pkgPath := "", byteOffset := 0 }, { name := "Key", type := 9, offset := 1, embedded := false, tag := "", pkgPath := "", byteOffset := 8 }, { name := "Num", type := 3, offset := 2, embedded := false, tag := "", pkgPath := "", byteOffset := 24 }]) (by kernel_rfl) rfl (all_cons ⟨⟨tInt, 8, .scalar⟩, by rw [h]; kernel_rfl⟩ (all_cons ⟨⟨tString, 16, .scalar⟩, by rw [h]; kernel_rfl⟩ (all_cons ⟨⟨tInt, 8, .scalar⟩, by rw [h]; kernel_rfl⟩ all_nil)))
theorem tok78 (E : Env) (h : E.ti = assoc tis) : TIok Try.prog E 78 ⟨tICmd, 32, .struct [(0, 3), (1, 9), (2, 3)]⟩ := tiok_struct (inf := Try.t78) (by kernel_rfl) (by kernel_rfl) rfl (by kernel_rfl) (by decide) (by decide) rfl (fields := #[{ name := "Kind", type := 3, offset := 0, embedded := false, tag := "", pkgPath := "", byteOffset := 0 }, { name := "Key", type := 9, offset := 1, embedded := false, tag := "", pkgPath := "", byteOffset := 8 }, { name := "Num", type := 3, offset := 2, embedded := false, tag := "", pkgPath := "", byteOffset := 24 }]) (by kernel_rfl) rfl (all_cons ⟨⟨tInt, 8, .scalar⟩, by rw [h]; kernel_rfl⟩ (all_cons ⟨⟨tString, 16, .scalar⟩, by rw [h]; kernel_rfl⟩ (all_cons ⟨⟨tInt, 8, .scalar⟩, by rw [h]; kernel_rfl⟩ all_nil)))
theorem tok141 (E : Env) (h : E.ti = assoc tis) : TIok Try.prog E 141 ⟨tXstruct_Kind_int_From_int_To_int_View_int_141, 104, .struct [(0, 3), (1, 3), (2, 3), (3, 3), (4, 3), (5, 37), (9, 38)]⟩ := tiok_struct (inf := Try.t141) (by kernel_rfl) (by kernel_rfl) rfl (by kernel_rfl) (by decide) (by decide) rfl (fields := #[{ name := "Kind", type := 3, offset := 0, embedded := false, tag := "", pkgPath := "", byteOffset := 0 }, { name := "From", type := 3, offset := 1, embedded := false, tag := "", pkgPath := "", byteOffset := 8 }, { name := "To", type := 3, offset := 2, embedded := false, tag := "", pkgPath := "", byteOffset := 16 }, { name := "View", type := 3, offset := 3, embedded := false, tag := "", pkgPath := "", byteOffset := 24 }, { name := "Block", type := 3, offset := 4, embedded := false, tag := "", pkgPath := "", byteOffset := 32 }, { name := "Qc", type := 37, offset := 5, embedded := false, tag := "", pkgPath := "", byteOffset := 40 }, { name := "Vote", type := 38, offset := 9, embedded := false, tag := "", pkgPath := "", byteOffset := 72 }]) (by kernel_rfl) rfl (all_cons ⟨⟨tInt, 8, .scalar⟩, by rw [h]; kernel_rfl⟩ (all_cons ⟨⟨tInt, 8, .scalar⟩, by rw [h]; kernel_rfl⟩ (all_cons ⟨⟨tInt, 8, .scalar⟩, by rw [h]; kernel_rfl⟩ (all_cons ⟨⟨tInt, 8, .scalar⟩, by rw [h]; kernel_rfl⟩ (all_cons ⟨⟨tInt, 8, .scalar⟩, by rw [h]; kernel_rfl⟩ (all_cons ⟨⟨tLQc, 32, .struct [(0, 3), (1, 3), (2, 3), (3, 3)]⟩, by rw [h]; kernel_rfl⟩ (all_cons ⟨⟨tLVote, 32, .struct [(0, 3), (1, 3), (2, 3), (3, 3)]⟩, by rw [h]; kernel_rfl⟩ all_nil)))))))
theorem tok142 (E : Env) (h : E.ti = assoc tis) : TIok Try.prog E 142 ⟨tLLetter, 104, .struct [(0, 3), (1, 3), (2, 3), (3, 3), (4, 3), (5, 37), (9, 38)]⟩ := tiok_struct (inf := Try.t142) (by kernel_rfl) (by kernel_rfl) rfl (by kernel_rfl) (by decide) (by decide) rfl (fields := #[{ name := "Kind", type := 3, offset := 0, embedded := false, tag := "", pkgPath := "", byteOffset := 0 }, { name := "From", type := 3, offset := 1, embedded := false, tag := "", pkgPath := "", byteOffset := 8 }, { name := "To", type := 3, offset := 2, embedded := false, tag := "", pkgPath := "", byteOffset := 16 }, { name := "View", type := 3, offset := 3, embedded := false, tag := "", pkgPath := "", byteOffset := 24 }, { name := "Block", type := 3, offset := 4, embedded := false, tag := "", pkgPath := "", byteOffset := 32 }, { name := "Qc", type := 37, offset := 5, embedded := false, tag := "", pkgPath := "", byteOffset := 40 }, { name := "Vote", type := 38, offset := 9, embedded := false, tag := "", pkgPath := "", byteOffset := 72 }]) (by kernel_rfl) rfl (all_cons ⟨⟨tInt, 8, .scalar⟩, by rw [h]; kernel_rfl⟩ (all_cons ⟨⟨tInt, 8, .scalar⟩, by rw [h]; kernel_rfl⟩ (all_cons ⟨⟨tInt, 8, .scalar⟩, by rw [h]; kernel_rfl⟩ (all_cons ⟨⟨tInt, 8, .scalar⟩, by rw [h]; kernel_rfl⟩ (all_cons ⟨⟨tInt, 8, .scalar⟩, by rw [h]; kernel_rfl⟩ (all_cons ⟨⟨tLQc, 32, .struct [(0, 3), (1, 3), (2, 3), (3, 3)]⟩, by rw [h]; kernel_rfl⟩ (all_cons ⟨⟨tLVote, 32, .struct [(0, 3), (1, 3), (2, 3), (3, 3)]⟩, by rw [h]; kernel_rfl⟩ all_nil)))))))
theorem tok147 (E : Env) (h : E.ti = assoc tis) : TIok Try.prog E 147 ⟨tUint, 8, .scalar⟩ := tiok_scalar (inf := Try.t147) (by kernel_rfl) rfl rfl (by kernel_rfl) (by decide) (d := .int .u64) (by kernel_rfl) rfl
theorem tok151 (E : Env) (h : E.ti = assoc tis) : TIok Try.prog E 151 ⟨tXstruct_Parent_int_View_int_Cmds_laws_Cmd, 72, .struct [(0, 3), (1, 3), (2, 60), (3, 37)]⟩ := tiok_struct (inf := Try.t151) (by kernel_rfl) (by kernel_rfl) rfl (by kernel_rfl) (by decide) (by decide) rfl (fields := #[{ name := "Parent", type := 3, offset := 0, embedded := false, tag := "", pkgPath := "", byteOffset := 0 }, { name := "View", type := 3, offset := 1, embedded := false, tag := "", pkgPath := "", byteOffset := 8 }, { name := "Cmds", type := 60, offset := 2, embedded := false, tag := "", pkgPath := "", byteOffset := 16 }, { name := "Just", type := 37, offset := 3, embedded := false, tag := "", pkgPath := "", byteOffset := 40 }]) (by kernel_rfl) rfl (all_cons ⟨⟨tInt, 8, .scalar⟩, by rw [h]; kernel_rfl⟩ (all_cons ⟨⟨tInt, 8, .scalar⟩, by rw [h]; kernel_rfl⟩ (all_cons ⟨⟨tSlLCmd, 24, .slice 74⟩, by rw [h]; kernel_rfl⟩ (all_cons ⟨⟨tLQc, 32, .struct [(0, 3), (1, 3), (2, 3), (3, 3)]⟩, by rw [h]; kernel_rfl⟩ all_nil))))
theorem tok152 (E : Env) (h : E.ti = assoc tis) : TIok Try.prog E 152 ⟨tLBlock, 72, .struct [(0, 3), (1, 3), (2, 60), (3, 37)]⟩ := tiok_struct (inf := Try.t152) (by kernel_rfl) (by kernel_rfl) rfl (by kernel_rfl) (by decide) (by decide) rfl (fields := #[{ name := "Parent", type := 3, offset := 0, embedded := false, tag := "", pkgPath := "", byteOffset := 0 }, { name := "View", type := 3, offset := 1, embedded := false, tag := "", pkgPath := "", byteOffset := 8 }, { name := "Cmds", type := 60, offset := 2, embedded := false, tag := "", pkgPath := "", byteOffset := 16 }, { name := "Just", type := 37, offset := 3, embedded := false, tag := "", pkgPath := "", byteOffset := 40 }]) (by kernel_rfl) rfl (all_cons ⟨⟨tInt, 8, .scalar⟩, by rw [h]; kernel_rfl⟩ (all_cons ⟨⟨tInt, 8, .scalar⟩, by rw [h]; kernel_rfl⟩ (all_cons ⟨⟨tSlLCmd, 24, .slice 74⟩, by rw [h]; kernel_rfl⟩ (all_cons ⟨⟨tLQc, 32, .struct [(0, 3), (1, 3), (2, 3), (3, 3)]⟩, by rw [h]; kernel_rfl⟩ all_nil))))
theorem tok155 (E : Env) (h : E.ti = assoc tis) : TIok Try.prog E 155 ⟨tXstruct_Parent_int_View_int_Cmds_impl_Cmd, 72, .struct [(0, 3), (1, 3), (2, 67), (3, 23)]⟩ := tiok_struct (inf := Try.t155) (by kernel_rfl) (by kernel_rfl) rfl (by kernel_rfl) (by decide) (by decide) rfl (fields := #[{ name := "Parent", type := 3, offset := 0, embedded := false, tag := "", pkgPath := "", byteOffset := 0 }, { name := "View", type := 3, offset := 1, embedded := false, tag := "", pkgPath := "", byteOffset := 8 }, { name := "Cmds", type := 67, offset := 2, embedded := false, tag := "", pkgPath := "", byteOffset := 16 }, { name := "Just", type := 23, offset := 3, embedded := false, tag := "", pkgPath := "", byteOffset := 40 }]) (by kernel_rfl) rfl (all_cons ⟨⟨tInt, 8, .scalar⟩, by rw [h]; kernel_rfl⟩ (all_cons ⟨⟨tInt, 8, .scalar⟩, by rw [h]; kernel_rfl⟩ (all_cons ⟨⟨tSlICmd, 24, .slice 78⟩, by rw [h]; kernel_rfl⟩ (all_cons ⟨⟨tIQc, 32, .struct [(0, 3), (1, 3), (2, 3), (3, 3)]⟩, by rw [h]; kernel_rfl⟩ all_nil))))
theorem tok156 (E : Env) (h : E.ti = assoc tis) : TIok Try.prog E 156 ⟨tIBlock, 72, .struct [(0, 3), (1, 3), (2, 67), (3, 23)]⟩ := tiok_struct (inf := Try.t156) (by kernel_rfl) (by kernel_rfl) rfl (by kernel_rfl) (by decide) (by decide) rfl (fields := #[{ name := "Parent", type := 3, offset := 0, embedded := false, tag := "", pkgPath := "", byteOffset := 0 }, { name := "View", type := 3, offset := 1, embedded := false, tag := "", pkgPath := "", byteOffset := 8 }, { name := "Cmds", type := 67, offset := 2, embedded := false, tag := "", pkgPath := "", byteOffset := 16 }, { name := "Just", type := 23, offset := 3, embedded := false, tag := "", pkgPath := "", byteOffset := 40 }]) (by kernel_rfl) rfl (all_cons ⟨⟨tInt, 8, .scalar⟩, by rw [h]; kernel_rfl⟩ (all_cons ⟨⟨tInt, 8, .scalar⟩, by rw [h]; kernel_rfl⟩ (all_cons ⟨⟨tSlICmd, 24, .slice 78⟩, by rw [h]; kernel_rfl⟩ (all_cons ⟨⟨tIQc, 32, .struct [(0, 3), (1, 3), (2, 3), (3, 3)]⟩, by rw [h]; kernel_rfl⟩ all_nil))))
theorem tok160 (E : Env) (h : E.ti = assoc tis) : TIok Try.prog E 160 ⟨tXstruct_Key_string_Num_int_, 24, .struct [(0, 9), (1, 3)]⟩ := tiok_struct (inf := Try.t160) (by kernel_rfl) (by kernel_rfl) rfl (by kernel_rfl) (by decide) (by decide) rfl (fields := #[{ name := "Key", type := 9, offset := 0, embedded := false, tag := "", pkgPath := "", byteOffset := 0 }, { name := "Num", type := 3, offset := 1, embedded := false, tag := "", pkgPath := "", byteOffset := 16 }]) (by kernel_rfl) rfl (all_cons ⟨⟨tString, 16, .scalar⟩, by rw [h]; kernel_rfl⟩ (all_cons ⟨⟨tInt, 8, .scalar⟩, by rw [h]; kernel_rfl⟩ all_nil))
theorem tok161 (E : Env) (h : E.ti = assoc tis) : TIok Try.prog E 161 ⟨tICell, 24, .struct [(0, 9), (1, 3)]⟩ := tiok_struct (inf := Try.t161) (by kernel_rfl) (by kernel_rfl) rfl (by kernel_rfl) (by decide) (by decide) rfl (fields := #[{ name := "Key", type := 9, offset := 0, embedded := false, tag := "", pkgPath := "", byteOffset := 0 }, { name := "Num", type := 3, offset := 1, embedded := false, tag := "", pkgPath := "", byteOffset := 16 }]) (by kernel_rfl) rfl (all_cons ⟨⟨tString, 16, .scalar⟩, by rw [h]; kernel_rfl⟩ (all_cons ⟨⟨tInt, 8, .scalar⟩, by rw [h]; kernel_rfl⟩ all_nil))
theorem tok170 (E : Env) (h : E.ti = assoc tis) : TIok Try.prog E 170 ⟨tXstruct_Key_string_Had_bool_Num_int_, 32, .struct [(0, 9), (1, 4), (2, 3)]⟩ := tiok_struct (inf := Try.t170) (by kernel_rfl) (by kernel_rfl) rfl (by kernel_rfl) (by decide) (by decide) rfl (fields := #[{ name := "Key", type := 9, offset := 0, embedded := false, tag := "", pkgPath := "", byteOffset := 0 }, { name := "Had", type := 4, offset := 1, embedded := false, tag := "", pkgPath := "", byteOffset := 16 }, { name := "Num", type := 3, offset := 2, embedded := false, tag := "", pkgPath := "", byteOffset := 24 }]) (by kernel_rfl) rfl (all_cons ⟨⟨tString, 16, .scalar⟩, by rw [h]; kernel_rfl⟩ (all_cons ⟨⟨tBool, 1, .scalar⟩, by rw [h]; kernel_rfl⟩ (all_cons ⟨⟨tInt, 8, .scalar⟩, by rw [h]; kernel_rfl⟩ all_nil)))
theorem tok171 (E : Env) (h : E.ti = assoc tis) : TIok Try.prog E 171 ⟨tIUndo, 32, .struct [(0, 9), (1, 4), (2, 3)]⟩ := tiok_struct (inf := Try.t171) (by kernel_rfl) (by kernel_rfl) rfl (by kernel_rfl) (by decide) (by decide) rfl (fields := #[{ name := "Key", type := 9, offset := 0, embedded := false, tag := "", pkgPath := "", byteOffset := 0 }, { name := "Had", type := 4, offset := 1, embedded := false, tag := "", pkgPath := "", byteOffset := 16 }, { name := "Num", type := 3, offset := 2, embedded := false, tag := "", pkgPath := "", byteOffset := 24 }]) (by kernel_rfl) rfl (all_cons ⟨⟨tString, 16, .scalar⟩, by rw [h]; kernel_rfl⟩ (all_cons ⟨⟨tBool, 1, .scalar⟩, by rw [h]; kernel_rfl⟩ (all_cons ⟨⟨tInt, 8, .scalar⟩, by rw [h]; kernel_rfl⟩ all_nil)))
theorem tok173 (E : Env) (h : E.ti = assoc tis) : TIok Try.prog E 173 ⟨tLCell, 24, .struct [(0, 9), (1, 3)]⟩ := tiok_struct (inf := Try.t173) (by kernel_rfl) (by kernel_rfl) rfl (by kernel_rfl) (by decide) (by decide) rfl (fields := #[{ name := "Key", type := 9, offset := 0, embedded := false, tag := "", pkgPath := "", byteOffset := 0 }, { name := "Num", type := 3, offset := 1, embedded := false, tag := "", pkgPath := "", byteOffset := 16 }]) (by kernel_rfl) rfl (all_cons ⟨⟨tString, 16, .scalar⟩, by rw [h]; kernel_rfl⟩ (all_cons ⟨⟨tInt, 8, .scalar⟩, by rw [h]; kernel_rfl⟩ all_nil))
theorem tok175 (E : Env) (h : E.ti = assoc tis) : TIok Try.prog E 175 ⟨tLUndo, 32, .struct [(0, 9), (1, 4), (2, 3)]⟩ := tiok_struct (inf := Try.t175) (by kernel_rfl) (by kernel_rfl) rfl (by kernel_rfl) (by decide) (by decide) rfl (fields := #[{ name := "Key", type := 9, offset := 0, embedded := false, tag := "", pkgPath := "", byteOffset := 0 }, { name := "Had", type := 4, offset := 1, embedded := false, tag := "", pkgPath := "", byteOffset := 16 }, { name := "Num", type := 3, offset := 2, embedded := false, tag := "", pkgPath := "", byteOffset := 24 }]) (by kernel_rfl) rfl (all_cons ⟨⟨tString, 16, .scalar⟩, by rw [h]; kernel_rfl⟩ (all_cons ⟨⟨tBool, 1, .scalar⟩, by rw [h]; kernel_rfl⟩ (all_cons ⟨⟨tInt, 8, .scalar⟩, by rw [h]; kernel_rfl⟩ all_nil)))
theorem tok190 (E : Env) (h : E.ti = assoc tis) : TIok Try.prog E 190 ⟨tSlUint8, 24, .slice 5⟩ := tiok_slice (ie := ⟨tUint8, 1, .scalar⟩) (inf := Try.t190) (by kernel_rfl) rfl rfl rfl (by decide) (by kernel_rfl) (by rw [h]; kernel_rfl)
theorem tok215 (E : Env) (h : E.ti = assoc tis) : TIok Try.prog E 215 ⟨tUint32, 4, .scalar⟩ := tiok_scalar (inf := Try.t215) (by kernel_rfl) rfl rfl (by kernel_rfl) (by decide) (d := .int .u32) (by kernel_rfl) rfl
theorem tok216 (E : Env) (h : E.ti = assoc tis) : TIok Try.prog E 216 ⟨tXabi_TFlag, 1, .scalar⟩ := tiok_scalar (inf := Try.t216) (by kernel_rfl) rfl rfl (by kernel_rfl) (by decide) (d := .int .u8) (by kernel_rfl) rfl
theorem tok217 (E : Env) (h : E.ti = assoc tis) : TIok Try.prog E 217 ⟨tXabi_Kind, 1, .scalar⟩ := tiok_scalar (inf := Try.t217) (by kernel_rfl) rfl rfl (by kernel_rfl) (by decide) (d := .int .u8) (by kernel_rfl) rfl
theorem tok220 (E : Env) (h : E.ti = assoc tis) : TIok Try.prog E 220 ⟨tXabi_NameOff, 4, .scalar⟩ := tiok_scalar (inf := Try.t220) (by kernel_rfl) rfl rfl (by kernel_rfl) (by decide) (d := .int .i32) (by kernel_rfl) rfl
theorem tok221 (E : Env) (h : E.ti = assoc tis) : TIok Try.prog E 221 ⟨tXabi_TypeOff, 4, .scalar⟩ := tiok_scalar (inf := Try.t221) (by kernel_rfl) rfl rfl (by kernel_rfl) (by decide) (d := .int .i32) (by kernel_rfl) rfl
theorem tisOk (E : Env) (h : E.ti = assoc tis) : ∀ t i, E.ti t = some i → TIok Try.prog E t i := by
  rw [h]
  refine tis_ok ?_
  refine all_cons (tok2 E h) ?_
  refine all_cons (tok3 E h) ?_
  refine all_cons (tok4 E h) ?_
  refine all_cons (tok5 E h) ?_
  refine all_cons (tok6 E h) ?_
  refine all_cons (tok7 E h) ?_
  refine all_cons (tok8 E h) ?_
  refine all_cons (tok9 E h) ?_
  refine all_cons (tok10 E h) ?_
  refine all_cons (tok11 E h) ?_
  refine all_cons (tok12 E h) ?_
  refine all_cons (tok13 E h) ?_
  refine all_cons (tok14 E h) ?_
  refine all_cons (tok21 E h) ?_
  refine all_cons (tok22 E h) ?_
  refine all_cons (tok23 E h) ?_
  refine all_cons (tok24 E h) ?_
  refine all_cons (tok25 E h) ?_
  refine all_cons (tok26 E h) ?_
  refine all_cons (tok27 E h) ?_
  refine all_cons (tok28 E h) ?_
  refine all_cons (tok29 E h) ?_
  refine all_cons (tok30 E h) ?_
  refine all_cons (tok31 E h) ?_
  refine all_cons (tok32 E h) ?_
  refine all_cons (tok37 E h) ?_
  refine all_cons (tok38 E h) ?_
  refine all_cons (tok39 E h) ?_
  refine all_cons (tok40 E h) ?_
  refine all_cons (tok41 E h) ?_
  refine all_cons (tok42 E h) ?_
  refine all_cons (tok43 E h) ?_
  refine all_cons (tok44 E h) ?_
  refine all_cons (tok53 E h) ?_
  refine all_cons (tok54 E h) ?_
  refine all_cons (tok58 E h) ?_
  refine all_cons (tok59 E h) ?_
  refine all_cons (tok60 E h) ?_
  refine all_cons (tok61 E h) ?_
  refine all_cons (tok62 E h) ?_
  refine all_cons (tok65 E h) ?_
  refine all_cons (tok66 E h) ?_
  refine all_cons (tok67 E h) ?_
  refine all_cons (tok68 E h) ?_
  refine all_cons (tok69 E h) ?_
  refine all_cons (tok73 E h) ?_
  refine all_cons (tok74 E h) ?_
  refine all_cons (tok78 E h) ?_
  refine all_cons (tok141 E h) ?_
  refine all_cons (tok142 E h) ?_
  refine all_cons (tok147 E h) ?_
  refine all_cons (tok151 E h) ?_
  refine all_cons (tok152 E h) ?_
  refine all_cons (tok155 E h) ?_
  refine all_cons (tok156 E h) ?_
  refine all_cons (tok160 E h) ?_
  refine all_cons (tok161 E h) ?_
  refine all_cons (tok170 E h) ?_
  refine all_cons (tok171 E h) ?_
  refine all_cons (tok173 E h) ?_
  refine all_cons (tok175 E h) ?_
  refine all_cons (tok190 E h) ?_
  refine all_cons (tok215 E h) ?_
  refine all_cons (tok216 E h) ?_
  refine all_cons (tok217 E h) ?_
  refine all_cons (tok220 E h) ?_
  refine all_cons (tok221 E h) ?_
  exact all_nil

theorem eq23 : EqOk Try.prog 23 tIQc := eqOk 6 (by decide) (.struct (fs := [({ name := "Phase", type := 3, offset := 0, embedded := false, tag := "", pkgPath := "", byteOffset := 0 } : Field), ({ name := "View", type := 3, offset := 1, embedded := false, tag := "", pkgPath := "", byteOffset := 8 } : Field), ({ name := "Block", type := 3, offset := 2, embedded := false, tag := "", pkgPath := "", byteOffset := 16 } : Field), ({ name := "Signers", type := 3, offset := 3, embedded := false, tag := "", pkgPath := "", byteOffset := 24 } : Field)]) (by kernel_rfl) (by kernel_rfl) rfl (by kernel_rfl) (.cons (f := ({ name := "Phase", type := 3, offset := 0, embedded := false, tag := "", pkgPath := "", byteOffset := 0 } : Field)) (a := tInt) rfl (by decide) ⟨Try.t3, by kernel_rfl, rfl⟩ ⟨TypeDesc.int IntKind.i64, by kernel_rfl, rfl⟩ rfl (.int (by kernel_rfl)) (.cons (f := ({ name := "View", type := 3, offset := 1, embedded := false, tag := "", pkgPath := "", byteOffset := 8 } : Field)) (a := tInt) rfl (by decide) ⟨Try.t3, by kernel_rfl, rfl⟩ ⟨TypeDesc.int IntKind.i64, by kernel_rfl, rfl⟩ rfl (.int (by kernel_rfl)) (.cons (f := ({ name := "Block", type := 3, offset := 2, embedded := false, tag := "", pkgPath := "", byteOffset := 16 } : Field)) (a := tInt) rfl (by decide) ⟨Try.t3, by kernel_rfl, rfl⟩ ⟨TypeDesc.int IntKind.i64, by kernel_rfl, rfl⟩ rfl (.int (by kernel_rfl)) (.cons (f := ({ name := "Signers", type := 3, offset := 3, embedded := false, tag := "", pkgPath := "", byteOffset := 24 } : Field)) (a := tInt) rfl (by decide) ⟨Try.t3, by kernel_rfl, rfl⟩ ⟨TypeDesc.int IntKind.i64, by kernel_rfl, rfl⟩ rfl (.int (by kernel_rfl)) .nil))))) rfl (by kernel_rfl)
theorem eq78 : EqOk Try.prog 78 tICmd := eqOk 6 (by decide) (.struct (fs := [({ name := "Kind", type := 3, offset := 0, embedded := false, tag := "", pkgPath := "", byteOffset := 0 } : Field), ({ name := "Key", type := 9, offset := 1, embedded := false, tag := "", pkgPath := "", byteOffset := 8 } : Field), ({ name := "Num", type := 3, offset := 2, embedded := false, tag := "", pkgPath := "", byteOffset := 24 } : Field)]) (by kernel_rfl) (by kernel_rfl) rfl (by kernel_rfl) (.cons (f := ({ name := "Kind", type := 3, offset := 0, embedded := false, tag := "", pkgPath := "", byteOffset := 0 } : Field)) (a := tInt) rfl (by decide) ⟨Try.t3, by kernel_rfl, rfl⟩ ⟨TypeDesc.int IntKind.i64, by kernel_rfl, rfl⟩ rfl (.int (by kernel_rfl)) (.cons (f := ({ name := "Key", type := 9, offset := 1, embedded := false, tag := "", pkgPath := "", byteOffset := 8 } : Field)) (a := tString) rfl (by decide) ⟨Try.t9, by kernel_rfl, rfl⟩ ⟨TypeDesc.string, by kernel_rfl, rfl⟩ rfl (.str (by kernel_rfl)) (.cons (f := ({ name := "Num", type := 3, offset := 2, embedded := false, tag := "", pkgPath := "", byteOffset := 24 } : Field)) (a := tInt) rfl (by decide) ⟨Try.t3, by kernel_rfl, rfl⟩ ⟨TypeDesc.int IntKind.i64, by kernel_rfl, rfl⟩ rfl (.int (by kernel_rfl)) .nil)))) rfl (by kernel_rfl)
def eqs (t : TypeId) : Bool := [23, 78].any (Nat.beq t)
theorem eqsOk (E : Env) (h : E.ti = assoc tis) (he : E.eqs = eqs) : ∀ t ty, E.eqs t = true → E.ty t = some ty → EqOk Try.prog t ty := by
  intro t ty h1 h2
  rw [he] at h1
  simp only [Env.ty, h] at h2
  unfold eqs at h1
  simp only [List.any_cons, List.any_nil, Bool.or_eq_true, Bool.or_false] at h1
  rcases h1 with h1 | h1
  · have := Nat.eq_of_beq_eq_true h1
    subst this
    have e : (Option.map (fun x => x.ty) (assoc tis 23)) = some tIQc := by kernel_rfl
    rw [e] at h2
    cases h2
    exact eq23
  · have := Nat.eq_of_beq_eq_true h1
    subst this
    have e : (Option.map (fun x => x.ty) (assoc tis 78)) = some tICmd := by kernel_rfl
    rw [e] at h2
    cases h2
    exact eq78

/-- how lists of lists are kept; whether elements are taken apart; the slots of places of variables -/
abbrev Fl : Type := Bool × Bool × List Nat
def env (u : Fl) (l : List (Nat × Con)) : Env := ⟨assoc tis, eqs, assoc l, u.1, u.2.1, fun t => u.2.2.any (Nat.beq t)⟩
theorem envOk {u : Fl} {l : List (Nat × Con)} (h : ∀ q ∈ l, ConOk Try.prog q.1 q.2) : EnvOk Try.prog (env u l) :=
  { ti := tisOk (env u l) rfl, eqs := eqsOk (env u l) rfl rfl, tbl := tbl_ok h }

def body (f : Func) : Code := f.body.getD .skip
abbrev KP : Type := List (Nat × (List Keep × List BK))

/-- a function's evaluation -/
noncomputable def finX {X : Type} (u : Fl) (l : List (Nat × Con)) (rt : List (Option Ty)) (f : Func) (s : Sh X) (args : List SV) : Ex → St → Option X :=
  fun e st => (finK (env u l) rt f.results.toList (enterL [] args).2.2 e st).bind s.un
noncomputable def evX {X : Type} (u : Fl) (l : List (Nat × Con)) (kp : KP) (rt : List (Option Ty)) (f : Func) (s : Sh X) (N : Nat) (args : List SV) : Option X :=
  ev (env u l) (Lr (env u l) kp (body f) (finX u l rt f s args) N) (body f) (startSt f.ntmps args) (finX u l rt f s args)

theorem evX_ok {X : Type} {u : Fl} {l : List (Nat × Con)} (hl : ∀ q ∈ l, ConOk Try.prog q.1 q.2) {kp : KP} {rt : List (Option Ty)} {s : Sh X} {n : FuncId} {f : Func} {b : Code} (hf : Try.prog.funcs[n]? = some f) (hb : f.body = some b) (hn : noDup (idsOf kp b) = true)
    {args : List SV} (hbx : boxesOk args kp = true) (N : Nat) {v : X} (h : evX u l kp rt f s N args = some v) : CallOk Try.prog n args (s.sh v).1 (s.sh v).2 := by
  have e : body f = b := by unfold body; rw [hb]; rfl
  unfold evX at h
  rw [e] at h
  refine fn_ok (rt := rt) (envOk hl) hf hb hn hbx N (fun e st he => ?_) h
  obtain ⟨r, h1, h2⟩ := Option.bind_eq_some_iff.1 he
  rw [h1, s.ok r v h2]

theorem cons_nil : ∀ q ∈ ([] : List (Nat × Con)), ConOk Try.prog q.1 q.2 := fun _ h => by cases h
theorem cons_cons {n : Nat} {c : Con} {l : List (Nat × Con)} (h : ConOk Try.prog n c) (t : ∀ q ∈ l, ConOk Try.prog q.1 q.2) : ∀ q ∈ (n, c) :: l, ConOk Try.prog q.1 q.2 := fun q hq => by
  rcases List.mem_cons.1 hq with rfl | hq
  · exact h
  · exact t q hq
/-- enough rounds -/
def big : Nat := 4611686018427387904

end Go.Sx.Try
