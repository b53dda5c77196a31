/- The types of the seat. -/
import Derived.Test.YtjefikelmfdffaaGreatDoorM9
import Derived.Test.YtjefikelmfdffaaGreatDoorM8
import Derived.Test.YtjefikelmfdffaaGreatDoorProg
set_option linter.unusedVariables false
set_option linter.unusedSimpArgs false
set_option maxRecDepth 100000
namespace Go.Sx.Tryz
open Go Go.Sx Go.Proofs

abbrev tInt64 : Ty := .int .i64
abbrev tInt : Ty := .int .i64
abbrev tBool : Ty := .bool
abbrev tUint8 : Ty := .int .u8
abbrev tXabi_BoundsErrorCode : Ty := .int .u8
abbrev tXstruct_x_int64_y_int_signed_bool_code_ab : Ty := .pair tInt64 (.pair tInt (.pair tBool (.pair tXabi_BoundsErrorCode (.unit))))
abbrev tXruntime_boundsError : Ty := .pair tInt64 (.pair tInt (.pair tBool (.pair tXabi_BoundsErrorCode (.unit))))
abbrev tString : Ty := .str
abbrev tXruntime_errorString : Ty := .str
abbrev tXruntime_plainError : Ty := .str
abbrev tUintptr : Ty := .int .u64
abbrev tXstruct_msg_string_addr_uintptr_ : Ty := .pair tString (.pair tUintptr (.unit))
abbrev tXruntime_errorAddressString : Ty := .pair tString (.pair tUintptr (.unit))
abbrev tInt32 : Ty := .int .i32
abbrev tICmd : Ty := .pair tInt (.pair tString (.pair tInt (.unit)))
abbrev tIEvent : Ty := .pair tInt (.pair tInt (.pair tInt (.pair tInt (.pair tICmd (.unit)))))
abbrev tSlIEvent : Ty := .sl false tIEvent
abbrev uSlIEvent : Ty := .sl true tIEvent
abbrev tXstruct_N_int_Chain_bool_Liars_int_Events : Ty := .pair tInt (.pair tBool (.pair tInt (.pair tSlIEvent (.pair tInt (.unit)))))
abbrev uXstruct_N_int_Chain_bool_Liars_int_Events : Ty := .pair tInt (.pair tBool (.pair tInt (.pair uSlIEvent (.pair tInt (.unit)))))
abbrev tIScript : Ty := .pair tInt (.pair tBool (.pair tInt (.pair tSlIEvent (.pair tInt (.unit)))))
abbrev uIScript : Ty := .pair tInt (.pair tBool (.pair tInt (.pair uSlIEvent (.pair tInt (.unit)))))
abbrev tSlString : Ty := .sl false tString
abbrev uSlString : Ty := .sl true tString
abbrev tXstruct_Kind_int_Key_string_Num_int_ : Ty := .pair tInt (.pair tString (.pair tInt (.unit)))
abbrev tXstruct_Kind_int_At_int_To_int_Num_int_Cm : Ty := .pair tInt (.pair tInt (.pair tInt (.pair tInt (.pair tICmd (.unit)))))
abbrev tXstruct_s_impl_Script_begun_bool_calm_boo : Ty := .pair tIScript (.pair tBool (.pair tBool (.unit)))
abbrev uXstruct_s_impl_Script_begun_bool_calm_boo : Ty := .pair uIScript (.pair tBool (.pair tBool (.unit)))
abbrev tIreading : Ty := .pair tIScript (.pair tBool (.pair tBool (.unit)))
abbrev uIreading : Ty := .pair uIScript (.pair tBool (.pair tBool (.unit)))
abbrev tSlICmd : Ty := .sl false tICmd
abbrev uSlICmd : Ty := .sl true tICmd
abbrev tIQc : Ty := .pair tInt (.pair tInt (.pair tInt (.pair tInt (.unit))))
abbrev tIBlock : Ty := .pair tInt (.pair tInt (.pair tSlICmd (.pair tIQc (.unit))))
abbrev uIBlock : Ty := .pair tInt (.pair tInt (.pair uSlICmd (.pair tIQc (.unit))))
abbrev tSlIBlock : Ty := .sl false tIBlock
abbrev uSlIBlock : Ty := .sl true uIBlock
abbrev tIVote : Ty := .pair tInt (.pair tInt (.pair tInt (.pair tInt (.unit))))
abbrev tSlInt : Ty := .sl false tInt
abbrev uSlInt : Ty := .sl true tInt
abbrev tICell : Ty := .pair tString (.pair tInt (.unit))
abbrev tSlICell : Ty := .sl false tICell
abbrev uSlICell : Ty := .sl true tICell
abbrev tIUndo : Ty := .pair tString (.pair tBool (.pair tInt (.unit)))
abbrev tSlIUndo : Ty := .sl false tIUndo
abbrev uSlIUndo : Ty := .sl true tIUndo
abbrev tSlIVote : Ty := .sl false tIVote
abbrev uSlIVote : Ty := .sl true tIVote
abbrev tILetter : Ty := .pair tInt (.pair tInt (.pair tInt (.pair tInt (.pair tInt (.pair tIQc (.pair tIVote (.unit)))))))
abbrev tSlILetter : Ty := .sl false tILetter
abbrev uSlILetter : Ty := .sl true tILetter
abbrev tIPeer : Ty := .pair tInt (.pair tInt (.pair tIQc (.pair tIQc (.pair tIVote (.pair tSlInt (.pair tSlICell (.pair tSlInt (.pair tSlIUndo (.pair tSlIVote (.pair tSlILetter (.pair tInt (.unit))))))))))))
abbrev uIPeer : Ty := .pair tInt (.pair tInt (.pair tIQc (.pair tIQc (.pair tIVote (.pair uSlInt (.pair uSlICell (.pair uSlInt (.pair uSlIUndo (.pair uSlIVote (.pair uSlILetter (.pair tInt (.unit))))))))))))
abbrev tSlIPeer : Ty := .sl false tIPeer
abbrev uSlIPeer : Ty := .sl true uIPeer
abbrev tXstruct_N_int_Chain_bool_Liars_int_Tree_i : Ty := .pair tInt (.pair tBool (.pair tInt (.pair tSlIBlock (.pair tSlIPeer (.pair tSlILetter (.pair tSlIVote (.pair tSlICmd (.unit))))))))
abbrev uXstruct_N_int_Chain_bool_Liars_int_Tree_i : Ty := .pair tInt (.pair tBool (.pair tInt (.pair uSlIBlock (.pair uSlIPeer (.pair uSlILetter (.pair uSlIVote (.pair uSlICmd (.unit))))))))
abbrev tICluster : Ty := .pair tInt (.pair tBool (.pair tInt (.pair tSlIBlock (.pair tSlIPeer (.pair tSlILetter (.pair tSlIVote (.pair tSlICmd (.unit))))))))
abbrev uICluster : Ty := .pair tInt (.pair tBool (.pair tInt (.pair uSlIBlock (.pair uSlIPeer (.pair uSlILetter (.pair uSlIVote (.pair uSlICmd (.unit))))))))
abbrev tUint : Ty := .int .u64
abbrev tXstruct_Phase_int_View_int_Block_int_Sign : Ty := .pair tInt (.pair tInt (.pair tInt (.pair tInt (.unit))))
abbrev tXstruct_Phase_int_View_int_Block_int_By_i : Ty := .pair tInt (.pair tInt (.pair tInt (.pair tInt (.unit))))
abbrev tXstruct_Id_int_View_int_High_impl_Qc_Lock : Ty := .pair tInt (.pair tInt (.pair tIQc (.pair tIQc (.pair tIVote (.pair tSlInt (.pair tSlICell (.pair tSlInt (.pair tSlIUndo (.pair tSlIVote (.pair tSlILetter (.pair tInt (.unit))))))))))))
abbrev uXstruct_Id_int_View_int_High_impl_Qc_Lock : Ty := .pair tInt (.pair tInt (.pair tIQc (.pair tIQc (.pair tIVote (.pair uSlInt (.pair uSlICell (.pair uSlInt (.pair uSlIUndo (.pair uSlIVote (.pair uSlILetter (.pair tInt (.unit))))))))))))
abbrev tSlUint8 : Ty := .sl false tUint8
abbrev uSlUint8 : Ty := .sl true tUint8
abbrev tXstruct_Parent_int_View_int_Cmds_impl_Cmd : Ty := .pair tInt (.pair tInt (.pair tSlICmd (.pair tIQc (.unit))))
abbrev uXstruct_Parent_int_View_int_Cmds_impl_Cmd : Ty := .pair tInt (.pair tInt (.pair uSlICmd (.pair tIQc (.unit))))
abbrev tXstrings_span : Ty := .pair tInt (.pair tInt (.unit))
abbrev tSlXstrings_span : Ty := .sl false tXstrings_span
abbrev uSlXstrings_span : Ty := .sl true tXstrings_span
abbrev tXstruct_start_int_end_int_ : Ty := .pair tInt (.pair tInt (.unit))
abbrev tUint32 : Ty := .int .u32
abbrev tXstruct_lo_uint8_hi_uint8_ : Ty := .pair tUint8 (.pair tUint8 (.unit))
abbrev tXutf8_acceptRange : Ty := .pair tUint8 (.pair tUint8 (.unit))
abbrev tUint16 : Ty := .int .u16
abbrev tXunicode_Range16 : Ty := .pair tUint16 (.pair tUint16 (.pair tUint16 (.unit)))
abbrev tSlXunicode_Range16 : Ty := .sl false tXunicode_Range16
abbrev uSlXunicode_Range16 : Ty := .sl true tXunicode_Range16
abbrev tXunicode_Range32 : Ty := .pair tUint32 (.pair tUint32 (.pair tUint32 (.unit)))
abbrev tSlXunicode_Range32 : Ty := .sl false tXunicode_Range32
abbrev uSlXunicode_Range32 : Ty := .sl true tXunicode_Range32
abbrev tXstruct_R16_unicode_Range16_R32_unicode_R : Ty := .pair tSlXunicode_Range16 (.pair tSlXunicode_Range32 (.pair tInt (.unit)))
abbrev uXstruct_R16_unicode_Range16_R32_unicode_R : Ty := .pair uSlXunicode_Range16 (.pair uSlXunicode_Range32 (.pair tInt (.unit)))
abbrev tXunicode_RangeTable : Ty := .pair tSlXunicode_Range16 (.pair tSlXunicode_Range32 (.pair tInt (.unit)))
abbrev uXunicode_RangeTable : Ty := .pair uSlXunicode_Range16 (.pair uSlXunicode_Range32 (.pair tInt (.unit)))
abbrev tXstruct_Lo_uint16_Hi_uint16_Stride_uint16 : Ty := .pair tUint16 (.pair tUint16 (.pair tUint16 (.unit)))
abbrev tXstruct_Lo_uint32_Hi_uint32_Stride_uint32 : Ty := .pair tUint32 (.pair tUint32 (.pair tUint32 (.unit)))
abbrev tXstrconv_Error : Ty := .int .i64
abbrev tUint64 : Ty := .int .u64
abbrev tXstruct_s_string_ : Ty := .pair tString (.unit)
abbrev tXerrors_errorString : Ty := .pair tString (.unit)
abbrev tXabi_TFlag : Ty := .int .u8
abbrev tXabi_Kind : Ty := .int .u8
abbrev tXabi_NameOff : Ty := .int .i32
abbrev tXabi_TypeOff : Ty := .int .i32
abbrev tXstruct_Kind_int_From_int_To_int_View_int : Ty := .pair tInt (.pair tInt (.pair tInt (.pair tInt (.pair tInt (.pair tIQc (.pair tIVote (.unit)))))))
abbrev tXstruct_Key_string_Num_int_ : Ty := .pair tString (.pair tInt (.unit))
abbrev tXstruct_Key_string_Had_bool_Num_int_ : Ty := .pair tString (.pair tBool (.pair tInt (.unit)))
abbrev DInt64 : Type := Int
abbrev DInt : Type := Int
abbrev DBool : Type := Bool
abbrev DUint8 : Type := Int
abbrev DXabi_BoundsErrorCode : Type := Int
abbrev DXstruct_x_int64_y_int_signed_bool_code_ab : Type := Int × Int × Bool × Int × Unit
abbrev DXruntime_boundsError : Type := Int × Int × Bool × Int × Unit
abbrev DString : Type := ByteArray
abbrev DXruntime_errorString : Type := ByteArray
abbrev DXruntime_plainError : Type := ByteArray
abbrev DUintptr : Type := Int
abbrev DXstruct_msg_string_addr_uintptr_ : Type := ByteArray × Int × Unit
abbrev DXruntime_errorAddressString : Type := ByteArray × Int × Unit
abbrev DInt32 : Type := Int
abbrev DICmd : Type := Int × ByteArray × Int × Unit
abbrev DIEvent : Type := Int × Int × Int × Int × DICmd × Unit
abbrev DSlIEvent : Type := List DIEvent
abbrev DXstruct_N_int_Chain_bool_Liars_int_Events : Type := Int × Bool × Int × DSlIEvent × Int × Unit
abbrev DIScript : Type := Int × Bool × Int × DSlIEvent × Int × Unit
abbrev DSlString : Type := List ByteArray
abbrev DXstruct_Kind_int_Key_string_Num_int_ : Type := Int × ByteArray × Int × Unit
abbrev DXstruct_Kind_int_At_int_To_int_Num_int_Cm : Type := Int × Int × Int × Int × DICmd × Unit
abbrev DXstruct_s_impl_Script_begun_bool_calm_boo : Type := DIScript × Bool × Bool × Unit
abbrev DIreading : Type := DIScript × Bool × Bool × Unit
abbrev DSlICmd : Type := List DICmd
abbrev DIQc : Type := Int × Int × Int × Int × Unit
abbrev DIBlock : Type := Int × Int × DSlICmd × DIQc × Unit
abbrev DSlIBlock : Type := List DIBlock
abbrev DIVote : Type := Int × Int × Int × Int × Unit
abbrev DSlInt : Type := List Int
abbrev DICell : Type := ByteArray × Int × Unit
abbrev DSlICell : Type := List DICell
abbrev DIUndo : Type := ByteArray × Bool × Int × Unit
abbrev DSlIUndo : Type := List DIUndo
abbrev DSlIVote : Type := List DIVote
abbrev DILetter : Type := Int × Int × Int × Int × Int × DIQc × DIVote × Unit
abbrev DSlILetter : Type := List DILetter
abbrev DIPeer : Type := Int × Int × DIQc × DIQc × DIVote × DSlInt × DSlICell × DSlInt × DSlIUndo × DSlIVote × DSlILetter × Int × Unit
abbrev DSlIPeer : Type := List DIPeer
abbrev DXstruct_N_int_Chain_bool_Liars_int_Tree_i : Type := Int × Bool × Int × DSlIBlock × DSlIPeer × DSlILetter × DSlIVote × DSlICmd × Unit
abbrev DICluster : Type := Int × Bool × Int × DSlIBlock × DSlIPeer × DSlILetter × DSlIVote × DSlICmd × Unit
abbrev DUint : Type := Int
abbrev DXstruct_Phase_int_View_int_Block_int_Sign : Type := Int × Int × Int × Int × Unit
abbrev DXstruct_Phase_int_View_int_Block_int_By_i : Type := Int × Int × Int × Int × Unit
abbrev DXstruct_Id_int_View_int_High_impl_Qc_Lock : Type := Int × Int × DIQc × DIQc × DIVote × DSlInt × DSlICell × DSlInt × DSlIUndo × DSlIVote × DSlILetter × Int × Unit
abbrev DSlUint8 : Type := List Int
abbrev DXstruct_Parent_int_View_int_Cmds_impl_Cmd : Type := Int × Int × DSlICmd × DIQc × Unit
abbrev DXstrings_span : Type := Int × Int × Unit
abbrev DSlXstrings_span : Type := List DXstrings_span
abbrev DXstruct_start_int_end_int_ : Type := Int × Int × Unit
abbrev DUint32 : Type := Int
abbrev DXstruct_lo_uint8_hi_uint8_ : Type := Int × Int × Unit
abbrev DXutf8_acceptRange : Type := Int × Int × Unit
abbrev DUint16 : Type := Int
abbrev DXunicode_Range16 : Type := Int × Int × Int × Unit
abbrev DSlXunicode_Range16 : Type := List DXunicode_Range16
abbrev DXunicode_Range32 : Type := Int × Int × Int × Unit
abbrev DSlXunicode_Range32 : Type := List DXunicode_Range32
abbrev DXstruct_R16_unicode_Range16_R32_unicode_R : Type := DSlXunicode_Range16 × DSlXunicode_Range32 × Int × Unit
abbrev DXunicode_RangeTable : Type := DSlXunicode_Range16 × DSlXunicode_Range32 × Int × Unit
abbrev DXstruct_Lo_uint16_Hi_uint16_Stride_uint16 : Type := Int × Int × Int × Unit
abbrev DXstruct_Lo_uint32_Hi_uint32_Stride_uint32 : Type := Int × Int × Int × Unit
abbrev DXstrconv_Error : Type := Int
abbrev DUint64 : Type := Int
abbrev DXstruct_s_string_ : Type := ByteArray × Unit
abbrev DXerrors_errorString : Type := ByteArray × Unit
abbrev DXabi_TFlag : Type := Int
abbrev DXabi_Kind : Type := Int
abbrev DXabi_NameOff : Type := Int
abbrev DXabi_TypeOff : Type := Int
abbrev DXstruct_Kind_int_From_int_To_int_View_int : Type := Int × Int × Int × Int × Int × DIQc × DIVote × Unit
abbrev DXstruct_Key_string_Num_int_ : Type := ByteArray × Int × Unit
abbrev DXstruct_Key_string_Had_bool_Num_int_ : Type := ByteArray × Bool × Int × Unit

def tis : List (Nat × TI) := [
  (2, ⟨tInt64, 8, .scalar⟩),
  (3, ⟨tInt, 8, .scalar⟩),
  (4, ⟨tBool, 1, .scalar⟩),
  (5, ⟨tUint8, 1, .scalar⟩),
  (6, ⟨tXabi_BoundsErrorCode, 1, .scalar⟩),
  (7, ⟨tXstruct_x_int64_y_int_signed_bool_code_ab, 24, .struct [(0, 2), (1, 3), (2, 4), (3, 6)]⟩),
  (8, ⟨tXruntime_boundsError, 24, .struct [(0, 2), (1, 3), (2, 4), (3, 6)]⟩),
  (9, ⟨tString, 16, .scalar⟩),
  (10, ⟨tXruntime_errorString, 16, .scalar⟩),
  (11, ⟨tXruntime_plainError, 16, .scalar⟩),
  (12, ⟨tUintptr, 8, .scalar⟩),
  (13, ⟨tXstruct_msg_string_addr_uintptr_, 24, .struct [(0, 9), (1, 12)]⟩),
  (14, ⟨tXruntime_errorAddressString, 24, .struct [(0, 9), (1, 12)]⟩),
  (21, ⟨tInt32, 4, .scalar⟩),
  (22, ⟨tSlIEvent, 24, .slice 41⟩),
  (23, ⟨tXstruct_N_int_Chain_bool_Liars_int_Events, 56, .struct [(0, 3), (1, 4), (2, 3), (3, 22), (4, 3)]⟩),
  (24, ⟨tIScript, 56, .struct [(0, 3), (1, 4), (2, 3), (3, 22), (4, 3)]⟩),
  (30, ⟨tSlString, 24, .slice 9⟩),
  (38, ⟨tXstruct_Kind_int_Key_string_Num_int_, 32, .struct [(0, 3), (1, 9), (2, 3)]⟩),
  (39, ⟨tICmd, 32, .struct [(0, 3), (1, 9), (2, 3)]⟩),
  (40, ⟨tXstruct_Kind_int_At_int_To_int_Num_int_Cm, 64, .struct [(0, 3), (1, 3), (2, 3), (3, 3), (4, 39)]⟩),
  (41, ⟨tIEvent, 64, .struct [(0, 3), (1, 3), (2, 3), (3, 3), (4, 39)]⟩),
  (47, ⟨tXstruct_s_impl_Script_begun_bool_calm_boo, 64, .struct [(0, 24), (5, 4), (6, 4)]⟩),
  (48, ⟨tIreading, 64, .struct [(0, 24), (5, 4), (6, 4)]⟩),
  (51, ⟨tSlIBlock, 24, .slice 90⟩),
  (52, ⟨tSlIPeer, 24, .slice 82⟩),
  (53, ⟨tSlILetter, 24, .slice 175⟩),
  (54, ⟨tSlIVote, 24, .slice 78⟩),
  (55, ⟨tSlICmd, 24, .slice 39⟩),
  (56, ⟨tXstruct_N_int_Chain_bool_Liars_int_Tree_i, 144, .struct [(0, 3), (1, 4), (2, 3), (3, 51), (4, 52), (5, 53), (6, 54), (7, 55)]⟩),
  (57, ⟨tICluster, 144, .struct [(0, 3), (1, 4), (2, 3), (3, 51), (4, 52), (5, 53), (6, 54), (7, 55)]⟩),
  (68, ⟨tSlInt, 24, .slice 3⟩),
  (72, ⟨tUint, 8, .scalar⟩),
  (75, ⟨tXstruct_Phase_int_View_int_Block_int_Sign, 32, .struct [(0, 3), (1, 3), (2, 3), (3, 3)]⟩),
  (76, ⟨tIQc, 32, .struct [(0, 3), (1, 3), (2, 3), (3, 3)]⟩),
  (77, ⟨tXstruct_Phase_int_View_int_Block_int_By_i, 32, .struct [(0, 3), (1, 3), (2, 3), (3, 3)]⟩),
  (78, ⟨tIVote, 32, .struct [(0, 3), (1, 3), (2, 3), (3, 3)]⟩),
  (79, ⟨tSlICell, 24, .slice 177⟩),
  (80, ⟨tSlIUndo, 24, .slice 179⟩),
  (81, ⟨tXstruct_Id_int_View_int_High_impl_Qc_Lock, 264, .struct [(0, 3), (1, 3), (2, 76), (6, 76), (10, 78), (14, 68), (15, 79), (16, 68), (17, 80), (18, 54), (19, 53), (20, 3)]⟩),
  (82, ⟨tIPeer, 264, .struct [(0, 3), (1, 3), (2, 76), (6, 76), (10, 78), (14, 68), (15, 79), (16, 68), (17, 80), (18, 54), (19, 53), (20, 3)]⟩),
  (85, ⟨tSlUint8, 24, .slice 5⟩),
  (89, ⟨tXstruct_Parent_int_View_int_Cmds_impl_Cmd, 72, .struct [(0, 3), (1, 3), (2, 55), (3, 76)]⟩),
  (90, ⟨tIBlock, 72, .struct [(0, 3), (1, 3), (2, 55), (3, 76)]⟩),
  (104, ⟨tSlXstrings_span, 24, .slice 106⟩),
  (105, ⟨tXstruct_start_int_end_int_, 16, .struct [(0, 3), (1, 3)]⟩),
  (106, ⟨tXstrings_span, 16, .struct [(0, 3), (1, 3)]⟩),
  (107, ⟨tUint32, 4, .scalar⟩),
  (111, ⟨tXstruct_lo_uint8_hi_uint8_, 2, .struct [(0, 5), (1, 5)]⟩),
  (112, ⟨tXutf8_acceptRange, 2, .struct [(0, 5), (1, 5)]⟩),
  (116, ⟨tSlXunicode_Range16, 24, .slice 122⟩),
  (117, ⟨tSlXunicode_Range32, 24, .slice 125⟩),
  (118, ⟨tXstruct_R16_unicode_Range16_R32_unicode_R, 56, .struct [(0, 116), (1, 117), (2, 3)]⟩),
  (119, ⟨tXunicode_RangeTable, 56, .struct [(0, 116), (1, 117), (2, 3)]⟩),
  (120, ⟨tUint16, 2, .scalar⟩),
  (121, ⟨tXstruct_Lo_uint16_Hi_uint16_Stride_uint16, 6, .struct [(0, 120), (1, 120), (2, 120)]⟩),
  (122, ⟨tXunicode_Range16, 6, .struct [(0, 120), (1, 120), (2, 120)]⟩),
  (124, ⟨tXstruct_Lo_uint32_Hi_uint32_Stride_uint32, 12, .struct [(0, 107), (1, 107), (2, 107)]⟩),
  (125, ⟨tXunicode_Range32, 12, .struct [(0, 107), (1, 107), (2, 107)]⟩),
  (127, ⟨tXstrconv_Error, 8, .scalar⟩),
  (135, ⟨tUint64, 8, .scalar⟩),
  (146, ⟨tXstruct_s_string_, 16, .struct [(0, 9)]⟩),
  (147, ⟨tXerrors_errorString, 16, .struct [(0, 9)]⟩),
  (167, ⟨tXabi_TFlag, 1, .scalar⟩),
  (168, ⟨tXabi_Kind, 1, .scalar⟩),
  (170, ⟨tXabi_NameOff, 4, .scalar⟩),
  (171, ⟨tXabi_TypeOff, 4, .scalar⟩),
  (174, ⟨tXstruct_Kind_int_From_int_To_int_View_int, 104, .struct [(0, 3), (1, 3), (2, 3), (3, 3), (4, 3), (5, 76), (9, 78)]⟩),
  (175, ⟨tILetter, 104, .struct [(0, 3), (1, 3), (2, 3), (3, 3), (4, 3), (5, 76), (9, 78)]⟩),
  (176, ⟨tXstruct_Key_string_Num_int_, 24, .struct [(0, 9), (1, 3)]⟩),
  (177, ⟨tICell, 24, .struct [(0, 9), (1, 3)]⟩),
  (178, ⟨tXstruct_Key_string_Had_bool_Num_int_, 32, .struct [(0, 9), (1, 4), (2, 3)]⟩),
  (179, ⟨tIUndo, 32, .struct [(0, 9), (1, 4), (2, 3)]⟩)]

theorem tok2 (E : Env) (h : E.ti = assoc tis) : TIok Tryz.prog E 2 ⟨tInt64, 8, .scalar⟩ := tiok_scalar (inf := Tryz.t2) (by kernel_rfl) rfl rfl (by kernel_rfl) (by decide) (d := .int .i64) (by kernel_rfl) rfl
theorem tok3 (E : Env) (h : E.ti = assoc tis) : TIok Tryz.prog E 3 ⟨tInt, 8, .scalar⟩ := tiok_scalar (inf := Tryz.t3) (by kernel_rfl) rfl rfl (by kernel_rfl) (by decide) (d := .int .i64) (by kernel_rfl) rfl
theorem tok4 (E : Env) (h : E.ti = assoc tis) : TIok Tryz.prog E 4 ⟨tBool, 1, .scalar⟩ := tiok_scalar (inf := Tryz.t4) (by kernel_rfl) rfl rfl (by kernel_rfl) (by decide) (d := .bool) (by kernel_rfl) rfl
theorem tok5 (E : Env) (h : E.ti = assoc tis) : TIok Tryz.prog E 5 ⟨tUint8, 1, .scalar⟩ := tiok_scalar (inf := Tryz.t5) (by kernel_rfl) rfl rfl (by kernel_rfl) (by decide) (d := .int .u8) (by kernel_rfl) rfl
theorem tok6 (E : Env) (h : E.ti = assoc tis) : TIok Tryz.prog E 6 ⟨tXabi_BoundsErrorCode, 1, .scalar⟩ := tiok_scalar (inf := Tryz.t6) (by kernel_rfl) rfl rfl (by kernel_rfl) (by decide) (d := .int .u8) (by kernel_rfl) rfl
theorem tok7 (E : Env) (h : E.ti = assoc tis) : TIok Tryz.prog E 7 ⟨tXstruct_x_int64_y_int_signed_bool_code_ab, 24, .struct [(0, 2), (1, 3), (2, 4), (3, 6)]⟩ := tiok_struct (inf := Tryz.t7) (by kernel_rfl) (by kernel_rfl) rfl (by kernel_rfl) (by decide) (by decide) rfl (fields := #[{ name := "x", type := 2, offset := 0, embedded := false, tag := "", pkgPath := "runtime", byteOffset := 0 }, { name := "y", type := 3, offset := 1, embedded := false, tag := "", pkgPath := "runtime", byteOffset := 8 }, { name := "signed", type := 4, offset := 2, embedded := false, tag := "", pkgPath := "runtime", byteOffset := 16 }, { name := "code", type := 6, offset := 3, embedded := false, tag := "", pkgPath := "runtime", byteOffset := 17 }]) (by kernel_rfl) rfl (all_cons ⟨⟨tInt64, 8, .scalar⟩, by rw [h]; kernel_rfl⟩ (all_cons ⟨⟨tInt, 8, .scalar⟩, by rw [h]; kernel_rfl⟩ (all_cons ⟨⟨tBool, 1, .scalar⟩, by rw [h]; kernel_rfl⟩ (all_cons ⟨⟨tXabi_BoundsErrorCode, 1, .scalar⟩, by rw [h]; kernel_rfl⟩ all_nil))))
theorem tok8 (E : Env) (h : E.ti = assoc tis) : TIok Tryz.prog E 8 ⟨tXruntime_boundsError, 24, .struct [(0, 2), (1, 3), (2, 4), (3, 6)]⟩ := tiok_struct (inf := Tryz.t8) (by kernel_rfl) (by kernel_rfl) rfl (by kernel_rfl) (by decide) (by decide) rfl (fields := #[{ name := "x", type := 2, offset := 0, embedded := false, tag := "", pkgPath := "runtime", byteOffset := 0 }, { name := "y", type := 3, offset := 1, embedded := false, tag := "", pkgPath := "runtime", byteOffset := 8 }, { name := "signed", type := 4, offset := 2, embedded := false, tag := "", pkgPath := "runtime", byteOffset := 16 }, { name := "code", type := 6, offset := 3, embedded := false, tag := "", pkgPath := "runtime", byteOffset := 17 }]) (by kernel_rfl) rfl (all_cons ⟨⟨tInt64, 8, .scalar⟩, by rw [h]; kernel_rfl⟩ (all_cons ⟨⟨tInt, 8, .scalar⟩, by rw [h]; kernel_rfl⟩ (all_cons ⟨⟨tBool, 1, .scalar⟩, by rw [h]; kernel_rfl⟩ (all_cons ⟨⟨tXabi_BoundsErrorCode, 1, .scalar⟩, by rw [h]; kernel_rfl⟩ all_nil))))
theorem tok9 (E : Env) (h : E.ti = assoc tis) : TIok Tryz.prog E 9 ⟨tString, 16, .scalar⟩ := tiok_scalar (inf := Tryz.t9) (by kernel_rfl) rfl rfl (by kernel_rfl) (by decide) (d := .string) (by kernel_rfl) rfl
theorem tok10 (E : Env) (h : E.ti = assoc tis) : TIok Tryz.prog E 10 ⟨tXruntime_errorString, 16, .scalar⟩ := tiok_scalar (inf := Tryz.t10) (by kernel_rfl) rfl rfl (by kernel_rfl) (by decide) (d := .string) (by kernel_rfl) rfl
theorem tok11 (E : Env) (h : E.ti = assoc tis) : TIok Tryz.prog E 11 ⟨tXruntime_plainError, 16, .scalar⟩ := tiok_scalar (inf := Tryz.t11) (by kernel_rfl) rfl rfl (by kernel_rfl) (by decide) (d := .string) (by kernel_rfl) rfl
theorem tok12 (E : Env) (h : E.ti = assoc tis) : TIok Tryz.prog E 12 ⟨tUintptr, 8, .scalar⟩ := tiok_scalar (inf := Tryz.t12) (by kernel_rfl) rfl rfl (by kernel_rfl) (by decide) (d := .int .u64) (by kernel_rfl) rfl
theorem tok13 (E : Env) (h : E.ti = assoc tis) : TIok Tryz.prog E 13 ⟨tXstruct_msg_string_addr_uintptr_, 24, .struct [(0, 9), (1, 12)]⟩ := tiok_struct (inf := Tryz.t13) (by kernel_rfl) (by kernel_rfl) rfl (by kernel_rfl) (by decide) (by decide) rfl (fields := #[{ name := "msg", type := 9, offset := 0, embedded := false, tag := "", pkgPath := "runtime", byteOffset := 0 }, { name := "addr", type := 12, offset := 1, embedded := false, tag := "", pkgPath := "runtime", byteOffset := 16 }]) (by kernel_rfl) rfl (all_cons ⟨⟨tString, 16, .scalar⟩, by rw [h]; kernel_rfl⟩ (all_cons ⟨⟨tUintptr, 8, .scalar⟩, by rw [h]; kernel_rfl⟩ all_nil))
theorem tok14 (E : Env) (h : E.ti = assoc tis) : TIok Tryz.prog E 14 ⟨tXruntime_errorAddressString, 24, .struct [(0, 9), (1, 12)]⟩ := tiok_struct (inf := Tryz.t14) (by kernel_rfl) (by kernel_rfl) rfl (by kernel_rfl) (by decide) (by decide) rfl (fields := #[{ name := "msg", type := 9, offset := 0, embedded := false, tag := "", pkgPath := "runtime", byteOffset := 0 }, { name := "addr", type := 12, offset := 1, embedded := false, tag := "", pkgPath := "runtime", byteOffset := 16 }]) (by kernel_rfl) rfl (all_cons ⟨⟨tString, 16, .scalar⟩, by rw [h]; kernel_rfl⟩ (all_cons ⟨⟨tUintptr, 8, .scalar⟩, by rw [h]; kernel_rfl⟩ all_nil))
theorem tok21 (E : Env) (h : E.ti = assoc tis) : TIok Tryz.prog E 21 ⟨tInt32, 4, .scalar⟩ := tiok_scalar (inf := Tryz.t21) (by kernel_rfl) rfl rfl (by kernel_rfl) (by decide) (d := .int .i32) (by kernel_rfl) rfl
theorem tok22 (E : Env) (h : E.ti = assoc tis) : TIok Tryz.prog E 22 ⟨tSlIEvent, 24, .slice 41⟩ := tiok_slice (ie := ⟨tIEvent, 64, .struct [(0, 3), (1, 3), (2, 3), (3, 3), (4, 39)]⟩) (inf := Tryz.t22) (by kernel_rfl) rfl rfl rfl (by decide) (by kernel_rfl) (by rw [h]; kernel_rfl)
theorem tok23 (E : Env) (h : E.ti = assoc tis) : TIok Tryz.prog E 23 ⟨tXstruct_N_int_Chain_bool_Liars_int_Events, 56, .struct [(0, 3), (1, 4), (2, 3), (3, 22), (4, 3)]⟩ := tiok_struct (inf := Tryz.t23) (by kernel_rfl) (by kernel_rfl) rfl (by kernel_rfl) (by decide) (by decide) rfl (fields := #[{ name := "N", type := 3, offset := 0, embedded := false, tag := "", pkgPath := "", byteOffset := 0 }, { name := "Chain", type := 4, offset := 1, embedded := false, tag := "", pkgPath := "", byteOffset := 8 }, { name := "Liars", type := 3, offset := 2, embedded := false, tag := "", pkgPath := "", byteOffset := 16 }, { name := "Events", type := 22, offset := 3, embedded := false, tag := "", pkgPath := "", byteOffset := 24 }, { name := "Calm", type := 3, offset := 4, embedded := false, tag := "", pkgPath := "", byteOffset := 48 }]) (by kernel_rfl) rfl (all_cons ⟨⟨tInt, 8, .scalar⟩, by rw [h]; kernel_rfl⟩ (all_cons ⟨⟨tBool, 1, .scalar⟩, by rw [h]; kernel_rfl⟩ (all_cons ⟨⟨tInt, 8, .scalar⟩, by rw [h]; kernel_rfl⟩ (all_cons ⟨⟨tSlIEvent, 24, .slice 41⟩, by rw [h]; kernel_rfl⟩ (all_cons ⟨⟨tInt, 8, .scalar⟩, by rw [h]; kernel_rfl⟩ all_nil)))))
theorem tok24 (E : Env) (h : E.ti = assoc tis) : TIok Tryz.prog E 24 ⟨tIScript, 56, .struct [(0, 3), (1, 4), (2, 3), (3, 22), (4, 3)]⟩ := tiok_struct (inf := Tryz.t24) (by kernel_rfl) (by kernel_rfl) rfl (by kernel_rfl) (by decide) (by decide) rfl (fields := #[{ name := "N", type := 3, offset := 0, embedded := false, tag := "", pkgPath := "", byteOffset := 0 }, { name := "Chain", type := 4, offset := 1, embedded := false, tag := "", pkgPath := "", byteOffset := 8 }, { name := "Liars", type := 3, offset := 2, embedded := false, tag := "", pkgPath := "", byteOffset := 16 }, { name := "Events", type := 22, offset := 3, embedded := false, tag := "", pkgPath := "", byteOffset := 24 }, { name := "Calm", type := 3, offset := 4, embedded := false, tag := "", pkgPath := "", byteOffset := 48 }]) (by kernel_rfl) rfl (all_cons ⟨⟨tInt, 8, .scalar⟩, by rw [h]; kernel_rfl⟩ (all_cons ⟨⟨tBool, 1, .scalar⟩, by rw [h]; kernel_rfl⟩ (all_cons ⟨⟨tInt, 8, .scalar⟩, by rw [h]; kernel_rfl⟩ (all_cons ⟨⟨tSlIEvent, 24, .slice 41⟩, by rw [h]; kernel_rfl⟩ (all_cons ⟨⟨tInt, 8, .scalar⟩, by rw [h]; kernel_rfl⟩ all_nil)))))
theorem tok30 (E : Env) (h : E.ti = assoc tis) : TIok Tryz.prog E 30 ⟨tSlString, 24, .slice 9⟩ := tiok_slice (ie := ⟨tString, 16, .scalar⟩) (inf := Tryz.t30) (by kernel_rfl) rfl rfl rfl (by decide) (by kernel_rfl) (by rw [h]; kernel_rfl)
theorem tok38 (E : Env) (h : E.ti = assoc tis) : TIok Tryz.prog E 38 ⟨tXstruct_Kind_int_Key_string_Num_int_, 32, .struct [(0, 3), (1, 9), (2, 3)]⟩ := tiok_struct (inf := Tryz.t38) (by kernel_rfl) (by kernel_rfl) rfl (by kernel_rfl) (by decide) (by decide) rfl (fields := #[{ name := "Kind", type := 3, offset := 0, embedded := false, tag := "", pkgPath := "", byteOffset := 0 }, { name := "Key", type := 9, offset := 1, embedded := false, tag := "", pkgPath := "", byteOffset := 8 }, { name := "Num", type := 3, offset := 2, embedded := false, tag := "", pkgPath := "", byteOffset := 24 }]) (by kernel_rfl) rfl (all_cons ⟨⟨tInt, 8, .scalar⟩, by rw [h]; kernel_rfl⟩ (all_cons ⟨⟨tString, 16, .scalar⟩, by rw [h]; kernel_rfl⟩ (all_cons ⟨⟨tInt, 8, .scalar⟩, by rw [h]; kernel_rfl⟩ all_nil)))
theorem tok39 (E : Env) (h : E.ti = assoc tis) : TIok Tryz.prog E 39 ⟨tICmd, 32, .struct [(0, 3), (1, 9), (2, 3)]⟩ := tiok_struct (inf := Tryz.t39) (by kernel_rfl) (by kernel_rfl) rfl (by kernel_rfl) (by decide) (by decide) rfl (fields := #[{ name := "Kind", type := 3, offset := 0, embedded := false, tag := "", pkgPath := "", byteOffset := 0 }, { name := "Key", type := 9, offset := 1, embedded := false, tag := "", pkgPath := "", byteOffset := 8 }, { name := "Num", type := 3, offset := 2, embedded := false, tag := "", pkgPath := "", byteOffset := 24 }]) (by kernel_rfl) rfl (all_cons ⟨⟨tInt, 8, .scalar⟩, by rw [h]; kernel_rfl⟩ (all_cons ⟨⟨tString, 16, .scalar⟩, by rw [h]; kernel_rfl⟩ (all_cons ⟨⟨tInt, 8, .scalar⟩, by rw [h]; kernel_rfl⟩ all_nil)))
theorem tok40 (E : Env) (h : E.ti = assoc tis) : TIok Tryz.prog E 40 ⟨tXstruct_Kind_int_At_int_To_int_Num_int_Cm, 64, .struct [(0, 3), (1, 3), (2, 3), (3, 3), (4, 39)]⟩ := tiok_struct (inf := Tryz.t40) (by kernel_rfl) (by kernel_rfl) rfl (by kernel_rfl) (by decide) (by decide) rfl (fields := #[{ name := "Kind", type := 3, offset := 0, embedded := false, tag := "", pkgPath := "", byteOffset := 0 }, { name := "At", type := 3, offset := 1, embedded := false, tag := "", pkgPath := "", byteOffset := 8 }, { name := "To", type := 3, offset := 2, embedded := false, tag := "", pkgPath := "", byteOffset := 16 }, { name := "Num", type := 3, offset := 3, embedded := false, tag := "", pkgPath := "", byteOffset := 24 }, { name := "Cmd", type := 39, offset := 4, embedded := false, tag := "", pkgPath := "", byteOffset := 32 }]) (by kernel_rfl) rfl (all_cons ⟨⟨tInt, 8, .scalar⟩, by rw [h]; kernel_rfl⟩ (all_cons ⟨⟨tInt, 8, .scalar⟩, by rw [h]; kernel_rfl⟩ (all_cons ⟨⟨tInt, 8, .scalar⟩, by rw [h]; kernel_rfl⟩ (all_cons ⟨⟨tInt, 8, .scalar⟩, by rw [h]; kernel_rfl⟩ (all_cons ⟨⟨tICmd, 32, .struct [(0, 3), (1, 9), (2, 3)]⟩, by rw [h]; kernel_rfl⟩ all_nil)))))
theorem tok41 (E : Env) (h : E.ti = assoc tis) : TIok Tryz.prog E 41 ⟨tIEvent, 64, .struct [(0, 3), (1, 3), (2, 3), (3, 3), (4, 39)]⟩ := tiok_struct (inf := Tryz.t41) (by kernel_rfl) (by kernel_rfl) rfl (by kernel_rfl) (by decide) (by decide) rfl (fields := #[{ name := "Kind", type := 3, offset := 0, embedded := false, tag := "", pkgPath := "", byteOffset := 0 }, { name := "At", type := 3, offset := 1, embedded := false, tag := "", pkgPath := "", byteOffset := 8 }, { name := "To", type := 3, offset := 2, embedded := false, tag := "", pkgPath := "", byteOffset := 16 }, { name := "Num", type := 3, offset := 3, embedded := false, tag := "", pkgPath := "", byteOffset := 24 }, { name := "Cmd", type := 39, offset := 4, embedded := false, tag := "", pkgPath := "", byteOffset := 32 }]) (by kernel_rfl) rfl (all_cons ⟨⟨tInt, 8, .scalar⟩, by rw [h]; kernel_rfl⟩ (all_cons ⟨⟨tInt, 8, .scalar⟩, by rw [h]; kernel_rfl⟩ (all_cons ⟨⟨tInt, 8, .scalar⟩, by rw [h]; kernel_rfl⟩ (all_cons ⟨⟨tInt, 8, .scalar⟩, by rw [h]; kernel_rfl⟩ (all_cons ⟨⟨tICmd, 32, .struct [(0, 3), (1, 9), (2, 3)]⟩, by rw [h]; kernel_rfl⟩ all_nil)))))
theorem tok47 (E : Env) (h : E.ti = assoc tis) : TIok Tryz.prog E 47 ⟨tXstruct_s_impl_Script_begun_bool_calm_boo, 64, .struct [(0, 24), (5, 4), (6, 4)]⟩ := tiok_struct (inf := Tryz.t47) (by kernel_rfl) (by kernel_rfl) rfl (by kernel_rfl) (by decide) (by decide) rfl (fields := #[{ name := "s", type := 24, offset := 0, embedded := false, tag := "", pkgPath := "loop.example/g00330/impl", byteOffset := 0 }, { name := "begun", type := 4, offset := 5, embedded := false, tag := "", pkgPath := "loop.example/g00330/impl", byteOffset := 56 }, { name := "calm", type := 4, offset := 6, embedded := false, tag := "", pkgPath := "loop.example/g00330/impl", byteOffset := 57 }]) (by kernel_rfl) rfl (all_cons ⟨⟨tIScript, 56, .struct [(0, 3), (1, 4), (2, 3), (3, 22), (4, 3)]⟩, by rw [h]; kernel_rfl⟩ (all_cons ⟨⟨tBool, 1, .scalar⟩, by rw [h]; kernel_rfl⟩ (all_cons ⟨⟨tBool, 1, .scalar⟩, by rw [h]; kernel_rfl⟩ all_nil)))
theorem tok48 (E : Env) (h : E.ti = assoc tis) : TIok Tryz.prog E 48 ⟨tIreading, 64, .struct [(0, 24), (5, 4), (6, 4)]⟩ := tiok_struct (inf := Tryz.t48) (by kernel_rfl) (by kernel_rfl) rfl (by kernel_rfl) (by decide) (by decide) rfl (fields := #[{ name := "s", type := 24, offset := 0, embedded := false, tag := "", pkgPath := "loop.example/g00330/impl", byteOffset := 0 }, { name := "begun", type := 4, offset := 5, embedded := false, tag := "", pkgPath := "loop.example/g00330/impl", byteOffset := 56 }, { name := "calm", type := 4, offset := 6, embedded := false, tag := "", pkgPath := "loop.example/g00330/impl", byteOffset := 57 }]) (by kernel_rfl) rfl (all_cons ⟨⟨tIScript, 56, .struct [(0, 3), (1, 4), (2, 3), (3, 22), (4, 3)]⟩, by rw [h]; kernel_rfl⟩ (all_cons ⟨⟨tBool, 1, .scalar⟩, by rw [h]; kernel_rfl⟩ (all_cons ⟨⟨tBool, 1, .scalar⟩, by rw [h]; kernel_rfl⟩ all_nil)))
theorem tok51 (E : Env) (h : E.ti = assoc tis) : TIok Tryz.prog E 51 ⟨tSlIBlock, 24, .slice 90⟩ := tiok_slice (ie := ⟨tIBlock, 72, .struct [(0, 3), (1, 3), (2, 55), (3, 76)]⟩) (inf := Tryz.t51) (by kernel_rfl) rfl rfl rfl (by decide) (by kernel_rfl) (by rw [h]; kernel_rfl)
theorem tok52 (E : Env) (h : E.ti = assoc tis) : TIok Tryz.prog E 52 ⟨tSlIPeer, 24, .slice 82⟩ := tiok_slice (ie := ⟨tIPeer, 264, .struct [(0, 3), (1, 3), (2, 76), (6, 76), (10, 78), (14, 68), (15, 79), (16, 68), (17, 80), (18, 54), (19, 53), (20, 3)]⟩) (inf := Tryz.t52) (by kernel_rfl) rfl rfl rfl (by decide) (by kernel_rfl) (by rw [h]; kernel_rfl)
theorem tok53 (E : Env) (h : E.ti = assoc tis) : TIok Tryz.prog E 53 ⟨tSlILetter, 24, .slice 175⟩ := tiok_slice (ie := ⟨tILetter, 104, .struct [(0, 3), (1, 3), (2, 3), (3, 3), (4, 3), (5, 76), (9, 78)]⟩) (inf := Tryz.t53) (by kernel_rfl) rfl rfl rfl (by decide) (by kernel_rfl) (by rw [h]; kernel_rfl)
theorem tok54 (E : Env) (h : E.ti = assoc tis) : TIok Tryz.prog E 54 ⟨tSlIVote, 24, .slice 78⟩ := tiok_slice (ie := ⟨tIVote, 32, .struct [(0, 3), (1, 3), (2, 3), (3, 3)]⟩) (inf := Tryz.t54) (by kernel_rfl) rfl rfl rfl (by decide) (by kernel_rfl) (by rw [h]; kernel_rfl)
theorem tok55 (E : Env) (h : E.ti = assoc tis) : TIok Tryz.prog E 55 ⟨tSlICmd, 24, .slice 39⟩ := tiok_slice (ie := ⟨tICmd, 32, .struct [(0, 3), (1, 9), (2, 3)]⟩) (inf := Tryz.t55) (by kernel_rfl) rfl rfl rfl (by decide) (by kernel_rfl) (by rw [h]; kernel_rfl)
theorem tok56 (E : Env) (h : E.ti = assoc tis) : TIok Tryz.prog E 56 ⟨tXstruct_N_int_Chain_bool_Liars_int_Tree_i, 144, .struct [(0, 3), (1, 4), (2, 3), (3, 51), (4, 52), (5, 53), (6, 54), (7, 55)]⟩ := tiok_struct (inf := Tryz.t56) (by kernel_rfl) (by kernel_rfl) rfl (by kernel_rfl) (by decide) (by decide) rfl (fields := #[{ name := "N", type := 3, offset := 0, embedded := false, tag := "", pkgPath := "", byteOffset := 0 }, { name := "Chain", type := 4, offset := 1, embedded := false, tag := "", pkgPath := "", byteOffset := 8 }, { name := "Liars", type := 3, offset := 2, embedded := false, tag := "", pkgPath := "", byteOffset := 16 }, { name := "Tree", type := 51, offset := 3, embedded := false, tag := "", pkgPath := "", byteOffset := 24 }, { name := "Peers", type := 52, offset := 4, embedded := false, tag := "", pkgPath := "", byteOffset := 48 }, { name := "Net", type := 53, offset := 5, embedded := false, tag := "", pkgPath := "", byteOffset := 72 }, { name := "Said", type := 54, offset := 6, embedded := false, tag := "", pkgPath := "", byteOffset := 96 }, { name := "Pending", type := 55, offset := 7, embedded := false, tag := "", pkgPath := "", byteOffset := 120 }]) (by kernel_rfl) rfl (all_cons ⟨⟨tInt, 8, .scalar⟩, by rw [h]; kernel_rfl⟩ (all_cons ⟨⟨tBool, 1, .scalar⟩, by rw [h]; kernel_rfl⟩ (all_cons ⟨⟨tInt, 8, .scalar⟩, by rw [h]; kernel_rfl⟩ (all_cons ⟨⟨tSlIBlock, 24, .slice 90⟩, by rw [h]; kernel_rfl⟩ (all_cons ⟨⟨tSlIPeer, 24, .slice 82⟩, by rw [h]; kernel_rfl⟩ (all_cons ⟨⟨tSlILetter, 24, .slice 175⟩, by rw [h]; kernel_rfl⟩ (all_cons ⟨⟨tSlIVote, 24, .slice 78⟩, by rw [h]; kernel_rfl⟩ (all_cons ⟨⟨tSlICmd, 24, .slice 39⟩, by rw [h]; kernel_rfl⟩ all_nil))))))))
theorem tok57 (E : Env) (h : E.ti = assoc tis) : TIok Tryz.prog E 57 ⟨tICluster, 144, .struct [(0, 3), (1, 4), (2, 3), (3, 51), (4, 52), (5, 53), (6, 54), (7, 55)]⟩ := tiok_struct (inf := Tryz.t57) (by kernel_rfl) (by kernel_rfl) rfl (by kernel_rfl) (by decide) (by decide) rfl (fields := #[{ name := "N", type := 3, offset := 0, embedded := false, tag := "", pkgPath := "", byteOffset := 0 }, { name := "Chain", type := 4, offset := 1, embedded := false, tag := "", pkgPath := "", byteOffset := 8 }, { name := "Liars", type := 3, offset := 2, embedded := false, tag := "", pkgPath := "", byteOffset := 16 }, { name := "Tree", type := 51, offset := 3, embedded := false, tag := "", pkgPath := "", byteOffset := 24 }, { name := "Peers", type := 52, offset := 4, embedded := false, tag := "", pkgPath := "", byteOffset := 48 }, { name := "Net", type := 53, offset := 5, embedded := false, tag := "", pkgPath := "", byteOffset := 72 }, { name := "Said", type := 54, offset := 6, embedded := false, tag := "", pkgPath := "", byteOffset := 96 }, { name := "Pending", type := 55, offset := 7, embedded := false, tag := "", pkgPath := "", byteOffset := 120 }]) (by kernel_rfl) rfl (all_cons ⟨⟨tInt, 8, .scalar⟩, by rw [h]; kernel_rfl⟩ (all_cons ⟨⟨tBool, 1, .scalar⟩, by rw [h]; kernel_rfl⟩ (all_cons ⟨⟨tInt, 8, .scalar⟩, by rw [h]; kernel_rfl⟩ (all_cons ⟨⟨tSlIBlock, 24, .slice 90⟩, by rw [h]; kernel_rfl⟩ (all_cons ⟨⟨tSlIPeer, 24, .slice 82⟩, by rw [h]; kernel_rfl⟩ (all_cons ⟨⟨tSlILetter, 24, .slice 175⟩, by rw [h]; kernel_rfl⟩ (all_cons ⟨⟨tSlIVote, 24, .slice 78⟩, by rw [h]; kernel_rfl⟩ (all_cons ⟨⟨tSlICmd, 24, .slice 39⟩, by rw [h]; kernel_rfl⟩ all_nil))))))))
theorem tok68 (E : Env) (h : E.ti = assoc tis) : TIok Tryz.prog E 68 ⟨tSlInt, 24, .slice 3⟩ := tiok_slice (ie := ⟨tInt, 8, .scalar⟩) (inf := Tryz.t68) (by kernel_rfl) rfl rfl rfl (by decide) (by kernel_rfl) (by rw [h]; kernel_rfl)
theorem tok72 (E : Env) (h : E.ti = assoc tis) : TIok Tryz.prog E 72 ⟨tUint, 8, .scalar⟩ := tiok_scalar (inf := Tryz.t72) (by kernel_rfl) rfl rfl (by kernel_rfl) (by decide) (d := .int .u64) (by kernel_rfl) rfl
theorem tok75 (E : Env) (h : E.ti = assoc tis) : TIok Tryz.prog E 75 ⟨tXstruct_Phase_int_View_int_Block_int_Sign, 32, .struct [(0, 3), (1, 3), (2, 3), (3, 3)]⟩ := tiok_struct (inf := Tryz.t75) (by kernel_rfl) (by kernel_rfl) rfl (by kernel_rfl) (by decide) (by decide) rfl (fields := #[{ name := "Phase", type := 3, offset := 0, embedded := false, tag := "", pkgPath := "", byteOffset := 0 }, { name := "View", type := 3, offset := 1, embedded := false, tag := "", pkgPath := "", byteOffset := 8 }, { name := "Block", type := 3, offset := 2, embedded := false, tag := "", pkgPath := "", byteOffset := 16 }, { name := "Signers", type := 3, offset := 3, embedded := false, tag := "", pkgPath := "", byteOffset := 24 }]) (by kernel_rfl) rfl (all_cons ⟨⟨tInt, 8, .scalar⟩, by rw [h]; kernel_rfl⟩ (all_cons ⟨⟨tInt, 8, .scalar⟩, by rw [h]; kernel_rfl⟩ (all_cons ⟨⟨tInt, 8, .scalar⟩, by rw [h]; kernel_rfl⟩ (all_cons ⟨⟨tInt, 8, .scalar⟩, by rw [h]; kernel_rfl⟩ all_nil))))
theorem tok76 (E : Env) (h : E.ti = assoc tis) : TIok Tryz.prog E 76 ⟨tIQc, 32, .struct [(0, 3), (1, 3), (2, 3), (3, 3)]⟩ := tiok_struct (inf := Tryz.t76) (by kernel_rfl) (by kernel_rfl) rfl (by kernel_rfl) (by decide) (by decide) rfl (fields := #[{ name := "Phase", type := 3, offset := 0, embedded := false, tag := "", pkgPath := "", byteOffset := 0 }, { name := "View", type := 3, offset := 1, embedded := false, tag := "", pkgPath := "", byteOffset := 8 }, { name := "Block", type := 3, offset := 2, embedded := false, tag := "", pkgPath := "", byteOffset := 16 }, { name := "Signers", type := 3, offset := 3, embedded := false, tag := "", pkgPath := "", byteOffset := 24 }]) (by kernel_rfl) rfl (all_cons ⟨⟨tInt, 8, .scalar⟩, by rw [h]; kernel_rfl⟩ (all_cons ⟨⟨tInt, 8, .scalar⟩, by rw [h]; kernel_rfl⟩ (all_cons ⟨⟨tInt, 8, .scalar⟩, by rw [h]; kernel_rfl⟩ (all_cons ⟨⟨tInt, 8, .scalar⟩, by rw [h]; kernel_rfl⟩ all_nil))))
theorem tok77 (E : Env) (h : E.ti = assoc tis) : TIok Tryz.prog E 77 ⟨tXstruct_Phase_int_View_int_Block_int_By_i, 32, .struct [(0, 3), (1, 3), (2, 3), (3, 3)]⟩ := tiok_struct (inf := Tryz.t77) (by kernel_rfl) (by kernel_rfl) rfl (by kernel_rfl) (by decide) (by decide) rfl (fields := #[{ name := "Phase", type := 3, offset := 0, embedded := false, tag := "", pkgPath := "", byteOffset := 0 }, { name := "View", type := 3, offset := 1, embedded := false, tag := "", pkgPath := "", byteOffset := 8 }, { name := "Block", type := 3, offset := 2, embedded := false, tag := "", pkgPath := "", byteOffset := 16 }, { name := "By", type := 3, offset := 3, embedded := false, tag := "", pkgPath := "", byteOffset := 24 }]) (by kernel_rfl) rfl (all_cons ⟨⟨tInt, 8, .scalar⟩, by rw [h]; kernel_rfl⟩ (all_cons ⟨⟨tInt, 8, .scalar⟩, by rw [h]; kernel_rfl⟩ (all_cons ⟨⟨tInt, 8, .scalar⟩, by rw [h]; kernel_rfl⟩ (all_cons ⟨⟨tInt, 8, .scalar⟩, by rw [h]; kernel_rfl⟩ all_nil))))
theorem tok78 (E : Env) (h : E.ti = assoc tis) : TIok Tryz.prog E 78 ⟨tIVote, 32, .struct [(0, 3), (1, 3), (2, 3), (3, 3)]⟩ := tiok_struct (inf := Tryz.t78) (by kernel_rfl) (by kernel_rfl) rfl (by kernel_rfl) (by decide) (by decide) rfl (fields := #[{ name := "Phase", type := 3, offset := 0, embedded := false, tag := "", pkgPath := "", byteOffset := 0 }, { name := "View", type := 3, offset := 1, embedded := false, tag := "", pkgPath := "", byteOffset := 8 }, { name := "Block", type := 3, offset := 2, embedded := false, tag := "", pkgPath := "", byteOffset := 16 }, { name := "By", type := 3, offset := 3, embedded := false, tag := "", pkgPath := "", byteOffset := 24 }]) (by kernel_rfl) rfl (all_cons ⟨⟨tInt, 8, .scalar⟩, by rw [h]; kernel_rfl⟩ (all_cons ⟨⟨tInt, 8, .scalar⟩, by rw [h]; kernel_rfl⟩ (all_cons ⟨⟨tInt, 8, .scalar⟩, by rw [h]; kernel_rfl⟩ (all_cons ⟨⟨tInt, 8, .scalar⟩, by rw [h]; kernel_rfl⟩ all_nil))))
theorem tok79 (E : Env) (h : E.ti = assoc tis) : TIok Tryz.prog E 79 ⟨tSlICell, 24, .slice 177⟩ := tiok_slice (ie := ⟨tICell, 24, .struct [(0, 9), (1, 3)]⟩) (inf := Tryz.t79) (by kernel_rfl) rfl rfl rfl (by decide) (by kernel_rfl) (by rw [h]; kernel_rfl)
theorem tok80 (E : Env) (h : E.ti = assoc tis) : TIok Tryz.prog E 80 ⟨tSlIUndo, 24, .slice 179⟩ := tiok_slice (ie := ⟨tIUndo, 32, .struct [(0, 9), (1, 4), (2, 3)]⟩) (inf := Tryz.t80) (by kernel_rfl) rfl rfl rfl (by decide) (by kernel_rfl) (by rw [h]; kernel_rfl)
theorem tok81 (E : Env) (h : E.ti = assoc tis) : TIok Tryz.prog E 81 ⟨tXstruct_Id_int_View_int_High_impl_Qc_Lock, 264, .struct [(0, 3), (1, 3), (2, 76), (6, 76), (10, 78), (14, 68), (15, 79), (16, 68), (17, 80), (18, 54), (19, 53), (20, 3)]⟩ := tiok_struct (inf := Tryz.t81) (by kernel_rfl) (by kernel_rfl) rfl (by kernel_rfl) (by decide) (by decide) rfl (fields := #[{ name := "Id", type := 3, offset := 0, embedded := false, tag := "", pkgPath := "", byteOffset := 0 }, { name := "View", type := 3, offset := 1, embedded := false, tag := "", pkgPath := "", byteOffset := 8 }, { name := "High", type := 76, offset := 2, embedded := false, tag := "", pkgPath := "", byteOffset := 16 }, { name := "Lock", type := 76, offset := 6, embedded := false, tag := "", pkgPath := "", byteOffset := 48 }, { name := "Last", type := 78, offset := 10, embedded := false, tag := "", pkgPath := "", byteOffset := 80 }, { name := "Row", type := 68, offset := 14, embedded := false, tag := "", pkgPath := "", byteOffset := 112 }, { name := "Cells", type := 79, offset := 15, embedded := false, tag := "", pkgPath := "", byteOffset := 136 }, { name := "Early", type := 68, offset := 16, embedded := false, tag := "", pkgPath := "", byteOffset := 160 }, { name := "Undos", type := 80, offset := 17, embedded := false, tag := "", pkgPath := "", byteOffset := 184 }, { name := "Votes", type := 54, offset := 18, embedded := false, tag := "", pkgPath := "", byteOffset := 208 }, { name := "News", type := 53, offset := 19, embedded := false, tag := "", pkgPath := "", byteOffset := 232 }, { name := "Shown", type := 3, offset := 20, embedded := false, tag := "", pkgPath := "", byteOffset := 256 }]) (by kernel_rfl) rfl (all_cons ⟨⟨tInt, 8, .scalar⟩, by rw [h]; kernel_rfl⟩ (all_cons ⟨⟨tInt, 8, .scalar⟩, by rw [h]; kernel_rfl⟩ (all_cons ⟨⟨tIQc, 32, .struct [(0, 3), (1, 3), (2, 3), (3, 3)]⟩, by rw [h]; kernel_rfl⟩ (all_cons ⟨⟨tIQc, 32, .struct [(0, 3), (1, 3), (2, 3), (3, 3)]⟩, by rw [h]; kernel_rfl⟩ (all_cons ⟨⟨tIVote, 32, .struct [(0, 3), (1, 3), (2, 3), (3, 3)]⟩, by rw [h]; kernel_rfl⟩ (all_cons ⟨⟨tSlInt, 24, .slice 3⟩, by rw [h]; kernel_rfl⟩ (all_cons ⟨⟨tSlICell, 24, .slice 177⟩, by rw [h]; kernel_rfl⟩ (all_cons ⟨⟨tSlInt, 24, .slice 3⟩, by rw [h]; kernel_rfl⟩ (all_cons ⟨⟨tSlIUndo, 24, .slice 179⟩, by rw [h]; kernel_rfl⟩ (all_cons ⟨⟨tSlIVote, 24, .slice 78⟩, by rw [h]; kernel_rfl⟩ (all_cons ⟨⟨tSlILetter, 24, .slice 175⟩, by rw [h]; kernel_rfl⟩ (all_cons ⟨⟨tInt, 8, .scalar⟩, by rw [h]; kernel_rfl⟩ all_nil))))))))))))
theorem tok82 (E : Env) (h : E.ti = assoc tis) : TIok Tryz.prog E 82 ⟨tIPeer, 264, .struct [(0, 3), (1, 3), (2, 76), (6, 76), (10, 78), (14, 68), (15, 79), (16, 68), (17, 80), (18, 54), (19, 53), (20, 3)]⟩ := tiok_struct (inf := Tryz.t82) (by kernel_rfl) (by kernel_rfl) rfl (by kernel_rfl) (by decide) (by decide) rfl (fields := #[{ name := "Id", type := 3, offset := 0, embedded := false, tag := "", pkgPath := "", byteOffset := 0 }, { name := "View", type := 3, offset := 1, embedded := false, tag := "", pkgPath := "", byteOffset := 8 }, { name := "High", type := 76, offset := 2, embedded := false, tag := "", pkgPath := "", byteOffset := 16 }, { name := "Lock", type := 76, offset := 6, embedded := false, tag := "", pkgPath := "", byteOffset := 48 }, { name := "Last", type := 78, offset := 10, embedded := false, tag := "", pkgPath := "", byteOffset := 80 }, { name := "Row", type := 68, offset := 14, embedded := false, tag := "", pkgPath := "", byteOffset := 112 }, { name := "Cells", type := 79, offset := 15, embedded := false, tag := "", pkgPath := "", byteOffset := 136 }, { name := "Early", type := 68, offset := 16, embedded := false, tag := "", pkgPath := "", byteOffset := 160 }, { name := "Undos", type := 80, offset := 17, embedded := false, tag := "", pkgPath := "", byteOffset := 184 }, { name := "Votes", type := 54, offset := 18, embedded := false, tag := "", pkgPath := "", byteOffset := 208 }, { name := "News", type := 53, offset := 19, embedded := false, tag := "", pkgPath := "", byteOffset := 232 }, { name := "Shown", type := 3, offset := 20, embedded := false, tag := "", pkgPath := "", byteOffset := 256 }]) (by kernel_rfl) rfl (all_cons ⟨⟨tInt, 8, .scalar⟩, by rw [h]; kernel_rfl⟩ (all_cons ⟨⟨tInt, 8, .scalar⟩, by rw [h]; kernel_rfl⟩ (all_cons ⟨⟨tIQc, 32, .struct [(0, 3), (1, 3), (2, 3), (3, 3)]⟩, by rw [h]; kernel_rfl⟩ (all_cons ⟨⟨tIQc, 32, .struct [(0, 3), (1, 3), (2, 3), (3, 3)]⟩, by rw [h]; kernel_rfl⟩ (all_cons ⟨⟨tIVote, 32, .struct [(0, 3), (1, 3), (2, 3), (3, 3)]⟩, by rw [h]; kernel_rfl⟩ (all_cons ⟨⟨tSlInt, 24, .slice 3⟩, by rw [h]; kernel_rfl⟩ (all_cons ⟨⟨tSlICell, 24, .slice 177⟩, by rw [h]; kernel_rfl⟩ (all_cons ⟨⟨tSlInt, 24, .slice 3⟩, by rw [h]; kernel_rfl⟩ (all_cons ⟨⟨tSlIUndo, 24, .slice 179⟩, by rw [h]; kernel_rfl⟩ (all_cons ⟨⟨tSlIVote, 24, .slice 78⟩, by rw [h]; kernel_rfl⟩ (all_cons ⟨⟨tSlILetter, 24, .slice 175⟩, by rw [h]; kernel_rfl⟩ (all_cons ⟨⟨tInt, 8, .scalar⟩, by rw [h]; kernel_rfl⟩ all_nil))))))))))))
theorem tok85 (E : Env) (h : E.ti = assoc tis) : TIok Tryz.prog E 85 ⟨tSlUint8, 24, .slice 5⟩ := tiok_slice (ie := ⟨tUint8, 1, .scalar⟩) (inf := Tryz.t85) (by kernel_rfl) rfl rfl rfl (by decide) (by kernel_rfl) (by rw [h]; kernel_rfl)
theorem tok89 (E : Env) (h : E.ti = assoc tis) : TIok Tryz.prog E 89 ⟨tXstruct_Parent_int_View_int_Cmds_impl_Cmd, 72, .struct [(0, 3), (1, 3), (2, 55), (3, 76)]⟩ := tiok_struct (inf := Tryz.t89) (by kernel_rfl) (by kernel_rfl) rfl (by kernel_rfl) (by decide) (by decide) rfl (fields := #[{ name := "Parent", type := 3, offset := 0, embedded := false, tag := "", pkgPath := "", byteOffset := 0 }, { name := "View", type := 3, offset := 1, embedded := false, tag := "", pkgPath := "", byteOffset := 8 }, { name := "Cmds", type := 55, offset := 2, embedded := false, tag := "", pkgPath := "", byteOffset := 16 }, { name := "Just", type := 76, offset := 3, embedded := false, tag := "", pkgPath := "", byteOffset := 40 }]) (by kernel_rfl) rfl (all_cons ⟨⟨tInt, 8, .scalar⟩, by rw [h]; kernel_rfl⟩ (all_cons ⟨⟨tInt, 8, .scalar⟩, by rw [h]; kernel_rfl⟩ (all_cons ⟨⟨tSlICmd, 24, .slice 39⟩, by rw [h]; kernel_rfl⟩ (all_cons ⟨⟨tIQc, 32, .struct [(0, 3), (1, 3), (2, 3), (3, 3)]⟩, by rw [h]; kernel_rfl⟩ all_nil))))
theorem tok90 (E : Env) (h : E.ti = assoc tis) : TIok Tryz.prog E 90 ⟨tIBlock, 72, .struct [(0, 3), (1, 3), (2, 55), (3, 76)]⟩ := tiok_struct (inf := Tryz.t90) (by kernel_rfl) (by kernel_rfl) rfl (by kernel_rfl) (by decide) (by decide) rfl (fields := #[{ name := "Parent", type := 3, offset := 0, embedded := false, tag := "", pkgPath := "", byteOffset := 0 }, { name := "View", type := 3, offset := 1, embedded := false, tag := "", pkgPath := "", byteOffset := 8 }, { name := "Cmds", type := 55, offset := 2, embedded := false, tag := "", pkgPath := "", byteOffset := 16 }, { name := "Just", type := 76, offset := 3, embedded := false, tag := "", pkgPath := "", byteOffset := 40 }]) (by kernel_rfl) rfl (all_cons ⟨⟨tInt, 8, .scalar⟩, by rw [h]; kernel_rfl⟩ (all_cons ⟨⟨tInt, 8, .scalar⟩, by rw [h]; kernel_rfl⟩ (all_cons ⟨⟨tSlICmd, 24, .slice 39⟩, by rw [h]; kernel_rfl⟩ (all_cons ⟨⟨tIQc, 32, .struct [(0, 3), (1, 3), (2, 3), (3, 3)]⟩, by rw [h]; kernel_rfl⟩ all_nil))))
theorem tok104 (E : Env) (h : E.ti = assoc tis) : TIok Tryz.prog E 104 ⟨tSlXstrings_span, 24, .slice 106⟩ := tiok_slice (ie := ⟨tXstrings_span, 16, .struct [(0, 3), (1, 3)]⟩) (inf := Tryz.t104) (by kernel_rfl) rfl rfl rfl (by decide) (by kernel_rfl) (by rw [h]; kernel_rfl)
theorem tok105 (E : Env) (h : E.ti = assoc tis) : TIok Tryz.prog E 105 ⟨tXstruct_start_int_end_int_, 16, .struct [(0, 3), (1, 3)]⟩ := tiok_struct (inf := Tryz.t105) (by kernel_rfl) (by kernel_rfl) rfl (by kernel_rfl) (by decide) (by decide) rfl (fields := #[{ name := "start", type := 3, offset := 0, embedded := false, tag := "", pkgPath := "strings", byteOffset := 0 }, { name := "end", type := 3, offset := 1, embedded := false, tag := "", pkgPath := "strings", byteOffset := 8 }]) (by kernel_rfl) rfl (all_cons ⟨⟨tInt, 8, .scalar⟩, by rw [h]; kernel_rfl⟩ (all_cons ⟨⟨tInt, 8, .scalar⟩, by rw [h]; kernel_rfl⟩ all_nil))
theorem tok106 (E : Env) (h : E.ti = assoc tis) : TIok Tryz.prog E 106 ⟨tXstrings_span, 16, .struct [(0, 3), (1, 3)]⟩ := tiok_struct (inf := Tryz.t106) (by kernel_rfl) (by kernel_rfl) rfl (by kernel_rfl) (by decide) (by decide) rfl (fields := #[{ name := "start", type := 3, offset := 0, embedded := false, tag := "", pkgPath := "strings", byteOffset := 0 }, { name := "end", type := 3, offset := 1, embedded := false, tag := "", pkgPath := "strings", byteOffset := 8 }]) (by kernel_rfl) rfl (all_cons ⟨⟨tInt, 8, .scalar⟩, by rw [h]; kernel_rfl⟩ (all_cons ⟨⟨tInt, 8, .scalar⟩, by rw [h]; kernel_rfl⟩ all_nil))
theorem tok107 (E : Env) (h : E.ti = assoc tis) : TIok Tryz.prog E 107 ⟨tUint32, 4, .scalar⟩ := tiok_scalar (inf := Tryz.t107) (by kernel_rfl) rfl rfl (by kernel_rfl) (by decide) (d := .int .u32) (by kernel_rfl) rfl
theorem tok111 (E : Env) (h : E.ti = assoc tis) : TIok Tryz.prog E 111 ⟨tXstruct_lo_uint8_hi_uint8_, 2, .struct [(0, 5), (1, 5)]⟩ := tiok_struct (inf := Tryz.t111) (by kernel_rfl) (by kernel_rfl) rfl (by kernel_rfl) (by decide) (by decide) rfl (fields := #[{ name := "lo", type := 5, offset := 0, embedded := false, tag := "", pkgPath := "unicode/utf8", byteOffset := 0 }, { name := "hi", type := 5, offset := 1, embedded := false, tag := "", pkgPath := "unicode/utf8", byteOffset := 1 }]) (by kernel_rfl) rfl (all_cons ⟨⟨tUint8, 1, .scalar⟩, by rw [h]; kernel_rfl⟩ (all_cons ⟨⟨tUint8, 1, .scalar⟩, by rw [h]; kernel_rfl⟩ all_nil))
theorem tok112 (E : Env) (h : E.ti = assoc tis) : TIok Tryz.prog E 112 ⟨tXutf8_acceptRange, 2, .struct [(0, 5), (1, 5)]⟩ := tiok_struct (inf := Tryz.t112) (by kernel_rfl) (by kernel_rfl) rfl (by kernel_rfl) (by decide) (by decide) rfl (fields := #[{ name := "lo", type := 5, offset := 0, embedded := false, tag := "", pkgPath := "unicode/utf8", byteOffset := 0 }, { name := "hi", type := 5, offset := 1, embedded := false, tag := "", pkgPath := "unicode/utf8", byteOffset := 1 }]) (by kernel_rfl) rfl (all_cons ⟨⟨tUint8, 1, .scalar⟩, by rw [h]; kernel_rfl⟩ (all_cons ⟨⟨tUint8, 1, .scalar⟩, by rw [h]; kernel_rfl⟩ all_nil))
theorem tok116 (E : Env) (h : E.ti = assoc tis) : TIok Tryz.prog E 116 ⟨tSlXunicode_Range16, 24, .slice 122⟩ := tiok_slice (ie := ⟨tXunicode_Range16, 6, .struct [(0, 120), (1, 120), (2, 120)]⟩) (inf := Tryz.t116) (by kernel_rfl) rfl rfl rfl (by decide) (by kernel_rfl) (by rw [h]; kernel_rfl)
theorem tok117 (E : Env) (h : E.ti = assoc tis) : TIok Tryz.prog E 117 ⟨tSlXunicode_Range32, 24, .slice 125⟩ := tiok_slice (ie := ⟨tXunicode_Range32, 12, .struct [(0, 107), (1, 107), (2, 107)]⟩) (inf := Tryz.t117) (by kernel_rfl) rfl rfl rfl (by decide) (by kernel_rfl) (by rw [h]; kernel_rfl)
theorem tok118 (E : Env) (h : E.ti = assoc tis) : TIok Tryz.prog E 118 ⟨tXstruct_R16_unicode_Range16_R32_unicode_R, 56, .struct [(0, 116), (1, 117), (2, 3)]⟩ := tiok_struct (inf := Tryz.t118) (by kernel_rfl) (by kernel_rfl) rfl (by kernel_rfl) (by decide) (by decide) rfl (fields := #[{ name := "R16", type := 116, offset := 0, embedded := false, tag := "", pkgPath := "", byteOffset := 0 }, { name := "R32", type := 117, offset := 1, embedded := false, tag := "", pkgPath := "", byteOffset := 24 }, { name := "LatinOffset", type := 3, offset := 2, embedded := false, tag := "", pkgPath := "", byteOffset := 48 }]) (by kernel_rfl) rfl (all_cons ⟨⟨tSlXunicode_Range16, 24, .slice 122⟩, by rw [h]; kernel_rfl⟩ (all_cons ⟨⟨tSlXunicode_Range32, 24, .slice 125⟩, by rw [h]; kernel_rfl⟩ (all_cons ⟨⟨tInt, 8, .scalar⟩, by rw [h]; kernel_rfl⟩ all_nil)))
theorem tok119 (E : Env) (h : E.ti = assoc tis) : TIok Tryz.prog E 119 ⟨tXunicode_RangeTable, 56, .struct [(0, 116), (1, 117), (2, 3)]⟩ := tiok_struct (inf := Tryz.t119) (by kernel_rfl) (by kernel_rfl) rfl (by kernel_rfl) (by decide) (by decide) rfl (fields := #[{ name := "R16", type := 116, offset := 0, embedded := false, tag := "", pkgPath := "", byteOffset := 0 }, { name := "R32", type := 117, offset := 1, embedded := false, tag := "", pkgPath := "", byteOffset := 24 }, { name := "LatinOffset", type := 3, offset := 2, embedded := false, tag := "", pkgPath := "", byteOffset := 48 }]) (by kernel_rfl) rfl (all_cons ⟨⟨tSlXunicode_Range16, 24, .slice 122⟩, by rw [h]; kernel_rfl⟩ (all_cons ⟨⟨tSlXunicode_Range32, 24, .slice 125⟩, by rw [h]; kernel_rfl⟩ (all_cons ⟨⟨tInt, 8, .scalar⟩, by rw [h]; kernel_rfl⟩ all_nil)))
theorem tok120 (E : Env) (h : E.ti = assoc tis) : TIok Tryz.prog E 120 ⟨tUint16, 2, .scalar⟩ := tiok_scalar (inf := Tryz.t120) (by kernel_rfl) rfl rfl (by kernel_rfl) (by decide) (d := .int .u16) (by kernel_rfl) rfl
theorem tok121 (E : Env) (h : E.ti = assoc tis) : TIok Tryz.prog E 121 ⟨tXstruct_Lo_uint16_Hi_uint16_Stride_uint16, 6, .struct [(0, 120), (1, 120), (2, 120)]⟩ := tiok_struct (inf := Tryz.t121) (by kernel_rfl) (by kernel_rfl) rfl (by kernel_rfl) (by decide) (by decide) rfl (fields := #[{ name := "Lo", type := 120, offset := 0, embedded := false, tag := "", pkgPath := "", byteOffset := 0 }, { name := "Hi", type := 120, offset := 1, embedded := false, tag := "", pkgPath := "", byteOffset := 2 }, { name := "Stride", type := 120, offset := 2, embedded := false, tag := "", pkgPath := "", byteOffset := 4 }]) (by kernel_rfl) rfl (all_cons ⟨⟨tUint16, 2, .scalar⟩, by rw [h]; kernel_rfl⟩ (all_cons ⟨⟨tUint16, 2, .scalar⟩, by rw [h]; kernel_rfl⟩ (all_cons ⟨⟨tUint16, 2, .scalar⟩, by rw [h]; kernel_rfl⟩ all_nil)))
theorem tok122 (E : Env) (h : E.ti = assoc tis) : TIok Tryz.prog E 122 ⟨tXunicode_Range16, 6, .struct [(0, 120), (1, 120), (2, 120)]⟩ := tiok_struct (inf := Tryz.t122) (by kernel_rfl) (by kernel_rfl) rfl (by kernel_rfl) (by decide) (by decide) rfl (fields := #[{ name := "Lo", type := 120, offset := 0, embedded := false, tag := "", pkgPath := "", byteOffset := 0 }, { name := "Hi", type := 120, offset := 1, embedded := false, tag := "", pkgPath := "", byteOffset := 2 }, { name := "Stride", type := 120, offset := 2, embedded := false, tag := "", pkgPath := "", byteOffset := 4 }]) (by kernel_rfl) rfl (all_cons ⟨⟨tUint16, 2, .scalar⟩, by rw [h]; kernel_rfl⟩ (all_cons ⟨⟨tUint16, 2, .scalar⟩, by rw [h]; kernel_rfl⟩ (all_cons ⟨⟨tUint16, 2, .scalar⟩, by rw [h]; kernel_rfl⟩ all_nil)))
theorem tok124 (E : Env) (h : E.ti = assoc tis) : TIok Tryz.prog E 124 ⟨tXstruct_Lo_uint32_Hi_uint32_Stride_uint32, 12, .struct [(0, 107), (1, 107), (2, 107)]⟩ := tiok_struct (inf := Tryz.t124) (by kernel_rfl) (by kernel_rfl) rfl (by kernel_rfl) (by decide) (by decide) rfl (fields := #[{ name := "Lo", type := 107, offset := 0, embedded := false, tag := "", pkgPath := "", byteOffset := 0 }, { name := "Hi", type := 107, offset := 1, embedded := false, tag := "", pkgPath := "", byteOffset := 4 }, { name := "Stride", type := 107, offset := 2, embedded := false, tag := "", pkgPath := "", byteOffset := 8 }]) (by kernel_rfl) rfl (all_cons ⟨⟨tUint32, 4, .scalar⟩, by rw [h]; kernel_rfl⟩ (all_cons ⟨⟨tUint32, 4, .scalar⟩, by rw [h]; kernel_rfl⟩ (all_cons ⟨⟨tUint32, 4, .scalar⟩, by rw [h]; kernel_rfl⟩ all_nil)))
theorem tok125 (E : Env) (h : E.ti = assoc tis) : TIok Tryz.prog E 125 ⟨tXunicode_Range32, 12, .struct [(0, 107), (1, 107), (2, 107)]⟩ := tiok_struct (inf := Tryz.t125) (by kernel_rfl) (by kernel_rfl) rfl (by kernel_rfl) (by decide) (by decide) rfl (fields := #[{ name := "Lo", type := 107, offset := 0, embedded := false, tag := "", pkgPath := "", byteOffset := 0 }, { name := "Hi", type := 107, offset := 1, embedded := false, tag := "", pkgPath := "", byteOffset := 4 }, { name := "Stride", type := 107, offset := 2, embedded := false, tag := "", pkgPath := "", byteOffset := 8 }]) (by kernel_rfl) rfl (all_cons ⟨⟨tUint32, 4, .scalar⟩, by rw [h]; kernel_rfl⟩ (all_cons ⟨⟨tUint32, 4, .scalar⟩, by rw [h]; kernel_rfl⟩ (all_cons ⟨⟨tUint32, 4, .scalar⟩, by rw [h]; kernel_rfl⟩ all_nil)))
theorem tok127 (E : Env) (h : E.ti = assoc tis) : TIok Tryz.prog E 127 ⟨tXstrconv_Error, 8, .scalar⟩ := tiok_scalar (inf := Tryz.t127) (by kernel_rfl) rfl rfl (by kernel_rfl) (by decide) (d := .int .i64) (by kernel_rfl) rfl
theorem tok135 (E : Env) (h : E.ti = assoc tis) : TIok Tryz.prog E 135 ⟨tUint64, 8, .scalar⟩ := tiok_scalar (inf := Tryz.t135) (by kernel_rfl) rfl rfl (by kernel_rfl) (by decide) (d := .int .u64) (by kernel_rfl) rfl
theorem tok146 (E : Env) (h : E.ti = assoc tis) : TIok Tryz.prog E 146 ⟨tXstruct_s_string_, 16, .struct [(0, 9)]⟩ := tiok_struct (inf := Tryz.t146) (by kernel_rfl) (by kernel_rfl) rfl (by kernel_rfl) (by decide) (by decide) rfl (fields := #[{ name := "s", type := 9, offset := 0, embedded := false, tag := "", pkgPath := "errors", byteOffset := 0 }]) (by kernel_rfl) rfl (all_cons ⟨⟨tString, 16, .scalar⟩, by rw [h]; kernel_rfl⟩ all_nil)
theorem tok147 (E : Env) (h : E.ti = assoc tis) : TIok Tryz.prog E 147 ⟨tXerrors_errorString, 16, .struct [(0, 9)]⟩ := tiok_struct (inf := Tryz.t147) (by kernel_rfl) (by kernel_rfl) rfl (by kernel_rfl) (by decide) (by decide) rfl (fields := #[{ name := "s", type := 9, offset := 0, embedded := false, tag := "", pkgPath := "errors", byteOffset := 0 }]) (by kernel_rfl) rfl (all_cons ⟨⟨tString, 16, .scalar⟩, by rw [h]; kernel_rfl⟩ all_nil)
theorem tok167 (E : Env) (h : E.ti = assoc tis) : TIok Tryz.prog E 167 ⟨tXabi_TFlag, 1, .scalar⟩ := tiok_scalar (inf := Tryz.t167) (by kernel_rfl) rfl rfl (by kernel_rfl) (by decide) (d := .int .u8) (by kernel_rfl) rfl
theorem tok168 (E : Env) (h : E.ti = assoc tis) : TIok Tryz.prog E 168 ⟨tXabi_Kind, 1, .scalar⟩ := tiok_scalar (inf := Tryz.t168) (by kernel_rfl) rfl rfl (by kernel_rfl) (by decide) (d := .int .u8) (by kernel_rfl) rfl
theorem tok170 (E : Env) (h : E.ti = assoc tis) : TIok Tryz.prog E 170 ⟨tXabi_NameOff, 4, .scalar⟩ := tiok_scalar (inf := Tryz.t170) (by kernel_rfl) rfl rfl (by kernel_rfl) (by decide) (d := .int .i32) (by kernel_rfl) rfl
theorem tok171 (E : Env) (h : E.ti = assoc tis) : TIok Tryz.prog E 171 ⟨tXabi_TypeOff, 4, .scalar⟩ := tiok_scalar (inf := Tryz.t171) (by kernel_rfl) rfl rfl (by kernel_rfl) (by decide) (d := .int .i32) (by kernel_rfl) rfl
theorem tok174 (E : Env) (h : E.ti = assoc tis) : TIok Tryz.prog E 174 ⟨tXstruct_Kind_int_From_int_To_int_View_int, 104, .struct [(0, 3), (1, 3), (2, 3), (3, 3), (4, 3), (5, 76), (9, 78)]⟩ := tiok_struct (inf := Tryz.t174) (by kernel_rfl) (by kernel_rfl) rfl (by kernel_rfl) (by decide) (by decide) rfl (fields := #[{ name := "Kind", type := 3, offset := 0, embedded := false, tag := "", pkgPath := "", byteOffset := 0 }, { name := "From", type := 3, offset := 1, embedded := false, tag := "", pkgPath := "", byteOffset := 8 }, { name := "To", type := 3, offset := 2, embedded := false, tag := "", pkgPath := "", byteOffset := 16 }, { name := "View", type := 3, offset := 3, embedded := false, tag := "", pkgPath := "", byteOffset := 24 }, { name := "Block", type := 3, offset := 4, embedded := false, tag := "", pkgPath := "", byteOffset := 32 }, { name := "Qc", type := 76, offset := 5, embedded := false, tag := "", pkgPath := "", byteOffset := 40 }, { name := "Vote", type := 78, offset := 9, embedded := false, tag := "", pkgPath := "", byteOffset := 72 }]) (by kernel_rfl) rfl (all_cons ⟨⟨tInt, 8, .scalar⟩, by rw [h]; kernel_rfl⟩ (all_cons ⟨⟨tInt, 8, .scalar⟩, by rw [h]; kernel_rfl⟩ (all_cons ⟨⟨tInt, 8, .scalar⟩, by rw [h]; kernel_rfl⟩ (all_cons ⟨⟨tInt, 8, .scalar⟩, by rw [h]; kernel_rfl⟩ (all_cons ⟨⟨tInt, 8, .scalar⟩, by rw [h]; kernel_rfl⟩ (all_cons ⟨⟨tIQc, 32, .struct [(0, 3), (1, 3), (2, 3), (3, 3)]⟩, by rw [h]; kernel_rfl⟩ (all_cons ⟨⟨tIVote, 32, .struct [(0, 3), (1, 3), (2, 3), (3, 3)]⟩, by rw [h]; kernel_rfl⟩ all_nil)))))))
theorem tok175 (E : Env) (h : E.ti = assoc tis) : TIok Tryz.prog E 175 ⟨tILetter, 104, .struct [(0, 3), (1, 3), (2, 3), (3, 3), (4, 3), (5, 76), (9, 78)]⟩ := tiok_struct (inf := Tryz.t175) (by kernel_rfl) (by kernel_rfl) rfl (by kernel_rfl) (by decide) (by decide) rfl (fields := #[{ name := "Kind", type := 3, offset := 0, embedded := false, tag := "", pkgPath := "", byteOffset := 0 }, { name := "From", type := 3, offset := 1, embedded := false, tag := "", pkgPath := "", byteOffset := 8 }, { name := "To", type := 3, offset := 2, embedded := false, tag := "", pkgPath := "", byteOffset := 16 }, { name := "View", type := 3, offset := 3, embedded := false, tag := "", pkgPath := "", byteOffset := 24 }, { name := "Block", type := 3, offset := 4, embedded := false, tag := "", pkgPath := "", byteOffset := 32 }, { name := "Qc", type := 76, offset := 5, embedded := false, tag := "", pkgPath := "", byteOffset := 40 }, { name := "Vote", type := 78, offset := 9, embedded := false, tag := "", pkgPath := "", byteOffset := 72 }]) (by kernel_rfl) rfl (all_cons ⟨⟨tInt, 8, .scalar⟩, by rw [h]; kernel_rfl⟩ (all_cons ⟨⟨tInt, 8, .scalar⟩, by rw [h]; kernel_rfl⟩ (all_cons ⟨⟨tInt, 8, .scalar⟩, by rw [h]; kernel_rfl⟩ (all_cons ⟨⟨tInt, 8, .scalar⟩, by rw [h]; kernel_rfl⟩ (all_cons ⟨⟨tInt, 8, .scalar⟩, by rw [h]; kernel_rfl⟩ (all_cons ⟨⟨tIQc, 32, .struct [(0, 3), (1, 3), (2, 3), (3, 3)]⟩, by rw [h]; kernel_rfl⟩ (all_cons ⟨⟨tIVote, 32, .struct [(0, 3), (1, 3), (2, 3), (3, 3)]⟩, by rw [h]; kernel_rfl⟩ all_nil)))))))
theorem tok176 (E : Env) (h : E.ti = assoc tis) : TIok Tryz.prog E 176 ⟨tXstruct_Key_string_Num_int_, 24, .struct [(0, 9), (1, 3)]⟩ := tiok_struct (inf := Tryz.t176) (by kernel_rfl) (by kernel_rfl) rfl (by kernel_rfl) (by decide) (by decide) rfl (fields := #[{ name := "Key", type := 9, offset := 0, embedded := false, tag := "", pkgPath := "", byteOffset := 0 }, { name := "Num", type := 3, offset := 1, embedded := false, tag := "", pkgPath := "", byteOffset := 16 }]) (by kernel_rfl) rfl (all_cons ⟨⟨tString, 16, .scalar⟩, by rw [h]; kernel_rfl⟩ (all_cons ⟨⟨tInt, 8, .scalar⟩, by rw [h]; kernel_rfl⟩ all_nil))
theorem tok177 (E : Env) (h : E.ti = assoc tis) : TIok Tryz.prog E 177 ⟨tICell, 24, .struct [(0, 9), (1, 3)]⟩ := tiok_struct (inf := Tryz.t177) (by kernel_rfl) (by kernel_rfl) rfl (by kernel_rfl) (by decide) (by decide) rfl (fields := #[{ name := "Key", type := 9, offset := 0, embedded := false, tag := "", pkgPath := "", byteOffset := 0 }, { name := "Num", type := 3, offset := 1, embedded := false, tag := "", pkgPath := "", byteOffset := 16 }]) (by kernel_rfl) rfl (all_cons ⟨⟨tString, 16, .scalar⟩, by rw [h]; kernel_rfl⟩ (all_cons ⟨⟨tInt, 8, .scalar⟩, by rw [h]; kernel_rfl⟩ all_nil))
theorem tok178 (E : Env) (h : E.ti = assoc tis) : TIok Tryz.prog E 178 ⟨tXstruct_Key_string_Had_bool_Num_int_, 32, .struct [(0, 9), (1, 4), (2, 3)]⟩ := tiok_struct (inf := Tryz.t178) (by kernel_rfl) (by kernel_rfl) rfl (by kernel_rfl) (by decide) (by decide) rfl (fields := #[{ name := "Key", type := 9, offset := 0, embedded := false, tag := "", pkgPath := "", byteOffset := 0 }, { name := "Had", type := 4, offset := 1, embedded := false, tag := "", pkgPath := "", byteOffset := 16 }, { name := "Num", type := 3, offset := 2, embedded := false, tag := "", pkgPath := "", byteOffset := 24 }]) (by kernel_rfl) rfl (all_cons ⟨⟨tString, 16, .scalar⟩, by rw [h]; kernel_rfl⟩ (all_cons ⟨⟨tBool, 1, .scalar⟩, by rw [h]; kernel_rfl⟩ (all_cons ⟨⟨tInt, 8, .scalar⟩, by rw [h]; kernel_rfl⟩ all_nil)))
theorem tok179 (E : Env) (h : E.ti = assoc tis) : TIok Tryz.prog E 179 ⟨tIUndo, 32, .struct [(0, 9), (1, 4), (2, 3)]⟩ := tiok_struct (inf := Tryz.t179) (by kernel_rfl) (by kernel_rfl) rfl (by kernel_rfl) (by decide) (by decide) rfl (fields := #[{ name := "Key", type := 9, offset := 0, embedded := false, tag := "", pkgPath := "", byteOffset := 0 }, { name := "Had", type := 4, offset := 1, embedded := false, tag := "", pkgPath := "", byteOffset := 16 }, { name := "Num", type := 3, offset := 2, embedded := false, tag := "", pkgPath := "", byteOffset := 24 }]) (by kernel_rfl) rfl (all_cons ⟨⟨tString, 16, .scalar⟩, by rw [h]; kernel_rfl⟩ (all_cons ⟨⟨tBool, 1, .scalar⟩, by rw [h]; kernel_rfl⟩ (all_cons ⟨⟨tInt, 8, .scalar⟩, by rw [h]; kernel_rfl⟩ all_nil)))
theorem tisOk (E : Env) (h : E.ti = assoc tis) : ∀ t i, E.ti t = some i → TIok Tryz.prog E t i := by
  rw [h]
  refine tis_ok ?_
  refine all_cons (tok2 E h) ?_
  refine all_cons (tok3 E h) ?_
  refine all_cons (tok4 E h) ?_
  refine all_cons (tok5 E h) ?_
  refine all_cons (tok6 E h) ?_
  refine all_cons (tok7 E h) ?_
  refine all_cons (tok8 E h) ?_
  refine all_cons (tok9 E h) ?_
  refine all_cons (tok10 E h) ?_
  refine all_cons (tok11 E h) ?_
  refine all_cons (tok12 E h) ?_
  refine all_cons (tok13 E h) ?_
  refine all_cons (tok14 E h) ?_
  refine all_cons (tok21 E h) ?_
  refine all_cons (tok22 E h) ?_
  refine all_cons (tok23 E h) ?_
  refine all_cons (tok24 E h) ?_
  refine all_cons (tok30 E h) ?_
  refine all_cons (tok38 E h) ?_
  refine all_cons (tok39 E h) ?_
  refine all_cons (tok40 E h) ?_
  refine all_cons (tok41 E h) ?_
  refine all_cons (tok47 E h) ?_
  refine all_cons (tok48 E h) ?_
  refine all_cons (tok51 E h) ?_
  refine all_cons (tok52 E h) ?_
  refine all_cons (tok53 E h) ?_
  refine all_cons (tok54 E h) ?_
  refine all_cons (tok55 E h) ?_
  refine all_cons (tok56 E h) ?_
  refine all_cons (tok57 E h) ?_
  refine all_cons (tok68 E h) ?_
  refine all_cons (tok72 E h) ?_
  refine all_cons (tok75 E h) ?_
  refine all_cons (tok76 E h) ?_
  refine all_cons (tok77 E h) ?_
  refine all_cons (tok78 E h) ?_
  refine all_cons (tok79 E h) ?_
  refine all_cons (tok80 E h) ?_
  refine all_cons (tok81 E h) ?_
  refine all_cons (tok82 E h) ?_
  refine all_cons (tok85 E h) ?_
  refine all_cons (tok89 E h) ?_
  refine all_cons (tok90 E h) ?_
  refine all_cons (tok104 E h) ?_
  refine all_cons (tok105 E h) ?_
  refine all_cons (tok106 E h) ?_
  refine all_cons (tok107 E h) ?_
  refine all_cons (tok111 E h) ?_
  refine all_cons (tok112 E h) ?_
  refine all_cons (tok116 E h) ?_
  refine all_cons (tok117 E h) ?_
  refine all_cons (tok118 E h) ?_
  refine all_cons (tok119 E h) ?_
  refine all_cons (tok120 E h) ?_
  refine all_cons (tok121 E h) ?_
  refine all_cons (tok122 E h) ?_
  refine all_cons (tok124 E h) ?_
  refine all_cons (tok125 E h) ?_
  refine all_cons (tok127 E h) ?_
  refine all_cons (tok135 E h) ?_
  refine all_cons (tok146 E h) ?_
  refine all_cons (tok147 E h) ?_
  refine all_cons (tok167 E h) ?_
  refine all_cons (tok168 E h) ?_
  refine all_cons (tok170 E h) ?_
  refine all_cons (tok171 E h) ?_
  refine all_cons (tok174 E h) ?_
  refine all_cons (tok175 E h) ?_
  refine all_cons (tok176 E h) ?_
  refine all_cons (tok177 E h) ?_
  refine all_cons (tok178 E h) ?_
  refine all_cons (tok179 E h) ?_
  exact all_nil

theorem eq39 : EqOk Tryz.prog 39 tICmd := eqOk 6 (by decide) (.struct (fs := [({ name := "Kind", type := 3, offset := 0, embedded := false, tag := "", pkgPath := "", byteOffset := 0 } : Field), ({ name := "Key", type := 9, offset := 1, embedded := false, tag := "", pkgPath := "", byteOffset := 8 } : Field), ({ name := "Num", type := 3, offset := 2, embedded := false, tag := "", pkgPath := "", byteOffset := 24 } : Field)]) (by kernel_rfl) (by kernel_rfl) rfl (by kernel_rfl) (.cons (f := ({ name := "Kind", type := 3, offset := 0, embedded := false, tag := "", pkgPath := "", byteOffset := 0 } : Field)) (a := tInt) rfl (by decide) ⟨Tryz.t3, by kernel_rfl, rfl⟩ ⟨TypeDesc.int IntKind.i64, by kernel_rfl, rfl⟩ rfl (.int (by kernel_rfl)) (.cons (f := ({ name := "Key", type := 9, offset := 1, embedded := false, tag := "", pkgPath := "", byteOffset := 8 } : Field)) (a := tString) rfl (by decide) ⟨Tryz.t9, by kernel_rfl, rfl⟩ ⟨TypeDesc.string, by kernel_rfl, rfl⟩ rfl (.str (by kernel_rfl)) (.cons (f := ({ name := "Num", type := 3, offset := 2, embedded := false, tag := "", pkgPath := "", byteOffset := 24 } : Field)) (a := tInt) rfl (by decide) ⟨Tryz.t3, by kernel_rfl, rfl⟩ ⟨TypeDesc.int IntKind.i64, by kernel_rfl, rfl⟩ rfl (.int (by kernel_rfl)) .nil)))) rfl (by kernel_rfl)
def eqs (t : TypeId) : Bool := [39].any (Nat.beq t)
theorem eqsOk (E : Env) (h : E.ti = assoc tis) (he : E.eqs = eqs) : ∀ t ty, E.eqs t = true → E.ty t = some ty → EqOk Tryz.prog t ty := by
  intro t ty h1 h2
  rw [he] at h1
  simp only [Env.ty, h] at h2
  unfold eqs at h1
  simp only [List.any_cons, List.any_nil, Bool.or_eq_true, Bool.or_false] at h1
  rcases h1 with h1
  · have := Nat.eq_of_beq_eq_true h1
    subst this
    have e : (Option.map (fun x => x.ty) (assoc tis 39)) = some tICmd := by kernel_rfl
    rw [e] at h2
    cases h2
    exact eq39

/-- how lists of lists are kept; whether elements are taken apart; the slots of places of variables -/
abbrev Fl : Type := Bool × Bool × List Nat
def env (u : Fl) (l : List (Nat × Con)) : Env := ⟨assoc tis, eqs, assoc l, u.1, u.2.1, fun t => u.2.2.any (Nat.beq t)⟩
theorem envOk {u : Fl} {l : List (Nat × Con)} (h : ∀ q ∈ l, ConOk Tryz.prog q.1 q.2) : EnvOk Tryz.prog (env u l) :=
  { ti := tisOk (env u l) rfl, eqs := eqsOk (env u l) rfl rfl, tbl := tbl_ok h }

def body (f : Func) : Code := f.body.getD .skip
abbrev KP : Type := List (Nat × (List Keep × List BK))

/-- a function's evaluation -/
noncomputable def finX {X : Type} (u : Fl) (l : List (Nat × Con)) (rt : List (Option Ty)) (f : Func) (s : Sh X) (args : List SV) : Ex → St → Option X :=
  fun e st => (finK (env u l) rt f.results.toList (enterL [] args).2.2 e st).bind s.un
noncomputable def evX {X : Type} (u : Fl) (l : List (Nat × Con)) (kp : KP) (rt : List (Option Ty)) (f : Func) (s : Sh X) (N : Nat) (args : List SV) : Option X :=
  ev (env u l) (Lr (env u l) kp (body f) (finX u l rt f s args) N) (body f) (startSt f.ntmps args) (finX u l rt f s args)

theorem evX_ok {X : Type} {u : Fl} {l : List (Nat × Con)} (hl : ∀ q ∈ l, ConOk Tryz.prog q.1 q.2) {kp : KP} {rt : List (Option Ty)} {s : Sh X} {n : FuncId} {f : Func} {b : Code} (hf : Tryz.prog.funcs[n]? = some f) (hb : f.body = some b) (hn : noDup (idsOf kp b) = true)
    {args : List SV} (hbx : boxesOk args kp = true) (N : Nat) {v : X} (h : evX u l kp rt f s N args = some v) : CallOk Tryz.prog n args (s.sh v).1 (s.sh v).2 := by
  have e : body f = b := by unfold body; rw [hb]; rfl
  unfold evX at h
  rw [e] at h
  refine fn_ok (rt := rt) (envOk hl) hf hb hn hbx N (fun e st he => ?_) h
  obtain ⟨r, h1, h2⟩ := Option.bind_eq_some_iff.1 he
  exact ⟨r, h1, s.ok r v h2⟩

theorem cons_nil : ∀ q ∈ ([] : List (Nat × Con)), ConOk Tryz.prog q.1 q.2 := fun _ h => by cases h
theorem cons_cons {n : Nat} {c : Con} {l : List (Nat × Con)} (h : ConOk Tryz.prog n c) (t : ∀ q ∈ l, ConOk Tryz.prog q.1 q.2) : ∀ q ∈ (n, c) :: l, ConOk Tryz.prog q.1 q.2 := fun q hq => by
  rcases List.mem_cons.1 hq with rfl | hq
  · exact h
  · exact t q hq
/-- enough rounds -/
def big : Nat := 4611686018427387904

end Go.Sx.Tryz
