/- The types of the seat. -/
import Derived.Test.YtbamlihfaobfeaaDoorM9
import Derived.Test.YtbamlihfaobfeaaDoorM8
import Derived.Test.YtbamlihfaobfeaaDoorProg
set_option linter.unusedVariables false
set_option linter.unusedSimpArgs false
set_option maxRecDepth 100000
namespace Go.Sx.Tryd
open Go Go.Sx Go.Proofs

abbrev tInt64 : Ty := .int .i64
abbrev tInt : Ty := .int .i64
abbrev tBool : Ty := .bool
abbrev tUint8 : Ty := .int .u8
abbrev tXabi_BoundsErrorCode : Ty := .int .u8
abbrev tXstruct_x_int64_y_int_signed_bool_code_ab : Ty := .pair tInt64 (.pair tInt (.pair tBool (.pair tXabi_BoundsErrorCode (.unit))))
abbrev tXruntime_boundsError : Ty := .pair tInt64 (.pair tInt (.pair tBool (.pair tXabi_BoundsErrorCode (.unit))))
abbrev tString : Ty := .str
abbrev tXruntime_errorString : Ty := .str
abbrev tXruntime_plainError : Ty := .str
abbrev tUintptr : Ty := .int .u64
abbrev tXstruct_msg_string_addr_uintptr_ : Ty := .pair tString (.pair tUintptr (.unit))
abbrev tXruntime_errorAddressString : Ty := .pair tString (.pair tUintptr (.unit))
abbrev tInt32 : Ty := .int .i32
abbrev tLCmd : Ty := .pair tInt (.pair tString (.pair tInt (.unit)))
abbrev tSlLCmd : Ty := .sl false tLCmd
abbrev uSlLCmd : Ty := .sl true tLCmd
abbrev tLQc : Ty := .pair tInt (.pair tInt (.pair tInt (.pair tInt (.unit))))
abbrev tLBlock : Ty := .pair tInt (.pair tInt (.pair tSlLCmd (.pair tLQc (.unit))))
abbrev uLBlock : Ty := .pair tInt (.pair tInt (.pair uSlLCmd (.pair tLQc (.unit))))
abbrev tSlLBlock : Ty := .sl false tLBlock
abbrev uSlLBlock : Ty := .sl true uLBlock
abbrev tSlInt : Ty := .sl false tInt
abbrev uSlInt : Ty := .sl true tInt
abbrev tICmd : Ty := .pair tInt (.pair tString (.pair tInt (.unit)))
abbrev tSlICmd : Ty := .sl false tICmd
abbrev uSlICmd : Ty := .sl true tICmd
abbrev tIQc : Ty := .pair tInt (.pair tInt (.pair tInt (.pair tInt (.unit))))
abbrev tIBlock : Ty := .pair tInt (.pair tInt (.pair tSlICmd (.pair tIQc (.unit))))
abbrev uIBlock : Ty := .pair tInt (.pair tInt (.pair uSlICmd (.pair tIQc (.unit))))
abbrev tSlIBlock : Ty := .sl false tIBlock
abbrev uSlIBlock : Ty := .sl true uIBlock
abbrev tXstruct_Phase_int_View_int_Block_int_Sign : Ty := .pair tInt (.pair tInt (.pair tInt (.pair tInt (.unit))))
abbrev tXstruct_Parent_int_View_int_Cmds_laws_Cmd : Ty := .pair tInt (.pair tInt (.pair tSlLCmd (.pair tLQc (.unit))))
abbrev uXstruct_Parent_int_View_int_Cmds_laws_Cmd : Ty := .pair tInt (.pair tInt (.pair uSlLCmd (.pair tLQc (.unit))))
abbrev tXstruct_Parent_int_View_int_Cmds_impl_Cmd : Ty := .pair tInt (.pair tInt (.pair tSlICmd (.pair tIQc (.unit))))
abbrev uXstruct_Parent_int_View_int_Cmds_impl_Cmd : Ty := .pair tInt (.pair tInt (.pair uSlICmd (.pair tIQc (.unit))))
abbrev tSlUint8 : Ty := .sl false tUint8
abbrev uSlUint8 : Ty := .sl true tUint8
abbrev tXstruct_Kind_int_Key_string_Num_int_ : Ty := .pair tInt (.pair tString (.pair tInt (.unit)))
abbrev tUint64 : Ty := .int .u64
abbrev tUint32 : Ty := .int .u32
abbrev tUint : Ty := .int .u64
abbrev tXabi_TFlag : Ty := .int .u8
abbrev tXabi_Kind : Ty := .int .u8
abbrev tXabi_NameOff : Ty := .int .i32
abbrev tXabi_TypeOff : Ty := .int .i32
abbrev DInt64 : Type := Int
abbrev DInt : Type := Int
abbrev DBool : Type := Bool
abbrev DUint8 : Type := Int
abbrev DXabi_BoundsErrorCode : Type := Int
abbrev DXstruct_x_int64_y_int_signed_bool_code_ab : Type := Int × Int × Bool × Int × Unit
abbrev DXruntime_boundsError : Type := Int × Int × Bool × Int × Unit
abbrev DString : Type := ByteArray
abbrev DXruntime_errorString : Type := ByteArray
abbrev DXruntime_plainError : Type := ByteArray
abbrev DUintptr : Type := Int
abbrev DXstruct_msg_string_addr_uintptr_ : Type := ByteArray × Int × Unit
abbrev DXruntime_errorAddressString : Type := ByteArray × Int × Unit
abbrev DInt32 : Type := Int
abbrev DLCmd : Type := Int × ByteArray × Int × Unit
abbrev DSlLCmd : Type := List DLCmd
abbrev DLQc : Type := Int × Int × Int × Int × Unit
abbrev DLBlock : Type := Int × Int × DSlLCmd × DLQc × Unit
abbrev DSlLBlock : Type := List DLBlock
abbrev DSlInt : Type := List Int
abbrev DICmd : Type := Int × ByteArray × Int × Unit
abbrev DSlICmd : Type := List DICmd
abbrev DIQc : Type := Int × Int × Int × Int × Unit
abbrev DIBlock : Type := Int × Int × DSlICmd × DIQc × Unit
abbrev DSlIBlock : Type := List DIBlock
abbrev DXstruct_Phase_int_View_int_Block_int_Sign : Type := Int × Int × Int × Int × Unit
abbrev DXstruct_Parent_int_View_int_Cmds_laws_Cmd : Type := Int × Int × DSlLCmd × DLQc × Unit
abbrev DXstruct_Parent_int_View_int_Cmds_impl_Cmd : Type := Int × Int × DSlICmd × DIQc × Unit
abbrev DSlUint8 : Type := List Int
abbrev DXstruct_Kind_int_Key_string_Num_int_ : Type := Int × ByteArray × Int × Unit
abbrev DUint64 : Type := Int
abbrev DUint32 : Type := Int
abbrev DUint : Type := Int
abbrev DXabi_TFlag : Type := Int
abbrev DXabi_Kind : Type := Int
abbrev DXabi_NameOff : Type := Int
abbrev DXabi_TypeOff : Type := Int

def tis : List (Nat × TI) := [
  (2, ⟨tInt64, 8, .scalar⟩),
  (3, ⟨tInt, 8, .scalar⟩),
  (4, ⟨tBool, 1, .scalar⟩),
  (5, ⟨tUint8, 1, .scalar⟩),
  (6, ⟨tXabi_BoundsErrorCode, 1, .scalar⟩),
  (7, ⟨tXstruct_x_int64_y_int_signed_bool_code_ab, 24, .struct [(0, 2), (1, 3), (2, 4), (3, 6)]⟩),
  (8, ⟨tXruntime_boundsError, 24, .struct [(0, 2), (1, 3), (2, 4), (3, 6)]⟩),
  (9, ⟨tString, 16, .scalar⟩),
  (10, ⟨tXruntime_errorString, 16, .scalar⟩),
  (11, ⟨tXruntime_plainError, 16, .scalar⟩),
  (12, ⟨tUintptr, 8, .scalar⟩),
  (13, ⟨tXstruct_msg_string_addr_uintptr_, 24, .struct [(0, 9), (1, 12)]⟩),
  (14, ⟨tXruntime_errorAddressString, 24, .struct [(0, 9), (1, 12)]⟩),
  (21, ⟨tInt32, 4, .scalar⟩),
  (22, ⟨tSlLBlock, 24, .slice 37⟩),
  (23, ⟨tSlInt, 24, .slice 3⟩),
  (26, ⟨tSlIBlock, 24, .slice 42⟩),
  (33, ⟨tSlLCmd, 24, .slice 55⟩),
  (34, ⟨tXstruct_Phase_int_View_int_Block_int_Sign, 32, .struct [(0, 3), (1, 3), (2, 3), (3, 3)]⟩),
  (35, ⟨tLQc, 32, .struct [(0, 3), (1, 3), (2, 3), (3, 3)]⟩),
  (36, ⟨tXstruct_Parent_int_View_int_Cmds_laws_Cmd, 72, .struct [(0, 3), (1, 3), (2, 33), (3, 35)]⟩),
  (37, ⟨tLBlock, 72, .struct [(0, 3), (1, 3), (2, 33), (3, 35)]⟩),
  (39, ⟨tSlICmd, 24, .slice 56⟩),
  (40, ⟨tIQc, 32, .struct [(0, 3), (1, 3), (2, 3), (3, 3)]⟩),
  (41, ⟨tXstruct_Parent_int_View_int_Cmds_impl_Cmd, 72, .struct [(0, 3), (1, 3), (2, 39), (3, 40)]⟩),
  (42, ⟨tIBlock, 72, .struct [(0, 3), (1, 3), (2, 39), (3, 40)]⟩),
  (48, ⟨tSlUint8, 24, .slice 5⟩),
  (54, ⟨tXstruct_Kind_int_Key_string_Num_int_, 32, .struct [(0, 3), (1, 9), (2, 3)]⟩),
  (55, ⟨tLCmd, 32, .struct [(0, 3), (1, 9), (2, 3)]⟩),
  (56, ⟨tICmd, 32, .struct [(0, 3), (1, 9), (2, 3)]⟩),
  (61, ⟨tUint64, 8, .scalar⟩),
  (69, ⟨tUint32, 4, .scalar⟩),
  (72, ⟨tUint, 8, .scalar⟩),
  (84, ⟨tXabi_TFlag, 1, .scalar⟩),
  (85, ⟨tXabi_Kind, 1, .scalar⟩),
  (88, ⟨tXabi_NameOff, 4, .scalar⟩),
  (89, ⟨tXabi_TypeOff, 4, .scalar⟩)]

theorem tok2 (E : Env) (h : E.ti = assoc tis) : TIok Tryd.prog E 2 ⟨tInt64, 8, .scalar⟩ := tiok_scalar (inf := Tryd.t2) (by kernel_rfl) rfl rfl (by kernel_rfl) (by decide) (d := .int .i64) (by kernel_rfl) rfl
theorem tok3 (E : Env) (h : E.ti = assoc tis) : TIok Tryd.prog E 3 ⟨tInt, 8, .scalar⟩ := tiok_scalar (inf := Tryd.t3) (by kernel_rfl) rfl rfl (by kernel_rfl) (by decide) (d := .int .i64) (by kernel_rfl) rfl
theorem tok4 (E : Env) (h : E.ti = assoc tis) : TIok Tryd.prog E 4 ⟨tBool, 1, .scalar⟩ := tiok_scalar (inf := Tryd.t4) (by kernel_rfl) rfl rfl (by kernel_rfl) (by decide) (d := .bool) (by kernel_rfl) rfl
theorem tok5 (E : Env) (h : E.ti = assoc tis) : TIok Tryd.prog E 5 ⟨tUint8, 1, .scalar⟩ := tiok_scalar (inf := Tryd.t5) (by kernel_rfl) rfl rfl (by kernel_rfl) (by decide) (d := .int .u8) (by kernel_rfl) rfl
theorem tok6 (E : Env) (h : E.ti = assoc tis) : TIok Tryd.prog E 6 ⟨tXabi_BoundsErrorCode, 1, .scalar⟩ := tiok_scalar (inf := Tryd.t6) (by kernel_rfl) rfl rfl (by kernel_rfl) (by decide) (d := .int .u8) (by kernel_rfl) rfl
theorem tok7 (E : Env) (h : E.ti = assoc tis) : TIok Tryd.prog E 7 ⟨tXstruct_x_int64_y_int_signed_bool_code_ab, 24, .struct [(0, 2), (1, 3), (2, 4), (3, 6)]⟩ := tiok_struct (inf := Tryd.t7) (by kernel_rfl) (by kernel_rfl) rfl (by kernel_rfl) (by decide) (by decide) rfl (fields := #[{ name := "x", type := 2, offset := 0, embedded := false, tag := "", pkgPath := "runtime", byteOffset := 0 }, { name := "y", type := 3, offset := 1, embedded := false, tag := "", pkgPath := "runtime", byteOffset := 8 }, { name := "signed", type := 4, offset := 2, embedded := false, tag := "", pkgPath := "runtime", byteOffset := 16 }, { name := "code", type := 6, offset := 3, embedded := false, tag := "", pkgPath := "runtime", byteOffset := 17 }]) (by kernel_rfl) rfl (all_cons ⟨⟨tInt64, 8, .scalar⟩, by rw [h]; kernel_rfl⟩ (all_cons ⟨⟨tInt, 8, .scalar⟩, by rw [h]; kernel_rfl⟩ (all_cons ⟨⟨tBool, 1, .scalar⟩, by rw [h]; kernel_rfl⟩ (all_cons ⟨⟨tXabi_BoundsErrorCode, 1, .scalar⟩, by rw [h]; kernel_rfl⟩ all_nil))))
theorem tok8 (E : Env) (h : E.ti = assoc tis) : TIok Tryd.prog E 8 ⟨tXruntime_boundsError, 24, .struct [(0, 2), (1, 3), (2, 4), (3, 6)]⟩ := tiok_struct (inf := Tryd.t8) (by kernel_rfl) (by kernel_rfl) rfl (by kernel_rfl) (by decide) (by decide) rfl (fields := #[{ name := "x", type := 2, offset := 0, embedded := false, tag := "", pkgPath := "runtime", byteOffset := 0 }, { name := "y", type := 3, offset := 1, embedded := false, tag := "", pkgPath := "runtime", byteOffset := 8 }, { name := "signed", type := 4, offset := 2, embedded := false, tag := "", pkgPath := "runtime", byteOffset := 16 }, { name := "code", type := 6, offset := 3, embedded := false, tag := "", pkgPath := "runtime", byteOffset := 17 }]) (by kernel_rfl) rfl (all_cons ⟨⟨tInt64, 8, .scalar⟩, by rw [h]; kernel_rfl⟩ (all_cons ⟨⟨tInt, 8, .scalar⟩, by rw [h]; kernel_rfl⟩ (all_cons ⟨⟨tBool, 1, .scalar⟩, by rw [h]; kernel_rfl⟩ (all_cons ⟨⟨tXabi_BoundsErrorCode, 1, .scalar⟩, by rw [h]; kernel_rfl⟩ all_nil))))
theorem tok9 (E : Env) (h : E.ti = assoc tis) : TIok Tryd.prog E 9 ⟨tString, 16, .scalar⟩ := tiok_scalar (inf := Tryd.t9) (by kernel_rfl) rfl rfl (by kernel_rfl) (by decide) (d := .string) (by kernel_rfl) rfl
theorem tok10 (E : Env) (h : E.ti = assoc tis) : TIok Tryd.prog E 10 ⟨tXruntime_errorString, 16, .scalar⟩ := tiok_scalar (inf := Tryd.t10) (by kernel_rfl) rfl rfl (by kernel_rfl) (by decide) (d := .string) (by kernel_rfl) rfl
theorem tok11 (E : Env) (h : E.ti = assoc tis) : TIok Tryd.prog E 11 ⟨tXruntime_plainError, 16, .scalar⟩ := tiok_scalar (inf := Tryd.t11) (by kernel_rfl) rfl rfl (by kernel_rfl) (by decide) (d := .string) (by kernel_rfl) rfl
theorem tok12 (E : Env) (h : E.ti = assoc tis) : TIok Tryd.prog E 12 ⟨tUintptr, 8, .scalar⟩ := tiok_scalar (inf := Tryd.t12) (by kernel_rfl) rfl rfl (by kernel_rfl) (by decide) (d := .int .u64) (by kernel_rfl) rfl
theorem tok13 (E : Env) (h : E.ti = assoc tis) : TIok Tryd.prog E 13 ⟨tXstruct_msg_string_addr_uintptr_, 24, .struct [(0, 9), (1, 12)]⟩ := tiok_struct (inf := Tryd.t13) (by kernel_rfl) (by kernel_rfl) rfl (by kernel_rfl) (by decide) (by decide) rfl (fields := #[{ name := "msg", type := 9, offset := 0, embedded := false, tag := "", pkgPath := "runtime", byteOffset := 0 }, { name := "addr", type := 12, offset := 1, embedded := false, tag := "", pkgPath := "runtime", byteOffset := 16 }]) (by kernel_rfl) rfl (all_cons ⟨⟨tString, 16, .scalar⟩, by rw [h]; kernel_rfl⟩ (all_cons ⟨⟨tUintptr, 8, .scalar⟩, by rw [h]; kernel_rfl⟩ all_nil))
theorem tok14 (E : Env) (h : E.ti = assoc tis) : TIok Tryd.prog E 14 ⟨tXruntime_errorAddressString, 24, .struct [(0, 9), (1, 12)]⟩ := tiok_struct (inf := Tryd.t14) (by kernel_rfl) (by kernel_rfl) rfl (by kernel_rfl) (by decide) (by decide) rfl (fields := #[{ name := "msg", type := 9, offset := 0, embedded := false, tag := "", pkgPath := "runtime", byteOffset := 0 }, { name := "addr", type := 12, offset := 1, embedded := false, tag := "", pkgPath := "runtime", byteOffset := 16 }]) (by kernel_rfl) rfl (all_cons ⟨⟨tString, 16, .scalar⟩, by rw [h]; kernel_rfl⟩ (all_cons ⟨⟨tUintptr, 8, .scalar⟩, by rw [h]; kernel_rfl⟩ all_nil))
theorem tok21 (E : Env) (h : E.ti = assoc tis) : TIok Tryd.prog E 21 ⟨tInt32, 4, .scalar⟩ := tiok_scalar (inf := Tryd.t21) (by kernel_rfl) rfl rfl (by kernel_rfl) (by decide) (d := .int .i32) (by kernel_rfl) rfl
theorem tok22 (E : Env) (h : E.ti = assoc tis) : TIok Tryd.prog E 22 ⟨tSlLBlock, 24, .slice 37⟩ := tiok_slice (ie := ⟨tLBlock, 72, .struct [(0, 3), (1, 3), (2, 33), (3, 35)]⟩) (inf := Tryd.t22) (by kernel_rfl) rfl rfl rfl (by decide) (by kernel_rfl) (by rw [h]; kernel_rfl)
theorem tok23 (E : Env) (h : E.ti = assoc tis) : TIok Tryd.prog E 23 ⟨tSlInt, 24, .slice 3⟩ := tiok_slice (ie := ⟨tInt, 8, .scalar⟩) (inf := Tryd.t23) (by kernel_rfl) rfl rfl rfl (by decide) (by kernel_rfl) (by rw [h]; kernel_rfl)
theorem tok26 (E : Env) (h : E.ti = assoc tis) : TIok Tryd.prog E 26 ⟨tSlIBlock, 24, .slice 42⟩ := tiok_slice (ie := ⟨tIBlock, 72, .struct [(0, 3), (1, 3), (2, 39), (3, 40)]⟩) (inf := Tryd.t26) (by kernel_rfl) rfl rfl rfl (by decide) (by kernel_rfl) (by rw [h]; kernel_rfl)
theorem tok33 (E : Env) (h : E.ti = assoc tis) : TIok Tryd.prog E 33 ⟨tSlLCmd, 24, .slice 55⟩ := tiok_slice (ie := ⟨tLCmd, 32, .struct [(0, 3), (1, 9), (2, 3)]⟩) (inf := Tryd.t33) (by kernel_rfl) rfl rfl rfl (by decide) (by kernel_rfl) (by rw [h]; kernel_rfl)
theorem tok34 (E : Env) (h : E.ti = assoc tis) : TIok Tryd.prog E 34 ⟨tXstruct_Phase_int_View_int_Block_int_Sign, 32, .struct [(0, 3), (1, 3), (2, 3), (3, 3)]⟩ := tiok_struct (inf := Tryd.t34) (by kernel_rfl) (by kernel_rfl) rfl (by kernel_rfl) (by decide) (by decide) rfl (fields := #[{ name := "Phase", type := 3, offset := 0, embedded := false, tag := "", pkgPath := "", byteOffset := 0 }, { name := "View", type := 3, offset := 1, embedded := false, tag := "", pkgPath := "", byteOffset := 8 }, { name := "Block", type := 3, offset := 2, embedded := false, tag := "", pkgPath := "", byteOffset := 16 }, { name := "Signers", type := 3, offset := 3, embedded := false, tag := "", pkgPath := "", byteOffset := 24 }]) (by kernel_rfl) rfl (all_cons ⟨⟨tInt, 8, .scalar⟩, by rw [h]; kernel_rfl⟩ (all_cons ⟨⟨tInt, 8, .scalar⟩, by rw [h]; kernel_rfl⟩ (all_cons ⟨⟨tInt, 8, .scalar⟩, by rw [h]; kernel_rfl⟩ (all_cons ⟨⟨tInt, 8, .scalar⟩, by rw [h]; kernel_rfl⟩ all_nil))))
theorem tok35 (E : Env) (h : E.ti = assoc tis) : TIok Tryd.prog E 35 ⟨tLQc, 32, .struct [(0, 3), (1, 3), (2, 3), (3, 3)]⟩ := tiok_struct (inf := Tryd.t35) (by kernel_rfl) (by kernel_rfl) rfl (by kernel_rfl) (by decide) (by decide) rfl (fields := #[{ name := "Phase", type := 3, offset := 0, embedded := false, tag := "", pkgPath := "", byteOffset := 0 }, { name := "View", type := 3, offset := 1, embedded := false, tag := "", pkgPath := "", byteOffset := 8 }, { name := "Block", type := 3, offset := 2, embedded := false, tag := "", pkgPath := "", byteOffset := 16 }, { name := "Signers", type := 3, offset := 3, embedded := false, tag := "", pkgPath := "", byteOffset := 24 }]) (by kernel_rfl) rfl (all_cons ⟨⟨tInt, 8, .scalar⟩, by rw [h]; kernel_rfl⟩ (all_cons ⟨⟨tInt, 8, .scalar⟩, by rw [h]; kernel_rfl⟩ (all_cons ⟨⟨tInt, 8, .scalar⟩, by rw [h]; kernel_rfl⟩ (all_cons ⟨⟨tInt, 8, .scalar⟩, by rw [h]; kernel_rfl⟩ all_nil))))
theorem tok36 (E : Env) (h : E.ti = assoc tis) : TIok Tryd.prog E 36 ⟨tXstruct_Parent_int_View_int_Cmds_laws_Cmd, 72, .struct [(0, 3), (1, 3), (2, 33), (3, 35)]⟩ := tiok_struct (inf := Tryd.t36) (by kernel_rfl) (by kernel_rfl) rfl (by kernel_rfl) (by decide) (by decide) rfl (fields := #[{ name := "Parent", type := 3, offset := 0, embedded := false, tag := "", pkgPath := "", byteOffset := 0 }, { name := "View", type := 3, offset := 1, embedded := false, tag := "", pkgPath := "", byteOffset := 8 }, { name := "Cmds", type := 33, offset := 2, embedded := false, tag := "", pkgPath := "", byteOffset := 16 }, { name := "Just", type := 35, offset := 3, embedded := false, tag := "", pkgPath := "", byteOffset := 40 }]) (by kernel_rfl) rfl (all_cons ⟨⟨tInt, 8, .scalar⟩, by rw [h]; kernel_rfl⟩ (all_cons ⟨⟨tInt, 8, .scalar⟩, by rw [h]; kernel_rfl⟩ (all_cons ⟨⟨tSlLCmd, 24, .slice 55⟩, by rw [h]; kernel_rfl⟩ (all_cons ⟨⟨tLQc, 32, .struct [(0, 3), (1, 3), (2, 3), (3, 3)]⟩, by rw [h]; kernel_rfl⟩ all_nil))))
theorem tok37 (E : Env) (h : E.ti = assoc tis) : TIok Tryd.prog E 37 ⟨tLBlock, 72, .struct [(0, 3), (1, 3), (2, 33), (3, 35)]⟩ := tiok_struct (inf := Tryd.t37) (by kernel_rfl) (by kernel_rfl) rfl (by kernel_rfl) (by decide) (by decide) rfl (fields := #[{ name := "Parent", type := 3, offset := 0, embedded := false, tag := "", pkgPath := "", byteOffset := 0 }, { name := "View", type := 3, offset := 1, embedded := false, tag := "", pkgPath := "", byteOffset := 8 }, { name := "Cmds", type := 33, offset := 2, embedded := false, tag := "", pkgPath := "", byteOffset := 16 }, { name := "Just", type := 35, offset := 3, embedded := false, tag := "", pkgPath := "", byteOffset := 40 }]) (by kernel_rfl) rfl (all_cons ⟨⟨tInt, 8, .scalar⟩, by rw [h]; kernel_rfl⟩ (all_cons ⟨⟨tInt, 8, .scalar⟩, by rw [h]; kernel_rfl⟩ (all_cons ⟨⟨tSlLCmd, 24, .slice 55⟩, by rw [h]; kernel_rfl⟩ (all_cons ⟨⟨tLQc, 32, .struct [(0, 3), (1, 3), (2, 3), (3, 3)]⟩, by rw [h]; kernel_rfl⟩ all_nil))))
theorem tok39 (E : Env) (h : E.ti = assoc tis) : TIok Tryd.prog E 39 ⟨tSlICmd, 24, .slice 56⟩ := tiok_slice (ie := ⟨tICmd, 32, .struct [(0, 3), (1, 9), (2, 3)]⟩) (inf := Tryd.t39) (by kernel_rfl) rfl rfl rfl (by decide) (by kernel_rfl) (by rw [h]; kernel_rfl)
theorem tok40 (E : Env) (h : E.ti = assoc tis) : TIok Tryd.prog E 40 ⟨tIQc, 32, .struct [(0, 3), (1, 3), (2, 3), (3, 3)]⟩ := tiok_struct (inf := Tryd.t40) (by kernel_rfl) (by kernel_rfl) rfl (by kernel_rfl) (by decide) (by decide) rfl (fields := #[{ name := "Phase", type := 3, offset := 0, embedded := false, tag := "", pkgPath := "", byteOffset := 0 }, { name := "View", type := 3, offset := 1, embedded := false, tag := "", pkgPath := "", byteOffset := 8 }, { name := "Block", type := 3, offset := 2, embedded := false, tag := "", pkgPath := "", byteOffset := 16 }, { name := "Signers", type := 3, offset := 3, embedded := false, tag := "", pkgPath := "", byteOffset := 24 }]) (by kernel_rfl) rfl (all_cons ⟨⟨tInt, 8, .scalar⟩, by rw [h]; kernel_rfl⟩ (all_cons ⟨⟨tInt, 8, .scalar⟩, by rw [h]; kernel_rfl⟩ (all_cons ⟨⟨tInt, 8, .scalar⟩, by rw [h]; kernel_rfl⟩ (all_cons ⟨⟨tInt, 8, .scalar⟩, by rw [h]; kernel_rfl⟩ all_nil))))
theorem tok41 (E : Env) (h : E.ti = assoc tis) : TIok Tryd.prog E 41 ⟨tXstruct_Parent_int_View_int_Cmds_impl_Cmd, 72, .struct [(0, 3), (1, 3), (2, 39), (3, 40)]⟩ := tiok_struct (inf := Tryd.t41) (by kernel_rfl) (by kernel_rfl) rfl (by kernel_rfl) (by decide) (by decide) rfl (fields := #[{ name := "Parent", type := 3, offset := 0, embedded := false, tag := "", pkgPath := "", byteOffset := 0 }, { name := "View", type := 3, offset := 1, embedded := false, tag := "", pkgPath := "", byteOffset := 8 }, { name := "Cmds", type := 39, offset := 2, embedded := false, tag := "", pkgPath := "", byteOffset := 16 }, { name := "Just", type := 40, offset := 3, embedded := false, tag := "", pkgPath := "", byteOffset := 40 }]) (by kernel_rfl) rfl (all_cons ⟨⟨tInt, 8, .scalar⟩, by rw [h]; kernel_rfl⟩ (all_cons ⟨⟨tInt, 8, .scalar⟩, by rw [h]; kernel_rfl⟩ (all_cons ⟨⟨tSlICmd, 24, .slice 56⟩, by rw [h]; kernel_rfl⟩ (all_cons ⟨⟨tIQc, 32, .struct [(0, 3), (1, 3), (2, 3), (3, 3)]⟩, by rw [h]; kernel_rfl⟩ all_nil))))
theorem tok42 (E : Env) (h : E.ti = assoc tis) : TIok Tryd.prog E 42 ⟨tIBlock, 72, .struct [(0, 3), (1, 3), (2, 39), (3, 40)]⟩ := tiok_struct (inf := Tryd.t42) (by kernel_rfl) (by kernel_rfl) rfl (by kernel_rfl) (by decide) (by decide) rfl (fields := #[{ name := "Parent", type := 3, offset := 0, embedded := false, tag := "", pkgPath := "", byteOffset := 0 }, { name := "View", type := 3, offset := 1, embedded := false, tag := "", pkgPath := "", byteOffset := 8 }, { name := "Cmds", type := 39, offset := 2, embedded := false, tag := "", pkgPath := "", byteOffset := 16 }, { name := "Just", type := 40, offset := 3, embedded := false, tag := "", pkgPath := "", byteOffset := 40 }]) (by kernel_rfl) rfl (all_cons ⟨⟨tInt, 8, .scalar⟩, by rw [h]; kernel_rfl⟩ (all_cons ⟨⟨tInt, 8, .scalar⟩, by rw [h]; kernel_rfl⟩ (all_cons ⟨⟨tSlICmd, 24, .slice 56⟩, by rw [h]; kernel_rfl⟩ (all_cons ⟨⟨tIQc, 32, .struct [(0, 3), (1, 3), (2, 3), (3, 3)]⟩, by rw [h]; kernel_rfl⟩ all_nil))))
theorem tok48 (E : Env) (h : E.ti = assoc tis) : TIok Tryd.prog E 48 ⟨tSlUint8, 24, .slice 5⟩ := tiok_slice (ie := ⟨tUint8, 1, .scalar⟩) (inf := Tryd.t48) (by kernel_rfl) rfl rfl rfl (by decide) (by kernel_rfl) (by rw [h]; kernel_rfl)
theorem tok54 (E : Env) (h : E.ti = assoc tis) : TIok Tryd.prog E 54 ⟨tXstruct_Kind_int_Key_string_Num_int_, 32, .struct [(0, 3), (1, 9), (2, 3)]⟩ := tiok_struct (inf := Tryd.t54) (by kernel_rfl) (by kernel_rfl) rfl (by kernel_rfl) (by decide) (by decide) rfl (fields := #[{ name := "Kind", type := 3, offset := 0, embedded := false, tag := "", pkgPath := "", byteOffset := 0 }, { name := "Key", type := 9, offset := 1, embedded := false, tag := "", pkgPath := "", byteOffset := 8 }, { name := "Num", type := 3, offset := 2, embedded := false, tag := "", pkgPath := "", byteOffset := 24 }]) (by kernel_rfl) rfl (all_cons ⟨⟨tInt, 8, .scalar⟩, by rw [h]; kernel_rfl⟩ (all_cons ⟨⟨tString, 16, .scalar⟩, by rw [h]; kernel_rfl⟩ (all_cons ⟨⟨tInt, 8, .scalar⟩, by rw [h]; kernel_rfl⟩ all_nil)))
theorem tok55 (E : Env) (h : E.ti = assoc tis) : TIok Tryd.prog E 55 ⟨tLCmd, 32, .struct [(0, 3), (1, 9), (2, 3)]⟩ := tiok_struct (inf := Tryd.t55) (by kernel_rfl) (by kernel_rfl) rfl (by kernel_rfl) (by decide) (by decide) rfl (fields := #[{ name := "Kind", type := 3, offset := 0, embedded := false, tag := "", pkgPath := "", byteOffset := 0 }, { name := "Key", type := 9, offset := 1, embedded := false, tag := "", pkgPath := "", byteOffset := 8 }, { name := "Num", type := 3, offset := 2, embedded := false, tag := "", pkgPath := "", byteOffset := 24 }]) (by kernel_rfl) rfl (all_cons ⟨⟨tInt, 8, .scalar⟩, by rw [h]; kernel_rfl⟩ (all_cons ⟨⟨tString, 16, .scalar⟩, by rw [h]; kernel_rfl⟩ (all_cons ⟨⟨tInt, 8, .scalar⟩, by rw [h]; kernel_rfl⟩ all_nil)))
theorem tok56 (E : Env) (h : E.ti = assoc tis) : TIok Tryd.prog E 56 ⟨tICmd, 32, .struct [(0, 3), (1, 9), (2, 3)]⟩ := tiok_struct (inf := Tryd.t56) (by kernel_rfl) (by kernel_rfl) rfl (by kernel_rfl) (by decide) (by decide) rfl (fields := #[{ name := "Kind", type := 3, offset := 0, embedded := false, tag := "", pkgPath := "", byteOffset := 0 }, { name := "Key", type := 9, offset := 1, embedded := false, tag := "", pkgPath := "", byteOffset := 8 }, { name := "Num", type := 3, offset := 2, embedded := false, tag := "", pkgPath := "", byteOffset := 24 }]) (by kernel_rfl) rfl (all_cons ⟨⟨tInt, 8, .scalar⟩, by rw [h]; kernel_rfl⟩ (all_cons ⟨⟨tString, 16, .scalar⟩, by rw [h]; kernel_rfl⟩ (all_cons ⟨⟨tInt, 8, .scalar⟩, by rw [h]; kernel_rfl⟩ all_nil)))
theorem tok61 (E : Env) (h : E.ti = assoc tis) : TIok Tryd.prog E 61 ⟨tUint64, 8, .scalar⟩ := tiok_scalar (inf := Tryd.t61) (by kernel_rfl) rfl rfl (by kernel_rfl) (by decide) (d := .int .u64) (by kernel_rfl) rfl
theorem tok69 (E : Env) (h : E.ti = assoc tis) : TIok Tryd.prog E 69 ⟨tUint32, 4, .scalar⟩ := tiok_scalar (inf := Tryd.t69) (by kernel_rfl) rfl rfl (by kernel_rfl) (by decide) (d := .int .u32) (by kernel_rfl) rfl
theorem tok72 (E : Env) (h : E.ti = assoc tis) : TIok Tryd.prog E 72 ⟨tUint, 8, .scalar⟩ := tiok_scalar (inf := Tryd.t72) (by kernel_rfl) rfl rfl (by kernel_rfl) (by decide) (d := .int .u64) (by kernel_rfl) rfl
theorem tok84 (E : Env) (h : E.ti = assoc tis) : TIok Tryd.prog E 84 ⟨tXabi_TFlag, 1, .scalar⟩ := tiok_scalar (inf := Tryd.t84) (by kernel_rfl) rfl rfl (by kernel_rfl) (by decide) (d := .int .u8) (by kernel_rfl) rfl
theorem tok85 (E : Env) (h : E.ti = assoc tis) : TIok Tryd.prog E 85 ⟨tXabi_Kind, 1, .scalar⟩ := tiok_scalar (inf := Tryd.t85) (by kernel_rfl) rfl rfl (by kernel_rfl) (by decide) (d := .int .u8) (by kernel_rfl) rfl
theorem tok88 (E : Env) (h : E.ti = assoc tis) : TIok Tryd.prog E 88 ⟨tXabi_NameOff, 4, .scalar⟩ := tiok_scalar (inf := Tryd.t88) (by kernel_rfl) rfl rfl (by kernel_rfl) (by decide) (d := .int .i32) (by kernel_rfl) rfl
theorem tok89 (E : Env) (h : E.ti = assoc tis) : TIok Tryd.prog E 89 ⟨tXabi_TypeOff, 4, .scalar⟩ := tiok_scalar (inf := Tryd.t89) (by kernel_rfl) rfl rfl (by kernel_rfl) (by decide) (d := .int .i32) (by kernel_rfl) rfl
theorem tisOk (E : Env) (h : E.ti = assoc tis) : ∀ t i, E.ti t = some i → TIok Tryd.prog E t i := by
  rw [h]
  refine tis_ok ?_
  refine all_cons (tok2 E h) ?_
  refine all_cons (tok3 E h) ?_
  refine all_cons (tok4 E h) ?_
  refine all_cons (tok5 E h) ?_
  refine all_cons (tok6 E h) ?_
  refine all_cons (tok7 E h) ?_
  refine all_cons (tok8 E h) ?_
  refine all_cons (tok9 E h) ?_
  refine all_cons (tok10 E h) ?_
  refine all_cons (tok11 E h) ?_
  refine all_cons (tok12 E h) ?_
  refine all_cons (tok13 E h) ?_
  refine all_cons (tok14 E h) ?_
  refine all_cons (tok21 E h) ?_
  refine all_cons (tok22 E h) ?_
  refine all_cons (tok23 E h) ?_
  refine all_cons (tok26 E h) ?_
  refine all_cons (tok33 E h) ?_
  refine all_cons (tok34 E h) ?_
  refine all_cons (tok35 E h) ?_
  refine all_cons (tok36 E h) ?_
  refine all_cons (tok37 E h) ?_
  refine all_cons (tok39 E h) ?_
  refine all_cons (tok40 E h) ?_
  refine all_cons (tok41 E h) ?_
  refine all_cons (tok42 E h) ?_
  refine all_cons (tok48 E h) ?_
  refine all_cons (tok54 E h) ?_
  refine all_cons (tok55 E h) ?_
  refine all_cons (tok56 E h) ?_
  refine all_cons (tok61 E h) ?_
  refine all_cons (tok69 E h) ?_
  refine all_cons (tok72 E h) ?_
  refine all_cons (tok84 E h) ?_
  refine all_cons (tok85 E h) ?_
  refine all_cons (tok88 E h) ?_
  refine all_cons (tok89 E h) ?_
  exact all_nil

def eqs (t : TypeId) : Bool := [].any (Nat.beq t)
theorem eqsOk (E : Env) (h : E.ti = assoc tis) (he : E.eqs = eqs) : ∀ t ty, E.eqs t = true → E.ty t = some ty → EqOk Tryd.prog t ty := by
  intro t ty h1 h2
  rw [he] at h1
  simp only [Env.ty, h] at h2
  unfold eqs at h1
  simp only [List.any_cons, List.any_nil, Bool.or_eq_true, Bool.or_false] at h1
  cases h1

/-- how lists of lists are kept; whether elements are taken apart; the slots of places of variables -/
abbrev Fl : Type := Bool × Bool × List Nat
def env (u : Fl) (l : List (Nat × Con)) : Env := ⟨assoc tis, eqs, assoc l, u.1, u.2.1, fun t => u.2.2.any (Nat.beq t)⟩
theorem envOk {u : Fl} {l : List (Nat × Con)} (h : ∀ q ∈ l, ConOk Tryd.prog q.1 q.2) : EnvOk Tryd.prog (env u l) :=
  { ti := tisOk (env u l) rfl, eqs := eqsOk (env u l) rfl rfl, tbl := tbl_ok h }

def body (f : Func) : Code := f.body.getD .skip
abbrev KP : Type := List (Nat × (List Keep × List BK))

/-- a function's evaluation -/
noncomputable def finX {X : Type} (u : Fl) (l : List (Nat × Con)) (rt : List (Option Ty)) (f : Func) (s : Sh X) (args : List SV) : Ex → St → Option X :=
  fun e st => (finK (env u l) rt f.results.toList (enterL [] args).2.2 e st).bind s.un
noncomputable def evX {X : Type} (u : Fl) (l : List (Nat × Con)) (kp : KP) (rt : List (Option Ty)) (f : Func) (s : Sh X) (N : Nat) (args : List SV) : Option X :=
  ev (env u l) (Lr (env u l) kp (body f) (finX u l rt f s args) N) (body f) (startSt f.ntmps args) (finX u l rt f s args)

theorem evX_ok {X : Type} {u : Fl} {l : List (Nat × Con)} (hl : ∀ q ∈ l, ConOk Tryd.prog q.1 q.2) {kp : KP} {rt : List (Option Ty)} {s : Sh X} {n : FuncId} {f : Func} {b : Code} (hf : Tryd.prog.funcs[n]? = some f) (hb : f.body = some b) (hn : noDup (idsOf kp b) = true)
    {args : List SV} (hbx : boxesOk args kp = true) (N : Nat) {v : X} (h : evX u l kp rt f s N args = some v) : CallOk Tryd.prog n args (s.sh v).1 (s.sh v).2 := by
  have e : body f = b := by unfold body; rw [hb]; rfl
  unfold evX at h
  rw [e] at h
  refine fn_ok (rt := rt) (envOk hl) hf hb hn hbx N (fun e st he => ?_) h
  obtain ⟨r, h1, h2⟩ := Option.bind_eq_some_iff.1 he
  rw [h1, s.ok r v h2]

theorem cons_nil : ∀ q ∈ ([] : List (Nat × Con)), ConOk Tryd.prog q.1 q.2 := fun _ h => by cases h
theorem cons_cons {n : Nat} {c : Con} {l : List (Nat × Con)} (h : ConOk Tryd.prog n c) (t : ∀ q ∈ l, ConOk Tryd.prog q.1 q.2) : ∀ q ∈ (n, c) :: l, ConOk Tryd.prog q.1 q.2 := fun q hq => by
  rcases List.mem_cons.1 hq with rfl | hq
  · exact h
  · exact t q hq
/-- enough rounds -/
def big : Nat := 4611686018427387904

end Go.Sx.Tryd
