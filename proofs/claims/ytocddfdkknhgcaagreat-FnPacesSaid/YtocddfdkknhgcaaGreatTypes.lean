/- The types of the seat. -/
import Derived.Test.YtocddfdkknhgcaaGreatM8
import Derived.Test.YtocddfdkknhgcaaGreatProg
set_option linter.unusedVariables false
set_option linter.unusedSimpArgs false
set_option maxRecDepth 100000
namespace Go.Sx.Tryz
open Go Go.Sx Go.Proofs
abbrev Za : Ty := .int .i64
abbrev Zn : Ty := .int .i64
abbrev ZE : Ty := .bool
abbrev Zuz : Ty := .int .u8
abbrev YE : Ty := .int .u8
abbrev YO : Ty := .pair Za (.pair Zn (.pair ZE (.pair YE (.unit))))
abbrev Uv : Ty := .pair Za (.pair Zn (.pair ZE (.pair YE (.unit))))
abbrev Zx : Ty := .str
abbrev Uw : Ty := .str
abbrev UR : Ty := .str
abbrev ZcM : Ty := .int .u64
abbrev Xp : Ty := .pair Zx (.pair ZcM (.unit))
abbrev X7 : Ty := .pair Zx (.pair ZcM (.unit))
abbrev ZC9 : Ty := .int .i32
abbrev Ya : Ty := .sl false Zuz
abbrev VI : Ty := .pair Zn (.pair Zx (.pair Zn (.unit)))
abbrev Yu : Ty := .sl false VI
abbrev Zxc : Ty := .sl true VI
abbrev X3 : Ty := .pair Zn (.pair Zn (.pair Zn (.pair Zn (.unit))))
abbrev YC : Ty := .pair Zn (.pair Zn (.pair Yu (.pair X3 (.unit))))
abbrev YU : Ty := .pair Zn (.pair Zn (.pair Zxc (.pair X3 (.unit))))
abbrev Zh : Ty := .sl false YC
abbrev Yq : Ty := .sl true YU
abbrev Zk : Ty := .pair Zn (.pair Zn (.pair Zn (.pair Zn (.unit))))
abbrev YP : Ty := .pair Zn (.pair Zn (.pair Zn (.pair Zn (.unit))))
abbrev ZV : Ty := .pair Zn (.pair Zn (.pair Zn (.pair Zn (.unit))))
abbrev YJ : Ty := .sl false Zn
abbrev Wz : Ty := .sl true Zn
abbrev W3 : Ty := .pair Zx (.pair Zn (.unit))
abbrev ZB : Ty := .sl false W3
abbrev Z4 : Ty := .sl true W3
abbrev W4 : Ty := .pair Zx (.pair ZE (.pair Zn (.unit)))
abbrev Yo : Ty := .sl false W4
abbrev V7 : Ty := .sl true W4
abbrev ZM : Ty := .sl false ZV
abbrev ZcN : Ty := .sl true ZV
abbrev ZD : Ty := .pair Zn (.pair Zn (.pair Zn (.pair Zn (.pair Zn (.pair X3 (.pair ZV (.unit)))))))
abbrev ZG : Ty := .sl false ZD
abbrev ZR : Ty := .sl true ZD
abbrev YQ : Ty := .pair Zn (.pair Zn (.pair X3 (.pair X3 (.pair ZV (.pair YJ (.pair ZB (.pair YJ (.pair Yo (.pair ZM (.pair ZG (.pair Zn (.unit))))))))))))
abbrev ZW : Ty := .pair Zn (.pair Zn (.pair X3 (.pair X3 (.pair ZV (.pair Wz (.pair Z4 (.pair Wz (.pair V7 (.pair ZcN (.pair ZR (.pair Zn (.unit))))))))))))
abbrev ZP : Ty := .pair Zn (.pair Zn (.pair X3 (.pair X3 (.pair ZV (.pair YJ (.pair ZB (.pair YJ (.pair Yo (.pair ZM (.pair ZG (.pair Zn (.unit))))))))))))
abbrev ZC : Ty := .pair Zn (.pair Zn (.pair X3 (.pair X3 (.pair ZV (.pair Wz (.pair Z4 (.pair Wz (.pair V7 (.pair ZcN (.pair ZR (.pair Zn (.unit))))))))))))
abbrev Zg : Ty := .pair Zn (.pair Zn (.pair Zn (.pair Zn (.pair Zn (.pair X3 (.pair ZV (.unit)))))))
abbrev YL : Ty := .sl false ZP
abbrev ZjI : Ty := .sl true ZC
abbrev YR : Ty := .pair Zn (.pair ZE (.pair Zn (.pair Zh (.pair YL (.pair ZG (.pair ZM (.pair Yu (.unit))))))))
abbrev Yx : Ty := .pair Zn (.pair ZE (.pair Zn (.pair Zh (.pair YL (.pair ZG (.pair ZM (.pair Yu (.unit))))))))
abbrev Zr : Ty := .pair Zn (.pair ZE (.pair Zn (.pair Yq (.pair ZjI (.pair ZR (.pair ZcN (.pair Zxc (.unit))))))))
abbrev Zt : Ty := .pair Zx (.pair Zn (.unit))
abbrev Zy : Ty := .pair Zx (.pair ZE (.pair Zn (.unit)))
abbrev YS : Ty := .pair Zn (.pair Zn (.pair Yu (.pair X3 (.unit))))
abbrev ZJ : Ty := .pair Zn (.pair Zn (.pair Zxc (.pair X3 (.unit))))
abbrev XQ : Ty := .pair Ya (.pair Zn (.pair Zn (.unit)))
abbrev Zv : Ty := .pair Ya (.pair Zn (.pair Zn (.unit)))
abbrev ZEQ : Ty := .int .u64
abbrev ZU : Ty := .pair Zn (.pair Zx (.pair Zn (.unit)))
abbrev YT : Ty := .pair Zn (.pair Zn (.pair Zn (.pair Zn (.pair VI (.unit)))))
abbrev Wi : Ty := .pair Zn (.pair Zn (.pair Zn (.pair Zn (.pair VI (.unit)))))
abbrev ZbE : Ty := .sl false Zx
abbrev ZuA : Ty := .sl false Wi
abbrev Y9 : Ty := .pair Zx (.pair Zn (.pair ZE (.unit)))
abbrev Xq : Ty := .pair Zx (.pair Zn (.pair ZE (.unit)))
abbrev XC : Ty := .int .u32
abbrev ZkD : Ty := .int .u8
abbrev Zqn : Ty := .int .u8
abbrev Zfl : Ty := .int .i32
abbrev Zfm : Ty := .int .i32
abbrev YZ : Type := List Int
abbrev Vc : Type := Int × ByteArray × Int × Unit
abbrev Xg : Type := List Vc
abbrev Zbm : Type := Int × Int × Int × Int × Unit
abbrev ZN : Type := Int × Int × Xg × Zbm × Unit
abbrev Zp : Type := List ZN
abbrev Ze : Type := Int × Int × Int × Int × Unit
abbrev ZX : Type := Int × Int × Int × Int × Unit
abbrev YF : Type := List Int
abbrev Yj : Type := ByteArray × Int × Unit
abbrev ZH : Type := List Yj
abbrev YW : Type := ByteArray × Bool × Int × Unit
abbrev Yv : Type := List YW
abbrev Z6 : Type := List ZX
abbrev Zs : Type := Int × Int × Int × Int × Int × Zbm × ZX × Unit
abbrev ZO : Type := List Zs
abbrev Zu : Type := Int × Int × Zbm × Zbm × ZX × YF × ZH × YF × Yv × Z6 × ZO × Int × Unit
abbrev Zq : Type := Int × Int × Zbm × Zbm × ZX × YF × ZH × YF × Yv × Z6 × ZO × Int × Unit
abbrev Zc : Type := Int × Int × Int × Int × Int × Zbm × ZX × Unit
abbrev WM : Type := List Zq
abbrev Zl : Type := Int × Bool × Int × Zp × WM × ZO × Z6 × Xg × Unit
abbrev Zf : Type := ByteArray × Int × Unit
abbrev Zi : Type := ByteArray × Bool × Int × Unit
abbrev Zm : Type := Int × Int × Xg × Zbm × Unit
abbrev ZF : Type := YZ × Int × Int × Unit
abbrev ZL : Type := Int × ByteArray × Int × Unit
abbrev WT : Type := Int × Int × Int × Int × Vc × Unit
abbrev ZuB : Type := List ByteArray
abbrev Xr : Type := ByteArray × Int × Bool × Unit
def tis : List (Nat × TI) := [
 (2, ⟨Za, 8, .scalar⟩),
 (3, ⟨Zn, 8, .scalar⟩),
 (4, ⟨ZE, 1, .scalar⟩),
 (5, ⟨Zuz, 1, .scalar⟩),
 (6, ⟨YE, 1, .scalar⟩),
 (7, ⟨YO, 24, .struct [(0, 2), (1, 3), (2, 4), (3, 6)]⟩),
 (8, ⟨Uv, 24, .struct [(0, 2), (1, 3), (2, 4), (3, 6)]⟩),
 (9, ⟨Zx, 16, .scalar⟩),
 (10, ⟨Uw, 16, .scalar⟩),
 (11, ⟨UR, 16, .scalar⟩),
 (12, ⟨ZcM, 8, .scalar⟩),
 (13, ⟨Xp, 24, .struct [(0, 9), (1, 12)]⟩),
 (14, ⟨X7, 24, .struct [(0, 9), (1, 12)]⟩),
 (21, ⟨ZC9, 4, .scalar⟩),
 (22, ⟨Ya, 24, .slice 5⟩),
 (24, ⟨Zh, 24, .slice 99⟩),
 (25, ⟨Zk, 32, .struct [(0, 3), (1, 3), (2, 3), (3, 3)]⟩),
 (26, ⟨X3, 32, .struct [(0, 3), (1, 3), (2, 3), (3, 3)]⟩),
 (27, ⟨YP, 32, .struct [(0, 3), (1, 3), (2, 3), (3, 3)]⟩),
 (28, ⟨ZV, 32, .struct [(0, 3), (1, 3), (2, 3), (3, 3)]⟩),
 (29, ⟨YJ, 24, .slice 3⟩),
 (30, ⟨ZB, 24, .slice 94⟩),
 (31, ⟨Yo, 24, .slice 97⟩),
 (32, ⟨ZM, 24, .slice 28⟩),
 (33, ⟨ZG, 24, .slice 47⟩),
 (34, ⟨YQ, 264, .struct [(0, 3), (1, 3), (2, 26), (6, 26), (10, 28), (14, 29), (15, 30), (16, 29), (17, 31), (18, 32), (19, 33), (20, 3)]⟩),
 (35, ⟨ZP, 264, .struct [(0, 3), (1, 3), (2, 26), (6, 26), (10, 28), (14, 29), (15, 30), (16, 29), (17, 31), (18, 32), (19, 33), (20, 3)]⟩),
 (46, ⟨Zg, 104, .struct [(0, 3), (1, 3), (2, 3), (3, 3), (4, 3), (5, 26), (9, 28)]⟩),
 (47, ⟨ZD, 104, .struct [(0, 3), (1, 3), (2, 3), (3, 3), (4, 3), (5, 26), (9, 28)]⟩),
 (50, ⟨YL, 24, .slice 35⟩),
 (68, ⟨Yu, 24, .slice 139⟩),
 (69, ⟨YR, 144, .struct [(0, 3), (1, 4), (2, 3), (3, 24), (4, 50), (5, 33), (6, 32), (7, 68)]⟩),
 (70, ⟨Yx, 144, .struct [(0, 3), (1, 4), (2, 3), (3, 24), (4, 50), (5, 33), (6, 32), (7, 68)]⟩),
 (93, ⟨Zt, 24, .struct [(0, 9), (1, 3)]⟩),
 (94, ⟨W3, 24, .struct [(0, 9), (1, 3)]⟩),
 (96, ⟨Zy, 32, .struct [(0, 9), (1, 4), (2, 3)]⟩),
 (97, ⟨W4, 32, .struct [(0, 9), (1, 4), (2, 3)]⟩),
 (98, ⟨YS, 72, .struct [(0, 3), (1, 3), (2, 68), (3, 26)]⟩),
 (99, ⟨YC, 72, .struct [(0, 3), (1, 3), (2, 68), (3, 26)]⟩),
 (125, ⟨XQ, 40, .struct [(0, 22), (1, 3), (2, 3)]⟩),
 (126, ⟨Zv, 40, .struct [(0, 22), (1, 3), (2, 3)]⟩),
 (127, ⟨ZEQ, 8, .scalar⟩),
 (138, ⟨ZU, 32, .struct [(0, 3), (1, 9), (2, 3)]⟩),
 (139, ⟨VI, 32, .struct [(0, 3), (1, 9), (2, 3)]⟩),
 (140, ⟨YT, 64, .struct [(0, 3), (1, 3), (2, 3), (3, 3), (4, 139)]⟩),
 (141, ⟨Wi, 64, .struct [(0, 3), (1, 3), (2, 3), (3, 3), (4, 139)]⟩),
 (184, ⟨ZbE, 24, .slice 9⟩),
 (185, ⟨ZuA, 24, .slice 141⟩),
 (224, ⟨Y9, 32, .struct [(0, 9), (1, 3), (2, 4)]⟩),
 (225, ⟨Xq, 32, .struct [(0, 9), (1, 3), (2, 4)]⟩),
 (238, ⟨XC, 4, .scalar⟩),
 (252, ⟨ZkD, 1, .scalar⟩),
 (253, ⟨Zqn, 1, .scalar⟩),
 (256, ⟨Zfl, 4, .scalar⟩),
 (257, ⟨Zfm, 4, .scalar⟩)]
theorem ZGv (E : Env) (h : E.ti = Z8 tis) : W0 Tryz.prog E 2 ⟨Za, 8, .scalar⟩ := Yz (inf := Tryz.t2) (by kernel_rfl) rfl rfl (by kernel_rfl) (by decide) (d := .int .i64) (by kernel_rfl) rfl
theorem ZGw (E : Env) (h : E.ti = Z8 tis) : W0 Tryz.prog E 3 ⟨Zn, 8, .scalar⟩ := Yz (inf := Tryz.t3) (by kernel_rfl) rfl rfl (by kernel_rfl) (by decide) (d := .int .i64) (by kernel_rfl) rfl
theorem ZGx (E : Env) (h : E.ti = Z8 tis) : W0 Tryz.prog E 4 ⟨ZE, 1, .scalar⟩ := Yz (inf := Tryz.t4) (by kernel_rfl) rfl rfl (by kernel_rfl) (by decide) (d := .bool) (by kernel_rfl) rfl
theorem ZGy (E : Env) (h : E.ti = Z8 tis) : W0 Tryz.prog E 5 ⟨Zuz, 1, .scalar⟩ := Yz (inf := Tryz.t5) (by kernel_rfl) rfl rfl (by kernel_rfl) (by decide) (d := .int .u8) (by kernel_rfl) rfl
theorem ZGz (E : Env) (h : E.ti = Z8 tis) : W0 Tryz.prog E 6 ⟨YE, 1, .scalar⟩ := Yz (inf := Tryz.t6) (by kernel_rfl) rfl rfl (by kernel_rfl) (by decide) (d := .int .u8) (by kernel_rfl) rfl
theorem ZGA (E : Env) (h : E.ti = Z8 tis) : W0 Tryz.prog E 7 ⟨YO, 24, .struct [(0, 2), (1, 3), (2, 4), (3, 6)]⟩ := ZZ (inf := Tryz.t7) (by kernel_rfl) (by kernel_rfl) rfl (by kernel_rfl) (by decide) (by decide) rfl (fields := #[{ name := "x", type := 2, offset := 0, embedded := false, tag := "", pkgPath := "runtime", byteOffset := 0 }, { name := "y", type := 3, offset := 1, embedded := false, tag := "", pkgPath := "runtime", byteOffset := 8 }, { name := "signed", type := 4, offset := 2, embedded := false, tag := "", pkgPath := "runtime", byteOffset := 16 }, { name := "code", type := 6, offset := 3, embedded := false, tag := "", pkgPath := "runtime", byteOffset := 17 }]) (by kernel_rfl) rfl (all_cons ⟨⟨Za, 8, .scalar⟩, by rw [h]; kernel_rfl⟩ (all_cons ⟨⟨Zn, 8, .scalar⟩, by rw [h]; kernel_rfl⟩ (all_cons ⟨⟨ZE, 1, .scalar⟩, by rw [h]; kernel_rfl⟩ (all_cons ⟨⟨YE, 1, .scalar⟩, by rw [h]; kernel_rfl⟩ all_nil))))
theorem ZGB (E : Env) (h : E.ti = Z8 tis) : W0 Tryz.prog E 8 ⟨Uv, 24, .struct [(0, 2), (1, 3), (2, 4), (3, 6)]⟩ := ZZ (inf := Tryz.t8) (by kernel_rfl) (by kernel_rfl) rfl (by kernel_rfl) (by decide) (by decide) rfl (fields := #[{ name := "x", type := 2, offset := 0, embedded := false, tag := "", pkgPath := "runtime", byteOffset := 0 }, { name := "y", type := 3, offset := 1, embedded := false, tag := "", pkgPath := "runtime", byteOffset := 8 }, { name := "signed", type := 4, offset := 2, embedded := false, tag := "", pkgPath := "runtime", byteOffset := 16 }, { name := "code", type := 6, offset := 3, embedded := false, tag := "", pkgPath := "runtime", byteOffset := 17 }]) (by kernel_rfl) rfl (all_cons ⟨⟨Za, 8, .scalar⟩, by rw [h]; kernel_rfl⟩ (all_cons ⟨⟨Zn, 8, .scalar⟩, by rw [h]; kernel_rfl⟩ (all_cons ⟨⟨ZE, 1, .scalar⟩, by rw [h]; kernel_rfl⟩ (all_cons ⟨⟨YE, 1, .scalar⟩, by rw [h]; kernel_rfl⟩ all_nil))))
theorem ZGC (E : Env) (h : E.ti = Z8 tis) : W0 Tryz.prog E 9 ⟨Zx, 16, .scalar⟩ := Yz (inf := Tryz.t9) (by kernel_rfl) rfl rfl (by kernel_rfl) (by decide) (d := .string) (by kernel_rfl) rfl
theorem ZFG (E : Env) (h : E.ti = Z8 tis) : W0 Tryz.prog E 10 ⟨Uw, 16, .scalar⟩ := Yz (inf := Tryz.t10) (by kernel_rfl) rfl rfl (by kernel_rfl) (by decide) (d := .string) (by kernel_rfl) rfl
theorem ZFH (E : Env) (h : E.ti = Z8 tis) : W0 Tryz.prog E 11 ⟨UR, 16, .scalar⟩ := Yz (inf := Tryz.t11) (by kernel_rfl) rfl rfl (by kernel_rfl) (by decide) (d := .string) (by kernel_rfl) rfl
theorem ZFI (E : Env) (h : E.ti = Z8 tis) : W0 Tryz.prog E 12 ⟨ZcM, 8, .scalar⟩ := Yz (inf := Tryz.t12) (by kernel_rfl) rfl rfl (by kernel_rfl) (by decide) (d := .int .u64) (by kernel_rfl) rfl
theorem ZFJ (E : Env) (h : E.ti = Z8 tis) : W0 Tryz.prog E 13 ⟨Xp, 24, .struct [(0, 9), (1, 12)]⟩ := ZZ (inf := Tryz.t13) (by kernel_rfl) (by kernel_rfl) rfl (by kernel_rfl) (by decide) (by decide) rfl (fields := #[{ name := "msg", type := 9, offset := 0, embedded := false, tag := "", pkgPath := "runtime", byteOffset := 0 }, { name := "addr", type := 12, offset := 1, embedded := false, tag := "", pkgPath := "runtime", byteOffset := 16 }]) (by kernel_rfl) rfl (all_cons ⟨⟨Zx, 16, .scalar⟩, by rw [h]; kernel_rfl⟩ (all_cons ⟨⟨ZcM, 8, .scalar⟩, by rw [h]; kernel_rfl⟩ all_nil))
theorem ZFK (E : Env) (h : E.ti = Z8 tis) : W0 Tryz.prog E 14 ⟨X7, 24, .struct [(0, 9), (1, 12)]⟩ := ZZ (inf := Tryz.t14) (by kernel_rfl) (by kernel_rfl) rfl (by kernel_rfl) (by decide) (by decide) rfl (fields := #[{ name := "msg", type := 9, offset := 0, embedded := false, tag := "", pkgPath := "runtime", byteOffset := 0 }, { name := "addr", type := 12, offset := 1, embedded := false, tag := "", pkgPath := "runtime", byteOffset := 16 }]) (by kernel_rfl) rfl (all_cons ⟨⟨Zx, 16, .scalar⟩, by rw [h]; kernel_rfl⟩ (all_cons ⟨⟨ZcM, 8, .scalar⟩, by rw [h]; kernel_rfl⟩ all_nil))
theorem ZFL (E : Env) (h : E.ti = Z8 tis) : W0 Tryz.prog E 21 ⟨ZC9, 4, .scalar⟩ := Yz (inf := Tryz.t21) (by kernel_rfl) rfl rfl (by kernel_rfl) (by decide) (d := .int .i32) (by kernel_rfl) rfl
theorem ZFM (E : Env) (h : E.ti = Z8 tis) : W0 Tryz.prog E 22 ⟨Ya, 24, .slice 5⟩ := XB (ie := ⟨Zuz, 1, .scalar⟩) (inf := Tryz.t22) (by kernel_rfl) rfl rfl rfl (by decide) (by kernel_rfl) (by rw [h]; kernel_rfl)
theorem ZFN (E : Env) (h : E.ti = Z8 tis) : W0 Tryz.prog E 24 ⟨Zh, 24, .slice 99⟩ := XB (ie := ⟨YC, 72, .struct [(0, 3), (1, 3), (2, 68), (3, 26)]⟩) (inf := Tryz.t24) (by kernel_rfl) rfl rfl rfl (by decide) (by kernel_rfl) (by rw [h]; kernel_rfl)
theorem ZFO (E : Env) (h : E.ti = Z8 tis) : W0 Tryz.prog E 25 ⟨Zk, 32, .struct [(0, 3), (1, 3), (2, 3), (3, 3)]⟩ := ZZ (inf := Tryz.t25) (by kernel_rfl) (by kernel_rfl) rfl (by kernel_rfl) (by decide) (by decide) rfl (fields := #[{ name := "Phase", type := 3, offset := 0, embedded := false, tag := "", pkgPath := "", byteOffset := 0 }, { name := "View", type := 3, offset := 1, embedded := false, tag := "", pkgPath := "", byteOffset := 8 }, { name := "Block", type := 3, offset := 2, embedded := false, tag := "", pkgPath := "", byteOffset := 16 }, { name := "Signers", type := 3, offset := 3, embedded := false, tag := "", pkgPath := "", byteOffset := 24 }]) (by kernel_rfl) rfl (all_cons ⟨⟨Zn, 8, .scalar⟩, by rw [h]; kernel_rfl⟩ (all_cons ⟨⟨Zn, 8, .scalar⟩, by rw [h]; kernel_rfl⟩ (all_cons ⟨⟨Zn, 8, .scalar⟩, by rw [h]; kernel_rfl⟩ (all_cons ⟨⟨Zn, 8, .scalar⟩, by rw [h]; kernel_rfl⟩ all_nil))))
theorem ZFP (E : Env) (h : E.ti = Z8 tis) : W0 Tryz.prog E 26 ⟨X3, 32, .struct [(0, 3), (1, 3), (2, 3), (3, 3)]⟩ := ZZ (inf := Tryz.t26) (by kernel_rfl) (by kernel_rfl) rfl (by kernel_rfl) (by decide) (by decide) rfl (fields := #[{ name := "Phase", type := 3, offset := 0, embedded := false, tag := "", pkgPath := "", byteOffset := 0 }, { name := "View", type := 3, offset := 1, embedded := false, tag := "", pkgPath := "", byteOffset := 8 }, { name := "Block", type := 3, offset := 2, embedded := false, tag := "", pkgPath := "", byteOffset := 16 }, { name := "Signers", type := 3, offset := 3, embedded := false, tag := "", pkgPath := "", byteOffset := 24 }]) (by kernel_rfl) rfl (all_cons ⟨⟨Zn, 8, .scalar⟩, by rw [h]; kernel_rfl⟩ (all_cons ⟨⟨Zn, 8, .scalar⟩, by rw [h]; kernel_rfl⟩ (all_cons ⟨⟨Zn, 8, .scalar⟩, by rw [h]; kernel_rfl⟩ (all_cons ⟨⟨Zn, 8, .scalar⟩, by rw [h]; kernel_rfl⟩ all_nil))))
theorem ZFQ (E : Env) (h : E.ti = Z8 tis) : W0 Tryz.prog E 27 ⟨YP, 32, .struct [(0, 3), (1, 3), (2, 3), (3, 3)]⟩ := ZZ (inf := Tryz.t27) (by kernel_rfl) (by kernel_rfl) rfl (by kernel_rfl) (by decide) (by decide) rfl (fields := #[{ name := "Phase", type := 3, offset := 0, embedded := false, tag := "", pkgPath := "", byteOffset := 0 }, { name := "View", type := 3, offset := 1, embedded := false, tag := "", pkgPath := "", byteOffset := 8 }, { name := "Block", type := 3, offset := 2, embedded := false, tag := "", pkgPath := "", byteOffset := 16 }, { name := "By", type := 3, offset := 3, embedded := false, tag := "", pkgPath := "", byteOffset := 24 }]) (by kernel_rfl) rfl (all_cons ⟨⟨Zn, 8, .scalar⟩, by rw [h]; kernel_rfl⟩ (all_cons ⟨⟨Zn, 8, .scalar⟩, by rw [h]; kernel_rfl⟩ (all_cons ⟨⟨Zn, 8, .scalar⟩, by rw [h]; kernel_rfl⟩ (all_cons ⟨⟨Zn, 8, .scalar⟩, by rw [h]; kernel_rfl⟩ all_nil))))
theorem ZFR (E : Env) (h : E.ti = Z8 tis) : W0 Tryz.prog E 28 ⟨ZV, 32, .struct [(0, 3), (1, 3), (2, 3), (3, 3)]⟩ := ZZ (inf := Tryz.t28) (by kernel_rfl) (by kernel_rfl) rfl (by kernel_rfl) (by decide) (by decide) rfl (fields := #[{ name := "Phase", type := 3, offset := 0, embedded := false, tag := "", pkgPath := "", byteOffset := 0 }, { name := "View", type := 3, offset := 1, embedded := false, tag := "", pkgPath := "", byteOffset := 8 }, { name := "Block", type := 3, offset := 2, embedded := false, tag := "", pkgPath := "", byteOffset := 16 }, { name := "By", type := 3, offset := 3, embedded := false, tag := "", pkgPath := "", byteOffset := 24 }]) (by kernel_rfl) rfl (all_cons ⟨⟨Zn, 8, .scalar⟩, by rw [h]; kernel_rfl⟩ (all_cons ⟨⟨Zn, 8, .scalar⟩, by rw [h]; kernel_rfl⟩ (all_cons ⟨⟨Zn, 8, .scalar⟩, by rw [h]; kernel_rfl⟩ (all_cons ⟨⟨Zn, 8, .scalar⟩, by rw [h]; kernel_rfl⟩ all_nil))))
theorem ZFS (E : Env) (h : E.ti = Z8 tis) : W0 Tryz.prog E 29 ⟨YJ, 24, .slice 3⟩ := XB (ie := ⟨Zn, 8, .scalar⟩) (inf := Tryz.t29) (by kernel_rfl) rfl rfl rfl (by decide) (by kernel_rfl) (by rw [h]; kernel_rfl)
theorem ZFT (E : Env) (h : E.ti = Z8 tis) : W0 Tryz.prog E 30 ⟨ZB, 24, .slice 94⟩ := XB (ie := ⟨W3, 24, .struct [(0, 9), (1, 3)]⟩) (inf := Tryz.t30) (by kernel_rfl) rfl rfl rfl (by decide) (by kernel_rfl) (by rw [h]; kernel_rfl)
theorem ZFU (E : Env) (h : E.ti = Z8 tis) : W0 Tryz.prog E 31 ⟨Yo, 24, .slice 97⟩ := XB (ie := ⟨W4, 32, .struct [(0, 9), (1, 4), (2, 3)]⟩) (inf := Tryz.t31) (by kernel_rfl) rfl rfl rfl (by decide) (by kernel_rfl) (by rw [h]; kernel_rfl)
theorem ZFV (E : Env) (h : E.ti = Z8 tis) : W0 Tryz.prog E 32 ⟨ZM, 24, .slice 28⟩ := XB (ie := ⟨ZV, 32, .struct [(0, 3), (1, 3), (2, 3), (3, 3)]⟩) (inf := Tryz.t32) (by kernel_rfl) rfl rfl rfl (by decide) (by kernel_rfl) (by rw [h]; kernel_rfl)
theorem ZFW (E : Env) (h : E.ti = Z8 tis) : W0 Tryz.prog E 33 ⟨ZG, 24, .slice 47⟩ := XB (ie := ⟨ZD, 104, .struct [(0, 3), (1, 3), (2, 3), (3, 3), (4, 3), (5, 26), (9, 28)]⟩) (inf := Tryz.t33) (by kernel_rfl) rfl rfl rfl (by decide) (by kernel_rfl) (by rw [h]; kernel_rfl)
theorem ZFX (E : Env) (h : E.ti = Z8 tis) : W0 Tryz.prog E 34 ⟨YQ, 264, .struct [(0, 3), (1, 3), (2, 26), (6, 26), (10, 28), (14, 29), (15, 30), (16, 29), (17, 31), (18, 32), (19, 33), (20, 3)]⟩ := ZZ (inf := Tryz.t34) (by kernel_rfl) (by kernel_rfl) rfl (by kernel_rfl) (by decide) (by decide) rfl (fields := #[{ name := "Id", type := 3, offset := 0, embedded := false, tag := "", pkgPath := "", byteOffset := 0 }, { name := "View", type := 3, offset := 1, embedded := false, tag := "", pkgPath := "", byteOffset := 8 }, { name := "High", type := 26, offset := 2, embedded := false, tag := "", pkgPath := "", byteOffset := 16 }, { name := "Lock", type := 26, offset := 6, embedded := false, tag := "", pkgPath := "", byteOffset := 48 }, { name := "Last", type := 28, offset := 10, embedded := false, tag := "", pkgPath := "", byteOffset := 80 }, { name := "Row", type := 29, offset := 14, embedded := false, tag := "", pkgPath := "", byteOffset := 112 }, { name := "Cells", type := 30, offset := 15, embedded := false, tag := "", pkgPath := "", byteOffset := 136 }, { name := "Early", type := 29, offset := 16, embedded := false, tag := "", pkgPath := "", byteOffset := 160 }, { name := "Undos", type := 31, offset := 17, embedded := false, tag := "", pkgPath := "", byteOffset := 184 }, { name := "Votes", type := 32, offset := 18, embedded := false, tag := "", pkgPath := "", byteOffset := 208 }, { name := "News", type := 33, offset := 19, embedded := false, tag := "", pkgPath := "", byteOffset := 232 }, { name := "Shown", type := 3, offset := 20, embedded := false, tag := "", pkgPath := "", byteOffset := 256 }]) (by kernel_rfl) rfl (all_cons ⟨⟨Zn, 8, .scalar⟩, by rw [h]; kernel_rfl⟩ (all_cons ⟨⟨Zn, 8, .scalar⟩, by rw [h]; kernel_rfl⟩ (all_cons ⟨⟨X3, 32, .struct [(0, 3), (1, 3), (2, 3), (3, 3)]⟩, by rw [h]; kernel_rfl⟩ (all_cons ⟨⟨X3, 32, .struct [(0, 3), (1, 3), (2, 3), (3, 3)]⟩, by rw [h]; kernel_rfl⟩ (all_cons ⟨⟨ZV, 32, .struct [(0, 3), (1, 3), (2, 3), (3, 3)]⟩, by rw [h]; kernel_rfl⟩ (all_cons ⟨⟨YJ, 24, .slice 3⟩, by rw [h]; kernel_rfl⟩ (all_cons ⟨⟨ZB, 24, .slice 94⟩, by rw [h]; kernel_rfl⟩ (all_cons ⟨⟨YJ, 24, .slice 3⟩, by rw [h]; kernel_rfl⟩ (all_cons ⟨⟨Yo, 24, .slice 97⟩, by rw [h]; kernel_rfl⟩ (all_cons ⟨⟨ZM, 24, .slice 28⟩, by rw [h]; kernel_rfl⟩ (all_cons ⟨⟨ZG, 24, .slice 47⟩, by rw [h]; kernel_rfl⟩ (all_cons ⟨⟨Zn, 8, .scalar⟩, by rw [h]; kernel_rfl⟩ all_nil))))))))))))
theorem ZFY (E : Env) (h : E.ti = Z8 tis) : W0 Tryz.prog E 35 ⟨ZP, 264, .struct [(0, 3), (1, 3), (2, 26), (6, 26), (10, 28), (14, 29), (15, 30), (16, 29), (17, 31), (18, 32), (19, 33), (20, 3)]⟩ := ZZ (inf := Tryz.t35) (by kernel_rfl) (by kernel_rfl) rfl (by kernel_rfl) (by decide) (by decide) rfl (fields := #[{ name := "Id", type := 3, offset := 0, embedded := false, tag := "", pkgPath := "", byteOffset := 0 }, { name := "View", type := 3, offset := 1, embedded := false, tag := "", pkgPath := "", byteOffset := 8 }, { name := "High", type := 26, offset := 2, embedded := false, tag := "", pkgPath := "", byteOffset := 16 }, { name := "Lock", type := 26, offset := 6, embedded := false, tag := "", pkgPath := "", byteOffset := 48 }, { name := "Last", type := 28, offset := 10, embedded := false, tag := "", pkgPath := "", byteOffset := 80 }, { name := "Row", type := 29, offset := 14, embedded := false, tag := "", pkgPath := "", byteOffset := 112 }, { name := "Cells", type := 30, offset := 15, embedded := false, tag := "", pkgPath := "", byteOffset := 136 }, { name := "Early", type := 29, offset := 16, embedded := false, tag := "", pkgPath := "", byteOffset := 160 }, { name := "Undos", type := 31, offset := 17, embedded := false, tag := "", pkgPath := "", byteOffset := 184 }, { name := "Votes", type := 32, offset := 18, embedded := false, tag := "", pkgPath := "", byteOffset := 208 }, { name := "News", type := 33, offset := 19, embedded := false, tag := "", pkgPath := "", byteOffset := 232 }, { name := "Shown", type := 3, offset := 20, embedded := false, tag := "", pkgPath := "", byteOffset := 256 }]) (by kernel_rfl) rfl (all_cons ⟨⟨Zn, 8, .scalar⟩, by rw [h]; kernel_rfl⟩ (all_cons ⟨⟨Zn, 8, .scalar⟩, by rw [h]; kernel_rfl⟩ (all_cons ⟨⟨X3, 32, .struct [(0, 3), (1, 3), (2, 3), (3, 3)]⟩, by rw [h]; kernel_rfl⟩ (all_cons ⟨⟨X3, 32, .struct [(0, 3), (1, 3), (2, 3), (3, 3)]⟩, by rw [h]; kernel_rfl⟩ (all_cons ⟨⟨ZV, 32, .struct [(0, 3), (1, 3), (2, 3), (3, 3)]⟩, by rw [h]; kernel_rfl⟩ (all_cons ⟨⟨YJ, 24, .slice 3⟩, by rw [h]; kernel_rfl⟩ (all_cons ⟨⟨ZB, 24, .slice 94⟩, by rw [h]; kernel_rfl⟩ (all_cons ⟨⟨YJ, 24, .slice 3⟩, by rw [h]; kernel_rfl⟩ (all_cons ⟨⟨Yo, 24, .slice 97⟩, by rw [h]; kernel_rfl⟩ (all_cons ⟨⟨ZM, 24, .slice 28⟩, by rw [h]; kernel_rfl⟩ (all_cons ⟨⟨ZG, 24, .slice 47⟩, by rw [h]; kernel_rfl⟩ (all_cons ⟨⟨Zn, 8, .scalar⟩, by rw [h]; kernel_rfl⟩ all_nil))))))))))))
theorem ZFZ (E : Env) (h : E.ti = Z8 tis) : W0 Tryz.prog E 46 ⟨Zg, 104, .struct [(0, 3), (1, 3), (2, 3), (3, 3), (4, 3), (5, 26), (9, 28)]⟩ := ZZ (inf := Tryz.t46) (by kernel_rfl) (by kernel_rfl) rfl (by kernel_rfl) (by decide) (by decide) rfl (fields := #[{ name := "Kind", type := 3, offset := 0, embedded := false, tag := "", pkgPath := "", byteOffset := 0 }, { name := "From", type := 3, offset := 1, embedded := false, tag := "", pkgPath := "", byteOffset := 8 }, { name := "To", type := 3, offset := 2, embedded := false, tag := "", pkgPath := "", byteOffset := 16 }, { name := "View", type := 3, offset := 3, embedded := false, tag := "", pkgPath := "", byteOffset := 24 }, { name := "Block", type := 3, offset := 4, embedded := false, tag := "", pkgPath := "", byteOffset := 32 }, { name := "Qc", type := 26, offset := 5, embedded := false, tag := "", pkgPath := "", byteOffset := 40 }, { name := "Vote", type := 28, offset := 9, embedded := false, tag := "", pkgPath := "", byteOffset := 72 }]) (by kernel_rfl) rfl (all_cons ⟨⟨Zn, 8, .scalar⟩, by rw [h]; kernel_rfl⟩ (all_cons ⟨⟨Zn, 8, .scalar⟩, by rw [h]; kernel_rfl⟩ (all_cons ⟨⟨Zn, 8, .scalar⟩, by rw [h]; kernel_rfl⟩ (all_cons ⟨⟨Zn, 8, .scalar⟩, by rw [h]; kernel_rfl⟩ (all_cons ⟨⟨Zn, 8, .scalar⟩, by rw [h]; kernel_rfl⟩ (all_cons ⟨⟨X3, 32, .struct [(0, 3), (1, 3), (2, 3), (3, 3)]⟩, by rw [h]; kernel_rfl⟩ (all_cons ⟨⟨ZV, 32, .struct [(0, 3), (1, 3), (2, 3), (3, 3)]⟩, by rw [h]; kernel_rfl⟩ all_nil)))))))
theorem ZF0 (E : Env) (h : E.ti = Z8 tis) : W0 Tryz.prog E 47 ⟨ZD, 104, .struct [(0, 3), (1, 3), (2, 3), (3, 3), (4, 3), (5, 26), (9, 28)]⟩ := ZZ (inf := Tryz.t47) (by kernel_rfl) (by kernel_rfl) rfl (by kernel_rfl) (by decide) (by decide) rfl (fields := #[{ name := "Kind", type := 3, offset := 0, embedded := false, tag := "", pkgPath := "", byteOffset := 0 }, { name := "From", type := 3, offset := 1, embedded := false, tag := "", pkgPath := "", byteOffset := 8 }, { name := "To", type := 3, offset := 2, embedded := false, tag := "", pkgPath := "", byteOffset := 16 }, { name := "View", type := 3, offset := 3, embedded := false, tag := "", pkgPath := "", byteOffset := 24 }, { name := "Block", type := 3, offset := 4, embedded := false, tag := "", pkgPath := "", byteOffset := 32 }, { name := "Qc", type := 26, offset := 5, embedded := false, tag := "", pkgPath := "", byteOffset := 40 }, { name := "Vote", type := 28, offset := 9, embedded := false, tag := "", pkgPath := "", byteOffset := 72 }]) (by kernel_rfl) rfl (all_cons ⟨⟨Zn, 8, .scalar⟩, by rw [h]; kernel_rfl⟩ (all_cons ⟨⟨Zn, 8, .scalar⟩, by rw [h]; kernel_rfl⟩ (all_cons ⟨⟨Zn, 8, .scalar⟩, by rw [h]; kernel_rfl⟩ (all_cons ⟨⟨Zn, 8, .scalar⟩, by rw [h]; kernel_rfl⟩ (all_cons ⟨⟨Zn, 8, .scalar⟩, by rw [h]; kernel_rfl⟩ (all_cons ⟨⟨X3, 32, .struct [(0, 3), (1, 3), (2, 3), (3, 3)]⟩, by rw [h]; kernel_rfl⟩ (all_cons ⟨⟨ZV, 32, .struct [(0, 3), (1, 3), (2, 3), (3, 3)]⟩, by rw [h]; kernel_rfl⟩ all_nil)))))))
theorem ZF1 (E : Env) (h : E.ti = Z8 tis) : W0 Tryz.prog E 50 ⟨YL, 24, .slice 35⟩ := XB (ie := ⟨ZP, 264, .struct [(0, 3), (1, 3), (2, 26), (6, 26), (10, 28), (14, 29), (15, 30), (16, 29), (17, 31), (18, 32), (19, 33), (20, 3)]⟩) (inf := Tryz.t50) (by kernel_rfl) rfl rfl rfl (by decide) (by kernel_rfl) (by rw [h]; kernel_rfl)
theorem ZF2 (E : Env) (h : E.ti = Z8 tis) : W0 Tryz.prog E 68 ⟨Yu, 24, .slice 139⟩ := XB (ie := ⟨VI, 32, .struct [(0, 3), (1, 9), (2, 3)]⟩) (inf := Tryz.t68) (by kernel_rfl) rfl rfl rfl (by decide) (by kernel_rfl) (by rw [h]; kernel_rfl)
theorem ZF3 (E : Env) (h : E.ti = Z8 tis) : W0 Tryz.prog E 69 ⟨YR, 144, .struct [(0, 3), (1, 4), (2, 3), (3, 24), (4, 50), (5, 33), (6, 32), (7, 68)]⟩ := ZZ (inf := Tryz.t69) (by kernel_rfl) (by kernel_rfl) rfl (by kernel_rfl) (by decide) (by decide) rfl (fields := #[{ name := "N", type := 3, offset := 0, embedded := false, tag := "", pkgPath := "", byteOffset := 0 }, { name := "Chain", type := 4, offset := 1, embedded := false, tag := "", pkgPath := "", byteOffset := 8 }, { name := "Liars", type := 3, offset := 2, embedded := false, tag := "", pkgPath := "", byteOffset := 16 }, { name := "Tree", type := 24, offset := 3, embedded := false, tag := "", pkgPath := "", byteOffset := 24 }, { name := "Peers", type := 50, offset := 4, embedded := false, tag := "", pkgPath := "", byteOffset := 48 }, { name := "Net", type := 33, offset := 5, embedded := false, tag := "", pkgPath := "", byteOffset := 72 }, { name := "Said", type := 32, offset := 6, embedded := false, tag := "", pkgPath := "", byteOffset := 96 }, { name := "Pending", type := 68, offset := 7, embedded := false, tag := "", pkgPath := "", byteOffset := 120 }]) (by kernel_rfl) rfl (all_cons ⟨⟨Zn, 8, .scalar⟩, by rw [h]; kernel_rfl⟩ (all_cons ⟨⟨ZE, 1, .scalar⟩, by rw [h]; kernel_rfl⟩ (all_cons ⟨⟨Zn, 8, .scalar⟩, by rw [h]; kernel_rfl⟩ (all_cons ⟨⟨Zh, 24, .slice 99⟩, by rw [h]; kernel_rfl⟩ (all_cons ⟨⟨YL, 24, .slice 35⟩, by rw [h]; kernel_rfl⟩ (all_cons ⟨⟨ZG, 24, .slice 47⟩, by rw [h]; kernel_rfl⟩ (all_cons ⟨⟨ZM, 24, .slice 28⟩, by rw [h]; kernel_rfl⟩ (all_cons ⟨⟨Yu, 24, .slice 139⟩, by rw [h]; kernel_rfl⟩ all_nil))))))))
theorem ZF4 (E : Env) (h : E.ti = Z8 tis) : W0 Tryz.prog E 70 ⟨Yx, 144, .struct [(0, 3), (1, 4), (2, 3), (3, 24), (4, 50), (5, 33), (6, 32), (7, 68)]⟩ := ZZ (inf := Tryz.t70) (by kernel_rfl) (by kernel_rfl) rfl (by kernel_rfl) (by decide) (by decide) rfl (fields := #[{ name := "N", type := 3, offset := 0, embedded := false, tag := "", pkgPath := "", byteOffset := 0 }, { name := "Chain", type := 4, offset := 1, embedded := false, tag := "", pkgPath := "", byteOffset := 8 }, { name := "Liars", type := 3, offset := 2, embedded := false, tag := "", pkgPath := "", byteOffset := 16 }, { name := "Tree", type := 24, offset := 3, embedded := false, tag := "", pkgPath := "", byteOffset := 24 }, { name := "Peers", type := 50, offset := 4, embedded := false, tag := "", pkgPath := "", byteOffset := 48 }, { name := "Net", type := 33, offset := 5, embedded := false, tag := "", pkgPath := "", byteOffset := 72 }, { name := "Said", type := 32, offset := 6, embedded := false, tag := "", pkgPath := "", byteOffset := 96 }, { name := "Pending", type := 68, offset := 7, embedded := false, tag := "", pkgPath := "", byteOffset := 120 }]) (by kernel_rfl) rfl (all_cons ⟨⟨Zn, 8, .scalar⟩, by rw [h]; kernel_rfl⟩ (all_cons ⟨⟨ZE, 1, .scalar⟩, by rw [h]; kernel_rfl⟩ (all_cons ⟨⟨Zn, 8, .scalar⟩, by rw [h]; kernel_rfl⟩ (all_cons ⟨⟨Zh, 24, .slice 99⟩, by rw [h]; kernel_rfl⟩ (all_cons ⟨⟨YL, 24, .slice 35⟩, by rw [h]; kernel_rfl⟩ (all_cons ⟨⟨ZG, 24, .slice 47⟩, by rw [h]; kernel_rfl⟩ (all_cons ⟨⟨ZM, 24, .slice 28⟩, by rw [h]; kernel_rfl⟩ (all_cons ⟨⟨Yu, 24, .slice 139⟩, by rw [h]; kernel_rfl⟩ all_nil))))))))
theorem ZF5 (E : Env) (h : E.ti = Z8 tis) : W0 Tryz.prog E 93 ⟨Zt, 24, .struct [(0, 9), (1, 3)]⟩ := ZZ (inf := Tryz.t93) (by kernel_rfl) (by kernel_rfl) rfl (by kernel_rfl) (by decide) (by decide) rfl (fields := #[{ name := "Key", type := 9, offset := 0, embedded := false, tag := "", pkgPath := "", byteOffset := 0 }, { name := "Num", type := 3, offset := 1, embedded := false, tag := "", pkgPath := "", byteOffset := 16 }]) (by kernel_rfl) rfl (all_cons ⟨⟨Zx, 16, .scalar⟩, by rw [h]; kernel_rfl⟩ (all_cons ⟨⟨Zn, 8, .scalar⟩, by rw [h]; kernel_rfl⟩ all_nil))
theorem ZF6 (E : Env) (h : E.ti = Z8 tis) : W0 Tryz.prog E 94 ⟨W3, 24, .struct [(0, 9), (1, 3)]⟩ := ZZ (inf := Tryz.t94) (by kernel_rfl) (by kernel_rfl) rfl (by kernel_rfl) (by decide) (by decide) rfl (fields := #[{ name := "Key", type := 9, offset := 0, embedded := false, tag := "", pkgPath := "", byteOffset := 0 }, { name := "Num", type := 3, offset := 1, embedded := false, tag := "", pkgPath := "", byteOffset := 16 }]) (by kernel_rfl) rfl (all_cons ⟨⟨Zx, 16, .scalar⟩, by rw [h]; kernel_rfl⟩ (all_cons ⟨⟨Zn, 8, .scalar⟩, by rw [h]; kernel_rfl⟩ all_nil))
theorem ZF7 (E : Env) (h : E.ti = Z8 tis) : W0 Tryz.prog E 96 ⟨Zy, 32, .struct [(0, 9), (1, 4), (2, 3)]⟩ := ZZ (inf := Tryz.t96) (by kernel_rfl) (by kernel_rfl) rfl (by kernel_rfl) (by decide) (by decide) rfl (fields := #[{ name := "Key", type := 9, offset := 0, embedded := false, tag := "", pkgPath := "", byteOffset := 0 }, { name := "Had", type := 4, offset := 1, embedded := false, tag := "", pkgPath := "", byteOffset := 16 }, { name := "Num", type := 3, offset := 2, embedded := false, tag := "", pkgPath := "", byteOffset := 24 }]) (by kernel_rfl) rfl (all_cons ⟨⟨Zx, 16, .scalar⟩, by rw [h]; kernel_rfl⟩ (all_cons ⟨⟨ZE, 1, .scalar⟩, by rw [h]; kernel_rfl⟩ (all_cons ⟨⟨Zn, 8, .scalar⟩, by rw [h]; kernel_rfl⟩ all_nil)))
theorem ZF8 (E : Env) (h : E.ti = Z8 tis) : W0 Tryz.prog E 97 ⟨W4, 32, .struct [(0, 9), (1, 4), (2, 3)]⟩ := ZZ (inf := Tryz.t97) (by kernel_rfl) (by kernel_rfl) rfl (by kernel_rfl) (by decide) (by decide) rfl (fields := #[{ name := "Key", type := 9, offset := 0, embedded := false, tag := "", pkgPath := "", byteOffset := 0 }, { name := "Had", type := 4, offset := 1, embedded := false, tag := "", pkgPath := "", byteOffset := 16 }, { name := "Num", type := 3, offset := 2, embedded := false, tag := "", pkgPath := "", byteOffset := 24 }]) (by kernel_rfl) rfl (all_cons ⟨⟨Zx, 16, .scalar⟩, by rw [h]; kernel_rfl⟩ (all_cons ⟨⟨ZE, 1, .scalar⟩, by rw [h]; kernel_rfl⟩ (all_cons ⟨⟨Zn, 8, .scalar⟩, by rw [h]; kernel_rfl⟩ all_nil)))
theorem ZF9 (E : Env) (h : E.ti = Z8 tis) : W0 Tryz.prog E 98 ⟨YS, 72, .struct [(0, 3), (1, 3), (2, 68), (3, 26)]⟩ := ZZ (inf := Tryz.t98) (by kernel_rfl) (by kernel_rfl) rfl (by kernel_rfl) (by decide) (by decide) rfl (fields := #[{ name := "Parent", type := 3, offset := 0, embedded := false, tag := "", pkgPath := "", byteOffset := 0 }, { name := "View", type := 3, offset := 1, embedded := false, tag := "", pkgPath := "", byteOffset := 8 }, { name := "Cmds", type := 68, offset := 2, embedded := false, tag := "", pkgPath := "", byteOffset := 16 }, { name := "Just", type := 26, offset := 3, embedded := false, tag := "", pkgPath := "", byteOffset := 40 }]) (by kernel_rfl) rfl (all_cons ⟨⟨Zn, 8, .scalar⟩, by rw [h]; kernel_rfl⟩ (all_cons ⟨⟨Zn, 8, .scalar⟩, by rw [h]; kernel_rfl⟩ (all_cons ⟨⟨Yu, 24, .slice 139⟩, by rw [h]; kernel_rfl⟩ (all_cons ⟨⟨X3, 32, .struct [(0, 3), (1, 3), (2, 3), (3, 3)]⟩, by rw [h]; kernel_rfl⟩ all_nil))))
theorem ZGa (E : Env) (h : E.ti = Z8 tis) : W0 Tryz.prog E 99 ⟨YC, 72, .struct [(0, 3), (1, 3), (2, 68), (3, 26)]⟩ := ZZ (inf := Tryz.t99) (by kernel_rfl) (by kernel_rfl) rfl (by kernel_rfl) (by decide) (by decide) rfl (fields := #[{ name := "Parent", type := 3, offset := 0, embedded := false, tag := "", pkgPath := "", byteOffset := 0 }, { name := "View", type := 3, offset := 1, embedded := false, tag := "", pkgPath := "", byteOffset := 8 }, { name := "Cmds", type := 68, offset := 2, embedded := false, tag := "", pkgPath := "", byteOffset := 16 }, { name := "Just", type := 26, offset := 3, embedded := false, tag := "", pkgPath := "", byteOffset := 40 }]) (by kernel_rfl) rfl (all_cons ⟨⟨Zn, 8, .scalar⟩, by rw [h]; kernel_rfl⟩ (all_cons ⟨⟨Zn, 8, .scalar⟩, by rw [h]; kernel_rfl⟩ (all_cons ⟨⟨Yu, 24, .slice 139⟩, by rw [h]; kernel_rfl⟩ (all_cons ⟨⟨X3, 32, .struct [(0, 3), (1, 3), (2, 3), (3, 3)]⟩, by rw [h]; kernel_rfl⟩ all_nil))))
theorem ZER (E : Env) (h : E.ti = Z8 tis) : W0 Tryz.prog E 125 ⟨XQ, 40, .struct [(0, 22), (1, 3), (2, 3)]⟩ := ZZ (inf := Tryz.t125) (by kernel_rfl) (by kernel_rfl) rfl (by kernel_rfl) (by decide) (by decide) rfl (fields := #[{ name := "b", type := 22, offset := 0, embedded := false, tag := "", pkgPath := "loop.example/g00330/spec", byteOffset := 0 }, { name := "i", type := 3, offset := 1, embedded := false, tag := "", pkgPath := "loop.example/g00330/spec", byteOffset := 24 }, { name := "h", type := 3, offset := 2, embedded := false, tag := "", pkgPath := "loop.example/g00330/spec", byteOffset := 32 }]) (by kernel_rfl) rfl (all_cons ⟨⟨Ya, 24, .slice 5⟩, by rw [h]; kernel_rfl⟩ (all_cons ⟨⟨Zn, 8, .scalar⟩, by rw [h]; kernel_rfl⟩ (all_cons ⟨⟨Zn, 8, .scalar⟩, by rw [h]; kernel_rfl⟩ all_nil)))
theorem ZES (E : Env) (h : E.ti = Z8 tis) : W0 Tryz.prog E 126 ⟨Zv, 40, .struct [(0, 22), (1, 3), (2, 3)]⟩ := ZZ (inf := Tryz.t126) (by kernel_rfl) (by kernel_rfl) rfl (by kernel_rfl) (by decide) (by decide) rfl (fields := #[{ name := "b", type := 22, offset := 0, embedded := false, tag := "", pkgPath := "loop.example/g00330/spec", byteOffset := 0 }, { name := "i", type := 3, offset := 1, embedded := false, tag := "", pkgPath := "loop.example/g00330/spec", byteOffset := 24 }, { name := "h", type := 3, offset := 2, embedded := false, tag := "", pkgPath := "loop.example/g00330/spec", byteOffset := 32 }]) (by kernel_rfl) rfl (all_cons ⟨⟨Ya, 24, .slice 5⟩, by rw [h]; kernel_rfl⟩ (all_cons ⟨⟨Zn, 8, .scalar⟩, by rw [h]; kernel_rfl⟩ (all_cons ⟨⟨Zn, 8, .scalar⟩, by rw [h]; kernel_rfl⟩ all_nil)))
theorem ZET (E : Env) (h : E.ti = Z8 tis) : W0 Tryz.prog E 127 ⟨ZEQ, 8, .scalar⟩ := Yz (inf := Tryz.t127) (by kernel_rfl) rfl rfl (by kernel_rfl) (by decide) (d := .int .u64) (by kernel_rfl) rfl
theorem ZEU (E : Env) (h : E.ti = Z8 tis) : W0 Tryz.prog E 138 ⟨ZU, 32, .struct [(0, 3), (1, 9), (2, 3)]⟩ := ZZ (inf := Tryz.t138) (by kernel_rfl) (by kernel_rfl) rfl (by kernel_rfl) (by decide) (by decide) rfl (fields := #[{ name := "Kind", type := 3, offset := 0, embedded := false, tag := "", pkgPath := "", byteOffset := 0 }, { name := "Key", type := 9, offset := 1, embedded := false, tag := "", pkgPath := "", byteOffset := 8 }, { name := "Num", type := 3, offset := 2, embedded := false, tag := "", pkgPath := "", byteOffset := 24 }]) (by kernel_rfl) rfl (all_cons ⟨⟨Zn, 8, .scalar⟩, by rw [h]; kernel_rfl⟩ (all_cons ⟨⟨Zx, 16, .scalar⟩, by rw [h]; kernel_rfl⟩ (all_cons ⟨⟨Zn, 8, .scalar⟩, by rw [h]; kernel_rfl⟩ all_nil)))
theorem ZEV (E : Env) (h : E.ti = Z8 tis) : W0 Tryz.prog E 139 ⟨VI, 32, .struct [(0, 3), (1, 9), (2, 3)]⟩ := ZZ (inf := Tryz.t139) (by kernel_rfl) (by kernel_rfl) rfl (by kernel_rfl) (by decide) (by decide) rfl (fields := #[{ name := "Kind", type := 3, offset := 0, embedded := false, tag := "", pkgPath := "", byteOffset := 0 }, { name := "Key", type := 9, offset := 1, embedded := false, tag := "", pkgPath := "", byteOffset := 8 }, { name := "Num", type := 3, offset := 2, embedded := false, tag := "", pkgPath := "", byteOffset := 24 }]) (by kernel_rfl) rfl (all_cons ⟨⟨Zn, 8, .scalar⟩, by rw [h]; kernel_rfl⟩ (all_cons ⟨⟨Zx, 16, .scalar⟩, by rw [h]; kernel_rfl⟩ (all_cons ⟨⟨Zn, 8, .scalar⟩, by rw [h]; kernel_rfl⟩ all_nil)))
theorem ZEW (E : Env) (h : E.ti = Z8 tis) : W0 Tryz.prog E 140 ⟨YT, 64, .struct [(0, 3), (1, 3), (2, 3), (3, 3), (4, 139)]⟩ := ZZ (inf := Tryz.t140) (by kernel_rfl) (by kernel_rfl) rfl (by kernel_rfl) (by decide) (by decide) rfl (fields := #[{ name := "Kind", type := 3, offset := 0, embedded := false, tag := "", pkgPath := "", byteOffset := 0 }, { name := "At", type := 3, offset := 1, embedded := false, tag := "", pkgPath := "", byteOffset := 8 }, { name := "To", type := 3, offset := 2, embedded := false, tag := "", pkgPath := "", byteOffset := 16 }, { name := "Num", type := 3, offset := 3, embedded := false, tag := "", pkgPath := "", byteOffset := 24 }, { name := "Cmd", type := 139, offset := 4, embedded := false, tag := "", pkgPath := "", byteOffset := 32 }]) (by kernel_rfl) rfl (all_cons ⟨⟨Zn, 8, .scalar⟩, by rw [h]; kernel_rfl⟩ (all_cons ⟨⟨Zn, 8, .scalar⟩, by rw [h]; kernel_rfl⟩ (all_cons ⟨⟨Zn, 8, .scalar⟩, by rw [h]; kernel_rfl⟩ (all_cons ⟨⟨Zn, 8, .scalar⟩, by rw [h]; kernel_rfl⟩ (all_cons ⟨⟨VI, 32, .struct [(0, 3), (1, 9), (2, 3)]⟩, by rw [h]; kernel_rfl⟩ all_nil)))))
theorem ZEX (E : Env) (h : E.ti = Z8 tis) : W0 Tryz.prog E 141 ⟨Wi, 64, .struct [(0, 3), (1, 3), (2, 3), (3, 3), (4, 139)]⟩ := ZZ (inf := Tryz.t141) (by kernel_rfl) (by kernel_rfl) rfl (by kernel_rfl) (by decide) (by decide) rfl (fields := #[{ name := "Kind", type := 3, offset := 0, embedded := false, tag := "", pkgPath := "", byteOffset := 0 }, { name := "At", type := 3, offset := 1, embedded := false, tag := "", pkgPath := "", byteOffset := 8 }, { name := "To", type := 3, offset := 2, embedded := false, tag := "", pkgPath := "", byteOffset := 16 }, { name := "Num", type := 3, offset := 3, embedded := false, tag := "", pkgPath := "", byteOffset := 24 }, { name := "Cmd", type := 139, offset := 4, embedded := false, tag := "", pkgPath := "", byteOffset := 32 }]) (by kernel_rfl) rfl (all_cons ⟨⟨Zn, 8, .scalar⟩, by rw [h]; kernel_rfl⟩ (all_cons ⟨⟨Zn, 8, .scalar⟩, by rw [h]; kernel_rfl⟩ (all_cons ⟨⟨Zn, 8, .scalar⟩, by rw [h]; kernel_rfl⟩ (all_cons ⟨⟨Zn, 8, .scalar⟩, by rw [h]; kernel_rfl⟩ (all_cons ⟨⟨VI, 32, .struct [(0, 3), (1, 9), (2, 3)]⟩, by rw [h]; kernel_rfl⟩ all_nil)))))
theorem ZEY (E : Env) (h : E.ti = Z8 tis) : W0 Tryz.prog E 184 ⟨ZbE, 24, .slice 9⟩ := XB (ie := ⟨Zx, 16, .scalar⟩) (inf := Tryz.t184) (by kernel_rfl) rfl rfl rfl (by decide) (by kernel_rfl) (by rw [h]; kernel_rfl)
theorem ZEZ (E : Env) (h : E.ti = Z8 tis) : W0 Tryz.prog E 185 ⟨ZuA, 24, .slice 141⟩ := XB (ie := ⟨Wi, 64, .struct [(0, 3), (1, 3), (2, 3), (3, 3), (4, 139)]⟩) (inf := Tryz.t185) (by kernel_rfl) rfl rfl rfl (by decide) (by kernel_rfl) (by rw [h]; kernel_rfl)
theorem ZE0 (E : Env) (h : E.ti = Z8 tis) : W0 Tryz.prog E 224 ⟨Y9, 32, .struct [(0, 9), (1, 3), (2, 4)]⟩ := ZZ (inf := Tryz.t224) (by kernel_rfl) (by kernel_rfl) rfl (by kernel_rfl) (by decide) (by decide) rfl (fields := #[{ name := "text", type := 9, offset := 0, embedded := false, tag := "", pkgPath := "loop.example/g00330/spec", byteOffset := 0 }, { name := "at", type := 3, offset := 1, embedded := false, tag := "", pkgPath := "loop.example/g00330/spec", byteOffset := 16 }, { name := "bad", type := 4, offset := 2, embedded := false, tag := "", pkgPath := "loop.example/g00330/spec", byteOffset := 24 }]) (by kernel_rfl) rfl (all_cons ⟨⟨Zx, 16, .scalar⟩, by rw [h]; kernel_rfl⟩ (all_cons ⟨⟨Zn, 8, .scalar⟩, by rw [h]; kernel_rfl⟩ (all_cons ⟨⟨ZE, 1, .scalar⟩, by rw [h]; kernel_rfl⟩ all_nil)))
theorem ZE1 (E : Env) (h : E.ti = Z8 tis) : W0 Tryz.prog E 225 ⟨Xq, 32, .struct [(0, 9), (1, 3), (2, 4)]⟩ := ZZ (inf := Tryz.t225) (by kernel_rfl) (by kernel_rfl) rfl (by kernel_rfl) (by decide) (by decide) rfl (fields := #[{ name := "text", type := 9, offset := 0, embedded := false, tag := "", pkgPath := "loop.example/g00330/spec", byteOffset := 0 }, { name := "at", type := 3, offset := 1, embedded := false, tag := "", pkgPath := "loop.example/g00330/spec", byteOffset := 16 }, { name := "bad", type := 4, offset := 2, embedded := false, tag := "", pkgPath := "loop.example/g00330/spec", byteOffset := 24 }]) (by kernel_rfl) rfl (all_cons ⟨⟨Zx, 16, .scalar⟩, by rw [h]; kernel_rfl⟩ (all_cons ⟨⟨Zn, 8, .scalar⟩, by rw [h]; kernel_rfl⟩ (all_cons ⟨⟨ZE, 1, .scalar⟩, by rw [h]; kernel_rfl⟩ all_nil)))
theorem ZE2 (E : Env) (h : E.ti = Z8 tis) : W0 Tryz.prog E 238 ⟨XC, 4, .scalar⟩ := Yz (inf := Tryz.t238) (by kernel_rfl) rfl rfl (by kernel_rfl) (by decide) (d := .int .u32) (by kernel_rfl) rfl
theorem ZE3 (E : Env) (h : E.ti = Z8 tis) : W0 Tryz.prog E 252 ⟨ZkD, 1, .scalar⟩ := Yz (inf := Tryz.t252) (by kernel_rfl) rfl rfl (by kernel_rfl) (by decide) (d := .int .u8) (by kernel_rfl) rfl
theorem ZE4 (E : Env) (h : E.ti = Z8 tis) : W0 Tryz.prog E 253 ⟨Zqn, 1, .scalar⟩ := Yz (inf := Tryz.t253) (by kernel_rfl) rfl rfl (by kernel_rfl) (by decide) (d := .int .u8) (by kernel_rfl) rfl
theorem ZE5 (E : Env) (h : E.ti = Z8 tis) : W0 Tryz.prog E 256 ⟨Zfl, 4, .scalar⟩ := Yz (inf := Tryz.t256) (by kernel_rfl) rfl rfl (by kernel_rfl) (by decide) (d := .int .i32) (by kernel_rfl) rfl
theorem ZE6 (E : Env) (h : E.ti = Z8 tis) : W0 Tryz.prog E 257 ⟨Zfm, 4, .scalar⟩ := Yz (inf := Tryz.t257) (by kernel_rfl) rfl rfl (by kernel_rfl) (by decide) (d := .int .i32) (by kernel_rfl) rfl
theorem ZGb (E : Env) (h : E.ti = Z8 tis) : ∀ t i, E.ti t = some i → W0 Tryz.prog E t i := by
 rw [h]
 refine ZEK ?_
 refine all_cons (ZGv E h) ?_
 refine all_cons (ZGw E h) ?_
 refine all_cons (ZGx E h) ?_
 refine all_cons (ZGy E h) ?_
 refine all_cons (ZGz E h) ?_
 refine all_cons (ZGA E h) ?_
 refine all_cons (ZGB E h) ?_
 refine all_cons (ZGC E h) ?_
 refine all_cons (ZFG E h) ?_
 refine all_cons (ZFH E h) ?_
 refine all_cons (ZFI E h) ?_
 refine all_cons (ZFJ E h) ?_
 refine all_cons (ZFK E h) ?_
 refine all_cons (ZFL E h) ?_
 refine all_cons (ZFM E h) ?_
 refine all_cons (ZFN E h) ?_
 refine all_cons (ZFO E h) ?_
 refine all_cons (ZFP E h) ?_
 refine all_cons (ZFQ E h) ?_
 refine all_cons (ZFR E h) ?_
 refine all_cons (ZFS E h) ?_
 refine all_cons (ZFT E h) ?_
 refine all_cons (ZFU E h) ?_
 refine all_cons (ZFV E h) ?_
 refine all_cons (ZFW E h) ?_
 refine all_cons (ZFX E h) ?_
 refine all_cons (ZFY E h) ?_
 refine all_cons (ZFZ E h) ?_
 refine all_cons (ZF0 E h) ?_
 refine all_cons (ZF1 E h) ?_
 refine all_cons (ZF2 E h) ?_
 refine all_cons (ZF3 E h) ?_
 refine all_cons (ZF4 E h) ?_
 refine all_cons (ZF5 E h) ?_
 refine all_cons (ZF6 E h) ?_
 refine all_cons (ZF7 E h) ?_
 refine all_cons (ZF8 E h) ?_
 refine all_cons (ZF9 E h) ?_
 refine all_cons (ZGa E h) ?_
 refine all_cons (ZER E h) ?_
 refine all_cons (ZES E h) ?_
 refine all_cons (ZET E h) ?_
 refine all_cons (ZEU E h) ?_
 refine all_cons (ZEV E h) ?_
 refine all_cons (ZEW E h) ?_
 refine all_cons (ZEX E h) ?_
 refine all_cons (ZEY E h) ?_
 refine all_cons (ZEZ E h) ?_
 refine all_cons (ZE0 E h) ?_
 refine all_cons (ZE1 E h) ?_
 refine all_cons (ZE2 E h) ?_
 refine all_cons (ZE3 E h) ?_
 refine all_cons (ZE4 E h) ?_
 refine all_cons (ZE5 E h) ?_
 refine all_cons (ZE6 E h) ?_
 exact all_nil
theorem ZGD : ZBZ Tryz.prog 26 X3 := ZEr 6 (by decide) (.struct (fs := [({ name := "Phase", type := 3, offset := 0, embedded := false, tag := "", pkgPath := "", byteOffset := 0 } : Field), ({ name := "View", type := 3, offset := 1, embedded := false, tag := "", pkgPath := "", byteOffset := 8 } : Field), ({ name := "Block", type := 3, offset := 2, embedded := false, tag := "", pkgPath := "", byteOffset := 16 } : Field), ({ name := "Signers", type := 3, offset := 3, embedded := false, tag := "", pkgPath := "", byteOffset := 24 } : Field)]) (by kernel_rfl) (by kernel_rfl) rfl (by kernel_rfl) (.cons (f := ({ name := "Phase", type := 3, offset := 0, embedded := false, tag := "", pkgPath := "", byteOffset := 0 } : Field)) (a := Zn) rfl (by decide) ⟨Tryz.t3, by kernel_rfl, rfl⟩ ⟨TypeDesc.int IntKind.i64, by kernel_rfl, rfl⟩ rfl (.int (by kernel_rfl)) (.cons (f := ({ name := "View", type := 3, offset := 1, embedded := false, tag := "", pkgPath := "", byteOffset := 8 } : Field)) (a := Zn) rfl (by decide) ⟨Tryz.t3, by kernel_rfl, rfl⟩ ⟨TypeDesc.int IntKind.i64, by kernel_rfl, rfl⟩ rfl (.int (by kernel_rfl)) (.cons (f := ({ name := "Block", type := 3, offset := 2, embedded := false, tag := "", pkgPath := "", byteOffset := 16 } : Field)) (a := Zn) rfl (by decide) ⟨Tryz.t3, by kernel_rfl, rfl⟩ ⟨TypeDesc.int IntKind.i64, by kernel_rfl, rfl⟩ rfl (.int (by kernel_rfl)) (.cons (f := ({ name := "Signers", type := 3, offset := 3, embedded := false, tag := "", pkgPath := "", byteOffset := 24 } : Field)) (a := Zn) rfl (by decide) ⟨Tryz.t3, by kernel_rfl, rfl⟩ ⟨TypeDesc.int IntKind.i64, by kernel_rfl, rfl⟩ rfl (.int (by kernel_rfl)) .nil))))) rfl (by kernel_rfl)
theorem ZGE : ZBZ Tryz.prog 28 ZV := ZEr 6 (by decide) (.struct (fs := [({ name := "Phase", type := 3, offset := 0, embedded := false, tag := "", pkgPath := "", byteOffset := 0 } : Field), ({ name := "View", type := 3, offset := 1, embedded := false, tag := "", pkgPath := "", byteOffset := 8 } : Field), ({ name := "Block", type := 3, offset := 2, embedded := false, tag := "", pkgPath := "", byteOffset := 16 } : Field), ({ name := "By", type := 3, offset := 3, embedded := false, tag := "", pkgPath := "", byteOffset := 24 } : Field)]) (by kernel_rfl) (by kernel_rfl) rfl (by kernel_rfl) (.cons (f := ({ name := "Phase", type := 3, offset := 0, embedded := false, tag := "", pkgPath := "", byteOffset := 0 } : Field)) (a := Zn) rfl (by decide) ⟨Tryz.t3, by kernel_rfl, rfl⟩ ⟨TypeDesc.int IntKind.i64, by kernel_rfl, rfl⟩ rfl (.int (by kernel_rfl)) (.cons (f := ({ name := "View", type := 3, offset := 1, embedded := false, tag := "", pkgPath := "", byteOffset := 8 } : Field)) (a := Zn) rfl (by decide) ⟨Tryz.t3, by kernel_rfl, rfl⟩ ⟨TypeDesc.int IntKind.i64, by kernel_rfl, rfl⟩ rfl (.int (by kernel_rfl)) (.cons (f := ({ name := "Block", type := 3, offset := 2, embedded := false, tag := "", pkgPath := "", byteOffset := 16 } : Field)) (a := Zn) rfl (by decide) ⟨Tryz.t3, by kernel_rfl, rfl⟩ ⟨TypeDesc.int IntKind.i64, by kernel_rfl, rfl⟩ rfl (.int (by kernel_rfl)) (.cons (f := ({ name := "By", type := 3, offset := 3, embedded := false, tag := "", pkgPath := "", byteOffset := 24 } : Field)) (a := Zn) rfl (by decide) ⟨Tryz.t3, by kernel_rfl, rfl⟩ ⟨TypeDesc.int IntKind.i64, by kernel_rfl, rfl⟩ rfl (.int (by kernel_rfl)) .nil))))) rfl (by kernel_rfl)
theorem ZGF : ZBZ Tryz.prog 47 ZD := ZEr 6 (by decide) (.struct (fs := [({ name := "Kind", type := 3, offset := 0, embedded := false, tag := "", pkgPath := "", byteOffset := 0 } : Field), ({ name := "From", type := 3, offset := 1, embedded := false, tag := "", pkgPath := "", byteOffset := 8 } : Field), ({ name := "To", type := 3, offset := 2, embedded := false, tag := "", pkgPath := "", byteOffset := 16 } : Field), ({ name := "View", type := 3, offset := 3, embedded := false, tag := "", pkgPath := "", byteOffset := 24 } : Field), ({ name := "Block", type := 3, offset := 4, embedded := false, tag := "", pkgPath := "", byteOffset := 32 } : Field), ({ name := "Qc", type := 26, offset := 5, embedded := false, tag := "", pkgPath := "", byteOffset := 40 } : Field), ({ name := "Vote", type := 28, offset := 9, embedded := false, tag := "", pkgPath := "", byteOffset := 72 } : Field)]) (by kernel_rfl) (by kernel_rfl) rfl (by kernel_rfl) (.cons (f := ({ name := "Kind", type := 3, offset := 0, embedded := false, tag := "", pkgPath := "", byteOffset := 0 } : Field)) (a := Zn) rfl (by decide) ⟨Tryz.t3, by kernel_rfl, rfl⟩ ⟨TypeDesc.int IntKind.i64, by kernel_rfl, rfl⟩ rfl (.int (by kernel_rfl)) (.cons (f := ({ name := "From", type := 3, offset := 1, embedded := false, tag := "", pkgPath := "", byteOffset := 8 } : Field)) (a := Zn) rfl (by decide) ⟨Tryz.t3, by kernel_rfl, rfl⟩ ⟨TypeDesc.int IntKind.i64, by kernel_rfl, rfl⟩ rfl (.int (by kernel_rfl)) (.cons (f := ({ name := "To", type := 3, offset := 2, embedded := false, tag := "", pkgPath := "", byteOffset := 16 } : Field)) (a := Zn) rfl (by decide) ⟨Tryz.t3, by kernel_rfl, rfl⟩ ⟨TypeDesc.int IntKind.i64, by kernel_rfl, rfl⟩ rfl (.int (by kernel_rfl)) (.cons (f := ({ name := "View", type := 3, offset := 3, embedded := false, tag := "", pkgPath := "", byteOffset := 24 } : Field)) (a := Zn) rfl (by decide) ⟨Tryz.t3, by kernel_rfl, rfl⟩ ⟨TypeDesc.int IntKind.i64, by kernel_rfl, rfl⟩ rfl (.int (by kernel_rfl)) (.cons (f := ({ name := "Block", type := 3, offset := 4, embedded := false, tag := "", pkgPath := "", byteOffset := 32 } : Field)) (a := Zn) rfl (by decide) ⟨Tryz.t3, by kernel_rfl, rfl⟩ ⟨TypeDesc.int IntKind.i64, by kernel_rfl, rfl⟩ rfl (.int (by kernel_rfl)) (.cons (f := ({ name := "Qc", type := 26, offset := 5, embedded := false, tag := "", pkgPath := "", byteOffset := 40 } : Field)) (a := X3) rfl (by decide) ⟨Tryz.t26, by kernel_rfl, rfl⟩ ⟨TypeDesc.struct (Tryz.prog.fieldsOf 26), by kernel_rfl, rfl⟩ rfl (.struct (fs := [({ name := "Phase", type := 3, offset := 0, embedded := false, tag := "", pkgPath := "", byteOffset := 0 } : Field), ({ name := "View", type := 3, offset := 1, embedded := false, tag := "", pkgPath := "", byteOffset := 8 } : Field), ({ name := "Block", type := 3, offset := 2, embedded := false, tag := "", pkgPath := "", byteOffset := 16 } : Field), ({ name := "Signers", type := 3, offset := 3, embedded := false, tag := "", pkgPath := "", byteOffset := 24 } : Field)]) (by kernel_rfl) (by kernel_rfl) rfl (by kernel_rfl) (.cons (f := ({ name := "Phase", type := 3, offset := 0, embedded := false, tag := "", pkgPath := "", byteOffset := 0 } : Field)) (a := Zn) rfl (by decide) ⟨Tryz.t3, by kernel_rfl, rfl⟩ ⟨TypeDesc.int IntKind.i64, by kernel_rfl, rfl⟩ rfl (.int (by kernel_rfl)) (.cons (f := ({ name := "View", type := 3, offset := 1, embedded := false, tag := "", pkgPath := "", byteOffset := 8 } : Field)) (a := Zn) rfl (by decide) ⟨Tryz.t3, by kernel_rfl, rfl⟩ ⟨TypeDesc.int IntKind.i64, by kernel_rfl, rfl⟩ rfl (.int (by kernel_rfl)) (.cons (f := ({ name := "Block", type := 3, offset := 2, embedded := false, tag := "", pkgPath := "", byteOffset := 16 } : Field)) (a := Zn) rfl (by decide) ⟨Tryz.t3, by kernel_rfl, rfl⟩ ⟨TypeDesc.int IntKind.i64, by kernel_rfl, rfl⟩ rfl (.int (by kernel_rfl)) (.cons (f := ({ name := "Signers", type := 3, offset := 3, embedded := false, tag := "", pkgPath := "", byteOffset := 24 } : Field)) (a := Zn) rfl (by decide) ⟨Tryz.t3, by kernel_rfl, rfl⟩ ⟨TypeDesc.int IntKind.i64, by kernel_rfl, rfl⟩ rfl (.int (by kernel_rfl)) .nil))))) (.cons (f := ({ name := "Vote", type := 28, offset := 9, embedded := false, tag := "", pkgPath := "", byteOffset := 72 } : Field)) (a := ZV) rfl (by decide) ⟨Tryz.t28, by kernel_rfl, rfl⟩ ⟨TypeDesc.struct (Tryz.prog.fieldsOf 28), by kernel_rfl, rfl⟩ rfl (.struct (fs := [({ name := "Phase", type := 3, offset := 0, embedded := false, tag := "", pkgPath := "", byteOffset := 0 } : Field), ({ name := "View", type := 3, offset := 1, embedded := false, tag := "", pkgPath := "", byteOffset := 8 } : Field), ({ name := "Block", type := 3, offset := 2, embedded := false, tag := "", pkgPath := "", byteOffset := 16 } : Field), ({ name := "By", type := 3, offset := 3, embedded := false, tag := "", pkgPath := "", byteOffset := 24 } : Field)]) (by kernel_rfl) (by kernel_rfl) rfl (by kernel_rfl) (.cons (f := ({ name := "Phase", type := 3, offset := 0, embedded := false, tag := "", pkgPath := "", byteOffset := 0 } : Field)) (a := Zn) rfl (by decide) ⟨Tryz.t3, by kernel_rfl, rfl⟩ ⟨TypeDesc.int IntKind.i64, by kernel_rfl, rfl⟩ rfl (.int (by kernel_rfl)) (.cons (f := ({ name := "View", type := 3, offset := 1, embedded := false, tag := "", pkgPath := "", byteOffset := 8 } : Field)) (a := Zn) rfl (by decide) ⟨Tryz.t3, by kernel_rfl, rfl⟩ ⟨TypeDesc.int IntKind.i64, by kernel_rfl, rfl⟩ rfl (.int (by kernel_rfl)) (.cons (f := ({ name := "Block", type := 3, offset := 2, embedded := false, tag := "", pkgPath := "", byteOffset := 16 } : Field)) (a := Zn) rfl (by decide) ⟨Tryz.t3, by kernel_rfl, rfl⟩ ⟨TypeDesc.int IntKind.i64, by kernel_rfl, rfl⟩ rfl (.int (by kernel_rfl)) (.cons (f := ({ name := "By", type := 3, offset := 3, embedded := false, tag := "", pkgPath := "", byteOffset := 24 } : Field)) (a := Zn) rfl (by decide) ⟨Tryz.t3, by kernel_rfl, rfl⟩ ⟨TypeDesc.int IntKind.i64, by kernel_rfl, rfl⟩ rfl (.int (by kernel_rfl)) .nil))))) .nil)))))))) rfl (by kernel_rfl)
theorem ZGG : ZBZ Tryz.prog 94 W3 := ZEr 6 (by decide) (.struct (fs := [({ name := "Key", type := 9, offset := 0, embedded := false, tag := "", pkgPath := "", byteOffset := 0 } : Field), ({ name := "Num", type := 3, offset := 1, embedded := false, tag := "", pkgPath := "", byteOffset := 16 } : Field)]) (by kernel_rfl) (by kernel_rfl) rfl (by kernel_rfl) (.cons (f := ({ name := "Key", type := 9, offset := 0, embedded := false, tag := "", pkgPath := "", byteOffset := 0 } : Field)) (a := Zx) rfl (by decide) ⟨Tryz.t9, by kernel_rfl, rfl⟩ ⟨TypeDesc.string, by kernel_rfl, rfl⟩ rfl (.str (by kernel_rfl)) (.cons (f := ({ name := "Num", type := 3, offset := 1, embedded := false, tag := "", pkgPath := "", byteOffset := 16 } : Field)) (a := Zn) rfl (by decide) ⟨Tryz.t3, by kernel_rfl, rfl⟩ ⟨TypeDesc.int IntKind.i64, by kernel_rfl, rfl⟩ rfl (.int (by kernel_rfl)) .nil))) rfl (by kernel_rfl)
theorem ZGH : ZBZ Tryz.prog 97 W4 := ZEr 6 (by decide) (.struct (fs := [({ name := "Key", type := 9, offset := 0, embedded := false, tag := "", pkgPath := "", byteOffset := 0 } : Field), ({ name := "Had", type := 4, offset := 1, embedded := false, tag := "", pkgPath := "", byteOffset := 16 } : Field), ({ name := "Num", type := 3, offset := 2, embedded := false, tag := "", pkgPath := "", byteOffset := 24 } : Field)]) (by kernel_rfl) (by kernel_rfl) rfl (by kernel_rfl) (.cons (f := ({ name := "Key", type := 9, offset := 0, embedded := false, tag := "", pkgPath := "", byteOffset := 0 } : Field)) (a := Zx) rfl (by decide) ⟨Tryz.t9, by kernel_rfl, rfl⟩ ⟨TypeDesc.string, by kernel_rfl, rfl⟩ rfl (.str (by kernel_rfl)) (.cons (f := ({ name := "Had", type := 4, offset := 1, embedded := false, tag := "", pkgPath := "", byteOffset := 16 } : Field)) (a := ZE) rfl (by decide) ⟨Tryz.t4, by kernel_rfl, rfl⟩ ⟨TypeDesc.bool, by kernel_rfl, rfl⟩ rfl (.bool (by kernel_rfl)) (.cons (f := ({ name := "Num", type := 3, offset := 2, embedded := false, tag := "", pkgPath := "", byteOffset := 24 } : Field)) (a := Zn) rfl (by decide) ⟨Tryz.t3, by kernel_rfl, rfl⟩ ⟨TypeDesc.int IntKind.i64, by kernel_rfl, rfl⟩ rfl (.int (by kernel_rfl)) .nil)))) rfl (by kernel_rfl)
theorem ZGc : ZBZ Tryz.prog 139 VI := ZEr 6 (by decide) (.struct (fs := [({ name := "Kind", type := 3, offset := 0, embedded := false, tag := "", pkgPath := "", byteOffset := 0 } : Field), ({ name := "Key", type := 9, offset := 1, embedded := false, tag := "", pkgPath := "", byteOffset := 8 } : Field), ({ name := "Num", type := 3, offset := 2, embedded := false, tag := "", pkgPath := "", byteOffset := 24 } : Field)]) (by kernel_rfl) (by kernel_rfl) rfl (by kernel_rfl) (.cons (f := ({ name := "Kind", type := 3, offset := 0, embedded := false, tag := "", pkgPath := "", byteOffset := 0 } : Field)) (a := Zn) rfl (by decide) ⟨Tryz.t3, by kernel_rfl, rfl⟩ ⟨TypeDesc.int IntKind.i64, by kernel_rfl, rfl⟩ rfl (.int (by kernel_rfl)) (.cons (f := ({ name := "Key", type := 9, offset := 1, embedded := false, tag := "", pkgPath := "", byteOffset := 8 } : Field)) (a := Zx) rfl (by decide) ⟨Tryz.t9, by kernel_rfl, rfl⟩ ⟨TypeDesc.string, by kernel_rfl, rfl⟩ rfl (.str (by kernel_rfl)) (.cons (f := ({ name := "Num", type := 3, offset := 2, embedded := false, tag := "", pkgPath := "", byteOffset := 24 } : Field)) (a := Zn) rfl (by decide) ⟨Tryz.t3, by kernel_rfl, rfl⟩ ⟨TypeDesc.int IntKind.i64, by kernel_rfl, rfl⟩ rfl (.int (by kernel_rfl)) .nil)))) rfl (by kernel_rfl)
def eqs (t : TypeId) : Bool := [26, 28, 47, 94, 97, 139].any (Nat.beq t)
theorem ZGd (E : Env) (h : E.ti = Z8 tis) (he : E.eqs = eqs) : ∀ t ty, E.eqs t = true → E.ty t = some ty → ZBZ Tryz.prog t ty := by
 intro t ty h1 h2
 rw [he] at h1
 simp only [Env.ty, h] at h2
 unfold eqs at h1
 simp only [List.any_cons, List.any_nil, Bool.or_eq_true, Bool.or_false] at h1
 rcases h1 with h1 | h1 | h1 | h1 | h1 | h1
 ·have := Nat.eq_of_beq_eq_true h1
  subst this
  have e : (Option.map (fun x => x.ty) (Z8 tis 26)) = some X3 := by kernel_rfl
  rw [e] at h2
  cases h2
  exact ZGD
 ·have := Nat.eq_of_beq_eq_true h1
  subst this
  have e : (Option.map (fun x => x.ty) (Z8 tis 28)) = some ZV := by kernel_rfl
  rw [e] at h2
  cases h2
  exact ZGE
 ·have := Nat.eq_of_beq_eq_true h1
  subst this
  have e : (Option.map (fun x => x.ty) (Z8 tis 47)) = some ZD := by kernel_rfl
  rw [e] at h2
  cases h2
  exact ZGF
 ·have := Nat.eq_of_beq_eq_true h1
  subst this
  have e : (Option.map (fun x => x.ty) (Z8 tis 94)) = some W3 := by kernel_rfl
  rw [e] at h2
  cases h2
  exact ZGG
 ·have := Nat.eq_of_beq_eq_true h1
  subst this
  have e : (Option.map (fun x => x.ty) (Z8 tis 97)) = some W4 := by kernel_rfl
  rw [e] at h2
  cases h2
  exact ZGH
 ·have := Nat.eq_of_beq_eq_true h1
  subst this
  have e : (Option.map (fun x => x.ty) (Z8 tis 139)) = some VI := by kernel_rfl
  rw [e] at h2
  cases h2
  exact ZGc
abbrev Fl : Type := Bool × Bool × List Nat
def env (u : Fl) (l : List (Nat × Con)) : Env := ⟨Z8 tis, eqs, Z8 l, u.1, u.2.1, fun t => u.2.2.any (Nat.beq t)⟩
theorem ZE7 {u : Fl} {l : List (Nat × Con)} (h : ∀ q ∈ l, Zo Tryz.prog q.1 q.2) : Ze3 Tryz.prog (env u l) :=
 { ti := ZGb (env u l) rfl, eqs := ZGd (env u l) rfl rfl, tbl := ZEL h }
def body (f : Func) : Code := f.body.getD .skip
abbrev KP : Type := List (Nat × (List Wa × List BK))
noncomputable def VV {X : Type} (u : Fl) (l : List (Nat × Con)) (rt : List (Option Ty)) (f : Func) (s : Sh X) (args : List SV) : Ex → St → Option X :=
 fun e st => (ZGp (env u l) rt f.results.toList (Xj [] args).2.2 e st).bind s.un
noncomputable def evX {X : Type} (u : Fl) (l : List (Nat × Con)) (kp : KP) (rt : List (Option Ty)) (f : Func) (s : Sh X) (N : Nat) (args : List SV) : Option X :=
 ev (env u l) (Lr (env u l) kp (body f) (VV u l rt f s args) N) (body f) (Zkz f.ntmps args) (VV u l rt f s args)
theorem Zw {X : Type} {u : Fl} {l : List (Nat × Con)} (hl : ∀ q ∈ l, Zo Tryz.prog q.1 q.2) {kp : KP} {rt : List (Option Ty)} {s : Sh X} {n : FuncId} {f : Func} {b : Code} (hf : Tryz.prog.funcs[n]? = some f) (hb : f.body = some b) (hn : ZAM (Zef kp b) = true)
  {args : List SV} (hbx : Zeg args kp = true) (N : Nat) {v : X} (h : evX u l kp rt f s N args = some v) : Jv Tryz.prog n args (s.sh v).1 (s.sh v).2 := by
 have e : body f = b := by unfold body; rw [hb]; rfl
 unfold evX at h
 rw [e] at h
 refine ZFE (rt := rt) (ZE7 hl) hf hb hn hbx N (fun e st he => ?_) h
 obtain ⟨r, h1, h2⟩ := Option.bind_eq_some_iff.1 he
 exact ⟨r, h1, s.ok r v h2⟩
theorem cons_nil : ∀ q ∈ ([] : List (Nat × Con)), Zo Tryz.prog q.1 q.2 := fun _ h => by cases h
theorem cons_cons {n : Nat} {c : Con} {l : List (Nat × Con)} (h : Zo Tryz.prog n c) (t : ∀ q ∈ l, Zo Tryz.prog q.1 q.2) : ∀ q ∈ (n, c) :: l, Zo Tryz.prog q.1 q.2 := fun q hq => by
 rcases List.mem_cons.1 hq with rfl | hq
 ·exact h
 ·exact t q hq
def big : Nat := 4611686018427387904
end Go.Sx.Tryz
