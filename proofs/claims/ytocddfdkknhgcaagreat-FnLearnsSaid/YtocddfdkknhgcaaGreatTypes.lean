/- The types of the seat. -/
import Derived.Test.YtocddfdkknhgcaaGreatM8
import Derived.Test.YtocddfdkknhgcaaGreatProg
set_option linter.unusedVariables false
set_option linter.unusedSimpArgs false
set_option maxRecDepth 100000
namespace Go.Sx.Tryz
open Go Go.Sx Go.Proofs
abbrev Yq : Type 1 := List (Nat × Con)
abbrev Vz : Type := List Zct × List BK
abbrev Yr (l : Yq) : Prop := ∀ q ∈ l, ZJ Tryz.prog q.1 q.2
abbrev fd (n : String) (t o : Nat) (p : String) (b : Nat) : Field := { name := n, type := t, offset := o, embedded := false, tag := "", pkgPath := p, byteOffset := b }
@[reducible] def dp : Nat → List Zct → List Zct
 | 0, l => l
 | n + 1, l => .drop :: dp n l
abbrev Zb : Ty := .int .i64
abbrev Zk : Ty := .int .i64
abbrev ZC : Ty := .bool
abbrev Zka : Ty := .int .u8
abbrev YX : Ty := .int .u8
abbrev Y4 : Ty := .pair Zb (.pair Zk (.pair ZC (.pair YX (.unit))))
abbrev QU : Ty := .pair Zb (.pair Zk (.pair ZC (.pair YX (.unit))))
abbrev Zu : Ty := .str
abbrev QV : Ty := .str
abbrev Kj : Ty := .str
abbrev Fd : Ty := .int .u64
abbrev XM : Ty := .pair Zu (.pair Fd (.unit))
abbrev WD : Ty := .pair Zu (.pair Fd (.unit))
abbrev ZuH : Ty := .int .i32
abbrev Yv : Ty := .sl false Zka
abbrev W6 : Ty := .pair Zk (.pair Zu (.pair Zk (.unit)))
abbrev Yg : Ty := .sl false W6
abbrev DK : Ty := .sl true W6
abbrev Wl : Ty := .pair Zk (.pair Zk (.pair Zk (.pair Zk (.unit))))
abbrev YV : Ty := .pair Zk (.pair Zk (.pair Yg (.pair Wl (.unit))))
abbrev Xb : Ty := .pair Zk (.pair Zk (.pair DK (.pair Wl (.unit))))
abbrev Ze : Ty := .sl false YV
abbrev Yt : Ty := .sl true Xb
abbrev Zt : Ty := .pair Zk (.pair Zk (.pair Zk (.pair Zk (.unit))))
abbrev Y5 : Ty := .pair Zk (.pair Zk (.pair Zk (.pair Zk (.unit))))
abbrev Z4 : Ty := .pair Zk (.pair Zk (.pair Zk (.pair Zk (.unit))))
abbrev Yu : Ty := .sl false Zk
abbrev Y6 : Ty := .sl true Zk
abbrev Z9 : Ty := .pair Zu (.pair Zk (.unit))
abbrev Zm : Ty := .sl false Z9
abbrev ZE : Ty := .sl true Z9
abbrev YJ : Ty := .pair Zu (.pair ZC (.pair Zk (.unit)))
abbrev Yi : Ty := .sl false YJ
abbrev Wm : Ty := .sl true YJ
abbrev ZS : Ty := .sl false Z4
abbrev Fe : Ty := .sl true Z4
abbrev ZP : Ty := .pair Zk (.pair Zk (.pair Zk (.pair Zk (.pair Zk (.pair Wl (.pair Z4 (.unit)))))))
abbrev ZN : Ty := .sl false ZP
abbrev ZW : Ty := .sl true ZP
abbrev Y7 : Ty := .pair Zk (.pair Zk (.pair Wl (.pair Wl (.pair Z4 (.pair Yu (.pair Zm (.pair Yu (.pair Yi (.pair ZS (.pair ZN (.pair Zk (.unit))))))))))))
abbrev Ya : Ty := .pair Zk (.pair Zk (.pair Wl (.pair Wl (.pair Z4 (.pair Y6 (.pair ZE (.pair Y6 (.pair Wm (.pair Fe (.pair ZW (.pair Zk (.unit))))))))))))
abbrev ZQ : Ty := .pair Zk (.pair Zk (.pair Wl (.pair Wl (.pair Z4 (.pair Yu (.pair Zm (.pair Yu (.pair Yi (.pair ZS (.pair ZN (.pair Zk (.unit))))))))))))
abbrev ZI : Ty := .pair Zk (.pair Zk (.pair Wl (.pair Wl (.pair Z4 (.pair Y6 (.pair ZE (.pair Y6 (.pair Wm (.pair Fe (.pair ZW (.pair Zk (.unit))))))))))))
abbrev Zj : Ty := .pair Zk (.pair Zk (.pair Zk (.pair Zk (.pair Zk (.pair Wl (.pair Z4 (.unit)))))))
abbrev XN : Ty := .sl false ZQ
abbrev Zt5 : Ty := .sl true ZI
abbrev Y8 : Ty := .pair Zk (.pair ZC (.pair Zk (.pair Ze (.pair XN (.pair ZN (.pair ZS (.pair Yg (.unit))))))))
abbrev YN : Ty := .pair Zk (.pair ZC (.pair Zk (.pair Ze (.pair XN (.pair ZN (.pair ZS (.pair Yg (.unit))))))))
abbrev Zx : Ty := .pair Zk (.pair ZC (.pair Zk (.pair Yt (.pair Zt5 (.pair ZW (.pair Fe (.pair DK (.unit))))))))
abbrev Zo : Ty := .pair Zu (.pair Zk (.unit))
abbrev ZF : Ty := .pair Zu (.pair ZC (.pair Zk (.unit)))
abbrev Y9 : Ty := .pair Zk (.pair Zk (.pair Yg (.pair Wl (.unit))))
abbrev ZO : Ty := .pair Zk (.pair Zk (.pair DK (.pair Wl (.unit))))
abbrev Ws : Ty := .pair Yv (.pair Zk (.pair Zk (.unit)))
abbrev Zz : Ty := .pair Yv (.pair Zk (.pair Zk (.unit)))
abbrev Zww : Ty := .int .u64
abbrev ZV : Ty := .pair Zk (.pair Zu (.pair Zk (.unit)))
abbrev Xa : Ty := .pair Zk (.pair Zk (.pair Zk (.pair Zk (.pair W6 (.unit)))))
abbrev WN : Ty := .pair Zk (.pair Zk (.pair Zk (.pair Zk (.pair W6 (.unit)))))
abbrev DL : Ty := .sl false Zu
abbrev Zkb : Ty := .sl false WN
abbrev Xs : Ty := .pair Zu (.pair Zk (.pair ZC (.unit)))
abbrev XO : Ty := .pair Zu (.pair Zk (.pair ZC (.unit)))
abbrev X6 : Ty := .int .u32
abbrev R7 : Ty := .int .u8
abbrev Zff : Ty := .int .u8
abbrev Il : Ty := .int .i32
abbrev In : Ty := .int .i32
abbrev XP : Type := List Int
abbrev Xd : Type := Int × ByteArray × Int × Unit
abbrev YS : Type := List Xd
abbrev Bw : Type := Int × Int × Int × Int × Unit
abbrev Zv : Type := Int × Int × YS × Bw × Unit
abbrev Zi : Type := List Zv
abbrev Zg : Type := Int × Int × Int × Int × Unit
abbrev Z3 : Type := Int × Int × Int × Int × Unit
abbrev Yp : Type := List Int
abbrev ZL : Type := ByteArray × Int × Unit
abbrev Zq : Type := List ZL
abbrev Yd : Type := ByteArray × Bool × Int × Unit
abbrev YA : Type := List Yd
abbrev Yn : Type := List Z3
abbrev Zy : Type := Int × Int × Int × Int × Int × Bw × Z3 × Unit
abbrev ZX : Type := List Zy
abbrev ZK : Type := Int × Int × Bw × Bw × Z3 × Yp × Zq × Yp × YA × Yn × ZX × Int × Unit
abbrev Zn : Type := Int × Int × Bw × Bw × Z3 × Yp × Zq × Yp × YA × Yn × ZX × Int × Unit
abbrev Zc : Type := Int × Int × Int × Int × Int × Bw × Z3 × Unit
abbrev Cb : Type := List Zn
abbrev Zp : Type := Int × Bool × Int × Zi × Cb × ZX × Yn × YS × Unit
abbrev Zf : Type := ByteArray × Int × Unit
abbrev Zs : Type := ByteArray × Bool × Int × Unit
abbrev Zr : Type := Int × Int × YS × Bw × Unit
abbrev ZM : Type := XP × Int × Int × Unit
abbrev ZG : Type := Int × ByteArray × Int × Unit
abbrev VJ : Type := Int × Int × Int × Int × Xd × Unit
abbrev Zkc : Type := List ByteArray
abbrev XQ : Type := ByteArray × Int × Bool × Unit
def tis : List (Nat × TI) := [
 (2, ⟨Zb, 8, .scalar⟩),
 (3, ⟨Zk, 8, .scalar⟩),
 (4, ⟨ZC, 1, .scalar⟩),
 (5, ⟨Zka, 1, .scalar⟩),
 (6, ⟨YX, 1, .scalar⟩),
 (7, ⟨Y4, 24, .struct [(0, 2), (1, 3), (2, 4), (3, 6)]⟩),
 (8, ⟨QU, 24, .struct [(0, 2), (1, 3), (2, 4), (3, 6)]⟩),
 (9, ⟨Zu, 16, .scalar⟩),
 (10, ⟨QV, 16, .scalar⟩),
 (11, ⟨Kj, 16, .scalar⟩),
 (12, ⟨Fd, 8, .scalar⟩),
 (13, ⟨XM, 24, .struct [(0, 9), (1, 12)]⟩),
 (14, ⟨WD, 24, .struct [(0, 9), (1, 12)]⟩),
 (21, ⟨ZuH, 4, .scalar⟩),
 (22, ⟨Yv, 24, .slice 5⟩),
 (24, ⟨Ze, 24, .slice 99⟩),
 (25, ⟨Zt, 32, .struct [(0, 3), (1, 3), (2, 3), (3, 3)]⟩),
 (26, ⟨Wl, 32, .struct [(0, 3), (1, 3), (2, 3), (3, 3)]⟩),
 (27, ⟨Y5, 32, .struct [(0, 3), (1, 3), (2, 3), (3, 3)]⟩),
 (28, ⟨Z4, 32, .struct [(0, 3), (1, 3), (2, 3), (3, 3)]⟩),
 (29, ⟨Yu, 24, .slice 3⟩),
 (30, ⟨Zm, 24, .slice 94⟩),
 (31, ⟨Yi, 24, .slice 97⟩),
 (32, ⟨ZS, 24, .slice 28⟩),
 (33, ⟨ZN, 24, .slice 47⟩),
 (34, ⟨Y7, 264, .struct [(0, 3), (1, 3), (2, 26), (6, 26), (10, 28), (14, 29), (15, 30), (16, 29), (17, 31), (18, 32), (19, 33), (20, 3)]⟩),
 (35, ⟨ZQ, 264, .struct [(0, 3), (1, 3), (2, 26), (6, 26), (10, 28), (14, 29), (15, 30), (16, 29), (17, 31), (18, 32), (19, 33), (20, 3)]⟩),
 (46, ⟨Zj, 104, .struct [(0, 3), (1, 3), (2, 3), (3, 3), (4, 3), (5, 26), (9, 28)]⟩),
 (47, ⟨ZP, 104, .struct [(0, 3), (1, 3), (2, 3), (3, 3), (4, 3), (5, 26), (9, 28)]⟩),
 (50, ⟨XN, 24, .slice 35⟩),
 (68, ⟨Yg, 24, .slice 139⟩),
 (69, ⟨Y8, 144, .struct [(0, 3), (1, 4), (2, 3), (3, 24), (4, 50), (5, 33), (6, 32), (7, 68)]⟩),
 (70, ⟨YN, 144, .struct [(0, 3), (1, 4), (2, 3), (3, 24), (4, 50), (5, 33), (6, 32), (7, 68)]⟩),
 (93, ⟨Zo, 24, .struct [(0, 9), (1, 3)]⟩),
 (94, ⟨Z9, 24, .struct [(0, 9), (1, 3)]⟩),
 (96, ⟨ZF, 32, .struct [(0, 9), (1, 4), (2, 3)]⟩),
 (97, ⟨YJ, 32, .struct [(0, 9), (1, 4), (2, 3)]⟩),
 (98, ⟨Y9, 72, .struct [(0, 3), (1, 3), (2, 68), (3, 26)]⟩),
 (99, ⟨YV, 72, .struct [(0, 3), (1, 3), (2, 68), (3, 26)]⟩),
 (125, ⟨Ws, 40, .struct [(0, 22), (1, 3), (2, 3)]⟩),
 (126, ⟨Zz, 40, .struct [(0, 22), (1, 3), (2, 3)]⟩),
 (127, ⟨Zww, 8, .scalar⟩),
 (138, ⟨ZV, 32, .struct [(0, 3), (1, 9), (2, 3)]⟩),
 (139, ⟨W6, 32, .struct [(0, 3), (1, 9), (2, 3)]⟩),
 (140, ⟨Xa, 64, .struct [(0, 3), (1, 3), (2, 3), (3, 3), (4, 139)]⟩),
 (141, ⟨WN, 64, .struct [(0, 3), (1, 3), (2, 3), (3, 3), (4, 139)]⟩),
 (184, ⟨DL, 24, .slice 9⟩),
 (185, ⟨Zkb, 24, .slice 141⟩),
 (224, ⟨Xs, 32, .struct [(0, 9), (1, 3), (2, 4)]⟩),
 (225, ⟨XO, 32, .struct [(0, 9), (1, 3), (2, 4)]⟩),
 (238, ⟨X6, 4, .scalar⟩),
 (252, ⟨R7, 1, .scalar⟩),
 (253, ⟨Zff, 1, .scalar⟩),
 (256, ⟨Il, 4, .scalar⟩),
 (257, ⟨In, 4, .scalar⟩)]
theorem Zyl (E : Env) (h : E.ti = Yc tis) : VX Tryz.prog E 2 ⟨Zb, 8, .scalar⟩ := YR (inf := Tryz.t2) (by kernel_rfl) rfl rfl (by kernel_rfl) (by decide) (d := .int .i64) (by kernel_rfl) rfl
theorem Zym (E : Env) (h : E.ti = Yc tis) : VX Tryz.prog E 3 ⟨Zk, 8, .scalar⟩ := YR (inf := Tryz.t3) (by kernel_rfl) rfl rfl (by kernel_rfl) (by decide) (d := .int .i64) (by kernel_rfl) rfl
theorem Zyn (E : Env) (h : E.ti = Yc tis) : VX Tryz.prog E 4 ⟨ZC, 1, .scalar⟩ := YR (inf := Tryz.t4) (by kernel_rfl) rfl rfl (by kernel_rfl) (by decide) (d := .bool) (by kernel_rfl) rfl
theorem Zyo (E : Env) (h : E.ti = Yc tis) : VX Tryz.prog E 5 ⟨Zka, 1, .scalar⟩ := YR (inf := Tryz.t5) (by kernel_rfl) rfl rfl (by kernel_rfl) (by decide) (d := .int .u8) (by kernel_rfl) rfl
theorem Zyp (E : Env) (h : E.ti = Yc tis) : VX Tryz.prog E 6 ⟨YX, 1, .scalar⟩ := YR (inf := Tryz.t6) (by kernel_rfl) rfl rfl (by kernel_rfl) (by decide) (d := .int .u8) (by kernel_rfl) rfl
theorem Zyq (E : Env) (h : E.ti = Yc tis) : VX Tryz.prog E 7 ⟨Y4, 24, .struct [(0, 2), (1, 3), (2, 4), (3, 6)]⟩ := Z0 (inf := Tryz.t7) (by kernel_rfl) (by kernel_rfl) rfl (by kernel_rfl) (by decide) (by decide) rfl (fields := #[fd "x" 2 0 "runtime" 0, fd "y" 3 1 "runtime" 8, fd "signed" 4 2 "runtime" 16, fd "code" 6 3 "runtime" 17]) (by kernel_rfl) rfl (all_cons ⟨⟨Zb, 8, .scalar⟩, by rw [h]; kernel_rfl⟩ (all_cons ⟨⟨Zk, 8, .scalar⟩, by rw [h]; kernel_rfl⟩ (all_cons ⟨⟨ZC, 1, .scalar⟩, by rw [h]; kernel_rfl⟩ (all_cons ⟨⟨YX, 1, .scalar⟩, by rw [h]; kernel_rfl⟩ all_nil))))
theorem Zyr (E : Env) (h : E.ti = Yc tis) : VX Tryz.prog E 8 ⟨QU, 24, .struct [(0, 2), (1, 3), (2, 4), (3, 6)]⟩ := Z0 (inf := Tryz.t8) (by kernel_rfl) (by kernel_rfl) rfl (by kernel_rfl) (by decide) (by decide) rfl (fields := #[fd "x" 2 0 "runtime" 0, fd "y" 3 1 "runtime" 8, fd "signed" 4 2 "runtime" 16, fd "code" 6 3 "runtime" 17]) (by kernel_rfl) rfl (all_cons ⟨⟨Zb, 8, .scalar⟩, by rw [h]; kernel_rfl⟩ (all_cons ⟨⟨Zk, 8, .scalar⟩, by rw [h]; kernel_rfl⟩ (all_cons ⟨⟨ZC, 1, .scalar⟩, by rw [h]; kernel_rfl⟩ (all_cons ⟨⟨YX, 1, .scalar⟩, by rw [h]; kernel_rfl⟩ all_nil))))
theorem Zys (E : Env) (h : E.ti = Yc tis) : VX Tryz.prog E 9 ⟨Zu, 16, .scalar⟩ := YR (inf := Tryz.t9) (by kernel_rfl) rfl rfl (by kernel_rfl) (by decide) (d := .string) (by kernel_rfl) rfl
theorem Zxt (E : Env) (h : E.ti = Yc tis) : VX Tryz.prog E 10 ⟨QV, 16, .scalar⟩ := YR (inf := Tryz.t10) (by kernel_rfl) rfl rfl (by kernel_rfl) (by decide) (d := .string) (by kernel_rfl) rfl
theorem Zxu (E : Env) (h : E.ti = Yc tis) : VX Tryz.prog E 11 ⟨Kj, 16, .scalar⟩ := YR (inf := Tryz.t11) (by kernel_rfl) rfl rfl (by kernel_rfl) (by decide) (d := .string) (by kernel_rfl) rfl
theorem Zxv (E : Env) (h : E.ti = Yc tis) : VX Tryz.prog E 12 ⟨Fd, 8, .scalar⟩ := YR (inf := Tryz.t12) (by kernel_rfl) rfl rfl (by kernel_rfl) (by decide) (d := .int .u64) (by kernel_rfl) rfl
theorem Zxw (E : Env) (h : E.ti = Yc tis) : VX Tryz.prog E 13 ⟨XM, 24, .struct [(0, 9), (1, 12)]⟩ := Z0 (inf := Tryz.t13) (by kernel_rfl) (by kernel_rfl) rfl (by kernel_rfl) (by decide) (by decide) rfl (fields := #[fd "msg" 9 0 "runtime" 0, fd "addr" 12 1 "runtime" 16]) (by kernel_rfl) rfl (all_cons ⟨⟨Zu, 16, .scalar⟩, by rw [h]; kernel_rfl⟩ (all_cons ⟨⟨Fd, 8, .scalar⟩, by rw [h]; kernel_rfl⟩ all_nil))
theorem Zxx (E : Env) (h : E.ti = Yc tis) : VX Tryz.prog E 14 ⟨WD, 24, .struct [(0, 9), (1, 12)]⟩ := Z0 (inf := Tryz.t14) (by kernel_rfl) (by kernel_rfl) rfl (by kernel_rfl) (by decide) (by decide) rfl (fields := #[fd "msg" 9 0 "runtime" 0, fd "addr" 12 1 "runtime" 16]) (by kernel_rfl) rfl (all_cons ⟨⟨Zu, 16, .scalar⟩, by rw [h]; kernel_rfl⟩ (all_cons ⟨⟨Fd, 8, .scalar⟩, by rw [h]; kernel_rfl⟩ all_nil))
theorem Zxy (E : Env) (h : E.ti = Yc tis) : VX Tryz.prog E 21 ⟨ZuH, 4, .scalar⟩ := YR (inf := Tryz.t21) (by kernel_rfl) rfl rfl (by kernel_rfl) (by decide) (d := .int .i32) (by kernel_rfl) rfl
theorem Zxz (E : Env) (h : E.ti = Yc tis) : VX Tryz.prog E 22 ⟨Yv, 24, .slice 5⟩ := X5 (ie := ⟨Zka, 1, .scalar⟩) (inf := Tryz.t22) (by kernel_rfl) rfl rfl rfl (by decide) (by kernel_rfl) (by rw [h]; kernel_rfl)
theorem ZxA (E : Env) (h : E.ti = Yc tis) : VX Tryz.prog E 24 ⟨Ze, 24, .slice 99⟩ := X5 (ie := ⟨YV, 72, .struct [(0, 3), (1, 3), (2, 68), (3, 26)]⟩) (inf := Tryz.t24) (by kernel_rfl) rfl rfl rfl (by decide) (by kernel_rfl) (by rw [h]; kernel_rfl)
theorem ZxB (E : Env) (h : E.ti = Yc tis) : VX Tryz.prog E 25 ⟨Zt, 32, .struct [(0, 3), (1, 3), (2, 3), (3, 3)]⟩ := Z0 (inf := Tryz.t25) (by kernel_rfl) (by kernel_rfl) rfl (by kernel_rfl) (by decide) (by decide) rfl (fields := #[fd "Phase" 3 0 "" 0, fd "View" 3 1 "" 8, fd "Block" 3 2 "" 16, fd "Signers" 3 3 "" 24]) (by kernel_rfl) rfl (all_cons ⟨⟨Zk, 8, .scalar⟩, by rw [h]; kernel_rfl⟩ (all_cons ⟨⟨Zk, 8, .scalar⟩, by rw [h]; kernel_rfl⟩ (all_cons ⟨⟨Zk, 8, .scalar⟩, by rw [h]; kernel_rfl⟩ (all_cons ⟨⟨Zk, 8, .scalar⟩, by rw [h]; kernel_rfl⟩ all_nil))))
theorem ZxC (E : Env) (h : E.ti = Yc tis) : VX Tryz.prog E 26 ⟨Wl, 32, .struct [(0, 3), (1, 3), (2, 3), (3, 3)]⟩ := Z0 (inf := Tryz.t26) (by kernel_rfl) (by kernel_rfl) rfl (by kernel_rfl) (by decide) (by decide) rfl (fields := #[fd "Phase" 3 0 "" 0, fd "View" 3 1 "" 8, fd "Block" 3 2 "" 16, fd "Signers" 3 3 "" 24]) (by kernel_rfl) rfl (all_cons ⟨⟨Zk, 8, .scalar⟩, by rw [h]; kernel_rfl⟩ (all_cons ⟨⟨Zk, 8, .scalar⟩, by rw [h]; kernel_rfl⟩ (all_cons ⟨⟨Zk, 8, .scalar⟩, by rw [h]; kernel_rfl⟩ (all_cons ⟨⟨Zk, 8, .scalar⟩, by rw [h]; kernel_rfl⟩ all_nil))))
theorem ZxD (E : Env) (h : E.ti = Yc tis) : VX Tryz.prog E 27 ⟨Y5, 32, .struct [(0, 3), (1, 3), (2, 3), (3, 3)]⟩ := Z0 (inf := Tryz.t27) (by kernel_rfl) (by kernel_rfl) rfl (by kernel_rfl) (by decide) (by decide) rfl (fields := #[fd "Phase" 3 0 "" 0, fd "View" 3 1 "" 8, fd "Block" 3 2 "" 16, fd "By" 3 3 "" 24]) (by kernel_rfl) rfl (all_cons ⟨⟨Zk, 8, .scalar⟩, by rw [h]; kernel_rfl⟩ (all_cons ⟨⟨Zk, 8, .scalar⟩, by rw [h]; kernel_rfl⟩ (all_cons ⟨⟨Zk, 8, .scalar⟩, by rw [h]; kernel_rfl⟩ (all_cons ⟨⟨Zk, 8, .scalar⟩, by rw [h]; kernel_rfl⟩ all_nil))))
theorem ZxE (E : Env) (h : E.ti = Yc tis) : VX Tryz.prog E 28 ⟨Z4, 32, .struct [(0, 3), (1, 3), (2, 3), (3, 3)]⟩ := Z0 (inf := Tryz.t28) (by kernel_rfl) (by kernel_rfl) rfl (by kernel_rfl) (by decide) (by decide) rfl (fields := #[fd "Phase" 3 0 "" 0, fd "View" 3 1 "" 8, fd "Block" 3 2 "" 16, fd "By" 3 3 "" 24]) (by kernel_rfl) rfl (all_cons ⟨⟨Zk, 8, .scalar⟩, by rw [h]; kernel_rfl⟩ (all_cons ⟨⟨Zk, 8, .scalar⟩, by rw [h]; kernel_rfl⟩ (all_cons ⟨⟨Zk, 8, .scalar⟩, by rw [h]; kernel_rfl⟩ (all_cons ⟨⟨Zk, 8, .scalar⟩, by rw [h]; kernel_rfl⟩ all_nil))))
theorem ZxF (E : Env) (h : E.ti = Yc tis) : VX Tryz.prog E 29 ⟨Yu, 24, .slice 3⟩ := X5 (ie := ⟨Zk, 8, .scalar⟩) (inf := Tryz.t29) (by kernel_rfl) rfl rfl rfl (by decide) (by kernel_rfl) (by rw [h]; kernel_rfl)
theorem ZxG (E : Env) (h : E.ti = Yc tis) : VX Tryz.prog E 30 ⟨Zm, 24, .slice 94⟩ := X5 (ie := ⟨Z9, 24, .struct [(0, 9), (1, 3)]⟩) (inf := Tryz.t30) (by kernel_rfl) rfl rfl rfl (by decide) (by kernel_rfl) (by rw [h]; kernel_rfl)
theorem ZxH (E : Env) (h : E.ti = Yc tis) : VX Tryz.prog E 31 ⟨Yi, 24, .slice 97⟩ := X5 (ie := ⟨YJ, 32, .struct [(0, 9), (1, 4), (2, 3)]⟩) (inf := Tryz.t31) (by kernel_rfl) rfl rfl rfl (by decide) (by kernel_rfl) (by rw [h]; kernel_rfl)
theorem ZxI (E : Env) (h : E.ti = Yc tis) : VX Tryz.prog E 32 ⟨ZS, 24, .slice 28⟩ := X5 (ie := ⟨Z4, 32, .struct [(0, 3), (1, 3), (2, 3), (3, 3)]⟩) (inf := Tryz.t32) (by kernel_rfl) rfl rfl rfl (by decide) (by kernel_rfl) (by rw [h]; kernel_rfl)
theorem ZxJ (E : Env) (h : E.ti = Yc tis) : VX Tryz.prog E 33 ⟨ZN, 24, .slice 47⟩ := X5 (ie := ⟨ZP, 104, .struct [(0, 3), (1, 3), (2, 3), (3, 3), (4, 3), (5, 26), (9, 28)]⟩) (inf := Tryz.t33) (by kernel_rfl) rfl rfl rfl (by decide) (by kernel_rfl) (by rw [h]; kernel_rfl)
theorem ZxK (E : Env) (h : E.ti = Yc tis) : VX Tryz.prog E 34 ⟨Y7, 264, .struct [(0, 3), (1, 3), (2, 26), (6, 26), (10, 28), (14, 29), (15, 30), (16, 29), (17, 31), (18, 32), (19, 33), (20, 3)]⟩ := Z0 (inf := Tryz.t34) (by kernel_rfl) (by kernel_rfl) rfl (by kernel_rfl) (by decide) (by decide) rfl (fields := #[fd "Id" 3 0 "" 0, fd "View" 3 1 "" 8, fd "High" 26 2 "" 16, fd "Lock" 26 6 "" 48, fd "Last" 28 10 "" 80, fd "Row" 29 14 "" 112, fd "Cells" 30 15 "" 136, fd "Early" 29 16 "" 160, fd "Undos" 31 17 "" 184, fd "Votes" 32 18 "" 208, fd "News" 33 19 "" 232, fd "Shown" 3 20 "" 256]) (by kernel_rfl) rfl (all_cons ⟨⟨Zk, 8, .scalar⟩, by rw [h]; kernel_rfl⟩ (all_cons ⟨⟨Zk, 8, .scalar⟩, by rw [h]; kernel_rfl⟩ (all_cons ⟨⟨Wl, 32, .struct [(0, 3), (1, 3), (2, 3), (3, 3)]⟩, by rw [h]; kernel_rfl⟩ (all_cons ⟨⟨Wl, 32, .struct [(0, 3), (1, 3), (2, 3), (3, 3)]⟩, by rw [h]; kernel_rfl⟩ (all_cons ⟨⟨Z4, 32, .struct [(0, 3), (1, 3), (2, 3), (3, 3)]⟩, by rw [h]; kernel_rfl⟩ (all_cons ⟨⟨Yu, 24, .slice 3⟩, by rw [h]; kernel_rfl⟩ (all_cons ⟨⟨Zm, 24, .slice 94⟩, by rw [h]; kernel_rfl⟩ (all_cons ⟨⟨Yu, 24, .slice 3⟩, by rw [h]; kernel_rfl⟩ (all_cons ⟨⟨Yi, 24, .slice 97⟩, by rw [h]; kernel_rfl⟩ (all_cons ⟨⟨ZS, 24, .slice 28⟩, by rw [h]; kernel_rfl⟩ (all_cons ⟨⟨ZN, 24, .slice 47⟩, by rw [h]; kernel_rfl⟩ (all_cons ⟨⟨Zk, 8, .scalar⟩, by rw [h]; kernel_rfl⟩ all_nil))))))))))))
theorem ZxL (E : Env) (h : E.ti = Yc tis) : VX Tryz.prog E 35 ⟨ZQ, 264, .struct [(0, 3), (1, 3), (2, 26), (6, 26), (10, 28), (14, 29), (15, 30), (16, 29), (17, 31), (18, 32), (19, 33), (20, 3)]⟩ := Z0 (inf := Tryz.t35) (by kernel_rfl) (by kernel_rfl) rfl (by kernel_rfl) (by decide) (by decide) rfl (fields := #[fd "Id" 3 0 "" 0, fd "View" 3 1 "" 8, fd "High" 26 2 "" 16, fd "Lock" 26 6 "" 48, fd "Last" 28 10 "" 80, fd "Row" 29 14 "" 112, fd "Cells" 30 15 "" 136, fd "Early" 29 16 "" 160, fd "Undos" 31 17 "" 184, fd "Votes" 32 18 "" 208, fd "News" 33 19 "" 232, fd "Shown" 3 20 "" 256]) (by kernel_rfl) rfl (all_cons ⟨⟨Zk, 8, .scalar⟩, by rw [h]; kernel_rfl⟩ (all_cons ⟨⟨Zk, 8, .scalar⟩, by rw [h]; kernel_rfl⟩ (all_cons ⟨⟨Wl, 32, .struct [(0, 3), (1, 3), (2, 3), (3, 3)]⟩, by rw [h]; kernel_rfl⟩ (all_cons ⟨⟨Wl, 32, .struct [(0, 3), (1, 3), (2, 3), (3, 3)]⟩, by rw [h]; kernel_rfl⟩ (all_cons ⟨⟨Z4, 32, .struct [(0, 3), (1, 3), (2, 3), (3, 3)]⟩, by rw [h]; kernel_rfl⟩ (all_cons ⟨⟨Yu, 24, .slice 3⟩, by rw [h]; kernel_rfl⟩ (all_cons ⟨⟨Zm, 24, .slice 94⟩, by rw [h]; kernel_rfl⟩ (all_cons ⟨⟨Yu, 24, .slice 3⟩, by rw [h]; kernel_rfl⟩ (all_cons ⟨⟨Yi, 24, .slice 97⟩, by rw [h]; kernel_rfl⟩ (all_cons ⟨⟨ZS, 24, .slice 28⟩, by rw [h]; kernel_rfl⟩ (all_cons ⟨⟨ZN, 24, .slice 47⟩, by rw [h]; kernel_rfl⟩ (all_cons ⟨⟨Zk, 8, .scalar⟩, by rw [h]; kernel_rfl⟩ all_nil))))))))))))
theorem ZxM (E : Env) (h : E.ti = Yc tis) : VX Tryz.prog E 46 ⟨Zj, 104, .struct [(0, 3), (1, 3), (2, 3), (3, 3), (4, 3), (5, 26), (9, 28)]⟩ := Z0 (inf := Tryz.t46) (by kernel_rfl) (by kernel_rfl) rfl (by kernel_rfl) (by decide) (by decide) rfl (fields := #[fd "Kind" 3 0 "" 0, fd "From" 3 1 "" 8, fd "To" 3 2 "" 16, fd "View" 3 3 "" 24, fd "Block" 3 4 "" 32, fd "Qc" 26 5 "" 40, fd "Vote" 28 9 "" 72]) (by kernel_rfl) rfl (all_cons ⟨⟨Zk, 8, .scalar⟩, by rw [h]; kernel_rfl⟩ (all_cons ⟨⟨Zk, 8, .scalar⟩, by rw [h]; kernel_rfl⟩ (all_cons ⟨⟨Zk, 8, .scalar⟩, by rw [h]; kernel_rfl⟩ (all_cons ⟨⟨Zk, 8, .scalar⟩, by rw [h]; kernel_rfl⟩ (all_cons ⟨⟨Zk, 8, .scalar⟩, by rw [h]; kernel_rfl⟩ (all_cons ⟨⟨Wl, 32, .struct [(0, 3), (1, 3), (2, 3), (3, 3)]⟩, by rw [h]; kernel_rfl⟩ (all_cons ⟨⟨Z4, 32, .struct [(0, 3), (1, 3), (2, 3), (3, 3)]⟩, by rw [h]; kernel_rfl⟩ all_nil)))))))
theorem ZxN (E : Env) (h : E.ti = Yc tis) : VX Tryz.prog E 47 ⟨ZP, 104, .struct [(0, 3), (1, 3), (2, 3), (3, 3), (4, 3), (5, 26), (9, 28)]⟩ := Z0 (inf := Tryz.t47) (by kernel_rfl) (by kernel_rfl) rfl (by kernel_rfl) (by decide) (by decide) rfl (fields := #[fd "Kind" 3 0 "" 0, fd "From" 3 1 "" 8, fd "To" 3 2 "" 16, fd "View" 3 3 "" 24, fd "Block" 3 4 "" 32, fd "Qc" 26 5 "" 40, fd "Vote" 28 9 "" 72]) (by kernel_rfl) rfl (all_cons ⟨⟨Zk, 8, .scalar⟩, by rw [h]; kernel_rfl⟩ (all_cons ⟨⟨Zk, 8, .scalar⟩, by rw [h]; kernel_rfl⟩ (all_cons ⟨⟨Zk, 8, .scalar⟩, by rw [h]; kernel_rfl⟩ (all_cons ⟨⟨Zk, 8, .scalar⟩, by rw [h]; kernel_rfl⟩ (all_cons ⟨⟨Zk, 8, .scalar⟩, by rw [h]; kernel_rfl⟩ (all_cons ⟨⟨Wl, 32, .struct [(0, 3), (1, 3), (2, 3), (3, 3)]⟩, by rw [h]; kernel_rfl⟩ (all_cons ⟨⟨Z4, 32, .struct [(0, 3), (1, 3), (2, 3), (3, 3)]⟩, by rw [h]; kernel_rfl⟩ all_nil)))))))
theorem ZxO (E : Env) (h : E.ti = Yc tis) : VX Tryz.prog E 50 ⟨XN, 24, .slice 35⟩ := X5 (ie := ⟨ZQ, 264, .struct [(0, 3), (1, 3), (2, 26), (6, 26), (10, 28), (14, 29), (15, 30), (16, 29), (17, 31), (18, 32), (19, 33), (20, 3)]⟩) (inf := Tryz.t50) (by kernel_rfl) rfl rfl rfl (by decide) (by kernel_rfl) (by rw [h]; kernel_rfl)
theorem ZxP (E : Env) (h : E.ti = Yc tis) : VX Tryz.prog E 68 ⟨Yg, 24, .slice 139⟩ := X5 (ie := ⟨W6, 32, .struct [(0, 3), (1, 9), (2, 3)]⟩) (inf := Tryz.t68) (by kernel_rfl) rfl rfl rfl (by decide) (by kernel_rfl) (by rw [h]; kernel_rfl)
theorem ZxQ (E : Env) (h : E.ti = Yc tis) : VX Tryz.prog E 69 ⟨Y8, 144, .struct [(0, 3), (1, 4), (2, 3), (3, 24), (4, 50), (5, 33), (6, 32), (7, 68)]⟩ := Z0 (inf := Tryz.t69) (by kernel_rfl) (by kernel_rfl) rfl (by kernel_rfl) (by decide) (by decide) rfl (fields := #[fd "N" 3 0 "" 0, fd "Chain" 4 1 "" 8, fd "Liars" 3 2 "" 16, fd "Tree" 24 3 "" 24, fd "Peers" 50 4 "" 48, fd "Net" 33 5 "" 72, fd "Said" 32 6 "" 96, fd "Pending" 68 7 "" 120]) (by kernel_rfl) rfl (all_cons ⟨⟨Zk, 8, .scalar⟩, by rw [h]; kernel_rfl⟩ (all_cons ⟨⟨ZC, 1, .scalar⟩, by rw [h]; kernel_rfl⟩ (all_cons ⟨⟨Zk, 8, .scalar⟩, by rw [h]; kernel_rfl⟩ (all_cons ⟨⟨Ze, 24, .slice 99⟩, by rw [h]; kernel_rfl⟩ (all_cons ⟨⟨XN, 24, .slice 35⟩, by rw [h]; kernel_rfl⟩ (all_cons ⟨⟨ZN, 24, .slice 47⟩, by rw [h]; kernel_rfl⟩ (all_cons ⟨⟨ZS, 24, .slice 28⟩, by rw [h]; kernel_rfl⟩ (all_cons ⟨⟨Yg, 24, .slice 139⟩, by rw [h]; kernel_rfl⟩ all_nil))))))))
theorem ZxR (E : Env) (h : E.ti = Yc tis) : VX Tryz.prog E 70 ⟨YN, 144, .struct [(0, 3), (1, 4), (2, 3), (3, 24), (4, 50), (5, 33), (6, 32), (7, 68)]⟩ := Z0 (inf := Tryz.t70) (by kernel_rfl) (by kernel_rfl) rfl (by kernel_rfl) (by decide) (by decide) rfl (fields := #[fd "N" 3 0 "" 0, fd "Chain" 4 1 "" 8, fd "Liars" 3 2 "" 16, fd "Tree" 24 3 "" 24, fd "Peers" 50 4 "" 48, fd "Net" 33 5 "" 72, fd "Said" 32 6 "" 96, fd "Pending" 68 7 "" 120]) (by kernel_rfl) rfl (all_cons ⟨⟨Zk, 8, .scalar⟩, by rw [h]; kernel_rfl⟩ (all_cons ⟨⟨ZC, 1, .scalar⟩, by rw [h]; kernel_rfl⟩ (all_cons ⟨⟨Zk, 8, .scalar⟩, by rw [h]; kernel_rfl⟩ (all_cons ⟨⟨Ze, 24, .slice 99⟩, by rw [h]; kernel_rfl⟩ (all_cons ⟨⟨XN, 24, .slice 35⟩, by rw [h]; kernel_rfl⟩ (all_cons ⟨⟨ZN, 24, .slice 47⟩, by rw [h]; kernel_rfl⟩ (all_cons ⟨⟨ZS, 24, .slice 28⟩, by rw [h]; kernel_rfl⟩ (all_cons ⟨⟨Yg, 24, .slice 139⟩, by rw [h]; kernel_rfl⟩ all_nil))))))))
theorem ZxS (E : Env) (h : E.ti = Yc tis) : VX Tryz.prog E 93 ⟨Zo, 24, .struct [(0, 9), (1, 3)]⟩ := Z0 (inf := Tryz.t93) (by kernel_rfl) (by kernel_rfl) rfl (by kernel_rfl) (by decide) (by decide) rfl (fields := #[fd "Key" 9 0 "" 0, fd "Num" 3 1 "" 16]) (by kernel_rfl) rfl (all_cons ⟨⟨Zu, 16, .scalar⟩, by rw [h]; kernel_rfl⟩ (all_cons ⟨⟨Zk, 8, .scalar⟩, by rw [h]; kernel_rfl⟩ all_nil))
theorem ZxT (E : Env) (h : E.ti = Yc tis) : VX Tryz.prog E 94 ⟨Z9, 24, .struct [(0, 9), (1, 3)]⟩ := Z0 (inf := Tryz.t94) (by kernel_rfl) (by kernel_rfl) rfl (by kernel_rfl) (by decide) (by decide) rfl (fields := #[fd "Key" 9 0 "" 0, fd "Num" 3 1 "" 16]) (by kernel_rfl) rfl (all_cons ⟨⟨Zu, 16, .scalar⟩, by rw [h]; kernel_rfl⟩ (all_cons ⟨⟨Zk, 8, .scalar⟩, by rw [h]; kernel_rfl⟩ all_nil))
theorem ZxU (E : Env) (h : E.ti = Yc tis) : VX Tryz.prog E 96 ⟨ZF, 32, .struct [(0, 9), (1, 4), (2, 3)]⟩ := Z0 (inf := Tryz.t96) (by kernel_rfl) (by kernel_rfl) rfl (by kernel_rfl) (by decide) (by decide) rfl (fields := #[fd "Key" 9 0 "" 0, fd "Had" 4 1 "" 16, fd "Num" 3 2 "" 24]) (by kernel_rfl) rfl (all_cons ⟨⟨Zu, 16, .scalar⟩, by rw [h]; kernel_rfl⟩ (all_cons ⟨⟨ZC, 1, .scalar⟩, by rw [h]; kernel_rfl⟩ (all_cons ⟨⟨Zk, 8, .scalar⟩, by rw [h]; kernel_rfl⟩ all_nil)))
theorem ZxV (E : Env) (h : E.ti = Yc tis) : VX Tryz.prog E 97 ⟨YJ, 32, .struct [(0, 9), (1, 4), (2, 3)]⟩ := Z0 (inf := Tryz.t97) (by kernel_rfl) (by kernel_rfl) rfl (by kernel_rfl) (by decide) (by decide) rfl (fields := #[fd "Key" 9 0 "" 0, fd "Had" 4 1 "" 16, fd "Num" 3 2 "" 24]) (by kernel_rfl) rfl (all_cons ⟨⟨Zu, 16, .scalar⟩, by rw [h]; kernel_rfl⟩ (all_cons ⟨⟨ZC, 1, .scalar⟩, by rw [h]; kernel_rfl⟩ (all_cons ⟨⟨Zk, 8, .scalar⟩, by rw [h]; kernel_rfl⟩ all_nil)))
theorem ZxW (E : Env) (h : E.ti = Yc tis) : VX Tryz.prog E 98 ⟨Y9, 72, .struct [(0, 3), (1, 3), (2, 68), (3, 26)]⟩ := Z0 (inf := Tryz.t98) (by kernel_rfl) (by kernel_rfl) rfl (by kernel_rfl) (by decide) (by decide) rfl (fields := #[fd "Parent" 3 0 "" 0, fd "View" 3 1 "" 8, fd "Cmds" 68 2 "" 16, fd "Just" 26 3 "" 40]) (by kernel_rfl) rfl (all_cons ⟨⟨Zk, 8, .scalar⟩, by rw [h]; kernel_rfl⟩ (all_cons ⟨⟨Zk, 8, .scalar⟩, by rw [h]; kernel_rfl⟩ (all_cons ⟨⟨Yg, 24, .slice 139⟩, by rw [h]; kernel_rfl⟩ (all_cons ⟨⟨Wl, 32, .struct [(0, 3), (1, 3), (2, 3), (3, 3)]⟩, by rw [h]; kernel_rfl⟩ all_nil))))
theorem ZxX (E : Env) (h : E.ti = Yc tis) : VX Tryz.prog E 99 ⟨YV, 72, .struct [(0, 3), (1, 3), (2, 68), (3, 26)]⟩ := Z0 (inf := Tryz.t99) (by kernel_rfl) (by kernel_rfl) rfl (by kernel_rfl) (by decide) (by decide) rfl (fields := #[fd "Parent" 3 0 "" 0, fd "View" 3 1 "" 8, fd "Cmds" 68 2 "" 16, fd "Just" 26 3 "" 40]) (by kernel_rfl) rfl (all_cons ⟨⟨Zk, 8, .scalar⟩, by rw [h]; kernel_rfl⟩ (all_cons ⟨⟨Zk, 8, .scalar⟩, by rw [h]; kernel_rfl⟩ (all_cons ⟨⟨Yg, 24, .slice 139⟩, by rw [h]; kernel_rfl⟩ (all_cons ⟨⟨Wl, 32, .struct [(0, 3), (1, 3), (2, 3), (3, 3)]⟩, by rw [h]; kernel_rfl⟩ all_nil))))
theorem Zwx (E : Env) (h : E.ti = Yc tis) : VX Tryz.prog E 125 ⟨Ws, 40, .struct [(0, 22), (1, 3), (2, 3)]⟩ := Z0 (inf := Tryz.t125) (by kernel_rfl) (by kernel_rfl) rfl (by kernel_rfl) (by decide) (by decide) rfl (fields := #[fd "b" 22 0 "loop.example/g00330/spec" 0, fd "i" 3 1 "loop.example/g00330/spec" 24, fd "h" 3 2 "loop.example/g00330/spec" 32]) (by kernel_rfl) rfl (all_cons ⟨⟨Yv, 24, .slice 5⟩, by rw [h]; kernel_rfl⟩ (all_cons ⟨⟨Zk, 8, .scalar⟩, by rw [h]; kernel_rfl⟩ (all_cons ⟨⟨Zk, 8, .scalar⟩, by rw [h]; kernel_rfl⟩ all_nil)))
theorem Zwy (E : Env) (h : E.ti = Yc tis) : VX Tryz.prog E 126 ⟨Zz, 40, .struct [(0, 22), (1, 3), (2, 3)]⟩ := Z0 (inf := Tryz.t126) (by kernel_rfl) (by kernel_rfl) rfl (by kernel_rfl) (by decide) (by decide) rfl (fields := #[fd "b" 22 0 "loop.example/g00330/spec" 0, fd "i" 3 1 "loop.example/g00330/spec" 24, fd "h" 3 2 "loop.example/g00330/spec" 32]) (by kernel_rfl) rfl (all_cons ⟨⟨Yv, 24, .slice 5⟩, by rw [h]; kernel_rfl⟩ (all_cons ⟨⟨Zk, 8, .scalar⟩, by rw [h]; kernel_rfl⟩ (all_cons ⟨⟨Zk, 8, .scalar⟩, by rw [h]; kernel_rfl⟩ all_nil)))
theorem Zwz (E : Env) (h : E.ti = Yc tis) : VX Tryz.prog E 127 ⟨Zww, 8, .scalar⟩ := YR (inf := Tryz.t127) (by kernel_rfl) rfl rfl (by kernel_rfl) (by decide) (d := .int .u64) (by kernel_rfl) rfl
theorem ZwA (E : Env) (h : E.ti = Yc tis) : VX Tryz.prog E 138 ⟨ZV, 32, .struct [(0, 3), (1, 9), (2, 3)]⟩ := Z0 (inf := Tryz.t138) (by kernel_rfl) (by kernel_rfl) rfl (by kernel_rfl) (by decide) (by decide) rfl (fields := #[fd "Kind" 3 0 "" 0, fd "Key" 9 1 "" 8, fd "Num" 3 2 "" 24]) (by kernel_rfl) rfl (all_cons ⟨⟨Zk, 8, .scalar⟩, by rw [h]; kernel_rfl⟩ (all_cons ⟨⟨Zu, 16, .scalar⟩, by rw [h]; kernel_rfl⟩ (all_cons ⟨⟨Zk, 8, .scalar⟩, by rw [h]; kernel_rfl⟩ all_nil)))
theorem ZwB (E : Env) (h : E.ti = Yc tis) : VX Tryz.prog E 139 ⟨W6, 32, .struct [(0, 3), (1, 9), (2, 3)]⟩ := Z0 (inf := Tryz.t139) (by kernel_rfl) (by kernel_rfl) rfl (by kernel_rfl) (by decide) (by decide) rfl (fields := #[fd "Kind" 3 0 "" 0, fd "Key" 9 1 "" 8, fd "Num" 3 2 "" 24]) (by kernel_rfl) rfl (all_cons ⟨⟨Zk, 8, .scalar⟩, by rw [h]; kernel_rfl⟩ (all_cons ⟨⟨Zu, 16, .scalar⟩, by rw [h]; kernel_rfl⟩ (all_cons ⟨⟨Zk, 8, .scalar⟩, by rw [h]; kernel_rfl⟩ all_nil)))
theorem ZwC (E : Env) (h : E.ti = Yc tis) : VX Tryz.prog E 140 ⟨Xa, 64, .struct [(0, 3), (1, 3), (2, 3), (3, 3), (4, 139)]⟩ := Z0 (inf := Tryz.t140) (by kernel_rfl) (by kernel_rfl) rfl (by kernel_rfl) (by decide) (by decide) rfl (fields := #[fd "Kind" 3 0 "" 0, fd "At" 3 1 "" 8, fd "To" 3 2 "" 16, fd "Num" 3 3 "" 24, fd "Cmd" 139 4 "" 32]) (by kernel_rfl) rfl (all_cons ⟨⟨Zk, 8, .scalar⟩, by rw [h]; kernel_rfl⟩ (all_cons ⟨⟨Zk, 8, .scalar⟩, by rw [h]; kernel_rfl⟩ (all_cons ⟨⟨Zk, 8, .scalar⟩, by rw [h]; kernel_rfl⟩ (all_cons ⟨⟨Zk, 8, .scalar⟩, by rw [h]; kernel_rfl⟩ (all_cons ⟨⟨W6, 32, .struct [(0, 3), (1, 9), (2, 3)]⟩, by rw [h]; kernel_rfl⟩ all_nil)))))
theorem ZwD (E : Env) (h : E.ti = Yc tis) : VX Tryz.prog E 141 ⟨WN, 64, .struct [(0, 3), (1, 3), (2, 3), (3, 3), (4, 139)]⟩ := Z0 (inf := Tryz.t141) (by kernel_rfl) (by kernel_rfl) rfl (by kernel_rfl) (by decide) (by decide) rfl (fields := #[fd "Kind" 3 0 "" 0, fd "At" 3 1 "" 8, fd "To" 3 2 "" 16, fd "Num" 3 3 "" 24, fd "Cmd" 139 4 "" 32]) (by kernel_rfl) rfl (all_cons ⟨⟨Zk, 8, .scalar⟩, by rw [h]; kernel_rfl⟩ (all_cons ⟨⟨Zk, 8, .scalar⟩, by rw [h]; kernel_rfl⟩ (all_cons ⟨⟨Zk, 8, .scalar⟩, by rw [h]; kernel_rfl⟩ (all_cons ⟨⟨Zk, 8, .scalar⟩, by rw [h]; kernel_rfl⟩ (all_cons ⟨⟨W6, 32, .struct [(0, 3), (1, 9), (2, 3)]⟩, by rw [h]; kernel_rfl⟩ all_nil)))))
theorem ZwE (E : Env) (h : E.ti = Yc tis) : VX Tryz.prog E 184 ⟨DL, 24, .slice 9⟩ := X5 (ie := ⟨Zu, 16, .scalar⟩) (inf := Tryz.t184) (by kernel_rfl) rfl rfl rfl (by decide) (by kernel_rfl) (by rw [h]; kernel_rfl)
theorem ZwF (E : Env) (h : E.ti = Yc tis) : VX Tryz.prog E 185 ⟨Zkb, 24, .slice 141⟩ := X5 (ie := ⟨WN, 64, .struct [(0, 3), (1, 3), (2, 3), (3, 3), (4, 139)]⟩) (inf := Tryz.t185) (by kernel_rfl) rfl rfl rfl (by decide) (by kernel_rfl) (by rw [h]; kernel_rfl)
theorem ZwG (E : Env) (h : E.ti = Yc tis) : VX Tryz.prog E 224 ⟨Xs, 32, .struct [(0, 9), (1, 3), (2, 4)]⟩ := Z0 (inf := Tryz.t224) (by kernel_rfl) (by kernel_rfl) rfl (by kernel_rfl) (by decide) (by decide) rfl (fields := #[fd "text" 9 0 "loop.example/g00330/spec" 0, fd "at" 3 1 "loop.example/g00330/spec" 16, fd "bad" 4 2 "loop.example/g00330/spec" 24]) (by kernel_rfl) rfl (all_cons ⟨⟨Zu, 16, .scalar⟩, by rw [h]; kernel_rfl⟩ (all_cons ⟨⟨Zk, 8, .scalar⟩, by rw [h]; kernel_rfl⟩ (all_cons ⟨⟨ZC, 1, .scalar⟩, by rw [h]; kernel_rfl⟩ all_nil)))
theorem ZwH (E : Env) (h : E.ti = Yc tis) : VX Tryz.prog E 225 ⟨XO, 32, .struct [(0, 9), (1, 3), (2, 4)]⟩ := Z0 (inf := Tryz.t225) (by kernel_rfl) (by kernel_rfl) rfl (by kernel_rfl) (by decide) (by decide) rfl (fields := #[fd "text" 9 0 "loop.example/g00330/spec" 0, fd "at" 3 1 "loop.example/g00330/spec" 16, fd "bad" 4 2 "loop.example/g00330/spec" 24]) (by kernel_rfl) rfl (all_cons ⟨⟨Zu, 16, .scalar⟩, by rw [h]; kernel_rfl⟩ (all_cons ⟨⟨Zk, 8, .scalar⟩, by rw [h]; kernel_rfl⟩ (all_cons ⟨⟨ZC, 1, .scalar⟩, by rw [h]; kernel_rfl⟩ all_nil)))
theorem ZwI (E : Env) (h : E.ti = Yc tis) : VX Tryz.prog E 238 ⟨X6, 4, .scalar⟩ := YR (inf := Tryz.t238) (by kernel_rfl) rfl rfl (by kernel_rfl) (by decide) (d := .int .u32) (by kernel_rfl) rfl
theorem ZwJ (E : Env) (h : E.ti = Yc tis) : VX Tryz.prog E 252 ⟨R7, 1, .scalar⟩ := YR (inf := Tryz.t252) (by kernel_rfl) rfl rfl (by kernel_rfl) (by decide) (d := .int .u8) (by kernel_rfl) rfl
theorem ZwK (E : Env) (h : E.ti = Yc tis) : VX Tryz.prog E 253 ⟨Zff, 1, .scalar⟩ := YR (inf := Tryz.t253) (by kernel_rfl) rfl rfl (by kernel_rfl) (by decide) (d := .int .u8) (by kernel_rfl) rfl
theorem ZwL (E : Env) (h : E.ti = Yc tis) : VX Tryz.prog E 256 ⟨Il, 4, .scalar⟩ := YR (inf := Tryz.t256) (by kernel_rfl) rfl rfl (by kernel_rfl) (by decide) (d := .int .i32) (by kernel_rfl) rfl
theorem ZwM (E : Env) (h : E.ti = Yc tis) : VX Tryz.prog E 257 ⟨In, 4, .scalar⟩ := YR (inf := Tryz.t257) (by kernel_rfl) rfl rfl (by kernel_rfl) (by decide) (d := .int .i32) (by kernel_rfl) rfl
theorem ZxY (E : Env) (h : E.ti = Yc tis) : ∀ t i, E.ti t = some i → VX Tryz.prog E t i := by
 rw [h]
 refine Zwo ?_
 refine all_cons (Zyl E h) ?_
 refine all_cons (Zym E h) ?_
 refine all_cons (Zyn E h) ?_
 refine all_cons (Zyo E h) ?_
 refine all_cons (Zyp E h) ?_
 refine all_cons (Zyq E h) ?_
 refine all_cons (Zyr E h) ?_
 refine all_cons (Zys E h) ?_
 refine all_cons (Zxt E h) ?_
 refine all_cons (Zxu E h) ?_
 refine all_cons (Zxv E h) ?_
 refine all_cons (Zxw E h) ?_
 refine all_cons (Zxx E h) ?_
 refine all_cons (Zxy E h) ?_
 refine all_cons (Zxz E h) ?_
 refine all_cons (ZxA E h) ?_
 refine all_cons (ZxB E h) ?_
 refine all_cons (ZxC E h) ?_
 refine all_cons (ZxD E h) ?_
 refine all_cons (ZxE E h) ?_
 refine all_cons (ZxF E h) ?_
 refine all_cons (ZxG E h) ?_
 refine all_cons (ZxH E h) ?_
 refine all_cons (ZxI E h) ?_
 refine all_cons (ZxJ E h) ?_
 refine all_cons (ZxK E h) ?_
 refine all_cons (ZxL E h) ?_
 refine all_cons (ZxM E h) ?_
 refine all_cons (ZxN E h) ?_
 refine all_cons (ZxO E h) ?_
 refine all_cons (ZxP E h) ?_
 refine all_cons (ZxQ E h) ?_
 refine all_cons (ZxR E h) ?_
 refine all_cons (ZxS E h) ?_
 refine all_cons (ZxT E h) ?_
 refine all_cons (ZxU E h) ?_
 refine all_cons (ZxV E h) ?_
 refine all_cons (ZxW E h) ?_
 refine all_cons (ZxX E h) ?_
 refine all_cons (Zwx E h) ?_
 refine all_cons (Zwy E h) ?_
 refine all_cons (Zwz E h) ?_
 refine all_cons (ZwA E h) ?_
 refine all_cons (ZwB E h) ?_
 refine all_cons (ZwC E h) ?_
 refine all_cons (ZwD E h) ?_
 refine all_cons (ZwE E h) ?_
 refine all_cons (ZwF E h) ?_
 refine all_cons (ZwG E h) ?_
 refine all_cons (ZwH E h) ?_
 refine all_cons (ZwI E h) ?_
 refine all_cons (ZwJ E h) ?_
 refine all_cons (ZwK E h) ?_
 refine all_cons (ZwL E h) ?_
 refine all_cons (ZwM E h) ?_
 exact all_nil
theorem Zyt : Zts Tryz.prog 26 Wl := Zv3 6 (by decide) (.struct (fs := [(fd "Phase" 3 0 "" 0), (fd "View" 3 1 "" 8), (fd "Block" 3 2 "" 16), (fd "Signers" 3 3 "" 24)]) (by kernel_rfl) (by kernel_rfl) rfl (by kernel_rfl) (.cons (f := (fd "Phase" 3 0 "" 0)) (a := Zk) rfl (by decide) ⟨Tryz.t3, by kernel_rfl, rfl⟩ ⟨TypeDesc.int IntKind.i64, by kernel_rfl, rfl⟩ rfl (.int (by kernel_rfl)) (.cons (f := (fd "View" 3 1 "" 8)) (a := Zk) rfl (by decide) ⟨Tryz.t3, by kernel_rfl, rfl⟩ ⟨TypeDesc.int IntKind.i64, by kernel_rfl, rfl⟩ rfl (.int (by kernel_rfl)) (.cons (f := (fd "Block" 3 2 "" 16)) (a := Zk) rfl (by decide) ⟨Tryz.t3, by kernel_rfl, rfl⟩ ⟨TypeDesc.int IntKind.i64, by kernel_rfl, rfl⟩ rfl (.int (by kernel_rfl)) (.cons (f := (fd "Signers" 3 3 "" 24)) (a := Zk) rfl (by decide) ⟨Tryz.t3, by kernel_rfl, rfl⟩ ⟨TypeDesc.int IntKind.i64, by kernel_rfl, rfl⟩ rfl (.int (by kernel_rfl)) .nil))))) rfl (by kernel_rfl)
theorem Zyu : Zts Tryz.prog 28 Z4 := Zv3 6 (by decide) (.struct (fs := [(fd "Phase" 3 0 "" 0), (fd "View" 3 1 "" 8), (fd "Block" 3 2 "" 16), (fd "By" 3 3 "" 24)]) (by kernel_rfl) (by kernel_rfl) rfl (by kernel_rfl) (.cons (f := (fd "Phase" 3 0 "" 0)) (a := Zk) rfl (by decide) ⟨Tryz.t3, by kernel_rfl, rfl⟩ ⟨TypeDesc.int IntKind.i64, by kernel_rfl, rfl⟩ rfl (.int (by kernel_rfl)) (.cons (f := (fd "View" 3 1 "" 8)) (a := Zk) rfl (by decide) ⟨Tryz.t3, by kernel_rfl, rfl⟩ ⟨TypeDesc.int IntKind.i64, by kernel_rfl, rfl⟩ rfl (.int (by kernel_rfl)) (.cons (f := (fd "Block" 3 2 "" 16)) (a := Zk) rfl (by decide) ⟨Tryz.t3, by kernel_rfl, rfl⟩ ⟨TypeDesc.int IntKind.i64, by kernel_rfl, rfl⟩ rfl (.int (by kernel_rfl)) (.cons (f := (fd "By" 3 3 "" 24)) (a := Zk) rfl (by decide) ⟨Tryz.t3, by kernel_rfl, rfl⟩ ⟨TypeDesc.int IntKind.i64, by kernel_rfl, rfl⟩ rfl (.int (by kernel_rfl)) .nil))))) rfl (by kernel_rfl)
theorem Zyv : Zts Tryz.prog 47 ZP := Zv3 6 (by decide) (.struct (fs := [(fd "Kind" 3 0 "" 0), (fd "From" 3 1 "" 8), (fd "To" 3 2 "" 16), (fd "View" 3 3 "" 24), (fd "Block" 3 4 "" 32), (fd "Qc" 26 5 "" 40), (fd "Vote" 28 9 "" 72)]) (by kernel_rfl) (by kernel_rfl) rfl (by kernel_rfl) (.cons (f := (fd "Kind" 3 0 "" 0)) (a := Zk) rfl (by decide) ⟨Tryz.t3, by kernel_rfl, rfl⟩ ⟨TypeDesc.int IntKind.i64, by kernel_rfl, rfl⟩ rfl (.int (by kernel_rfl)) (.cons (f := (fd "From" 3 1 "" 8)) (a := Zk) rfl (by decide) ⟨Tryz.t3, by kernel_rfl, rfl⟩ ⟨TypeDesc.int IntKind.i64, by kernel_rfl, rfl⟩ rfl (.int (by kernel_rfl)) (.cons (f := (fd "To" 3 2 "" 16)) (a := Zk) rfl (by decide) ⟨Tryz.t3, by kernel_rfl, rfl⟩ ⟨TypeDesc.int IntKind.i64, by kernel_rfl, rfl⟩ rfl (.int (by kernel_rfl)) (.cons (f := (fd "View" 3 3 "" 24)) (a := Zk) rfl (by decide) ⟨Tryz.t3, by kernel_rfl, rfl⟩ ⟨TypeDesc.int IntKind.i64, by kernel_rfl, rfl⟩ rfl (.int (by kernel_rfl)) (.cons (f := (fd "Block" 3 4 "" 32)) (a := Zk) rfl (by decide) ⟨Tryz.t3, by kernel_rfl, rfl⟩ ⟨TypeDesc.int IntKind.i64, by kernel_rfl, rfl⟩ rfl (.int (by kernel_rfl)) (.cons (f := (fd "Qc" 26 5 "" 40)) (a := Wl) rfl (by decide) ⟨Tryz.t26, by kernel_rfl, rfl⟩ ⟨TypeDesc.struct (Tryz.prog.fieldsOf 26), by kernel_rfl, rfl⟩ rfl (.struct (fs := [(fd "Phase" 3 0 "" 0), (fd "View" 3 1 "" 8), (fd "Block" 3 2 "" 16), (fd "Signers" 3 3 "" 24)]) (by kernel_rfl) (by kernel_rfl) rfl (by kernel_rfl) (.cons (f := (fd "Phase" 3 0 "" 0)) (a := Zk) rfl (by decide) ⟨Tryz.t3, by kernel_rfl, rfl⟩ ⟨TypeDesc.int IntKind.i64, by kernel_rfl, rfl⟩ rfl (.int (by kernel_rfl)) (.cons (f := (fd "View" 3 1 "" 8)) (a := Zk) rfl (by decide) ⟨Tryz.t3, by kernel_rfl, rfl⟩ ⟨TypeDesc.int IntKind.i64, by kernel_rfl, rfl⟩ rfl (.int (by kernel_rfl)) (.cons (f := (fd "Block" 3 2 "" 16)) (a := Zk) rfl (by decide) ⟨Tryz.t3, by kernel_rfl, rfl⟩ ⟨TypeDesc.int IntKind.i64, by kernel_rfl, rfl⟩ rfl (.int (by kernel_rfl)) (.cons (f := (fd "Signers" 3 3 "" 24)) (a := Zk) rfl (by decide) ⟨Tryz.t3, by kernel_rfl, rfl⟩ ⟨TypeDesc.int IntKind.i64, by kernel_rfl, rfl⟩ rfl (.int (by kernel_rfl)) .nil))))) (.cons (f := (fd "Vote" 28 9 "" 72)) (a := Z4) rfl (by decide) ⟨Tryz.t28, by kernel_rfl, rfl⟩ ⟨TypeDesc.struct (Tryz.prog.fieldsOf 28), by kernel_rfl, rfl⟩ rfl (.struct (fs := [(fd "Phase" 3 0 "" 0), (fd "View" 3 1 "" 8), (fd "Block" 3 2 "" 16), (fd "By" 3 3 "" 24)]) (by kernel_rfl) (by kernel_rfl) rfl (by kernel_rfl) (.cons (f := (fd "Phase" 3 0 "" 0)) (a := Zk) rfl (by decide) ⟨Tryz.t3, by kernel_rfl, rfl⟩ ⟨TypeDesc.int IntKind.i64, by kernel_rfl, rfl⟩ rfl (.int (by kernel_rfl)) (.cons (f := (fd "View" 3 1 "" 8)) (a := Zk) rfl (by decide) ⟨Tryz.t3, by kernel_rfl, rfl⟩ ⟨TypeDesc.int IntKind.i64, by kernel_rfl, rfl⟩ rfl (.int (by kernel_rfl)) (.cons (f := (fd "Block" 3 2 "" 16)) (a := Zk) rfl (by decide) ⟨Tryz.t3, by kernel_rfl, rfl⟩ ⟨TypeDesc.int IntKind.i64, by kernel_rfl, rfl⟩ rfl (.int (by kernel_rfl)) (.cons (f := (fd "By" 3 3 "" 24)) (a := Zk) rfl (by decide) ⟨Tryz.t3, by kernel_rfl, rfl⟩ ⟨TypeDesc.int IntKind.i64, by kernel_rfl, rfl⟩ rfl (.int (by kernel_rfl)) .nil))))) .nil)))))))) rfl (by kernel_rfl)
theorem Zyw : Zts Tryz.prog 94 Z9 := Zv3 6 (by decide) (.struct (fs := [(fd "Key" 9 0 "" 0), (fd "Num" 3 1 "" 16)]) (by kernel_rfl) (by kernel_rfl) rfl (by kernel_rfl) (.cons (f := (fd "Key" 9 0 "" 0)) (a := Zu) rfl (by decide) ⟨Tryz.t9, by kernel_rfl, rfl⟩ ⟨TypeDesc.string, by kernel_rfl, rfl⟩ rfl (.str (by kernel_rfl)) (.cons (f := (fd "Num" 3 1 "" 16)) (a := Zk) rfl (by decide) ⟨Tryz.t3, by kernel_rfl, rfl⟩ ⟨TypeDesc.int IntKind.i64, by kernel_rfl, rfl⟩ rfl (.int (by kernel_rfl)) .nil))) rfl (by kernel_rfl)
theorem Zyx : Zts Tryz.prog 97 YJ := Zv3 6 (by decide) (.struct (fs := [(fd "Key" 9 0 "" 0), (fd "Had" 4 1 "" 16), (fd "Num" 3 2 "" 24)]) (by kernel_rfl) (by kernel_rfl) rfl (by kernel_rfl) (.cons (f := (fd "Key" 9 0 "" 0)) (a := Zu) rfl (by decide) ⟨Tryz.t9, by kernel_rfl, rfl⟩ ⟨TypeDesc.string, by kernel_rfl, rfl⟩ rfl (.str (by kernel_rfl)) (.cons (f := (fd "Had" 4 1 "" 16)) (a := ZC) rfl (by decide) ⟨Tryz.t4, by kernel_rfl, rfl⟩ ⟨TypeDesc.bool, by kernel_rfl, rfl⟩ rfl (.bool (by kernel_rfl)) (.cons (f := (fd "Num" 3 2 "" 24)) (a := Zk) rfl (by decide) ⟨Tryz.t3, by kernel_rfl, rfl⟩ ⟨TypeDesc.int IntKind.i64, by kernel_rfl, rfl⟩ rfl (.int (by kernel_rfl)) .nil)))) rfl (by kernel_rfl)
theorem ZxZ : Zts Tryz.prog 139 W6 := Zv3 6 (by decide) (.struct (fs := [(fd "Kind" 3 0 "" 0), (fd "Key" 9 1 "" 8), (fd "Num" 3 2 "" 24)]) (by kernel_rfl) (by kernel_rfl) rfl (by kernel_rfl) (.cons (f := (fd "Kind" 3 0 "" 0)) (a := Zk) rfl (by decide) ⟨Tryz.t3, by kernel_rfl, rfl⟩ ⟨TypeDesc.int IntKind.i64, by kernel_rfl, rfl⟩ rfl (.int (by kernel_rfl)) (.cons (f := (fd "Key" 9 1 "" 8)) (a := Zu) rfl (by decide) ⟨Tryz.t9, by kernel_rfl, rfl⟩ ⟨TypeDesc.string, by kernel_rfl, rfl⟩ rfl (.str (by kernel_rfl)) (.cons (f := (fd "Num" 3 2 "" 24)) (a := Zk) rfl (by decide) ⟨Tryz.t3, by kernel_rfl, rfl⟩ ⟨TypeDesc.int IntKind.i64, by kernel_rfl, rfl⟩ rfl (.int (by kernel_rfl)) .nil)))) rfl (by kernel_rfl)
def eqs (t : TypeId) : Bool := [26, 28, 47, 94, 97, 139].any (Nat.beq t)
theorem Zx0 (E : Env) (h : E.ti = Yc tis) (he : E.eqs = eqs) : ∀ t ty, E.eqs t = true → E.ty t = some ty → Zts Tryz.prog t ty := by
 intro t ty h1 h2
 rw [he] at h1
 simp only [Env.ty, h] at h2
 unfold eqs at h1
 simp only [List.any_cons, List.any_nil, Bool.or_eq_true, Bool.or_false] at h1
 rcases h1 with h1 | h1 | h1 | h1 | h1 | h1
 ·have := Nat.eq_of_beq_eq_true h1
  subst this
  have e : (Option.map (fun x => x.ty) (Yc tis 26)) = some Wl := by kernel_rfl
  rw [e] at h2
  cases h2
  exact Zyt
 ·have := Nat.eq_of_beq_eq_true h1
  subst this
  have e : (Option.map (fun x => x.ty) (Yc tis 28)) = some Z4 := by kernel_rfl
  rw [e] at h2
  cases h2
  exact Zyu
 ·have := Nat.eq_of_beq_eq_true h1
  subst this
  have e : (Option.map (fun x => x.ty) (Yc tis 47)) = some ZP := by kernel_rfl
  rw [e] at h2
  cases h2
  exact Zyv
 ·have := Nat.eq_of_beq_eq_true h1
  subst this
  have e : (Option.map (fun x => x.ty) (Yc tis 94)) = some Z9 := by kernel_rfl
  rw [e] at h2
  cases h2
  exact Zyw
 ·have := Nat.eq_of_beq_eq_true h1
  subst this
  have e : (Option.map (fun x => x.ty) (Yc tis 97)) = some YJ := by kernel_rfl
  rw [e] at h2
  cases h2
  exact Zyx
 ·have := Nat.eq_of_beq_eq_true h1
  subst this
  have e : (Option.map (fun x => x.ty) (Yc tis 139)) = some W6 := by kernel_rfl
  rw [e] at h2
  cases h2
  exact ZxZ
abbrev Fl : Type := Bool × Bool × List Nat
def env (u : Fl) (l : List (Nat × Con)) : Env := ⟨Yc tis, eqs, Yc l, u.1, u.2.1, fun t => u.2.2.any (Nat.beq t)⟩
theorem ZwN {u : Fl} {l : List (Nat × Con)} (h : ∀ q ∈ l, ZJ Tryz.prog q.1 q.2) : H3 Tryz.prog (env u l) :=
 { ti := ZxY (env u l) rfl, eqs := Zx0 (env u l) rfl rfl, tbl := Zwp h }
def body (f : Func) : Code := f.body.getD .skip
abbrev KP : Type := List (Nat × (List Zct × List BK))
noncomputable def Vn {X : Type} (u : Fl) (l : List (Nat × Con)) (rt : List (Option Ty)) (f : Func) (s : Sh X) (args : List SV) : Ex → St → Option X :=
 fun e st => (Zye (env u l) rt f.results.toList (XG [] args).2.2 e st).bind s.un
noncomputable def evX {X : Type} (u : Fl) (l : List (Nat × Con)) (kp : KP) (rt : List (Option Ty)) (f : Func) (s : Sh X) (N : Nat) (args : List SV) : Option X :=
 ev (env u l) (Lr (env u l) kp (body f) (Vn u l rt f s args) N) (body f) (R1 f.ntmps args) (Vn u l rt f s args)
theorem Zw {X : Type} {u : Fl} {l : List (Nat × Con)} (hl : ∀ q ∈ l, ZJ Tryz.prog q.1 q.2) {kp : KP} {rt : List (Option Ty)} {s : Sh X} {n : FuncId} {f : Func} {b : Code} (hf : Tryz.prog.funcs[n]? = some f) (hb : f.body = some b) (hn : ZrV (G0 kp b) = true)
  {args : List SV} (hbx : G1 args kp = true) (N : Nat) {v : X} (h : evX u l kp rt f s N args = some v) : CallOk Tryz.prog n args (s.sh v).1 (s.sh v).2 := by
 have e : body f = b := by unfold body; rw [hb]; rfl
 unfold evX at h
 rw [e] at h
 refine Zxq (rt := rt) (ZwN hl) hf hb hn hbx N (fun e st he => ?_) h
 obtain ⟨r, h1, h2⟩ := Option.bind_eq_some_iff.1 he
 exact ⟨r, h1, s.ok r v h2⟩
theorem Zh : ∀ q ∈ ([] : List (Nat × Con)), ZJ Tryz.prog q.1 q.2 := fun _ h => by cases h
theorem cons_cons {n : Nat} {c : Con} {l : List (Nat × Con)} (h : ZJ Tryz.prog n c) (t : ∀ q ∈ l, ZJ Tryz.prog q.1 q.2) : ∀ q ∈ (n, c) :: l, ZJ Tryz.prog q.1 q.2 := fun q hq => by
 rcases List.mem_cons.1 hq with rfl | hq
 ·exact h
 ·exact t q hq
def big : Nat := 4611686018427387904
end Go.Sx.Tryz
