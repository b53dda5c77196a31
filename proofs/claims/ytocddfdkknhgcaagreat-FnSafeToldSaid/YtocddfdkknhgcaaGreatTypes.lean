/- The types of the seat. -/
import Derived.Test.YtocddfdkknhgcaaGreatM8
import Derived.Test.YtocddfdkknhgcaaGreatProg
set_option linter.unusedVariables false
set_option linter.unusedSimpArgs false
set_option maxRecDepth 100000
namespace Go.Sx.Tryz
open Go Go.Sx Go.Proofs
abbrev Ys : Type 1 := List (Nat × Con)
abbrev Vl : Type := List ZcP × List BK
abbrev Yu (l : Ys) : Prop := ∀ q ∈ l, ZH Tryz.prog q.1 q.2
abbrev fd (n : String) (t o : Nat) (p : String) (b : Nat) : Field := { name := n, type := t, offset := o, embedded := false, tag := "", pkgPath := p, byteOffset := b }
@[reducible] def dp : Nat → List ZcP → List ZcP
 | 0, l => l
 | n + 1, l => .drop :: dp n l
abbrev Zb : Ty := .int .i64
abbrev Zl : Ty := .int .i64
abbrev ZD : Ty := .bool
abbrev Zkr : Ty := .int .u8
abbrev YZ : Ty := .int .u8
abbrev Y7 : Ty := .pair Zb (.pair Zl (.pair ZD (.pair YZ (.unit))))
abbrev QQ : Ty := .pair Zb (.pair Zl (.pair ZD (.pair YZ (.unit))))
abbrev Zu : Ty := .str
abbrev QR : Ty := .str
abbrev Kf : Ty := .str
abbrev Fm : Ty := .int .u64
abbrev XP : Ty := .pair Zu (.pair Fm (.unit))
abbrev WF : Ty := .pair Zu (.pair Fm (.unit))
abbrev ZuZ : Ty := .int .i32
abbrev Z8 : Ty := .sl false Zkr
abbrev Wn : Ty := .pair Zl (.pair Zu (.pair Zl (.unit)))
abbrev Yj : Ty := .sl false Wn
abbrev Jt : Ty := .sl true Wn
abbrev Wy : Ty := .pair Zl (.pair Zl (.pair Zl (.pair Zl (.unit))))
abbrev YW : Ty := .pair Zl (.pair Zl (.pair Yj (.pair Wy (.unit))))
abbrev YX : Ty := .pair Zl (.pair Zl (.pair Jt (.pair Wy (.unit))))
abbrev Zf : Ty := .sl false YW
abbrev ZZ : Ty := .sl true YX
abbrev Zt : Ty := .pair Zl (.pair Zl (.pair Zl (.pair Zl (.unit))))
abbrev Y8 : Ty := .pair Zl (.pair Zl (.pair Zl (.pair Zl (.unit))))
abbrev Z5 : Ty := .pair Zl (.pair Zl (.pair Zl (.pair Zl (.unit))))
abbrev Yx : Ty := .sl false Zl
abbrev Y9 : Ty := .sl true Zl
abbrev Yc : Ty := .pair Zu (.pair Zl (.unit))
abbrev Zm : Ty := .sl false Yc
abbrev ZE : Ty := .sl true Yc
abbrev YL : Ty := .pair Zu (.pair ZD (.pair Zl (.unit)))
abbrev Yl : Ty := .sl false YL
abbrev Wo : Ty := .sl true YL
abbrev ZS : Ty := .sl false Z5
abbrev Fn : Ty := .sl true Z5
abbrev ZO : Ty := .pair Zl (.pair Zl (.pair Zl (.pair Zl (.pair Zl (.pair Wy (.pair Z5 (.unit)))))))
abbrev ZN : Ty := .sl false ZO
abbrev ZV : Ty := .sl true ZO
abbrev Xa : Ty := .pair Zl (.pair Zl (.pair Wy (.pair Wy (.pair Z5 (.pair Yx (.pair Zm (.pair Yx (.pair Yl (.pair ZS (.pair ZN (.pair Zl (.unit))))))))))))
abbrev Yd : Ty := .pair Zl (.pair Zl (.pair Wy (.pair Wy (.pair Z5 (.pair Y9 (.pair ZE (.pair Y9 (.pair Wo (.pair Fn (.pair ZV (.pair Zl (.unit))))))))))))
abbrev ZQ : Ty := .pair Zl (.pair Zl (.pair Wy (.pair Wy (.pair Z5 (.pair Yx (.pair Zm (.pair Yx (.pair Yl (.pair ZS (.pair ZN (.pair Zl (.unit))))))))))))
abbrev ZB : Ty := .pair Zl (.pair Zl (.pair Wy (.pair Wy (.pair Z5 (.pair Y9 (.pair ZE (.pair Y9 (.pair Wo (.pair Fn (.pair ZV (.pair Zl (.unit))))))))))))
abbrev Zj : Ty := .pair Zl (.pair Zl (.pair Zl (.pair Zl (.pair Zl (.pair Wy (.pair Z5 (.unit)))))))
abbrev XQ : Ty := .sl false ZQ
abbrev Zum : Ty := .sl true ZB
abbrev Xb : Ty := .pair Zl (.pair ZD (.pair Zl (.pair Zf (.pair XQ (.pair ZN (.pair ZS (.pair Yj (.unit))))))))
abbrev YP : Ty := .pair Zl (.pair ZD (.pair Zl (.pair Zf (.pair XQ (.pair ZN (.pair ZS (.pair Yj (.unit))))))))
abbrev Zx : Ty := .pair Zl (.pair ZD (.pair Zl (.pair ZZ (.pair Zum (.pair ZV (.pair Fn (.pair Jt (.unit))))))))
abbrev Zn : Ty := .pair Zu (.pair Zl (.unit))
abbrev ZF : Ty := .pair Zu (.pair ZD (.pair Zl (.unit)))
abbrev Xc : Ty := .pair Zl (.pair Zl (.pair Yj (.pair Wy (.unit))))
abbrev ZJ : Ty := .pair Zl (.pair Zl (.pair Jt (.pair Wy (.unit))))
abbrev Wv : Ty := .pair Z8 (.pair Zl (.pair Zl (.unit)))
abbrev Zv : Ty := .pair Z8 (.pair Zl (.pair Zl (.unit)))
abbrev ZwP : Ty := .int .u64
abbrev ZP : Ty := .pair Zl (.pair Zu (.pair Zl (.unit)))
abbrev Xd : Ty := .pair Zl (.pair Zl (.pair Zl (.pair Zl (.pair Wn (.unit)))))
abbrev WO : Ty := .pair Zl (.pair Zl (.pair Zl (.pair Zl (.pair Wn (.unit)))))
abbrev DW : Ty := .sl false Zu
abbrev Zks : Ty := .sl false WO
abbrev Xt : Ty := .pair Zu (.pair Zl (.pair ZD (.unit)))
abbrev XR : Ty := .pair Zu (.pair Zl (.pair ZD (.unit)))
abbrev X9 : Ty := .int .u32
abbrev SD : Ty := .int .u8
abbrev ZfA : Ty := .int .u8
abbrev II : Ty := .int .i32
abbrev IJ : Ty := .int .i32
abbrev Y2 : Type := List Int
abbrev Xf : Type := Int × ByteArray × Int × Unit
abbrev YU : Type := List Xf
abbrev B6 : Type := Int × Int × Int × Int × Unit
abbrev Zy : Type := Int × Int × YU × B6 × Unit
abbrev Zi : Type := List Zy
abbrev Zg : Type := Int × Int × Int × Int × Unit
abbrev Z4 : Type := Int × Int × Int × Int × Unit
abbrev Yt : Type := List Int
abbrev ZM : Type := ByteArray × Int × Unit
abbrev Zq : Type := List ZM
abbrev Yg : Type := ByteArray × Bool × Int × Unit
abbrev YB : Type := List Yg
abbrev Yq : Type := List Z4
abbrev Zz : Type := Int × Int × Int × Int × Int × B6 × Z4 × Unit
abbrev ZX : Type := List Zz
abbrev ZK : Type := Int × Int × B6 × B6 × Z4 × Yt × Zq × Yt × YB × Yq × ZX × Int × Unit
abbrev Zo : Type := Int × Int × B6 × B6 × Z4 × Yt × Zq × Yt × YB × Yq × ZX × Int × Unit
abbrev Zd : Type := Int × Int × Int × Int × Int × B6 × Z4 × Unit
abbrev Ck : Type := List Zo
abbrev Zp : Type := Int × Bool × Int × Zi × Ck × ZX × Yq × YU × Unit
abbrev Ze : Type := ByteArray × Int × Unit
abbrev Zs : Type := ByteArray × Bool × Int × Unit
abbrev Zr : Type := Int × Int × YU × B6 × Unit
abbrev ZL : Type := Y2 × Int × Int × Unit
abbrev ZG : Type := Int × ByteArray × Int × Unit
abbrev VF : Type := Int × Int × Int × Int × Xf × Unit
abbrev Zkt : Type := List ByteArray
abbrev XS : Type := ByteArray × Int × Bool × Unit
def tis : List (Nat × TI) := [
 (2, ⟨Zb, 8, .scalar⟩),
 (3, ⟨Zl, 8, .scalar⟩),
 (4, ⟨ZD, 1, .scalar⟩),
 (5, ⟨Zkr, 1, .scalar⟩),
 (6, ⟨YZ, 1, .scalar⟩),
 (7, ⟨Y7, 24, .struct [(0, 2), (1, 3), (2, 4), (3, 6)]⟩),
 (8, ⟨QQ, 24, .struct [(0, 2), (1, 3), (2, 4), (3, 6)]⟩),
 (9, ⟨Zu, 16, .scalar⟩),
 (10, ⟨QR, 16, .scalar⟩),
 (11, ⟨Kf, 16, .scalar⟩),
 (12, ⟨Fm, 8, .scalar⟩),
 (13, ⟨XP, 24, .struct [(0, 9), (1, 12)]⟩),
 (14, ⟨WF, 24, .struct [(0, 9), (1, 12)]⟩),
 (21, ⟨ZuZ, 4, .scalar⟩),
 (22, ⟨Z8, 24, .slice 5⟩),
 (24, ⟨Zf, 24, .slice 99⟩),
 (25, ⟨Zt, 32, .struct [(0, 3), (1, 3), (2, 3), (3, 3)]⟩),
 (26, ⟨Wy, 32, .struct [(0, 3), (1, 3), (2, 3), (3, 3)]⟩),
 (27, ⟨Y8, 32, .struct [(0, 3), (1, 3), (2, 3), (3, 3)]⟩),
 (28, ⟨Z5, 32, .struct [(0, 3), (1, 3), (2, 3), (3, 3)]⟩),
 (29, ⟨Yx, 24, .slice 3⟩),
 (30, ⟨Zm, 24, .slice 94⟩),
 (31, ⟨Yl, 24, .slice 97⟩),
 (32, ⟨ZS, 24, .slice 28⟩),
 (33, ⟨ZN, 24, .slice 47⟩),
 (34, ⟨Xa, 264, .struct [(0, 3), (1, 3), (2, 26), (6, 26), (10, 28), (14, 29), (15, 30), (16, 29), (17, 31), (18, 32), (19, 33), (20, 3)]⟩),
 (35, ⟨ZQ, 264, .struct [(0, 3), (1, 3), (2, 26), (6, 26), (10, 28), (14, 29), (15, 30), (16, 29), (17, 31), (18, 32), (19, 33), (20, 3)]⟩),
 (46, ⟨Zj, 104, .struct [(0, 3), (1, 3), (2, 3), (3, 3), (4, 3), (5, 26), (9, 28)]⟩),
 (47, ⟨ZO, 104, .struct [(0, 3), (1, 3), (2, 3), (3, 3), (4, 3), (5, 26), (9, 28)]⟩),
 (50, ⟨XQ, 24, .slice 35⟩),
 (68, ⟨Yj, 24, .slice 139⟩),
 (69, ⟨Xb, 144, .struct [(0, 3), (1, 4), (2, 3), (3, 24), (4, 50), (5, 33), (6, 32), (7, 68)]⟩),
 (70, ⟨YP, 144, .struct [(0, 3), (1, 4), (2, 3), (3, 24), (4, 50), (5, 33), (6, 32), (7, 68)]⟩),
 (93, ⟨Zn, 24, .struct [(0, 9), (1, 3)]⟩),
 (94, ⟨Yc, 24, .struct [(0, 9), (1, 3)]⟩),
 (96, ⟨ZF, 32, .struct [(0, 9), (1, 4), (2, 3)]⟩),
 (97, ⟨YL, 32, .struct [(0, 9), (1, 4), (2, 3)]⟩),
 (98, ⟨Xc, 72, .struct [(0, 3), (1, 3), (2, 68), (3, 26)]⟩),
 (99, ⟨YW, 72, .struct [(0, 3), (1, 3), (2, 68), (3, 26)]⟩),
 (125, ⟨Wv, 40, .struct [(0, 22), (1, 3), (2, 3)]⟩),
 (126, ⟨Zv, 40, .struct [(0, 22), (1, 3), (2, 3)]⟩),
 (127, ⟨ZwP, 8, .scalar⟩),
 (138, ⟨ZP, 32, .struct [(0, 3), (1, 9), (2, 3)]⟩),
 (139, ⟨Wn, 32, .struct [(0, 3), (1, 9), (2, 3)]⟩),
 (140, ⟨Xd, 64, .struct [(0, 3), (1, 3), (2, 3), (3, 3), (4, 139)]⟩),
 (141, ⟨WO, 64, .struct [(0, 3), (1, 3), (2, 3), (3, 3), (4, 139)]⟩),
 (184, ⟨DW, 24, .slice 9⟩),
 (185, ⟨Zks, 24, .slice 141⟩),
 (224, ⟨Xt, 32, .struct [(0, 9), (1, 3), (2, 4)]⟩),
 (225, ⟨XR, 32, .struct [(0, 9), (1, 3), (2, 4)]⟩),
 (238, ⟨X9, 4, .scalar⟩),
 (252, ⟨SD, 1, .scalar⟩),
 (253, ⟨ZfA, 1, .scalar⟩),
 (256, ⟨II, 4, .scalar⟩),
 (257, ⟨IJ, 4, .scalar⟩)]
theorem ZyE (E : Env) (h : E.ti = Yf tis) : VT Tryz.prog E 2 ⟨Zb, 8, .scalar⟩ := YT (inf := Tryz.t2) (by kernel_rfl) rfl rfl (by kernel_rfl) (by decide) (d := .int .i64) (by kernel_rfl) rfl
theorem ZyF (E : Env) (h : E.ti = Yf tis) : VT Tryz.prog E 3 ⟨Zl, 8, .scalar⟩ := YT (inf := Tryz.t3) (by kernel_rfl) rfl rfl (by kernel_rfl) (by decide) (d := .int .i64) (by kernel_rfl) rfl
theorem ZyG (E : Env) (h : E.ti = Yf tis) : VT Tryz.prog E 4 ⟨ZD, 1, .scalar⟩ := YT (inf := Tryz.t4) (by kernel_rfl) rfl rfl (by kernel_rfl) (by decide) (d := .bool) (by kernel_rfl) rfl
theorem ZyH (E : Env) (h : E.ti = Yf tis) : VT Tryz.prog E 5 ⟨Zkr, 1, .scalar⟩ := YT (inf := Tryz.t5) (by kernel_rfl) rfl rfl (by kernel_rfl) (by decide) (d := .int .u8) (by kernel_rfl) rfl
theorem ZyI (E : Env) (h : E.ti = Yf tis) : VT Tryz.prog E 6 ⟨YZ, 1, .scalar⟩ := YT (inf := Tryz.t6) (by kernel_rfl) rfl rfl (by kernel_rfl) (by decide) (d := .int .u8) (by kernel_rfl) rfl
theorem ZyJ (E : Env) (h : E.ti = Yf tis) : VT Tryz.prog E 7 ⟨Y7, 24, .struct [(0, 2), (1, 3), (2, 4), (3, 6)]⟩ := Z0 (inf := Tryz.t7) (by kernel_rfl) (by kernel_rfl) rfl (by kernel_rfl) (by decide) (by decide) rfl (fields := #[fd "x" 2 0 "runtime" 0, fd "y" 3 1 "runtime" 8, fd "signed" 4 2 "runtime" 16, fd "code" 6 3 "runtime" 17]) (by kernel_rfl) rfl (all_cons ⟨⟨Zb, 8, .scalar⟩, by rw [h]; kernel_rfl⟩ (all_cons ⟨⟨Zl, 8, .scalar⟩, by rw [h]; kernel_rfl⟩ (all_cons ⟨⟨ZD, 1, .scalar⟩, by rw [h]; kernel_rfl⟩ (all_cons ⟨⟨YZ, 1, .scalar⟩, by rw [h]; kernel_rfl⟩ all_nil))))
theorem ZyK (E : Env) (h : E.ti = Yf tis) : VT Tryz.prog E 8 ⟨QQ, 24, .struct [(0, 2), (1, 3), (2, 4), (3, 6)]⟩ := Z0 (inf := Tryz.t8) (by kernel_rfl) (by kernel_rfl) rfl (by kernel_rfl) (by decide) (by decide) rfl (fields := #[fd "x" 2 0 "runtime" 0, fd "y" 3 1 "runtime" 8, fd "signed" 4 2 "runtime" 16, fd "code" 6 3 "runtime" 17]) (by kernel_rfl) rfl (all_cons ⟨⟨Zb, 8, .scalar⟩, by rw [h]; kernel_rfl⟩ (all_cons ⟨⟨Zl, 8, .scalar⟩, by rw [h]; kernel_rfl⟩ (all_cons ⟨⟨ZD, 1, .scalar⟩, by rw [h]; kernel_rfl⟩ (all_cons ⟨⟨YZ, 1, .scalar⟩, by rw [h]; kernel_rfl⟩ all_nil))))
theorem ZyL (E : Env) (h : E.ti = Yf tis) : VT Tryz.prog E 9 ⟨Zu, 16, .scalar⟩ := YT (inf := Tryz.t9) (by kernel_rfl) rfl rfl (by kernel_rfl) (by decide) (d := .string) (by kernel_rfl) rfl
theorem ZxM (E : Env) (h : E.ti = Yf tis) : VT Tryz.prog E 10 ⟨QR, 16, .scalar⟩ := YT (inf := Tryz.t10) (by kernel_rfl) rfl rfl (by kernel_rfl) (by decide) (d := .string) (by kernel_rfl) rfl
theorem ZxN (E : Env) (h : E.ti = Yf tis) : VT Tryz.prog E 11 ⟨Kf, 16, .scalar⟩ := YT (inf := Tryz.t11) (by kernel_rfl) rfl rfl (by kernel_rfl) (by decide) (d := .string) (by kernel_rfl) rfl
theorem ZxO (E : Env) (h : E.ti = Yf tis) : VT Tryz.prog E 12 ⟨Fm, 8, .scalar⟩ := YT (inf := Tryz.t12) (by kernel_rfl) rfl rfl (by kernel_rfl) (by decide) (d := .int .u64) (by kernel_rfl) rfl
theorem ZxP (E : Env) (h : E.ti = Yf tis) : VT Tryz.prog E 13 ⟨XP, 24, .struct [(0, 9), (1, 12)]⟩ := Z0 (inf := Tryz.t13) (by kernel_rfl) (by kernel_rfl) rfl (by kernel_rfl) (by decide) (by decide) rfl (fields := #[fd "msg" 9 0 "runtime" 0, fd "addr" 12 1 "runtime" 16]) (by kernel_rfl) rfl (all_cons ⟨⟨Zu, 16, .scalar⟩, by rw [h]; kernel_rfl⟩ (all_cons ⟨⟨Fm, 8, .scalar⟩, by rw [h]; kernel_rfl⟩ all_nil))
theorem ZxQ (E : Env) (h : E.ti = Yf tis) : VT Tryz.prog E 14 ⟨WF, 24, .struct [(0, 9), (1, 12)]⟩ := Z0 (inf := Tryz.t14) (by kernel_rfl) (by kernel_rfl) rfl (by kernel_rfl) (by decide) (by decide) rfl (fields := #[fd "msg" 9 0 "runtime" 0, fd "addr" 12 1 "runtime" 16]) (by kernel_rfl) rfl (all_cons ⟨⟨Zu, 16, .scalar⟩, by rw [h]; kernel_rfl⟩ (all_cons ⟨⟨Fm, 8, .scalar⟩, by rw [h]; kernel_rfl⟩ all_nil))
theorem ZxR (E : Env) (h : E.ti = Yf tis) : VT Tryz.prog E 21 ⟨ZuZ, 4, .scalar⟩ := YT (inf := Tryz.t21) (by kernel_rfl) rfl rfl (by kernel_rfl) (by decide) (d := .int .i32) (by kernel_rfl) rfl
theorem ZxS (E : Env) (h : E.ti = Yf tis) : VT Tryz.prog E 22 ⟨Z8, 24, .slice 5⟩ := X8 (ie := ⟨Zkr, 1, .scalar⟩) (inf := Tryz.t22) (by kernel_rfl) rfl rfl rfl (by decide) (by kernel_rfl) (by rw [h]; kernel_rfl)
theorem ZxT (E : Env) (h : E.ti = Yf tis) : VT Tryz.prog E 24 ⟨Zf, 24, .slice 99⟩ := X8 (ie := ⟨YW, 72, .struct [(0, 3), (1, 3), (2, 68), (3, 26)]⟩) (inf := Tryz.t24) (by kernel_rfl) rfl rfl rfl (by decide) (by kernel_rfl) (by rw [h]; kernel_rfl)
theorem ZxU (E : Env) (h : E.ti = Yf tis) : VT Tryz.prog E 25 ⟨Zt, 32, .struct [(0, 3), (1, 3), (2, 3), (3, 3)]⟩ := Z0 (inf := Tryz.t25) (by kernel_rfl) (by kernel_rfl) rfl (by kernel_rfl) (by decide) (by decide) rfl (fields := #[fd "Phase" 3 0 "" 0, fd "View" 3 1 "" 8, fd "Block" 3 2 "" 16, fd "Signers" 3 3 "" 24]) (by kernel_rfl) rfl (all_cons ⟨⟨Zl, 8, .scalar⟩, by rw [h]; kernel_rfl⟩ (all_cons ⟨⟨Zl, 8, .scalar⟩, by rw [h]; kernel_rfl⟩ (all_cons ⟨⟨Zl, 8, .scalar⟩, by rw [h]; kernel_rfl⟩ (all_cons ⟨⟨Zl, 8, .scalar⟩, by rw [h]; kernel_rfl⟩ all_nil))))
theorem ZxV (E : Env) (h : E.ti = Yf tis) : VT Tryz.prog E 26 ⟨Wy, 32, .struct [(0, 3), (1, 3), (2, 3), (3, 3)]⟩ := Z0 (inf := Tryz.t26) (by kernel_rfl) (by kernel_rfl) rfl (by kernel_rfl) (by decide) (by decide) rfl (fields := #[fd "Phase" 3 0 "" 0, fd "View" 3 1 "" 8, fd "Block" 3 2 "" 16, fd "Signers" 3 3 "" 24]) (by kernel_rfl) rfl (all_cons ⟨⟨Zl, 8, .scalar⟩, by rw [h]; kernel_rfl⟩ (all_cons ⟨⟨Zl, 8, .scalar⟩, by rw [h]; kernel_rfl⟩ (all_cons ⟨⟨Zl, 8, .scalar⟩, by rw [h]; kernel_rfl⟩ (all_cons ⟨⟨Zl, 8, .scalar⟩, by rw [h]; kernel_rfl⟩ all_nil))))
theorem ZxW (E : Env) (h : E.ti = Yf tis) : VT Tryz.prog E 27 ⟨Y8, 32, .struct [(0, 3), (1, 3), (2, 3), (3, 3)]⟩ := Z0 (inf := Tryz.t27) (by kernel_rfl) (by kernel_rfl) rfl (by kernel_rfl) (by decide) (by decide) rfl (fields := #[fd "Phase" 3 0 "" 0, fd "View" 3 1 "" 8, fd "Block" 3 2 "" 16, fd "By" 3 3 "" 24]) (by kernel_rfl) rfl (all_cons ⟨⟨Zl, 8, .scalar⟩, by rw [h]; kernel_rfl⟩ (all_cons ⟨⟨Zl, 8, .scalar⟩, by rw [h]; kernel_rfl⟩ (all_cons ⟨⟨Zl, 8, .scalar⟩, by rw [h]; kernel_rfl⟩ (all_cons ⟨⟨Zl, 8, .scalar⟩, by rw [h]; kernel_rfl⟩ all_nil))))
theorem ZxX (E : Env) (h : E.ti = Yf tis) : VT Tryz.prog E 28 ⟨Z5, 32, .struct [(0, 3), (1, 3), (2, 3), (3, 3)]⟩ := Z0 (inf := Tryz.t28) (by kernel_rfl) (by kernel_rfl) rfl (by kernel_rfl) (by decide) (by decide) rfl (fields := #[fd "Phase" 3 0 "" 0, fd "View" 3 1 "" 8, fd "Block" 3 2 "" 16, fd "By" 3 3 "" 24]) (by kernel_rfl) rfl (all_cons ⟨⟨Zl, 8, .scalar⟩, by rw [h]; kernel_rfl⟩ (all_cons ⟨⟨Zl, 8, .scalar⟩, by rw [h]; kernel_rfl⟩ (all_cons ⟨⟨Zl, 8, .scalar⟩, by rw [h]; kernel_rfl⟩ (all_cons ⟨⟨Zl, 8, .scalar⟩, by rw [h]; kernel_rfl⟩ all_nil))))
theorem ZxY (E : Env) (h : E.ti = Yf tis) : VT Tryz.prog E 29 ⟨Yx, 24, .slice 3⟩ := X8 (ie := ⟨Zl, 8, .scalar⟩) (inf := Tryz.t29) (by kernel_rfl) rfl rfl rfl (by decide) (by kernel_rfl) (by rw [h]; kernel_rfl)
theorem ZxZ (E : Env) (h : E.ti = Yf tis) : VT Tryz.prog E 30 ⟨Zm, 24, .slice 94⟩ := X8 (ie := ⟨Yc, 24, .struct [(0, 9), (1, 3)]⟩) (inf := Tryz.t30) (by kernel_rfl) rfl rfl rfl (by decide) (by kernel_rfl) (by rw [h]; kernel_rfl)
theorem Zx0 (E : Env) (h : E.ti = Yf tis) : VT Tryz.prog E 31 ⟨Yl, 24, .slice 97⟩ := X8 (ie := ⟨YL, 32, .struct [(0, 9), (1, 4), (2, 3)]⟩) (inf := Tryz.t31) (by kernel_rfl) rfl rfl rfl (by decide) (by kernel_rfl) (by rw [h]; kernel_rfl)
theorem Zx1 (E : Env) (h : E.ti = Yf tis) : VT Tryz.prog E 32 ⟨ZS, 24, .slice 28⟩ := X8 (ie := ⟨Z5, 32, .struct [(0, 3), (1, 3), (2, 3), (3, 3)]⟩) (inf := Tryz.t32) (by kernel_rfl) rfl rfl rfl (by decide) (by kernel_rfl) (by rw [h]; kernel_rfl)
theorem Zx2 (E : Env) (h : E.ti = Yf tis) : VT Tryz.prog E 33 ⟨ZN, 24, .slice 47⟩ := X8 (ie := ⟨ZO, 104, .struct [(0, 3), (1, 3), (2, 3), (3, 3), (4, 3), (5, 26), (9, 28)]⟩) (inf := Tryz.t33) (by kernel_rfl) rfl rfl rfl (by decide) (by kernel_rfl) (by rw [h]; kernel_rfl)
theorem Zx3 (E : Env) (h : E.ti = Yf tis) : VT Tryz.prog E 34 ⟨Xa, 264, .struct [(0, 3), (1, 3), (2, 26), (6, 26), (10, 28), (14, 29), (15, 30), (16, 29), (17, 31), (18, 32), (19, 33), (20, 3)]⟩ := Z0 (inf := Tryz.t34) (by kernel_rfl) (by kernel_rfl) rfl (by kernel_rfl) (by decide) (by decide) rfl (fields := #[fd "Id" 3 0 "" 0, fd "View" 3 1 "" 8, fd "High" 26 2 "" 16, fd "Lock" 26 6 "" 48, fd "Last" 28 10 "" 80, fd "Row" 29 14 "" 112, fd "Cells" 30 15 "" 136, fd "Early" 29 16 "" 160, fd "Undos" 31 17 "" 184, fd "Votes" 32 18 "" 208, fd "News" 33 19 "" 232, fd "Shown" 3 20 "" 256]) (by kernel_rfl) rfl (all_cons ⟨⟨Zl, 8, .scalar⟩, by rw [h]; kernel_rfl⟩ (all_cons ⟨⟨Zl, 8, .scalar⟩, by rw [h]; kernel_rfl⟩ (all_cons ⟨⟨Wy, 32, .struct [(0, 3), (1, 3), (2, 3), (3, 3)]⟩, by rw [h]; kernel_rfl⟩ (all_cons ⟨⟨Wy, 32, .struct [(0, 3), (1, 3), (2, 3), (3, 3)]⟩, by rw [h]; kernel_rfl⟩ (all_cons ⟨⟨Z5, 32, .struct [(0, 3), (1, 3), (2, 3), (3, 3)]⟩, by rw [h]; kernel_rfl⟩ (all_cons ⟨⟨Yx, 24, .slice 3⟩, by rw [h]; kernel_rfl⟩ (all_cons ⟨⟨Zm, 24, .slice 94⟩, by rw [h]; kernel_rfl⟩ (all_cons ⟨⟨Yx, 24, .slice 3⟩, by rw [h]; kernel_rfl⟩ (all_cons ⟨⟨Yl, 24, .slice 97⟩, by rw [h]; kernel_rfl⟩ (all_cons ⟨⟨ZS, 24, .slice 28⟩, by rw [h]; kernel_rfl⟩ (all_cons ⟨⟨ZN, 24, .slice 47⟩, by rw [h]; kernel_rfl⟩ (all_cons ⟨⟨Zl, 8, .scalar⟩, by rw [h]; kernel_rfl⟩ all_nil))))))))))))
theorem Zx4 (E : Env) (h : E.ti = Yf tis) : VT Tryz.prog E 35 ⟨ZQ, 264, .struct [(0, 3), (1, 3), (2, 26), (6, 26), (10, 28), (14, 29), (15, 30), (16, 29), (17, 31), (18, 32), (19, 33), (20, 3)]⟩ := Z0 (inf := Tryz.t35) (by kernel_rfl) (by kernel_rfl) rfl (by kernel_rfl) (by decide) (by decide) rfl (fields := #[fd "Id" 3 0 "" 0, fd "View" 3 1 "" 8, fd "High" 26 2 "" 16, fd "Lock" 26 6 "" 48, fd "Last" 28 10 "" 80, fd "Row" 29 14 "" 112, fd "Cells" 30 15 "" 136, fd "Early" 29 16 "" 160, fd "Undos" 31 17 "" 184, fd "Votes" 32 18 "" 208, fd "News" 33 19 "" 232, fd "Shown" 3 20 "" 256]) (by kernel_rfl) rfl (all_cons ⟨⟨Zl, 8, .scalar⟩, by rw [h]; kernel_rfl⟩ (all_cons ⟨⟨Zl, 8, .scalar⟩, by rw [h]; kernel_rfl⟩ (all_cons ⟨⟨Wy, 32, .struct [(0, 3), (1, 3), (2, 3), (3, 3)]⟩, by rw [h]; kernel_rfl⟩ (all_cons ⟨⟨Wy, 32, .struct [(0, 3), (1, 3), (2, 3), (3, 3)]⟩, by rw [h]; kernel_rfl⟩ (all_cons ⟨⟨Z5, 32, .struct [(0, 3), (1, 3), (2, 3), (3, 3)]⟩, by rw [h]; kernel_rfl⟩ (all_cons ⟨⟨Yx, 24, .slice 3⟩, by rw [h]; kernel_rfl⟩ (all_cons ⟨⟨Zm, 24, .slice 94⟩, by rw [h]; kernel_rfl⟩ (all_cons ⟨⟨Yx, 24, .slice 3⟩, by rw [h]; kernel_rfl⟩ (all_cons ⟨⟨Yl, 24, .slice 97⟩, by rw [h]; kernel_rfl⟩ (all_cons ⟨⟨ZS, 24, .slice 28⟩, by rw [h]; kernel_rfl⟩ (all_cons ⟨⟨ZN, 24, .slice 47⟩, by rw [h]; kernel_rfl⟩ (all_cons ⟨⟨Zl, 8, .scalar⟩, by rw [h]; kernel_rfl⟩ all_nil))))))))))))
theorem Zx5 (E : Env) (h : E.ti = Yf tis) : VT Tryz.prog E 46 ⟨Zj, 104, .struct [(0, 3), (1, 3), (2, 3), (3, 3), (4, 3), (5, 26), (9, 28)]⟩ := Z0 (inf := Tryz.t46) (by kernel_rfl) (by kernel_rfl) rfl (by kernel_rfl) (by decide) (by decide) rfl (fields := #[fd "Kind" 3 0 "" 0, fd "From" 3 1 "" 8, fd "To" 3 2 "" 16, fd "View" 3 3 "" 24, fd "Block" 3 4 "" 32, fd "Qc" 26 5 "" 40, fd "Vote" 28 9 "" 72]) (by kernel_rfl) rfl (all_cons ⟨⟨Zl, 8, .scalar⟩, by rw [h]; kernel_rfl⟩ (all_cons ⟨⟨Zl, 8, .scalar⟩, by rw [h]; kernel_rfl⟩ (all_cons ⟨⟨Zl, 8, .scalar⟩, by rw [h]; kernel_rfl⟩ (all_cons ⟨⟨Zl, 8, .scalar⟩, by rw [h]; kernel_rfl⟩ (all_cons ⟨⟨Zl, 8, .scalar⟩, by rw [h]; kernel_rfl⟩ (all_cons ⟨⟨Wy, 32, .struct [(0, 3), (1, 3), (2, 3), (3, 3)]⟩, by rw [h]; kernel_rfl⟩ (all_cons ⟨⟨Z5, 32, .struct [(0, 3), (1, 3), (2, 3), (3, 3)]⟩, by rw [h]; kernel_rfl⟩ all_nil)))))))
theorem Zx6 (E : Env) (h : E.ti = Yf tis) : VT Tryz.prog E 47 ⟨ZO, 104, .struct [(0, 3), (1, 3), (2, 3), (3, 3), (4, 3), (5, 26), (9, 28)]⟩ := Z0 (inf := Tryz.t47) (by kernel_rfl) (by kernel_rfl) rfl (by kernel_rfl) (by decide) (by decide) rfl (fields := #[fd "Kind" 3 0 "" 0, fd "From" 3 1 "" 8, fd "To" 3 2 "" 16, fd "View" 3 3 "" 24, fd "Block" 3 4 "" 32, fd "Qc" 26 5 "" 40, fd "Vote" 28 9 "" 72]) (by kernel_rfl) rfl (all_cons ⟨⟨Zl, 8, .scalar⟩, by rw [h]; kernel_rfl⟩ (all_cons ⟨⟨Zl, 8, .scalar⟩, by rw [h]; kernel_rfl⟩ (all_cons ⟨⟨Zl, 8, .scalar⟩, by rw [h]; kernel_rfl⟩ (all_cons ⟨⟨Zl, 8, .scalar⟩, by rw [h]; kernel_rfl⟩ (all_cons ⟨⟨Zl, 8, .scalar⟩, by rw [h]; kernel_rfl⟩ (all_cons ⟨⟨Wy, 32, .struct [(0, 3), (1, 3), (2, 3), (3, 3)]⟩, by rw [h]; kernel_rfl⟩ (all_cons ⟨⟨Z5, 32, .struct [(0, 3), (1, 3), (2, 3), (3, 3)]⟩, by rw [h]; kernel_rfl⟩ all_nil)))))))
theorem Zx7 (E : Env) (h : E.ti = Yf tis) : VT Tryz.prog E 50 ⟨XQ, 24, .slice 35⟩ := X8 (ie := ⟨ZQ, 264, .struct [(0, 3), (1, 3), (2, 26), (6, 26), (10, 28), (14, 29), (15, 30), (16, 29), (17, 31), (18, 32), (19, 33), (20, 3)]⟩) (inf := Tryz.t50) (by kernel_rfl) rfl rfl rfl (by decide) (by kernel_rfl) (by rw [h]; kernel_rfl)
theorem Zx8 (E : Env) (h : E.ti = Yf tis) : VT Tryz.prog E 68 ⟨Yj, 24, .slice 139⟩ := X8 (ie := ⟨Wn, 32, .struct [(0, 3), (1, 9), (2, 3)]⟩) (inf := Tryz.t68) (by kernel_rfl) rfl rfl rfl (by decide) (by kernel_rfl) (by rw [h]; kernel_rfl)
theorem Zx9 (E : Env) (h : E.ti = Yf tis) : VT Tryz.prog E 69 ⟨Xb, 144, .struct [(0, 3), (1, 4), (2, 3), (3, 24), (4, 50), (5, 33), (6, 32), (7, 68)]⟩ := Z0 (inf := Tryz.t69) (by kernel_rfl) (by kernel_rfl) rfl (by kernel_rfl) (by decide) (by decide) rfl (fields := #[fd "N" 3 0 "" 0, fd "Chain" 4 1 "" 8, fd "Liars" 3 2 "" 16, fd "Tree" 24 3 "" 24, fd "Peers" 50 4 "" 48, fd "Net" 33 5 "" 72, fd "Said" 32 6 "" 96, fd "Pending" 68 7 "" 120]) (by kernel_rfl) rfl (all_cons ⟨⟨Zl, 8, .scalar⟩, by rw [h]; kernel_rfl⟩ (all_cons ⟨⟨ZD, 1, .scalar⟩, by rw [h]; kernel_rfl⟩ (all_cons ⟨⟨Zl, 8, .scalar⟩, by rw [h]; kernel_rfl⟩ (all_cons ⟨⟨Zf, 24, .slice 99⟩, by rw [h]; kernel_rfl⟩ (all_cons ⟨⟨XQ, 24, .slice 35⟩, by rw [h]; kernel_rfl⟩ (all_cons ⟨⟨ZN, 24, .slice 47⟩, by rw [h]; kernel_rfl⟩ (all_cons ⟨⟨ZS, 24, .slice 28⟩, by rw [h]; kernel_rfl⟩ (all_cons ⟨⟨Yj, 24, .slice 139⟩, by rw [h]; kernel_rfl⟩ all_nil))))))))
theorem Zya (E : Env) (h : E.ti = Yf tis) : VT Tryz.prog E 70 ⟨YP, 144, .struct [(0, 3), (1, 4), (2, 3), (3, 24), (4, 50), (5, 33), (6, 32), (7, 68)]⟩ := Z0 (inf := Tryz.t70) (by kernel_rfl) (by kernel_rfl) rfl (by kernel_rfl) (by decide) (by decide) rfl (fields := #[fd "N" 3 0 "" 0, fd "Chain" 4 1 "" 8, fd "Liars" 3 2 "" 16, fd "Tree" 24 3 "" 24, fd "Peers" 50 4 "" 48, fd "Net" 33 5 "" 72, fd "Said" 32 6 "" 96, fd "Pending" 68 7 "" 120]) (by kernel_rfl) rfl (all_cons ⟨⟨Zl, 8, .scalar⟩, by rw [h]; kernel_rfl⟩ (all_cons ⟨⟨ZD, 1, .scalar⟩, by rw [h]; kernel_rfl⟩ (all_cons ⟨⟨Zl, 8, .scalar⟩, by rw [h]; kernel_rfl⟩ (all_cons ⟨⟨Zf, 24, .slice 99⟩, by rw [h]; kernel_rfl⟩ (all_cons ⟨⟨XQ, 24, .slice 35⟩, by rw [h]; kernel_rfl⟩ (all_cons ⟨⟨ZN, 24, .slice 47⟩, by rw [h]; kernel_rfl⟩ (all_cons ⟨⟨ZS, 24, .slice 28⟩, by rw [h]; kernel_rfl⟩ (all_cons ⟨⟨Yj, 24, .slice 139⟩, by rw [h]; kernel_rfl⟩ all_nil))))))))
theorem Zyb (E : Env) (h : E.ti = Yf tis) : VT Tryz.prog E 93 ⟨Zn, 24, .struct [(0, 9), (1, 3)]⟩ := Z0 (inf := Tryz.t93) (by kernel_rfl) (by kernel_rfl) rfl (by kernel_rfl) (by decide) (by decide) rfl (fields := #[fd "Key" 9 0 "" 0, fd "Num" 3 1 "" 16]) (by kernel_rfl) rfl (all_cons ⟨⟨Zu, 16, .scalar⟩, by rw [h]; kernel_rfl⟩ (all_cons ⟨⟨Zl, 8, .scalar⟩, by rw [h]; kernel_rfl⟩ all_nil))
theorem Zyc (E : Env) (h : E.ti = Yf tis) : VT Tryz.prog E 94 ⟨Yc, 24, .struct [(0, 9), (1, 3)]⟩ := Z0 (inf := Tryz.t94) (by kernel_rfl) (by kernel_rfl) rfl (by kernel_rfl) (by decide) (by decide) rfl (fields := #[fd "Key" 9 0 "" 0, fd "Num" 3 1 "" 16]) (by kernel_rfl) rfl (all_cons ⟨⟨Zu, 16, .scalar⟩, by rw [h]; kernel_rfl⟩ (all_cons ⟨⟨Zl, 8, .scalar⟩, by rw [h]; kernel_rfl⟩ all_nil))
theorem Zyd (E : Env) (h : E.ti = Yf tis) : VT Tryz.prog E 96 ⟨ZF, 32, .struct [(0, 9), (1, 4), (2, 3)]⟩ := Z0 (inf := Tryz.t96) (by kernel_rfl) (by kernel_rfl) rfl (by kernel_rfl) (by decide) (by decide) rfl (fields := #[fd "Key" 9 0 "" 0, fd "Had" 4 1 "" 16, fd "Num" 3 2 "" 24]) (by kernel_rfl) rfl (all_cons ⟨⟨Zu, 16, .scalar⟩, by rw [h]; kernel_rfl⟩ (all_cons ⟨⟨ZD, 1, .scalar⟩, by rw [h]; kernel_rfl⟩ (all_cons ⟨⟨Zl, 8, .scalar⟩, by rw [h]; kernel_rfl⟩ all_nil)))
theorem Zye (E : Env) (h : E.ti = Yf tis) : VT Tryz.prog E 97 ⟨YL, 32, .struct [(0, 9), (1, 4), (2, 3)]⟩ := Z0 (inf := Tryz.t97) (by kernel_rfl) (by kernel_rfl) rfl (by kernel_rfl) (by decide) (by decide) rfl (fields := #[fd "Key" 9 0 "" 0, fd "Had" 4 1 "" 16, fd "Num" 3 2 "" 24]) (by kernel_rfl) rfl (all_cons ⟨⟨Zu, 16, .scalar⟩, by rw [h]; kernel_rfl⟩ (all_cons ⟨⟨ZD, 1, .scalar⟩, by rw [h]; kernel_rfl⟩ (all_cons ⟨⟨Zl, 8, .scalar⟩, by rw [h]; kernel_rfl⟩ all_nil)))
theorem Zyf (E : Env) (h : E.ti = Yf tis) : VT Tryz.prog E 98 ⟨Xc, 72, .struct [(0, 3), (1, 3), (2, 68), (3, 26)]⟩ := Z0 (inf := Tryz.t98) (by kernel_rfl) (by kernel_rfl) rfl (by kernel_rfl) (by decide) (by decide) rfl (fields := #[fd "Parent" 3 0 "" 0, fd "View" 3 1 "" 8, fd "Cmds" 68 2 "" 16, fd "Just" 26 3 "" 40]) (by kernel_rfl) rfl (all_cons ⟨⟨Zl, 8, .scalar⟩, by rw [h]; kernel_rfl⟩ (all_cons ⟨⟨Zl, 8, .scalar⟩, by rw [h]; kernel_rfl⟩ (all_cons ⟨⟨Yj, 24, .slice 139⟩, by rw [h]; kernel_rfl⟩ (all_cons ⟨⟨Wy, 32, .struct [(0, 3), (1, 3), (2, 3), (3, 3)]⟩, by rw [h]; kernel_rfl⟩ all_nil))))
theorem Zyg (E : Env) (h : E.ti = Yf tis) : VT Tryz.prog E 99 ⟨YW, 72, .struct [(0, 3), (1, 3), (2, 68), (3, 26)]⟩ := Z0 (inf := Tryz.t99) (by kernel_rfl) (by kernel_rfl) rfl (by kernel_rfl) (by decide) (by decide) rfl (fields := #[fd "Parent" 3 0 "" 0, fd "View" 3 1 "" 8, fd "Cmds" 68 2 "" 16, fd "Just" 26 3 "" 40]) (by kernel_rfl) rfl (all_cons ⟨⟨Zl, 8, .scalar⟩, by rw [h]; kernel_rfl⟩ (all_cons ⟨⟨Zl, 8, .scalar⟩, by rw [h]; kernel_rfl⟩ (all_cons ⟨⟨Yj, 24, .slice 139⟩, by rw [h]; kernel_rfl⟩ (all_cons ⟨⟨Wy, 32, .struct [(0, 3), (1, 3), (2, 3), (3, 3)]⟩, by rw [h]; kernel_rfl⟩ all_nil))))
theorem ZwQ (E : Env) (h : E.ti = Yf tis) : VT Tryz.prog E 125 ⟨Wv, 40, .struct [(0, 22), (1, 3), (2, 3)]⟩ := Z0 (inf := Tryz.t125) (by kernel_rfl) (by kernel_rfl) rfl (by kernel_rfl) (by decide) (by decide) rfl (fields := #[fd "b" 22 0 "loop.example/g00330/spec" 0, fd "i" 3 1 "loop.example/g00330/spec" 24, fd "h" 3 2 "loop.example/g00330/spec" 32]) (by kernel_rfl) rfl (all_cons ⟨⟨Z8, 24, .slice 5⟩, by rw [h]; kernel_rfl⟩ (all_cons ⟨⟨Zl, 8, .scalar⟩, by rw [h]; kernel_rfl⟩ (all_cons ⟨⟨Zl, 8, .scalar⟩, by rw [h]; kernel_rfl⟩ all_nil)))
theorem ZwR (E : Env) (h : E.ti = Yf tis) : VT Tryz.prog E 126 ⟨Zv, 40, .struct [(0, 22), (1, 3), (2, 3)]⟩ := Z0 (inf := Tryz.t126) (by kernel_rfl) (by kernel_rfl) rfl (by kernel_rfl) (by decide) (by decide) rfl (fields := #[fd "b" 22 0 "loop.example/g00330/spec" 0, fd "i" 3 1 "loop.example/g00330/spec" 24, fd "h" 3 2 "loop.example/g00330/spec" 32]) (by kernel_rfl) rfl (all_cons ⟨⟨Z8, 24, .slice 5⟩, by rw [h]; kernel_rfl⟩ (all_cons ⟨⟨Zl, 8, .scalar⟩, by rw [h]; kernel_rfl⟩ (all_cons ⟨⟨Zl, 8, .scalar⟩, by rw [h]; kernel_rfl⟩ all_nil)))
theorem ZwS (E : Env) (h : E.ti = Yf tis) : VT Tryz.prog E 127 ⟨ZwP, 8, .scalar⟩ := YT (inf := Tryz.t127) (by kernel_rfl) rfl rfl (by kernel_rfl) (by decide) (d := .int .u64) (by kernel_rfl) rfl
theorem ZwT (E : Env) (h : E.ti = Yf tis) : VT Tryz.prog E 138 ⟨ZP, 32, .struct [(0, 3), (1, 9), (2, 3)]⟩ := Z0 (inf := Tryz.t138) (by kernel_rfl) (by kernel_rfl) rfl (by kernel_rfl) (by decide) (by decide) rfl (fields := #[fd "Kind" 3 0 "" 0, fd "Key" 9 1 "" 8, fd "Num" 3 2 "" 24]) (by kernel_rfl) rfl (all_cons ⟨⟨Zl, 8, .scalar⟩, by rw [h]; kernel_rfl⟩ (all_cons ⟨⟨Zu, 16, .scalar⟩, by rw [h]; kernel_rfl⟩ (all_cons ⟨⟨Zl, 8, .scalar⟩, by rw [h]; kernel_rfl⟩ all_nil)))
theorem ZwU (E : Env) (h : E.ti = Yf tis) : VT Tryz.prog E 139 ⟨Wn, 32, .struct [(0, 3), (1, 9), (2, 3)]⟩ := Z0 (inf := Tryz.t139) (by kernel_rfl) (by kernel_rfl) rfl (by kernel_rfl) (by decide) (by decide) rfl (fields := #[fd "Kind" 3 0 "" 0, fd "Key" 9 1 "" 8, fd "Num" 3 2 "" 24]) (by kernel_rfl) rfl (all_cons ⟨⟨Zl, 8, .scalar⟩, by rw [h]; kernel_rfl⟩ (all_cons ⟨⟨Zu, 16, .scalar⟩, by rw [h]; kernel_rfl⟩ (all_cons ⟨⟨Zl, 8, .scalar⟩, by rw [h]; kernel_rfl⟩ all_nil)))
theorem ZwV (E : Env) (h : E.ti = Yf tis) : VT Tryz.prog E 140 ⟨Xd, 64, .struct [(0, 3), (1, 3), (2, 3), (3, 3), (4, 139)]⟩ := Z0 (inf := Tryz.t140) (by kernel_rfl) (by kernel_rfl) rfl (by kernel_rfl) (by decide) (by decide) rfl (fields := #[fd "Kind" 3 0 "" 0, fd "At" 3 1 "" 8, fd "To" 3 2 "" 16, fd "Num" 3 3 "" 24, fd "Cmd" 139 4 "" 32]) (by kernel_rfl) rfl (all_cons ⟨⟨Zl, 8, .scalar⟩, by rw [h]; kernel_rfl⟩ (all_cons ⟨⟨Zl, 8, .scalar⟩, by rw [h]; kernel_rfl⟩ (all_cons ⟨⟨Zl, 8, .scalar⟩, by rw [h]; kernel_rfl⟩ (all_cons ⟨⟨Zl, 8, .scalar⟩, by rw [h]; kernel_rfl⟩ (all_cons ⟨⟨Wn, 32, .struct [(0, 3), (1, 9), (2, 3)]⟩, by rw [h]; kernel_rfl⟩ all_nil)))))
theorem ZwW (E : Env) (h : E.ti = Yf tis) : VT Tryz.prog E 141 ⟨WO, 64, .struct [(0, 3), (1, 3), (2, 3), (3, 3), (4, 139)]⟩ := Z0 (inf := Tryz.t141) (by kernel_rfl) (by kernel_rfl) rfl (by kernel_rfl) (by decide) (by decide) rfl (fields := #[fd "Kind" 3 0 "" 0, fd "At" 3 1 "" 8, fd "To" 3 2 "" 16, fd "Num" 3 3 "" 24, fd "Cmd" 139 4 "" 32]) (by kernel_rfl) rfl (all_cons ⟨⟨Zl, 8, .scalar⟩, by rw [h]; kernel_rfl⟩ (all_cons ⟨⟨Zl, 8, .scalar⟩, by rw [h]; kernel_rfl⟩ (all_cons ⟨⟨Zl, 8, .scalar⟩, by rw [h]; kernel_rfl⟩ (all_cons ⟨⟨Zl, 8, .scalar⟩, by rw [h]; kernel_rfl⟩ (all_cons ⟨⟨Wn, 32, .struct [(0, 3), (1, 9), (2, 3)]⟩, by rw [h]; kernel_rfl⟩ all_nil)))))
theorem ZwX (E : Env) (h : E.ti = Yf tis) : VT Tryz.prog E 184 ⟨DW, 24, .slice 9⟩ := X8 (ie := ⟨Zu, 16, .scalar⟩) (inf := Tryz.t184) (by kernel_rfl) rfl rfl rfl (by decide) (by kernel_rfl) (by rw [h]; kernel_rfl)
theorem ZwY (E : Env) (h : E.ti = Yf tis) : VT Tryz.prog E 185 ⟨Zks, 24, .slice 141⟩ := X8 (ie := ⟨WO, 64, .struct [(0, 3), (1, 3), (2, 3), (3, 3), (4, 139)]⟩) (inf := Tryz.t185) (by kernel_rfl) rfl rfl rfl (by decide) (by kernel_rfl) (by rw [h]; kernel_rfl)
theorem ZwZ (E : Env) (h : E.ti = Yf tis) : VT Tryz.prog E 224 ⟨Xt, 32, .struct [(0, 9), (1, 3), (2, 4)]⟩ := Z0 (inf := Tryz.t224) (by kernel_rfl) (by kernel_rfl) rfl (by kernel_rfl) (by decide) (by decide) rfl (fields := #[fd "text" 9 0 "loop.example/g00330/spec" 0, fd "at" 3 1 "loop.example/g00330/spec" 16, fd "bad" 4 2 "loop.example/g00330/spec" 24]) (by kernel_rfl) rfl (all_cons ⟨⟨Zu, 16, .scalar⟩, by rw [h]; kernel_rfl⟩ (all_cons ⟨⟨Zl, 8, .scalar⟩, by rw [h]; kernel_rfl⟩ (all_cons ⟨⟨ZD, 1, .scalar⟩, by rw [h]; kernel_rfl⟩ all_nil)))
theorem Zw0 (E : Env) (h : E.ti = Yf tis) : VT Tryz.prog E 225 ⟨XR, 32, .struct [(0, 9), (1, 3), (2, 4)]⟩ := Z0 (inf := Tryz.t225) (by kernel_rfl) (by kernel_rfl) rfl (by kernel_rfl) (by decide) (by decide) rfl (fields := #[fd "text" 9 0 "loop.example/g00330/spec" 0, fd "at" 3 1 "loop.example/g00330/spec" 16, fd "bad" 4 2 "loop.example/g00330/spec" 24]) (by kernel_rfl) rfl (all_cons ⟨⟨Zu, 16, .scalar⟩, by rw [h]; kernel_rfl⟩ (all_cons ⟨⟨Zl, 8, .scalar⟩, by rw [h]; kernel_rfl⟩ (all_cons ⟨⟨ZD, 1, .scalar⟩, by rw [h]; kernel_rfl⟩ all_nil)))
theorem Zw1 (E : Env) (h : E.ti = Yf tis) : VT Tryz.prog E 238 ⟨X9, 4, .scalar⟩ := YT (inf := Tryz.t238) (by kernel_rfl) rfl rfl (by kernel_rfl) (by decide) (d := .int .u32) (by kernel_rfl) rfl
theorem Zw2 (E : Env) (h : E.ti = Yf tis) : VT Tryz.prog E 252 ⟨SD, 1, .scalar⟩ := YT (inf := Tryz.t252) (by kernel_rfl) rfl rfl (by kernel_rfl) (by decide) (d := .int .u8) (by kernel_rfl) rfl
theorem Zw3 (E : Env) (h : E.ti = Yf tis) : VT Tryz.prog E 253 ⟨ZfA, 1, .scalar⟩ := YT (inf := Tryz.t253) (by kernel_rfl) rfl rfl (by kernel_rfl) (by decide) (d := .int .u8) (by kernel_rfl) rfl
theorem Zw4 (E : Env) (h : E.ti = Yf tis) : VT Tryz.prog E 256 ⟨II, 4, .scalar⟩ := YT (inf := Tryz.t256) (by kernel_rfl) rfl rfl (by kernel_rfl) (by decide) (d := .int .i32) (by kernel_rfl) rfl
theorem Zw5 (E : Env) (h : E.ti = Yf tis) : VT Tryz.prog E 257 ⟨IJ, 4, .scalar⟩ := YT (inf := Tryz.t257) (by kernel_rfl) rfl rfl (by kernel_rfl) (by decide) (d := .int .i32) (by kernel_rfl) rfl
theorem Zyh (E : Env) (h : E.ti = Yf tis) : ∀ t i, E.ti t = some i → VT Tryz.prog E t i := by
 rw [h]
 refine ZwH ?_
 refine all_cons (ZyE E h) ?_
 refine all_cons (ZyF E h) ?_
 refine all_cons (ZyG E h) ?_
 refine all_cons (ZyH E h) ?_
 refine all_cons (ZyI E h) ?_
 refine all_cons (ZyJ E h) ?_
 refine all_cons (ZyK E h) ?_
 refine all_cons (ZyL E h) ?_
 refine all_cons (ZxM E h) ?_
 refine all_cons (ZxN E h) ?_
 refine all_cons (ZxO E h) ?_
 refine all_cons (ZxP E h) ?_
 refine all_cons (ZxQ E h) ?_
 refine all_cons (ZxR E h) ?_
 refine all_cons (ZxS E h) ?_
 refine all_cons (ZxT E h) ?_
 refine all_cons (ZxU E h) ?_
 refine all_cons (ZxV E h) ?_
 refine all_cons (ZxW E h) ?_
 refine all_cons (ZxX E h) ?_
 refine all_cons (ZxY E h) ?_
 refine all_cons (ZxZ E h) ?_
 refine all_cons (Zx0 E h) ?_
 refine all_cons (Zx1 E h) ?_
 refine all_cons (Zx2 E h) ?_
 refine all_cons (Zx3 E h) ?_
 refine all_cons (Zx4 E h) ?_
 refine all_cons (Zx5 E h) ?_
 refine all_cons (Zx6 E h) ?_
 refine all_cons (Zx7 E h) ?_
 refine all_cons (Zx8 E h) ?_
 refine all_cons (Zx9 E h) ?_
 refine all_cons (Zya E h) ?_
 refine all_cons (Zyb E h) ?_
 refine all_cons (Zyc E h) ?_
 refine all_cons (Zyd E h) ?_
 refine all_cons (Zye E h) ?_
 refine all_cons (Zyf E h) ?_
 refine all_cons (Zyg E h) ?_
 refine all_cons (ZwQ E h) ?_
 refine all_cons (ZwR E h) ?_
 refine all_cons (ZwS E h) ?_
 refine all_cons (ZwT E h) ?_
 refine all_cons (ZwU E h) ?_
 refine all_cons (ZwV E h) ?_
 refine all_cons (ZwW E h) ?_
 refine all_cons (ZwX E h) ?_
 refine all_cons (ZwY E h) ?_
 refine all_cons (ZwZ E h) ?_
 refine all_cons (Zw0 E h) ?_
 refine all_cons (Zw1 E h) ?_
 refine all_cons (Zw2 E h) ?_
 refine all_cons (Zw3 E h) ?_
 refine all_cons (Zw4 E h) ?_
 refine all_cons (Zw5 E h) ?_
 exact all_nil
theorem ZyM : ZtJ Tryz.prog 26 Wy := Zwl 6 (by decide) (.struct (fs := [(fd "Phase" 3 0 "" 0), (fd "View" 3 1 "" 8), (fd "Block" 3 2 "" 16), (fd "Signers" 3 3 "" 24)]) (by kernel_rfl) (by kernel_rfl) rfl (by kernel_rfl) (.cons (f := (fd "Phase" 3 0 "" 0)) (a := Zl) rfl (by decide) ⟨Tryz.t3, by kernel_rfl, rfl⟩ ⟨TypeDesc.int IntKind.i64, by kernel_rfl, rfl⟩ rfl (.int (by kernel_rfl)) (.cons (f := (fd "View" 3 1 "" 8)) (a := Zl) rfl (by decide) ⟨Tryz.t3, by kernel_rfl, rfl⟩ ⟨TypeDesc.int IntKind.i64, by kernel_rfl, rfl⟩ rfl (.int (by kernel_rfl)) (.cons (f := (fd "Block" 3 2 "" 16)) (a := Zl) rfl (by decide) ⟨Tryz.t3, by kernel_rfl, rfl⟩ ⟨TypeDesc.int IntKind.i64, by kernel_rfl, rfl⟩ rfl (.int (by kernel_rfl)) (.cons (f := (fd "Signers" 3 3 "" 24)) (a := Zl) rfl (by decide) ⟨Tryz.t3, by kernel_rfl, rfl⟩ ⟨TypeDesc.int IntKind.i64, by kernel_rfl, rfl⟩ rfl (.int (by kernel_rfl)) .nil))))) rfl (by kernel_rfl)
theorem ZyN : ZtJ Tryz.prog 28 Z5 := Zwl 6 (by decide) (.struct (fs := [(fd "Phase" 3 0 "" 0), (fd "View" 3 1 "" 8), (fd "Block" 3 2 "" 16), (fd "By" 3 3 "" 24)]) (by kernel_rfl) (by kernel_rfl) rfl (by kernel_rfl) (.cons (f := (fd "Phase" 3 0 "" 0)) (a := Zl) rfl (by decide) ⟨Tryz.t3, by kernel_rfl, rfl⟩ ⟨TypeDesc.int IntKind.i64, by kernel_rfl, rfl⟩ rfl (.int (by kernel_rfl)) (.cons (f := (fd "View" 3 1 "" 8)) (a := Zl) rfl (by decide) ⟨Tryz.t3, by kernel_rfl, rfl⟩ ⟨TypeDesc.int IntKind.i64, by kernel_rfl, rfl⟩ rfl (.int (by kernel_rfl)) (.cons (f := (fd "Block" 3 2 "" 16)) (a := Zl) rfl (by decide) ⟨Tryz.t3, by kernel_rfl, rfl⟩ ⟨TypeDesc.int IntKind.i64, by kernel_rfl, rfl⟩ rfl (.int (by kernel_rfl)) (.cons (f := (fd "By" 3 3 "" 24)) (a := Zl) rfl (by decide) ⟨Tryz.t3, by kernel_rfl, rfl⟩ ⟨TypeDesc.int IntKind.i64, by kernel_rfl, rfl⟩ rfl (.int (by kernel_rfl)) .nil))))) rfl (by kernel_rfl)
theorem ZyO : ZtJ Tryz.prog 47 ZO := Zwl 6 (by decide) (.struct (fs := [(fd "Kind" 3 0 "" 0), (fd "From" 3 1 "" 8), (fd "To" 3 2 "" 16), (fd "View" 3 3 "" 24), (fd "Block" 3 4 "" 32), (fd "Qc" 26 5 "" 40), (fd "Vote" 28 9 "" 72)]) (by kernel_rfl) (by kernel_rfl) rfl (by kernel_rfl) (.cons (f := (fd "Kind" 3 0 "" 0)) (a := Zl) rfl (by decide) ⟨Tryz.t3, by kernel_rfl, rfl⟩ ⟨TypeDesc.int IntKind.i64, by kernel_rfl, rfl⟩ rfl (.int (by kernel_rfl)) (.cons (f := (fd "From" 3 1 "" 8)) (a := Zl) rfl (by decide) ⟨Tryz.t3, by kernel_rfl, rfl⟩ ⟨TypeDesc.int IntKind.i64, by kernel_rfl, rfl⟩ rfl (.int (by kernel_rfl)) (.cons (f := (fd "To" 3 2 "" 16)) (a := Zl) rfl (by decide) ⟨Tryz.t3, by kernel_rfl, rfl⟩ ⟨TypeDesc.int IntKind.i64, by kernel_rfl, rfl⟩ rfl (.int (by kernel_rfl)) (.cons (f := (fd "View" 3 3 "" 24)) (a := Zl) rfl (by decide) ⟨Tryz.t3, by kernel_rfl, rfl⟩ ⟨TypeDesc.int IntKind.i64, by kernel_rfl, rfl⟩ rfl (.int (by kernel_rfl)) (.cons (f := (fd "Block" 3 4 "" 32)) (a := Zl) rfl (by decide) ⟨Tryz.t3, by kernel_rfl, rfl⟩ ⟨TypeDesc.int IntKind.i64, by kernel_rfl, rfl⟩ rfl (.int (by kernel_rfl)) (.cons (f := (fd "Qc" 26 5 "" 40)) (a := Wy) rfl (by decide) ⟨Tryz.t26, by kernel_rfl, rfl⟩ ⟨TypeDesc.struct (Tryz.prog.fieldsOf 26), by kernel_rfl, rfl⟩ rfl (.struct (fs := [(fd "Phase" 3 0 "" 0), (fd "View" 3 1 "" 8), (fd "Block" 3 2 "" 16), (fd "Signers" 3 3 "" 24)]) (by kernel_rfl) (by kernel_rfl) rfl (by kernel_rfl) (.cons (f := (fd "Phase" 3 0 "" 0)) (a := Zl) rfl (by decide) ⟨Tryz.t3, by kernel_rfl, rfl⟩ ⟨TypeDesc.int IntKind.i64, by kernel_rfl, rfl⟩ rfl (.int (by kernel_rfl)) (.cons (f := (fd "View" 3 1 "" 8)) (a := Zl) rfl (by decide) ⟨Tryz.t3, by kernel_rfl, rfl⟩ ⟨TypeDesc.int IntKind.i64, by kernel_rfl, rfl⟩ rfl (.int (by kernel_rfl)) (.cons (f := (fd "Block" 3 2 "" 16)) (a := Zl) rfl (by decide) ⟨Tryz.t3, by kernel_rfl, rfl⟩ ⟨TypeDesc.int IntKind.i64, by kernel_rfl, rfl⟩ rfl (.int (by kernel_rfl)) (.cons (f := (fd "Signers" 3 3 "" 24)) (a := Zl) rfl (by decide) ⟨Tryz.t3, by kernel_rfl, rfl⟩ ⟨TypeDesc.int IntKind.i64, by kernel_rfl, rfl⟩ rfl (.int (by kernel_rfl)) .nil))))) (.cons (f := (fd "Vote" 28 9 "" 72)) (a := Z5) rfl (by decide) ⟨Tryz.t28, by kernel_rfl, rfl⟩ ⟨TypeDesc.struct (Tryz.prog.fieldsOf 28), by kernel_rfl, rfl⟩ rfl (.struct (fs := [(fd "Phase" 3 0 "" 0), (fd "View" 3 1 "" 8), (fd "Block" 3 2 "" 16), (fd "By" 3 3 "" 24)]) (by kernel_rfl) (by kernel_rfl) rfl (by kernel_rfl) (.cons (f := (fd "Phase" 3 0 "" 0)) (a := Zl) rfl (by decide) ⟨Tryz.t3, by kernel_rfl, rfl⟩ ⟨TypeDesc.int IntKind.i64, by kernel_rfl, rfl⟩ rfl (.int (by kernel_rfl)) (.cons (f := (fd "View" 3 1 "" 8)) (a := Zl) rfl (by decide) ⟨Tryz.t3, by kernel_rfl, rfl⟩ ⟨TypeDesc.int IntKind.i64, by kernel_rfl, rfl⟩ rfl (.int (by kernel_rfl)) (.cons (f := (fd "Block" 3 2 "" 16)) (a := Zl) rfl (by decide) ⟨Tryz.t3, by kernel_rfl, rfl⟩ ⟨TypeDesc.int IntKind.i64, by kernel_rfl, rfl⟩ rfl (.int (by kernel_rfl)) (.cons (f := (fd "By" 3 3 "" 24)) (a := Zl) rfl (by decide) ⟨Tryz.t3, by kernel_rfl, rfl⟩ ⟨TypeDesc.int IntKind.i64, by kernel_rfl, rfl⟩ rfl (.int (by kernel_rfl)) .nil))))) .nil)))))))) rfl (by kernel_rfl)
theorem ZyP : ZtJ Tryz.prog 94 Yc := Zwl 6 (by decide) (.struct (fs := [(fd "Key" 9 0 "" 0), (fd "Num" 3 1 "" 16)]) (by kernel_rfl) (by kernel_rfl) rfl (by kernel_rfl) (.cons (f := (fd "Key" 9 0 "" 0)) (a := Zu) rfl (by decide) ⟨Tryz.t9, by kernel_rfl, rfl⟩ ⟨TypeDesc.string, by kernel_rfl, rfl⟩ rfl (.str (by kernel_rfl)) (.cons (f := (fd "Num" 3 1 "" 16)) (a := Zl) rfl (by decide) ⟨Tryz.t3, by kernel_rfl, rfl⟩ ⟨TypeDesc.int IntKind.i64, by kernel_rfl, rfl⟩ rfl (.int (by kernel_rfl)) .nil))) rfl (by kernel_rfl)
theorem ZyQ : ZtJ Tryz.prog 97 YL := Zwl 6 (by decide) (.struct (fs := [(fd "Key" 9 0 "" 0), (fd "Had" 4 1 "" 16), (fd "Num" 3 2 "" 24)]) (by kernel_rfl) (by kernel_rfl) rfl (by kernel_rfl) (.cons (f := (fd "Key" 9 0 "" 0)) (a := Zu) rfl (by decide) ⟨Tryz.t9, by kernel_rfl, rfl⟩ ⟨TypeDesc.string, by kernel_rfl, rfl⟩ rfl (.str (by kernel_rfl)) (.cons (f := (fd "Had" 4 1 "" 16)) (a := ZD) rfl (by decide) ⟨Tryz.t4, by kernel_rfl, rfl⟩ ⟨TypeDesc.bool, by kernel_rfl, rfl⟩ rfl (.bool (by kernel_rfl)) (.cons (f := (fd "Num" 3 2 "" 24)) (a := Zl) rfl (by decide) ⟨Tryz.t3, by kernel_rfl, rfl⟩ ⟨TypeDesc.int IntKind.i64, by kernel_rfl, rfl⟩ rfl (.int (by kernel_rfl)) .nil)))) rfl (by kernel_rfl)
theorem Zyi : ZtJ Tryz.prog 139 Wn := Zwl 6 (by decide) (.struct (fs := [(fd "Kind" 3 0 "" 0), (fd "Key" 9 1 "" 8), (fd "Num" 3 2 "" 24)]) (by kernel_rfl) (by kernel_rfl) rfl (by kernel_rfl) (.cons (f := (fd "Kind" 3 0 "" 0)) (a := Zl) rfl (by decide) ⟨Tryz.t3, by kernel_rfl, rfl⟩ ⟨TypeDesc.int IntKind.i64, by kernel_rfl, rfl⟩ rfl (.int (by kernel_rfl)) (.cons (f := (fd "Key" 9 1 "" 8)) (a := Zu) rfl (by decide) ⟨Tryz.t9, by kernel_rfl, rfl⟩ ⟨TypeDesc.string, by kernel_rfl, rfl⟩ rfl (.str (by kernel_rfl)) (.cons (f := (fd "Num" 3 2 "" 24)) (a := Zl) rfl (by decide) ⟨Tryz.t3, by kernel_rfl, rfl⟩ ⟨TypeDesc.int IntKind.i64, by kernel_rfl, rfl⟩ rfl (.int (by kernel_rfl)) .nil)))) rfl (by kernel_rfl)
def eqs (t : TypeId) : Bool := [26, 28, 47, 94, 97, 139].any (Nat.beq t)
theorem Zyj (E : Env) (h : E.ti = Yf tis) (he : E.eqs = eqs) : ∀ t ty, E.eqs t = true → E.ty t = some ty → ZtJ Tryz.prog t ty := by
 intro t ty h1 h2
 rw [he] at h1
 simp only [Env.ty, h] at h2
 unfold eqs at h1
 simp only [List.any_cons, List.any_nil, Bool.or_eq_true, Bool.or_false] at h1
 rcases h1 with h1 | h1 | h1 | h1 | h1 | h1
 ·have := Nat.eq_of_beq_eq_true h1
  subst this
  have e : (Option.map (fun x => x.ty) (Yf tis 26)) = some Wy := by kernel_rfl
  rw [e] at h2
  cases h2
  exact ZyM
 ·have := Nat.eq_of_beq_eq_true h1
  subst this
  have e : (Option.map (fun x => x.ty) (Yf tis 28)) = some Z5 := by kernel_rfl
  rw [e] at h2
  cases h2
  exact ZyN
 ·have := Nat.eq_of_beq_eq_true h1
  subst this
  have e : (Option.map (fun x => x.ty) (Yf tis 47)) = some ZO := by kernel_rfl
  rw [e] at h2
  cases h2
  exact ZyO
 ·have := Nat.eq_of_beq_eq_true h1
  subst this
  have e : (Option.map (fun x => x.ty) (Yf tis 94)) = some Yc := by kernel_rfl
  rw [e] at h2
  cases h2
  exact ZyP
 ·have := Nat.eq_of_beq_eq_true h1
  subst this
  have e : (Option.map (fun x => x.ty) (Yf tis 97)) = some YL := by kernel_rfl
  rw [e] at h2
  cases h2
  exact ZyQ
 ·have := Nat.eq_of_beq_eq_true h1
  subst this
  have e : (Option.map (fun x => x.ty) (Yf tis 139)) = some Wn := by kernel_rfl
  rw [e] at h2
  cases h2
  exact Zyi
abbrev Fl : Type := Bool × Bool × List Nat
def env (u : Fl) (l : List (Nat × Con)) : Env := ⟨Yf tis, eqs, Yf l, u.1, u.2.1, fun t => u.2.2.any (Nat.beq t)⟩
theorem Zw6 {u : Fl} {l : List (Nat × Con)} (h : ∀ q ∈ l, ZH Tryz.prog q.1 q.2) : Iq Tryz.prog (env u l) :=
 { ti := Zyh (env u l) rfl, eqs := Zyj (env u l) rfl rfl, tbl := ZwI h }
def body (f : Func) : Code := f.body.getD .skip
abbrev KP : Type := List (Nat × (List ZcP × List BK))
noncomputable def Vm {X : Type} (u : Fl) (l : List (Nat × Con)) (rt : List (Option Ty)) (f : Func) (s : Sh X) (args : List SV) : Ex → St → Option X :=
 fun e st => (Zyx (env u l) rt f.results.toList (XJ [] args).2.2 e st).bind s.un
noncomputable def evX {X : Type} (u : Fl) (l : List (Nat × Con)) (kp : KP) (rt : List (Option Ty)) (f : Func) (s : Sh X) (N : Nat) (args : List SV) : Option X :=
 ev (env u l) (Lr (env u l) kp (body f) (Vm u l rt f s args) N) (body f) (Sv f.ntmps args) (Vm u l rt f s args)
theorem Zw {X : Type} {u : Fl} {l : List (Nat × Con)} (hl : ∀ q ∈ l, ZH Tryz.prog q.1 q.2) {kp : KP} {rt : List (Option Ty)} {s : Sh X} {n : FuncId} {f : Func} {b : Code} (hf : Tryz.prog.funcs[n]? = some f) (hb : f.body = some b) (hn : Zsc (He kp b) = true)
  {args : List SV} (hbx : Hf args kp = true) (N : Nat) {v : X} (h : evX u l kp rt f s N args = some v) : CallOk Tryz.prog n args (s.sh v).1 (s.sh v).2 := by
 have e : body f = b := by unfold body; rw [hb]; rfl
 unfold evX at h
 rw [e] at h
 refine ZxJ (rt := rt) (Zw6 hl) hf hb hn hbx N (fun e st he => ?_) h
 obtain ⟨r, h1, h2⟩ := Option.bind_eq_some_iff.1 he
 exact ⟨r, h1, s.ok r v h2⟩
theorem Zh : ∀ q ∈ ([] : List (Nat × Con)), ZH Tryz.prog q.1 q.2 := fun _ h => by cases h
theorem cons_cons {n : Nat} {c : Con} {l : List (Nat × Con)} (h : ZH Tryz.prog n c) (t : ∀ q ∈ l, ZH Tryz.prog q.1 q.2) : ∀ q ∈ (n, c) :: l, ZH Tryz.prog q.1 q.2 := fun q hq => by
 rcases List.mem_cons.1 hq with rfl | hq
 ·exact h
 ·exact t q hq
def big : Nat := 4611686018427387904
end Go.Sx.Tryz
