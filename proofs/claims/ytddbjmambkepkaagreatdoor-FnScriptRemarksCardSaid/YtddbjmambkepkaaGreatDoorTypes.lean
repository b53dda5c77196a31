/- The types of the seat. -/
import Derived.Test.YtddbjmambkepkaaGreatDoorM8
import Derived.Test.YtddbjmambkepkaaGreatDoorProg
set_option linter.unusedVariables false
set_option linter.unusedSimpArgs false
set_option maxRecDepth 100000
namespace Go.Sx.Tryz
open Go Go.Sx Go.Proofs
abbrev Yf : Type 1 := List (Nat × Con)
abbrev W0 : Type := List OB × List BK
abbrev Yg (l : Yf) : Prop := ∀ q ∈ l, KW Tryz.prog q.1 q.2
abbrev fd (n : String) (t o : Nat) (p : String) (b : Nat) : Field := { name := n, type := t, offset := o, embedded := false, tag := "", pkgPath := p, byteOffset := b }
@[reducible] def dp : Nat → List OB → List OB
 | 0, l => l
 | n + 1, l => .drop :: dp n l
abbrev Zc : Ty := .int .i64
abbrev Zk : Ty := .int .i64
abbrev ZA : Ty := .bool
abbrev WN : Ty := .int .u8
abbrev Yx : Ty := .int .u8
abbrev YE : Ty := .pair Zc (.pair Zk (.pair ZA (.pair Yx (.unit))))
abbrev Un : Ty := .pair Zc (.pair Zk (.pair ZA (.pair Yx (.unit))))
abbrev Zf : Ty := .str
abbrev Uo : Ty := .str
abbrev UP : Ty := .str
abbrev D8 : Ty := .int .u64
abbrev Xp : Ty := .pair Zf (.pair D8 (.unit))
abbrev Wa : Ty := .pair Zf (.pair D8 (.unit))
abbrev ZnX : Ty := .int .i32
abbrev Z9 : Ty := .sl false WN
abbrev W1 : Ty := .pair Zk (.pair Zf (.pair Zk (.unit)))
abbrev Yz : Ty := .pair Zk (.pair Zk (.pair Zk (.pair Zk (.pair W1 (.unit)))))
abbrev Jw : Ty := .sl false Yz
abbrev Re : Ty := .sl true Yz
abbrev YF : Ty := .pair Zk (.pair ZA (.pair Zk (.pair Jw (.pair Zk (.unit)))))
abbrev D9 : Ty := .pair Zk (.pair ZA (.pair Zk (.pair Jw (.pair Zk (.unit)))))
abbrev Ah : Ty := .pair Zk (.pair ZA (.pair Zk (.pair Re (.pair Zk (.unit)))))
abbrev ZH : Ty := .pair Zk (.pair Zf (.pair Zk (.unit)))
abbrev Zy : Ty := .pair Zk (.pair Zk (.pair Zk (.pair Zk (.pair W1 (.unit)))))
abbrev Yr : Ty := .sl false Zf
abbrev Uq : Ty := .sl true Zf
abbrev YG : Ty := .pair D9 (.pair ZA (.pair ZA (.unit)))
abbrev Zf6 : Ty := .pair D9 (.pair ZA (.pair ZA (.unit)))
abbrev Jx : Ty := .pair Ah (.pair ZA (.pair ZA (.unit)))
abbrev YA : Ty := .sl false W1
abbrev Zh3 : Ty := .sl true W1
abbrev Qc : Ty := .pair Zk (.pair Zk (.pair Zk (.pair Zk (.unit))))
abbrev Xz : Ty := .pair Zk (.pair Zk (.pair YA (.pair Qc (.unit))))
abbrev Vn : Ty := .pair Zk (.pair Zk (.pair Zh3 (.pair Qc (.unit))))
abbrev Zj : Ty := .sl false Xz
abbrev Wl : Ty := .sl true Vn
abbrev Z8 : Ty := .pair Zk (.pair Zk (.pair Zk (.pair Zk (.unit))))
abbrev WE : Ty := .sl false Zk
abbrev AY : Ty := .sl true Zk
abbrev Jy : Ty := .pair Zf (.pair Zk (.unit))
abbrev ZO : Ty := .sl false Jy
abbrev Xx : Ty := .sl true Jy
abbrev Jz : Ty := .pair Zf (.pair ZA (.pair Zk (.unit)))
abbrev Wx : Ty := .sl false Jz
abbrev Ph : Ty := .sl true Jz
abbrev Z4 : Ty := .sl false Z8
abbrev Zeh : Ty := .sl true Z8
abbrev ZJ : Ty := .pair Zk (.pair Zk (.pair Zk (.pair Zk (.pair Zk (.pair Qc (.pair Z8 (.unit)))))))
abbrev ZN : Ty := .sl false ZJ
abbrev Yp : Ty := .sl true ZJ
abbrev Yo : Ty := .pair Zk (.pair Zk (.pair Qc (.pair Qc (.pair Z8 (.pair WE (.pair ZO (.pair WE (.pair Wx (.pair Z4 (.pair ZN (.pair Zk (.unit))))))))))))
abbrev ZQ : Ty := .pair Zk (.pair Zk (.pair Qc (.pair Qc (.pair Z8 (.pair AY (.pair Xx (.pair AY (.pair Ph (.pair Zeh (.pair Yp (.pair Zk (.unit))))))))))))
abbrev XL : Ty := .sl false Yo
abbrev Zni : Ty := .sl true ZQ
abbrev YH : Ty := .pair Zk (.pair ZA (.pair Zk (.pair Zj (.pair XL (.pair ZN (.pair Z4 (.pair YA (.unit))))))))
abbrev Xf : Ty := .pair Zk (.pair ZA (.pair Zk (.pair Zj (.pair XL (.pair ZN (.pair Z4 (.pair YA (.unit))))))))
abbrev Zz : Ty := .pair Zk (.pair ZA (.pair Zk (.pair Wl (.pair Zni (.pair Yp (.pair Zeh (.pair Zh3 (.unit))))))))
abbrev Zh : Ty := .pair Zk (.pair Zk (.pair Zk (.pair Zk (.unit))))
abbrev YI : Ty := .pair Zk (.pair Zk (.pair Zk (.pair Zk (.unit))))
abbrev YJ : Ty := .pair Zk (.pair Zk (.pair Qc (.pair Qc (.pair Z8 (.pair WE (.pair ZO (.pair WE (.pair Wx (.pair Z4 (.pair ZN (.pair Zk (.unit))))))))))))
abbrev ZR : Ty := .pair Zk (.pair Zk (.pair Qc (.pair Qc (.pair Z8 (.pair AY (.pair Xx (.pair AY (.pair Ph (.pair Zeh (.pair Yp (.pair Zk (.unit))))))))))))
abbrev Zn : Ty := .pair Zf (.pair Zk (.unit))
abbrev XU : Ty := .pair Z9 (.pair Zk (.pair Zk (.unit)))
abbrev Yd : Ty := .pair Z9 (.pair Zk (.pair Zk (.unit)))
abbrev ZpU : Ty := .int .u64
abbrev Zd : Ty := .pair Zk (.pair Zk (.pair Zk (.pair Zk (.pair Zk (.pair Qc (.pair Z8 (.unit)))))))
abbrev YK : Ty := .pair Zk (.pair Zk (.pair YA (.pair Qc (.unit))))
abbrev Zr : Ty := .pair Zk (.pair Zk (.pair Zh3 (.pair Qc (.unit))))
abbrev Zv : Ty := .pair Zf (.pair ZA (.pair Zk (.unit)))
abbrev Ub : Ty := .pair Zk (.pair Zk (.unit))
abbrev AZ : Ty := .sl false Ub
abbrev Wm : Ty := .pair Zk (.pair Zk (.unit))
abbrev Xg : Ty := .int .u32
abbrev ZlE : Ty := .int .u64
abbrev Y4 : Ty := .pair Zf (.pair Zk (.pair ZA (.unit)))
abbrev Vo : Ty := .pair Zf (.pair Zk (.pair ZA (.unit)))
abbrev Wn : Ty := .pair WN (.pair WN (.unit))
abbrev Kk : Ty := .pair WN (.pair WN (.unit))
abbrev Vp : Ty := .int .u16
abbrev Wy : Ty := .pair Vp (.pair Vp (.pair Vp (.unit)))
abbrev YQ : Ty := .sl false Wy
abbrev Wz : Ty := .pair Xg (.pair Xg (.pair Xg (.unit)))
abbrev YR : Ty := .sl false Wz
abbrev YL : Ty := .pair YQ (.pair YR (.pair Zk (.unit)))
abbrev UQ : Ty := .pair YQ (.pair YR (.pair Zk (.unit)))
abbrev YM : Ty := .pair Vp (.pair Vp (.pair Vp (.unit)))
abbrev YN : Ty := .pair Xg (.pair Xg (.pair Xg (.unit)))
abbrev Cf : Ty := .int .i64
abbrev Wo : Ty := .pair Zf (.pair ZA (.unit))
abbrev Zf7 : Ty := .pair Zf (.pair ZA (.unit))
abbrev Kl : Ty := .pair Zf (.unit)
abbrev UR : Ty := .pair Zf (.unit)
abbrev Rf : Ty := .int .u8
abbrev ZcQ : Ty := .int .u8
abbrev H3 : Ty := .int .i32
abbrev H4 : Ty := .int .i32
abbrev Vq : Type := List Int
abbrev VX : Type := Int × ByteArray × Int × Unit
abbrev Yl : Type := Int × Int × Int × Int × VX × Unit
abbrev Rg : Type := List Yl
abbrev Uc : Type := Int × Bool × Int × Rg × Int × Unit
abbrev Z5 : Type := Int × ByteArray × Int × Unit
abbrev Zs : Type := Int × Int × Int × Int × VX × Unit
abbrev Y5 : Type := List ByteArray
abbrev JA : Type := Uc × Bool × Bool × Unit
abbrev VY : Type := List VX
abbrev H5 : Type := Int × Int × Int × Int × Unit
abbrev ZL : Type := Int × Int × VY × H5 × Unit
abbrev ZE : Type := List ZL
abbrev Z3 : Type := Int × Int × Int × Int × Unit
abbrev WO : Type := List Int
abbrev Ys : Type := ByteArray × Int × Unit
abbrev Z6 : Type := List Ys
abbrev Xv : Type := ByteArray × Bool × Int × Unit
abbrev Qd : Type := List Xv
abbrev Wb : Type := List Z3
abbrev Zo : Type := Int × Int × Int × Int × Int × H5 × Z3 × Unit
abbrev Yh : Type := List Zo
abbrev Zw : Type := Int × Int × H5 × H5 × Z3 × WO × Z6 × WO × Qd × Wb × Yh × Int × Unit
abbrev Pi : Type := List Zw
abbrev Zi : Type := Int × Bool × Int × ZE × Pi × Yh × Wb × VY × Unit
abbrev Zl : Type := Int × Int × Int × Int × Unit
abbrev ZS : Type := Int × Int × H5 × H5 × Z3 × WO × Z6 × WO × Qd × Wb × Yh × Int × Unit
abbrev Zu : Type := ByteArray × Int × Unit
abbrev Ya : Type := Vq × Int × Int × Unit
abbrev Zg : Type := Int × Int × Int × Int × Int × H5 × Z3 × Unit
abbrev Zt : Type := Int × Int × VY × H5 × Unit
abbrev ZC : Type := ByteArray × Bool × Int × Unit
abbrev Wc : Type := ByteArray × Int × Bool × Unit
def tis : List (Nat × TI) := [
 (2, ⟨Zc, 8, .scalar⟩),
 (3, ⟨Zk, 8, .scalar⟩),
 (4, ⟨ZA, 1, .scalar⟩),
 (5, ⟨WN, 1, .scalar⟩),
 (6, ⟨Yx, 1, .scalar⟩),
 (7, ⟨YE, 24, .struct [(0, 2), (1, 3), (2, 4), (3, 6)]⟩),
 (8, ⟨Un, 24, .struct [(0, 2), (1, 3), (2, 4), (3, 6)]⟩),
 (9, ⟨Zf, 16, .scalar⟩),
 (10, ⟨Uo, 16, .scalar⟩),
 (11, ⟨UP, 16, .scalar⟩),
 (12, ⟨D8, 8, .scalar⟩),
 (13, ⟨Xp, 24, .struct [(0, 9), (1, 12)]⟩),
 (14, ⟨Wa, 24, .struct [(0, 9), (1, 12)]⟩),
 (21, ⟨ZnX, 4, .scalar⟩),
 (22, ⟨Z9, 24, .slice 5⟩),
 (25, ⟨Jw, 24, .slice 33⟩),
 (26, ⟨YF, 56, .struct [(0, 3), (1, 4), (2, 3), (3, 25), (4, 3)]⟩),
 (27, ⟨D9, 56, .struct [(0, 3), (1, 4), (2, 3), (3, 25), (4, 3)]⟩),
 (30, ⟨ZH, 32, .struct [(0, 3), (1, 9), (2, 3)]⟩),
 (31, ⟨W1, 32, .struct [(0, 3), (1, 9), (2, 3)]⟩),
 (32, ⟨Zy, 64, .struct [(0, 3), (1, 3), (2, 3), (3, 3), (4, 31)]⟩),
 (33, ⟨Yz, 64, .struct [(0, 3), (1, 3), (2, 3), (3, 3), (4, 31)]⟩),
 (35, ⟨Yr, 24, .slice 9⟩),
 (38, ⟨YG, 64, .struct [(0, 27), (5, 4), (6, 4)]⟩),
 (39, ⟨Zf6, 64, .struct [(0, 27), (5, 4), (6, 4)]⟩),
 (52, ⟨Zj, 24, .slice 144⟩),
 (53, ⟨XL, 24, .slice 91⟩),
 (54, ⟨ZN, 24, .slice 121⟩),
 (55, ⟨Z4, 24, .slice 87⟩),
 (56, ⟨YA, 24, .slice 31⟩),
 (57, ⟨YH, 144, .struct [(0, 3), (1, 4), (2, 3), (3, 52), (4, 53), (5, 54), (6, 55), (7, 56)]⟩),
 (58, ⟨Xf, 144, .struct [(0, 3), (1, 4), (2, 3), (3, 52), (4, 53), (5, 54), (6, 55), (7, 56)]⟩),
 (59, ⟨WE, 24, .slice 3⟩),
 (84, ⟨Zh, 32, .struct [(0, 3), (1, 3), (2, 3), (3, 3)]⟩),
 (85, ⟨Qc, 32, .struct [(0, 3), (1, 3), (2, 3), (3, 3)]⟩),
 (86, ⟨YI, 32, .struct [(0, 3), (1, 3), (2, 3), (3, 3)]⟩),
 (87, ⟨Z8, 32, .struct [(0, 3), (1, 3), (2, 3), (3, 3)]⟩),
 (88, ⟨ZO, 24, .slice 95⟩),
 (89, ⟨Wx, 24, .slice 170⟩),
 (90, ⟨YJ, 264, .struct [(0, 3), (1, 3), (2, 85), (6, 85), (10, 87), (14, 59), (15, 88), (16, 59), (17, 89), (18, 55), (19, 54), (20, 3)]⟩),
 (91, ⟨Yo, 264, .struct [(0, 3), (1, 3), (2, 85), (6, 85), (10, 87), (14, 59), (15, 88), (16, 59), (17, 89), (18, 55), (19, 54), (20, 3)]⟩),
 (94, ⟨Zn, 24, .struct [(0, 9), (1, 3)]⟩),
 (95, ⟨Jy, 24, .struct [(0, 9), (1, 3)]⟩),
 (97, ⟨XU, 40, .struct [(0, 22), (1, 3), (2, 3)]⟩),
 (98, ⟨Yd, 40, .struct [(0, 22), (1, 3), (2, 3)]⟩),
 (108, ⟨ZpU, 8, .scalar⟩),
 (120, ⟨Zd, 104, .struct [(0, 3), (1, 3), (2, 3), (3, 3), (4, 3), (5, 85), (9, 87)]⟩),
 (121, ⟨ZJ, 104, .struct [(0, 3), (1, 3), (2, 3), (3, 3), (4, 3), (5, 85), (9, 87)]⟩),
 (143, ⟨YK, 72, .struct [(0, 3), (1, 3), (2, 56), (3, 85)]⟩),
 (144, ⟨Xz, 72, .struct [(0, 3), (1, 3), (2, 56), (3, 85)]⟩),
 (169, ⟨Zv, 32, .struct [(0, 9), (1, 4), (2, 3)]⟩),
 (170, ⟨Jz, 32, .struct [(0, 9), (1, 4), (2, 3)]⟩),
 (179, ⟨AZ, 24, .slice 181⟩),
 (180, ⟨Wm, 16, .struct [(0, 3), (1, 3)]⟩),
 (181, ⟨Ub, 16, .struct [(0, 3), (1, 3)]⟩),
 (182, ⟨Xg, 4, .scalar⟩),
 (187, ⟨ZlE, 8, .scalar⟩),
 (218, ⟨Y4, 32, .struct [(0, 9), (1, 3), (2, 4)]⟩),
 (219, ⟨Vo, 32, .struct [(0, 9), (1, 3), (2, 4)]⟩),
 (227, ⟨Wn, 2, .struct [(0, 5), (1, 5)]⟩),
 (228, ⟨Kk, 2, .struct [(0, 5), (1, 5)]⟩),
 (232, ⟨YQ, 24, .slice 238⟩),
 (233, ⟨YR, 24, .slice 241⟩),
 (234, ⟨YL, 56, .struct [(0, 232), (1, 233), (2, 3)]⟩),
 (235, ⟨UQ, 56, .struct [(0, 232), (1, 233), (2, 3)]⟩),
 (236, ⟨Vp, 2, .scalar⟩),
 (237, ⟨YM, 6, .struct [(0, 236), (1, 236), (2, 236)]⟩),
 (238, ⟨Wy, 6, .struct [(0, 236), (1, 236), (2, 236)]⟩),
 (240, ⟨YN, 12, .struct [(0, 182), (1, 182), (2, 182)]⟩),
 (241, ⟨Wz, 12, .struct [(0, 182), (1, 182), (2, 182)]⟩),
 (243, ⟨Cf, 8, .scalar⟩),
 (266, ⟨Wo, 24, .struct [(0, 9), (1, 4)]⟩),
 (267, ⟨Zf7, 24, .struct [(0, 9), (1, 4)]⟩),
 (319, ⟨Kl, 16, .struct [(0, 9)]⟩),
 (320, ⟨UR, 16, .struct [(0, 9)]⟩),
 (342, ⟨Rf, 1, .scalar⟩),
 (343, ⟨ZcQ, 1, .scalar⟩),
 (345, ⟨H3, 4, .scalar⟩),
 (346, ⟨H4, 4, .scalar⟩)]
theorem Zsj (E : Env) (h : E.ti = ZF tis) : Xu Tryz.prog E 2 ⟨Zc, 8, .scalar⟩ := Yc (inf := Tryz.t2) (by kernel_rfl) rfl rfl (by kernel_rfl) (by decide) (d := .int .i64) (by kernel_rfl) rfl
theorem Zsk (E : Env) (h : E.ti = ZF tis) : Xu Tryz.prog E 3 ⟨Zk, 8, .scalar⟩ := Yc (inf := Tryz.t3) (by kernel_rfl) rfl rfl (by kernel_rfl) (by decide) (d := .int .i64) (by kernel_rfl) rfl
theorem Zsl (E : Env) (h : E.ti = ZF tis) : Xu Tryz.prog E 4 ⟨ZA, 1, .scalar⟩ := Yc (inf := Tryz.t4) (by kernel_rfl) rfl rfl (by kernel_rfl) (by decide) (d := .bool) (by kernel_rfl) rfl
theorem Zsm (E : Env) (h : E.ti = ZF tis) : Xu Tryz.prog E 5 ⟨WN, 1, .scalar⟩ := Yc (inf := Tryz.t5) (by kernel_rfl) rfl rfl (by kernel_rfl) (by decide) (d := .int .u8) (by kernel_rfl) rfl
theorem Zsn (E : Env) (h : E.ti = ZF tis) : Xu Tryz.prog E 6 ⟨Yx, 1, .scalar⟩ := Yc (inf := Tryz.t6) (by kernel_rfl) rfl rfl (by kernel_rfl) (by decide) (d := .int .u8) (by kernel_rfl) rfl
theorem Zso (E : Env) (h : E.ti = ZF tis) : Xu Tryz.prog E 7 ⟨YE, 24, .struct [(0, 2), (1, 3), (2, 4), (3, 6)]⟩ := Zq (inf := Tryz.t7) (by kernel_rfl) (by kernel_rfl) rfl (by kernel_rfl) (by decide) (by decide) rfl (fields := #[fd "x" 2 0 "runtime" 0, fd "y" 3 1 "runtime" 8, fd "signed" 4 2 "runtime" 16, fd "code" 6 3 "runtime" 17]) (by kernel_rfl) rfl (all_cons ⟨⟨Zc, 8, .scalar⟩, by rw [h]; kernel_rfl⟩ (all_cons ⟨⟨Zk, 8, .scalar⟩, by rw [h]; kernel_rfl⟩ (all_cons ⟨⟨ZA, 1, .scalar⟩, by rw [h]; kernel_rfl⟩ (all_cons ⟨⟨Yx, 1, .scalar⟩, by rw [h]; kernel_rfl⟩ all_nil))))
theorem Zsp (E : Env) (h : E.ti = ZF tis) : Xu Tryz.prog E 8 ⟨Un, 24, .struct [(0, 2), (1, 3), (2, 4), (3, 6)]⟩ := Zq (inf := Tryz.t8) (by kernel_rfl) (by kernel_rfl) rfl (by kernel_rfl) (by decide) (by decide) rfl (fields := #[fd "x" 2 0 "runtime" 0, fd "y" 3 1 "runtime" 8, fd "signed" 4 2 "runtime" 16, fd "code" 6 3 "runtime" 17]) (by kernel_rfl) rfl (all_cons ⟨⟨Zc, 8, .scalar⟩, by rw [h]; kernel_rfl⟩ (all_cons ⟨⟨Zk, 8, .scalar⟩, by rw [h]; kernel_rfl⟩ (all_cons ⟨⟨ZA, 1, .scalar⟩, by rw [h]; kernel_rfl⟩ (all_cons ⟨⟨Yx, 1, .scalar⟩, by rw [h]; kernel_rfl⟩ all_nil))))
theorem Zsq (E : Env) (h : E.ti = ZF tis) : Xu Tryz.prog E 9 ⟨Zf, 16, .scalar⟩ := Yc (inf := Tryz.t9) (by kernel_rfl) rfl rfl (by kernel_rfl) (by decide) (d := .string) (by kernel_rfl) rfl
theorem Zrf (E : Env) (h : E.ti = ZF tis) : Xu Tryz.prog E 10 ⟨Uo, 16, .scalar⟩ := Yc (inf := Tryz.t10) (by kernel_rfl) rfl rfl (by kernel_rfl) (by decide) (d := .string) (by kernel_rfl) rfl
theorem Zrg (E : Env) (h : E.ti = ZF tis) : Xu Tryz.prog E 11 ⟨UP, 16, .scalar⟩ := Yc (inf := Tryz.t11) (by kernel_rfl) rfl rfl (by kernel_rfl) (by decide) (d := .string) (by kernel_rfl) rfl
theorem Zrh (E : Env) (h : E.ti = ZF tis) : Xu Tryz.prog E 12 ⟨D8, 8, .scalar⟩ := Yc (inf := Tryz.t12) (by kernel_rfl) rfl rfl (by kernel_rfl) (by decide) (d := .int .u64) (by kernel_rfl) rfl
theorem Zri (E : Env) (h : E.ti = ZF tis) : Xu Tryz.prog E 13 ⟨Xp, 24, .struct [(0, 9), (1, 12)]⟩ := Zq (inf := Tryz.t13) (by kernel_rfl) (by kernel_rfl) rfl (by kernel_rfl) (by decide) (by decide) rfl (fields := #[fd "msg" 9 0 "runtime" 0, fd "addr" 12 1 "runtime" 16]) (by kernel_rfl) rfl (all_cons ⟨⟨Zf, 16, .scalar⟩, by rw [h]; kernel_rfl⟩ (all_cons ⟨⟨D8, 8, .scalar⟩, by rw [h]; kernel_rfl⟩ all_nil))
theorem Zrj (E : Env) (h : E.ti = ZF tis) : Xu Tryz.prog E 14 ⟨Wa, 24, .struct [(0, 9), (1, 12)]⟩ := Zq (inf := Tryz.t14) (by kernel_rfl) (by kernel_rfl) rfl (by kernel_rfl) (by decide) (by decide) rfl (fields := #[fd "msg" 9 0 "runtime" 0, fd "addr" 12 1 "runtime" 16]) (by kernel_rfl) rfl (all_cons ⟨⟨Zf, 16, .scalar⟩, by rw [h]; kernel_rfl⟩ (all_cons ⟨⟨D8, 8, .scalar⟩, by rw [h]; kernel_rfl⟩ all_nil))
theorem Zrk (E : Env) (h : E.ti = ZF tis) : Xu Tryz.prog E 21 ⟨ZnX, 4, .scalar⟩ := Yc (inf := Tryz.t21) (by kernel_rfl) rfl rfl (by kernel_rfl) (by decide) (d := .int .i32) (by kernel_rfl) rfl
theorem Zrl (E : Env) (h : E.ti = ZF tis) : Xu Tryz.prog E 22 ⟨Z9, 24, .slice 5⟩ := Y0 (ie := ⟨WN, 1, .scalar⟩) (inf := Tryz.t22) (by kernel_rfl) rfl rfl rfl (by decide) (by kernel_rfl) (by rw [h]; kernel_rfl)
theorem Zrm (E : Env) (h : E.ti = ZF tis) : Xu Tryz.prog E 25 ⟨Jw, 24, .slice 33⟩ := Y0 (ie := ⟨Yz, 64, .struct [(0, 3), (1, 3), (2, 3), (3, 3), (4, 31)]⟩) (inf := Tryz.t25) (by kernel_rfl) rfl rfl rfl (by decide) (by kernel_rfl) (by rw [h]; kernel_rfl)
theorem Zrn (E : Env) (h : E.ti = ZF tis) : Xu Tryz.prog E 26 ⟨YF, 56, .struct [(0, 3), (1, 4), (2, 3), (3, 25), (4, 3)]⟩ := Zq (inf := Tryz.t26) (by kernel_rfl) (by kernel_rfl) rfl (by kernel_rfl) (by decide) (by decide) rfl (fields := #[fd "N" 3 0 "" 0, fd "Chain" 4 1 "" 8, fd "Liars" 3 2 "" 16, fd "Events" 25 3 "" 24, fd "Calm" 3 4 "" 48]) (by kernel_rfl) rfl (all_cons ⟨⟨Zk, 8, .scalar⟩, by rw [h]; kernel_rfl⟩ (all_cons ⟨⟨ZA, 1, .scalar⟩, by rw [h]; kernel_rfl⟩ (all_cons ⟨⟨Zk, 8, .scalar⟩, by rw [h]; kernel_rfl⟩ (all_cons ⟨⟨Jw, 24, .slice 33⟩, by rw [h]; kernel_rfl⟩ (all_cons ⟨⟨Zk, 8, .scalar⟩, by rw [h]; kernel_rfl⟩ all_nil)))))
theorem Zro (E : Env) (h : E.ti = ZF tis) : Xu Tryz.prog E 27 ⟨D9, 56, .struct [(0, 3), (1, 4), (2, 3), (3, 25), (4, 3)]⟩ := Zq (inf := Tryz.t27) (by kernel_rfl) (by kernel_rfl) rfl (by kernel_rfl) (by decide) (by decide) rfl (fields := #[fd "N" 3 0 "" 0, fd "Chain" 4 1 "" 8, fd "Liars" 3 2 "" 16, fd "Events" 25 3 "" 24, fd "Calm" 3 4 "" 48]) (by kernel_rfl) rfl (all_cons ⟨⟨Zk, 8, .scalar⟩, by rw [h]; kernel_rfl⟩ (all_cons ⟨⟨ZA, 1, .scalar⟩, by rw [h]; kernel_rfl⟩ (all_cons ⟨⟨Zk, 8, .scalar⟩, by rw [h]; kernel_rfl⟩ (all_cons ⟨⟨Jw, 24, .slice 33⟩, by rw [h]; kernel_rfl⟩ (all_cons ⟨⟨Zk, 8, .scalar⟩, by rw [h]; kernel_rfl⟩ all_nil)))))
theorem Zrp (E : Env) (h : E.ti = ZF tis) : Xu Tryz.prog E 30 ⟨ZH, 32, .struct [(0, 3), (1, 9), (2, 3)]⟩ := Zq (inf := Tryz.t30) (by kernel_rfl) (by kernel_rfl) rfl (by kernel_rfl) (by decide) (by decide) rfl (fields := #[fd "Kind" 3 0 "" 0, fd "Key" 9 1 "" 8, fd "Num" 3 2 "" 24]) (by kernel_rfl) rfl (all_cons ⟨⟨Zk, 8, .scalar⟩, by rw [h]; kernel_rfl⟩ (all_cons ⟨⟨Zf, 16, .scalar⟩, by rw [h]; kernel_rfl⟩ (all_cons ⟨⟨Zk, 8, .scalar⟩, by rw [h]; kernel_rfl⟩ all_nil)))
theorem Zrq (E : Env) (h : E.ti = ZF tis) : Xu Tryz.prog E 31 ⟨W1, 32, .struct [(0, 3), (1, 9), (2, 3)]⟩ := Zq (inf := Tryz.t31) (by kernel_rfl) (by kernel_rfl) rfl (by kernel_rfl) (by decide) (by decide) rfl (fields := #[fd "Kind" 3 0 "" 0, fd "Key" 9 1 "" 8, fd "Num" 3 2 "" 24]) (by kernel_rfl) rfl (all_cons ⟨⟨Zk, 8, .scalar⟩, by rw [h]; kernel_rfl⟩ (all_cons ⟨⟨Zf, 16, .scalar⟩, by rw [h]; kernel_rfl⟩ (all_cons ⟨⟨Zk, 8, .scalar⟩, by rw [h]; kernel_rfl⟩ all_nil)))
theorem Zrr (E : Env) (h : E.ti = ZF tis) : Xu Tryz.prog E 32 ⟨Zy, 64, .struct [(0, 3), (1, 3), (2, 3), (3, 3), (4, 31)]⟩ := Zq (inf := Tryz.t32) (by kernel_rfl) (by kernel_rfl) rfl (by kernel_rfl) (by decide) (by decide) rfl (fields := #[fd "Kind" 3 0 "" 0, fd "At" 3 1 "" 8, fd "To" 3 2 "" 16, fd "Num" 3 3 "" 24, fd "Cmd" 31 4 "" 32]) (by kernel_rfl) rfl (all_cons ⟨⟨Zk, 8, .scalar⟩, by rw [h]; kernel_rfl⟩ (all_cons ⟨⟨Zk, 8, .scalar⟩, by rw [h]; kernel_rfl⟩ (all_cons ⟨⟨Zk, 8, .scalar⟩, by rw [h]; kernel_rfl⟩ (all_cons ⟨⟨Zk, 8, .scalar⟩, by rw [h]; kernel_rfl⟩ (all_cons ⟨⟨W1, 32, .struct [(0, 3), (1, 9), (2, 3)]⟩, by rw [h]; kernel_rfl⟩ all_nil)))))
theorem Zrs (E : Env) (h : E.ti = ZF tis) : Xu Tryz.prog E 33 ⟨Yz, 64, .struct [(0, 3), (1, 3), (2, 3), (3, 3), (4, 31)]⟩ := Zq (inf := Tryz.t33) (by kernel_rfl) (by kernel_rfl) rfl (by kernel_rfl) (by decide) (by decide) rfl (fields := #[fd "Kind" 3 0 "" 0, fd "At" 3 1 "" 8, fd "To" 3 2 "" 16, fd "Num" 3 3 "" 24, fd "Cmd" 31 4 "" 32]) (by kernel_rfl) rfl (all_cons ⟨⟨Zk, 8, .scalar⟩, by rw [h]; kernel_rfl⟩ (all_cons ⟨⟨Zk, 8, .scalar⟩, by rw [h]; kernel_rfl⟩ (all_cons ⟨⟨Zk, 8, .scalar⟩, by rw [h]; kernel_rfl⟩ (all_cons ⟨⟨Zk, 8, .scalar⟩, by rw [h]; kernel_rfl⟩ (all_cons ⟨⟨W1, 32, .struct [(0, 3), (1, 9), (2, 3)]⟩, by rw [h]; kernel_rfl⟩ all_nil)))))
theorem Zrt (E : Env) (h : E.ti = ZF tis) : Xu Tryz.prog E 35 ⟨Yr, 24, .slice 9⟩ := Y0 (ie := ⟨Zf, 16, .scalar⟩) (inf := Tryz.t35) (by kernel_rfl) rfl rfl rfl (by decide) (by kernel_rfl) (by rw [h]; kernel_rfl)
theorem Zru (E : Env) (h : E.ti = ZF tis) : Xu Tryz.prog E 38 ⟨YG, 64, .struct [(0, 27), (5, 4), (6, 4)]⟩ := Zq (inf := Tryz.t38) (by kernel_rfl) (by kernel_rfl) rfl (by kernel_rfl) (by decide) (by decide) rfl (fields := #[fd "s" 27 0 "loop.example/g00330/impl" 0, fd "begun" 4 5 "loop.example/g00330/impl" 56, fd "calm" 4 6 "loop.example/g00330/impl" 57]) (by kernel_rfl) rfl (all_cons ⟨⟨D9, 56, .struct [(0, 3), (1, 4), (2, 3), (3, 25), (4, 3)]⟩, by rw [h]; kernel_rfl⟩ (all_cons ⟨⟨ZA, 1, .scalar⟩, by rw [h]; kernel_rfl⟩ (all_cons ⟨⟨ZA, 1, .scalar⟩, by rw [h]; kernel_rfl⟩ all_nil)))
theorem Zrv (E : Env) (h : E.ti = ZF tis) : Xu Tryz.prog E 39 ⟨Zf6, 64, .struct [(0, 27), (5, 4), (6, 4)]⟩ := Zq (inf := Tryz.t39) (by kernel_rfl) (by kernel_rfl) rfl (by kernel_rfl) (by decide) (by decide) rfl (fields := #[fd "s" 27 0 "loop.example/g00330/impl" 0, fd "begun" 4 5 "loop.example/g00330/impl" 56, fd "calm" 4 6 "loop.example/g00330/impl" 57]) (by kernel_rfl) rfl (all_cons ⟨⟨D9, 56, .struct [(0, 3), (1, 4), (2, 3), (3, 25), (4, 3)]⟩, by rw [h]; kernel_rfl⟩ (all_cons ⟨⟨ZA, 1, .scalar⟩, by rw [h]; kernel_rfl⟩ (all_cons ⟨⟨ZA, 1, .scalar⟩, by rw [h]; kernel_rfl⟩ all_nil)))
theorem Zrw (E : Env) (h : E.ti = ZF tis) : Xu Tryz.prog E 52 ⟨Zj, 24, .slice 144⟩ := Y0 (ie := ⟨Xz, 72, .struct [(0, 3), (1, 3), (2, 56), (3, 85)]⟩) (inf := Tryz.t52) (by kernel_rfl) rfl rfl rfl (by decide) (by kernel_rfl) (by rw [h]; kernel_rfl)
theorem Zrx (E : Env) (h : E.ti = ZF tis) : Xu Tryz.prog E 53 ⟨XL, 24, .slice 91⟩ := Y0 (ie := ⟨Yo, 264, .struct [(0, 3), (1, 3), (2, 85), (6, 85), (10, 87), (14, 59), (15, 88), (16, 59), (17, 89), (18, 55), (19, 54), (20, 3)]⟩) (inf := Tryz.t53) (by kernel_rfl) rfl rfl rfl (by decide) (by kernel_rfl) (by rw [h]; kernel_rfl)
theorem Zry (E : Env) (h : E.ti = ZF tis) : Xu Tryz.prog E 54 ⟨ZN, 24, .slice 121⟩ := Y0 (ie := ⟨ZJ, 104, .struct [(0, 3), (1, 3), (2, 3), (3, 3), (4, 3), (5, 85), (9, 87)]⟩) (inf := Tryz.t54) (by kernel_rfl) rfl rfl rfl (by decide) (by kernel_rfl) (by rw [h]; kernel_rfl)
theorem Zrz (E : Env) (h : E.ti = ZF tis) : Xu Tryz.prog E 55 ⟨Z4, 24, .slice 87⟩ := Y0 (ie := ⟨Z8, 32, .struct [(0, 3), (1, 3), (2, 3), (3, 3)]⟩) (inf := Tryz.t55) (by kernel_rfl) rfl rfl rfl (by decide) (by kernel_rfl) (by rw [h]; kernel_rfl)
theorem ZrA (E : Env) (h : E.ti = ZF tis) : Xu Tryz.prog E 56 ⟨YA, 24, .slice 31⟩ := Y0 (ie := ⟨W1, 32, .struct [(0, 3), (1, 9), (2, 3)]⟩) (inf := Tryz.t56) (by kernel_rfl) rfl rfl rfl (by decide) (by kernel_rfl) (by rw [h]; kernel_rfl)
theorem ZrB (E : Env) (h : E.ti = ZF tis) : Xu Tryz.prog E 57 ⟨YH, 144, .struct [(0, 3), (1, 4), (2, 3), (3, 52), (4, 53), (5, 54), (6, 55), (7, 56)]⟩ := Zq (inf := Tryz.t57) (by kernel_rfl) (by kernel_rfl) rfl (by kernel_rfl) (by decide) (by decide) rfl (fields := #[fd "N" 3 0 "" 0, fd "Chain" 4 1 "" 8, fd "Liars" 3 2 "" 16, fd "Tree" 52 3 "" 24, fd "Peers" 53 4 "" 48, fd "Net" 54 5 "" 72, fd "Said" 55 6 "" 96, fd "Pending" 56 7 "" 120]) (by kernel_rfl) rfl (all_cons ⟨⟨Zk, 8, .scalar⟩, by rw [h]; kernel_rfl⟩ (all_cons ⟨⟨ZA, 1, .scalar⟩, by rw [h]; kernel_rfl⟩ (all_cons ⟨⟨Zk, 8, .scalar⟩, by rw [h]; kernel_rfl⟩ (all_cons ⟨⟨Zj, 24, .slice 144⟩, by rw [h]; kernel_rfl⟩ (all_cons ⟨⟨XL, 24, .slice 91⟩, by rw [h]; kernel_rfl⟩ (all_cons ⟨⟨ZN, 24, .slice 121⟩, by rw [h]; kernel_rfl⟩ (all_cons ⟨⟨Z4, 24, .slice 87⟩, by rw [h]; kernel_rfl⟩ (all_cons ⟨⟨YA, 24, .slice 31⟩, by rw [h]; kernel_rfl⟩ all_nil))))))))
theorem ZrC (E : Env) (h : E.ti = ZF tis) : Xu Tryz.prog E 58 ⟨Xf, 144, .struct [(0, 3), (1, 4), (2, 3), (3, 52), (4, 53), (5, 54), (6, 55), (7, 56)]⟩ := Zq (inf := Tryz.t58) (by kernel_rfl) (by kernel_rfl) rfl (by kernel_rfl) (by decide) (by decide) rfl (fields := #[fd "N" 3 0 "" 0, fd "Chain" 4 1 "" 8, fd "Liars" 3 2 "" 16, fd "Tree" 52 3 "" 24, fd "Peers" 53 4 "" 48, fd "Net" 54 5 "" 72, fd "Said" 55 6 "" 96, fd "Pending" 56 7 "" 120]) (by kernel_rfl) rfl (all_cons ⟨⟨Zk, 8, .scalar⟩, by rw [h]; kernel_rfl⟩ (all_cons ⟨⟨ZA, 1, .scalar⟩, by rw [h]; kernel_rfl⟩ (all_cons ⟨⟨Zk, 8, .scalar⟩, by rw [h]; kernel_rfl⟩ (all_cons ⟨⟨Zj, 24, .slice 144⟩, by rw [h]; kernel_rfl⟩ (all_cons ⟨⟨XL, 24, .slice 91⟩, by rw [h]; kernel_rfl⟩ (all_cons ⟨⟨ZN, 24, .slice 121⟩, by rw [h]; kernel_rfl⟩ (all_cons ⟨⟨Z4, 24, .slice 87⟩, by rw [h]; kernel_rfl⟩ (all_cons ⟨⟨YA, 24, .slice 31⟩, by rw [h]; kernel_rfl⟩ all_nil))))))))
theorem ZrD (E : Env) (h : E.ti = ZF tis) : Xu Tryz.prog E 59 ⟨WE, 24, .slice 3⟩ := Y0 (ie := ⟨Zk, 8, .scalar⟩) (inf := Tryz.t59) (by kernel_rfl) rfl rfl rfl (by decide) (by kernel_rfl) (by rw [h]; kernel_rfl)
theorem ZrE (E : Env) (h : E.ti = ZF tis) : Xu Tryz.prog E 84 ⟨Zh, 32, .struct [(0, 3), (1, 3), (2, 3), (3, 3)]⟩ := Zq (inf := Tryz.t84) (by kernel_rfl) (by kernel_rfl) rfl (by kernel_rfl) (by decide) (by decide) rfl (fields := #[fd "Phase" 3 0 "" 0, fd "View" 3 1 "" 8, fd "Block" 3 2 "" 16, fd "Signers" 3 3 "" 24]) (by kernel_rfl) rfl (all_cons ⟨⟨Zk, 8, .scalar⟩, by rw [h]; kernel_rfl⟩ (all_cons ⟨⟨Zk, 8, .scalar⟩, by rw [h]; kernel_rfl⟩ (all_cons ⟨⟨Zk, 8, .scalar⟩, by rw [h]; kernel_rfl⟩ (all_cons ⟨⟨Zk, 8, .scalar⟩, by rw [h]; kernel_rfl⟩ all_nil))))
theorem ZrF (E : Env) (h : E.ti = ZF tis) : Xu Tryz.prog E 85 ⟨Qc, 32, .struct [(0, 3), (1, 3), (2, 3), (3, 3)]⟩ := Zq (inf := Tryz.t85) (by kernel_rfl) (by kernel_rfl) rfl (by kernel_rfl) (by decide) (by decide) rfl (fields := #[fd "Phase" 3 0 "" 0, fd "View" 3 1 "" 8, fd "Block" 3 2 "" 16, fd "Signers" 3 3 "" 24]) (by kernel_rfl) rfl (all_cons ⟨⟨Zk, 8, .scalar⟩, by rw [h]; kernel_rfl⟩ (all_cons ⟨⟨Zk, 8, .scalar⟩, by rw [h]; kernel_rfl⟩ (all_cons ⟨⟨Zk, 8, .scalar⟩, by rw [h]; kernel_rfl⟩ (all_cons ⟨⟨Zk, 8, .scalar⟩, by rw [h]; kernel_rfl⟩ all_nil))))
theorem ZrG (E : Env) (h : E.ti = ZF tis) : Xu Tryz.prog E 86 ⟨YI, 32, .struct [(0, 3), (1, 3), (2, 3), (3, 3)]⟩ := Zq (inf := Tryz.t86) (by kernel_rfl) (by kernel_rfl) rfl (by kernel_rfl) (by decide) (by decide) rfl (fields := #[fd "Phase" 3 0 "" 0, fd "View" 3 1 "" 8, fd "Block" 3 2 "" 16, fd "By" 3 3 "" 24]) (by kernel_rfl) rfl (all_cons ⟨⟨Zk, 8, .scalar⟩, by rw [h]; kernel_rfl⟩ (all_cons ⟨⟨Zk, 8, .scalar⟩, by rw [h]; kernel_rfl⟩ (all_cons ⟨⟨Zk, 8, .scalar⟩, by rw [h]; kernel_rfl⟩ (all_cons ⟨⟨Zk, 8, .scalar⟩, by rw [h]; kernel_rfl⟩ all_nil))))
theorem ZrH (E : Env) (h : E.ti = ZF tis) : Xu Tryz.prog E 87 ⟨Z8, 32, .struct [(0, 3), (1, 3), (2, 3), (3, 3)]⟩ := Zq (inf := Tryz.t87) (by kernel_rfl) (by kernel_rfl) rfl (by kernel_rfl) (by decide) (by decide) rfl (fields := #[fd "Phase" 3 0 "" 0, fd "View" 3 1 "" 8, fd "Block" 3 2 "" 16, fd "By" 3 3 "" 24]) (by kernel_rfl) rfl (all_cons ⟨⟨Zk, 8, .scalar⟩, by rw [h]; kernel_rfl⟩ (all_cons ⟨⟨Zk, 8, .scalar⟩, by rw [h]; kernel_rfl⟩ (all_cons ⟨⟨Zk, 8, .scalar⟩, by rw [h]; kernel_rfl⟩ (all_cons ⟨⟨Zk, 8, .scalar⟩, by rw [h]; kernel_rfl⟩ all_nil))))
theorem ZrI (E : Env) (h : E.ti = ZF tis) : Xu Tryz.prog E 88 ⟨ZO, 24, .slice 95⟩ := Y0 (ie := ⟨Jy, 24, .struct [(0, 9), (1, 3)]⟩) (inf := Tryz.t88) (by kernel_rfl) rfl rfl rfl (by decide) (by kernel_rfl) (by rw [h]; kernel_rfl)
theorem ZrJ (E : Env) (h : E.ti = ZF tis) : Xu Tryz.prog E 89 ⟨Wx, 24, .slice 170⟩ := Y0 (ie := ⟨Jz, 32, .struct [(0, 9), (1, 4), (2, 3)]⟩) (inf := Tryz.t89) (by kernel_rfl) rfl rfl rfl (by decide) (by kernel_rfl) (by rw [h]; kernel_rfl)
theorem ZrK (E : Env) (h : E.ti = ZF tis) : Xu Tryz.prog E 90 ⟨YJ, 264, .struct [(0, 3), (1, 3), (2, 85), (6, 85), (10, 87), (14, 59), (15, 88), (16, 59), (17, 89), (18, 55), (19, 54), (20, 3)]⟩ := Zq (inf := Tryz.t90) (by kernel_rfl) (by kernel_rfl) rfl (by kernel_rfl) (by decide) (by decide) rfl (fields := #[fd "Id" 3 0 "" 0, fd "View" 3 1 "" 8, fd "High" 85 2 "" 16, fd "Lock" 85 6 "" 48, fd "Last" 87 10 "" 80, fd "Row" 59 14 "" 112, fd "Cells" 88 15 "" 136, fd "Early" 59 16 "" 160, fd "Undos" 89 17 "" 184, fd "Votes" 55 18 "" 208, fd "News" 54 19 "" 232, fd "Shown" 3 20 "" 256]) (by kernel_rfl) rfl (all_cons ⟨⟨Zk, 8, .scalar⟩, by rw [h]; kernel_rfl⟩ (all_cons ⟨⟨Zk, 8, .scalar⟩, by rw [h]; kernel_rfl⟩ (all_cons ⟨⟨Qc, 32, .struct [(0, 3), (1, 3), (2, 3), (3, 3)]⟩, by rw [h]; kernel_rfl⟩ (all_cons ⟨⟨Qc, 32, .struct [(0, 3), (1, 3), (2, 3), (3, 3)]⟩, by rw [h]; kernel_rfl⟩ (all_cons ⟨⟨Z8, 32, .struct [(0, 3), (1, 3), (2, 3), (3, 3)]⟩, by rw [h]; kernel_rfl⟩ (all_cons ⟨⟨WE, 24, .slice 3⟩, by rw [h]; kernel_rfl⟩ (all_cons ⟨⟨ZO, 24, .slice 95⟩, by rw [h]; kernel_rfl⟩ (all_cons ⟨⟨WE, 24, .slice 3⟩, by rw [h]; kernel_rfl⟩ (all_cons ⟨⟨Wx, 24, .slice 170⟩, by rw [h]; kernel_rfl⟩ (all_cons ⟨⟨Z4, 24, .slice 87⟩, by rw [h]; kernel_rfl⟩ (all_cons ⟨⟨ZN, 24, .slice 121⟩, by rw [h]; kernel_rfl⟩ (all_cons ⟨⟨Zk, 8, .scalar⟩, by rw [h]; kernel_rfl⟩ all_nil))))))))))))
theorem ZrL (E : Env) (h : E.ti = ZF tis) : Xu Tryz.prog E 91 ⟨Yo, 264, .struct [(0, 3), (1, 3), (2, 85), (6, 85), (10, 87), (14, 59), (15, 88), (16, 59), (17, 89), (18, 55), (19, 54), (20, 3)]⟩ := Zq (inf := Tryz.t91) (by kernel_rfl) (by kernel_rfl) rfl (by kernel_rfl) (by decide) (by decide) rfl (fields := #[fd "Id" 3 0 "" 0, fd "View" 3 1 "" 8, fd "High" 85 2 "" 16, fd "Lock" 85 6 "" 48, fd "Last" 87 10 "" 80, fd "Row" 59 14 "" 112, fd "Cells" 88 15 "" 136, fd "Early" 59 16 "" 160, fd "Undos" 89 17 "" 184, fd "Votes" 55 18 "" 208, fd "News" 54 19 "" 232, fd "Shown" 3 20 "" 256]) (by kernel_rfl) rfl (all_cons ⟨⟨Zk, 8, .scalar⟩, by rw [h]; kernel_rfl⟩ (all_cons ⟨⟨Zk, 8, .scalar⟩, by rw [h]; kernel_rfl⟩ (all_cons ⟨⟨Qc, 32, .struct [(0, 3), (1, 3), (2, 3), (3, 3)]⟩, by rw [h]; kernel_rfl⟩ (all_cons ⟨⟨Qc, 32, .struct [(0, 3), (1, 3), (2, 3), (3, 3)]⟩, by rw [h]; kernel_rfl⟩ (all_cons ⟨⟨Z8, 32, .struct [(0, 3), (1, 3), (2, 3), (3, 3)]⟩, by rw [h]; kernel_rfl⟩ (all_cons ⟨⟨WE, 24, .slice 3⟩, by rw [h]; kernel_rfl⟩ (all_cons ⟨⟨ZO, 24, .slice 95⟩, by rw [h]; kernel_rfl⟩ (all_cons ⟨⟨WE, 24, .slice 3⟩, by rw [h]; kernel_rfl⟩ (all_cons ⟨⟨Wx, 24, .slice 170⟩, by rw [h]; kernel_rfl⟩ (all_cons ⟨⟨Z4, 24, .slice 87⟩, by rw [h]; kernel_rfl⟩ (all_cons ⟨⟨ZN, 24, .slice 121⟩, by rw [h]; kernel_rfl⟩ (all_cons ⟨⟨Zk, 8, .scalar⟩, by rw [h]; kernel_rfl⟩ all_nil))))))))))))
theorem ZrM (E : Env) (h : E.ti = ZF tis) : Xu Tryz.prog E 94 ⟨Zn, 24, .struct [(0, 9), (1, 3)]⟩ := Zq (inf := Tryz.t94) (by kernel_rfl) (by kernel_rfl) rfl (by kernel_rfl) (by decide) (by decide) rfl (fields := #[fd "Key" 9 0 "" 0, fd "Num" 3 1 "" 16]) (by kernel_rfl) rfl (all_cons ⟨⟨Zf, 16, .scalar⟩, by rw [h]; kernel_rfl⟩ (all_cons ⟨⟨Zk, 8, .scalar⟩, by rw [h]; kernel_rfl⟩ all_nil))
theorem ZrN (E : Env) (h : E.ti = ZF tis) : Xu Tryz.prog E 95 ⟨Jy, 24, .struct [(0, 9), (1, 3)]⟩ := Zq (inf := Tryz.t95) (by kernel_rfl) (by kernel_rfl) rfl (by kernel_rfl) (by decide) (by decide) rfl (fields := #[fd "Key" 9 0 "" 0, fd "Num" 3 1 "" 16]) (by kernel_rfl) rfl (all_cons ⟨⟨Zf, 16, .scalar⟩, by rw [h]; kernel_rfl⟩ (all_cons ⟨⟨Zk, 8, .scalar⟩, by rw [h]; kernel_rfl⟩ all_nil))
theorem ZrO (E : Env) (h : E.ti = ZF tis) : Xu Tryz.prog E 97 ⟨XU, 40, .struct [(0, 22), (1, 3), (2, 3)]⟩ := Zq (inf := Tryz.t97) (by kernel_rfl) (by kernel_rfl) rfl (by kernel_rfl) (by decide) (by decide) rfl (fields := #[fd "b" 22 0 "loop.example/g00330/spec" 0, fd "i" 3 1 "loop.example/g00330/spec" 24, fd "h" 3 2 "loop.example/g00330/spec" 32]) (by kernel_rfl) rfl (all_cons ⟨⟨Z9, 24, .slice 5⟩, by rw [h]; kernel_rfl⟩ (all_cons ⟨⟨Zk, 8, .scalar⟩, by rw [h]; kernel_rfl⟩ (all_cons ⟨⟨Zk, 8, .scalar⟩, by rw [h]; kernel_rfl⟩ all_nil)))
theorem ZrP (E : Env) (h : E.ti = ZF tis) : Xu Tryz.prog E 98 ⟨Yd, 40, .struct [(0, 22), (1, 3), (2, 3)]⟩ := Zq (inf := Tryz.t98) (by kernel_rfl) (by kernel_rfl) rfl (by kernel_rfl) (by decide) (by decide) rfl (fields := #[fd "b" 22 0 "loop.example/g00330/spec" 0, fd "i" 3 1 "loop.example/g00330/spec" 24, fd "h" 3 2 "loop.example/g00330/spec" 32]) (by kernel_rfl) rfl (all_cons ⟨⟨Z9, 24, .slice 5⟩, by rw [h]; kernel_rfl⟩ (all_cons ⟨⟨Zk, 8, .scalar⟩, by rw [h]; kernel_rfl⟩ (all_cons ⟨⟨Zk, 8, .scalar⟩, by rw [h]; kernel_rfl⟩ all_nil)))
theorem ZpV (E : Env) (h : E.ti = ZF tis) : Xu Tryz.prog E 108 ⟨ZpU, 8, .scalar⟩ := Yc (inf := Tryz.t108) (by kernel_rfl) rfl rfl (by kernel_rfl) (by decide) (d := .int .u64) (by kernel_rfl) rfl
theorem ZpW (E : Env) (h : E.ti = ZF tis) : Xu Tryz.prog E 120 ⟨Zd, 104, .struct [(0, 3), (1, 3), (2, 3), (3, 3), (4, 3), (5, 85), (9, 87)]⟩ := Zq (inf := Tryz.t120) (by kernel_rfl) (by kernel_rfl) rfl (by kernel_rfl) (by decide) (by decide) rfl (fields := #[fd "Kind" 3 0 "" 0, fd "From" 3 1 "" 8, fd "To" 3 2 "" 16, fd "View" 3 3 "" 24, fd "Block" 3 4 "" 32, fd "Qc" 85 5 "" 40, fd "Vote" 87 9 "" 72]) (by kernel_rfl) rfl (all_cons ⟨⟨Zk, 8, .scalar⟩, by rw [h]; kernel_rfl⟩ (all_cons ⟨⟨Zk, 8, .scalar⟩, by rw [h]; kernel_rfl⟩ (all_cons ⟨⟨Zk, 8, .scalar⟩, by rw [h]; kernel_rfl⟩ (all_cons ⟨⟨Zk, 8, .scalar⟩, by rw [h]; kernel_rfl⟩ (all_cons ⟨⟨Zk, 8, .scalar⟩, by rw [h]; kernel_rfl⟩ (all_cons ⟨⟨Qc, 32, .struct [(0, 3), (1, 3), (2, 3), (3, 3)]⟩, by rw [h]; kernel_rfl⟩ (all_cons ⟨⟨Z8, 32, .struct [(0, 3), (1, 3), (2, 3), (3, 3)]⟩, by rw [h]; kernel_rfl⟩ all_nil)))))))
theorem ZpX (E : Env) (h : E.ti = ZF tis) : Xu Tryz.prog E 121 ⟨ZJ, 104, .struct [(0, 3), (1, 3), (2, 3), (3, 3), (4, 3), (5, 85), (9, 87)]⟩ := Zq (inf := Tryz.t121) (by kernel_rfl) (by kernel_rfl) rfl (by kernel_rfl) (by decide) (by decide) rfl (fields := #[fd "Kind" 3 0 "" 0, fd "From" 3 1 "" 8, fd "To" 3 2 "" 16, fd "View" 3 3 "" 24, fd "Block" 3 4 "" 32, fd "Qc" 85 5 "" 40, fd "Vote" 87 9 "" 72]) (by kernel_rfl) rfl (all_cons ⟨⟨Zk, 8, .scalar⟩, by rw [h]; kernel_rfl⟩ (all_cons ⟨⟨Zk, 8, .scalar⟩, by rw [h]; kernel_rfl⟩ (all_cons ⟨⟨Zk, 8, .scalar⟩, by rw [h]; kernel_rfl⟩ (all_cons ⟨⟨Zk, 8, .scalar⟩, by rw [h]; kernel_rfl⟩ (all_cons ⟨⟨Zk, 8, .scalar⟩, by rw [h]; kernel_rfl⟩ (all_cons ⟨⟨Qc, 32, .struct [(0, 3), (1, 3), (2, 3), (3, 3)]⟩, by rw [h]; kernel_rfl⟩ (all_cons ⟨⟨Z8, 32, .struct [(0, 3), (1, 3), (2, 3), (3, 3)]⟩, by rw [h]; kernel_rfl⟩ all_nil)))))))
theorem ZpY (E : Env) (h : E.ti = ZF tis) : Xu Tryz.prog E 143 ⟨YK, 72, .struct [(0, 3), (1, 3), (2, 56), (3, 85)]⟩ := Zq (inf := Tryz.t143) (by kernel_rfl) (by kernel_rfl) rfl (by kernel_rfl) (by decide) (by decide) rfl (fields := #[fd "Parent" 3 0 "" 0, fd "View" 3 1 "" 8, fd "Cmds" 56 2 "" 16, fd "Just" 85 3 "" 40]) (by kernel_rfl) rfl (all_cons ⟨⟨Zk, 8, .scalar⟩, by rw [h]; kernel_rfl⟩ (all_cons ⟨⟨Zk, 8, .scalar⟩, by rw [h]; kernel_rfl⟩ (all_cons ⟨⟨YA, 24, .slice 31⟩, by rw [h]; kernel_rfl⟩ (all_cons ⟨⟨Qc, 32, .struct [(0, 3), (1, 3), (2, 3), (3, 3)]⟩, by rw [h]; kernel_rfl⟩ all_nil))))
theorem ZpZ (E : Env) (h : E.ti = ZF tis) : Xu Tryz.prog E 144 ⟨Xz, 72, .struct [(0, 3), (1, 3), (2, 56), (3, 85)]⟩ := Zq (inf := Tryz.t144) (by kernel_rfl) (by kernel_rfl) rfl (by kernel_rfl) (by decide) (by decide) rfl (fields := #[fd "Parent" 3 0 "" 0, fd "View" 3 1 "" 8, fd "Cmds" 56 2 "" 16, fd "Just" 85 3 "" 40]) (by kernel_rfl) rfl (all_cons ⟨⟨Zk, 8, .scalar⟩, by rw [h]; kernel_rfl⟩ (all_cons ⟨⟨Zk, 8, .scalar⟩, by rw [h]; kernel_rfl⟩ (all_cons ⟨⟨YA, 24, .slice 31⟩, by rw [h]; kernel_rfl⟩ (all_cons ⟨⟨Qc, 32, .struct [(0, 3), (1, 3), (2, 3), (3, 3)]⟩, by rw [h]; kernel_rfl⟩ all_nil))))
theorem Zp0 (E : Env) (h : E.ti = ZF tis) : Xu Tryz.prog E 169 ⟨Zv, 32, .struct [(0, 9), (1, 4), (2, 3)]⟩ := Zq (inf := Tryz.t169) (by kernel_rfl) (by kernel_rfl) rfl (by kernel_rfl) (by decide) (by decide) rfl (fields := #[fd "Key" 9 0 "" 0, fd "Had" 4 1 "" 16, fd "Num" 3 2 "" 24]) (by kernel_rfl) rfl (all_cons ⟨⟨Zf, 16, .scalar⟩, by rw [h]; kernel_rfl⟩ (all_cons ⟨⟨ZA, 1, .scalar⟩, by rw [h]; kernel_rfl⟩ (all_cons ⟨⟨Zk, 8, .scalar⟩, by rw [h]; kernel_rfl⟩ all_nil)))
theorem Zp1 (E : Env) (h : E.ti = ZF tis) : Xu Tryz.prog E 170 ⟨Jz, 32, .struct [(0, 9), (1, 4), (2, 3)]⟩ := Zq (inf := Tryz.t170) (by kernel_rfl) (by kernel_rfl) rfl (by kernel_rfl) (by decide) (by decide) rfl (fields := #[fd "Key" 9 0 "" 0, fd "Had" 4 1 "" 16, fd "Num" 3 2 "" 24]) (by kernel_rfl) rfl (all_cons ⟨⟨Zf, 16, .scalar⟩, by rw [h]; kernel_rfl⟩ (all_cons ⟨⟨ZA, 1, .scalar⟩, by rw [h]; kernel_rfl⟩ (all_cons ⟨⟨Zk, 8, .scalar⟩, by rw [h]; kernel_rfl⟩ all_nil)))
theorem Zp2 (E : Env) (h : E.ti = ZF tis) : Xu Tryz.prog E 179 ⟨AZ, 24, .slice 181⟩ := Y0 (ie := ⟨Ub, 16, .struct [(0, 3), (1, 3)]⟩) (inf := Tryz.t179) (by kernel_rfl) rfl rfl rfl (by decide) (by kernel_rfl) (by rw [h]; kernel_rfl)
theorem Zp3 (E : Env) (h : E.ti = ZF tis) : Xu Tryz.prog E 180 ⟨Wm, 16, .struct [(0, 3), (1, 3)]⟩ := Zq (inf := Tryz.t180) (by kernel_rfl) (by kernel_rfl) rfl (by kernel_rfl) (by decide) (by decide) rfl (fields := #[fd "start" 3 0 "strings" 0, fd "end" 3 1 "strings" 8]) (by kernel_rfl) rfl (all_cons ⟨⟨Zk, 8, .scalar⟩, by rw [h]; kernel_rfl⟩ (all_cons ⟨⟨Zk, 8, .scalar⟩, by rw [h]; kernel_rfl⟩ all_nil))
theorem Zp4 (E : Env) (h : E.ti = ZF tis) : Xu Tryz.prog E 181 ⟨Ub, 16, .struct [(0, 3), (1, 3)]⟩ := Zq (inf := Tryz.t181) (by kernel_rfl) (by kernel_rfl) rfl (by kernel_rfl) (by decide) (by decide) rfl (fields := #[fd "start" 3 0 "strings" 0, fd "end" 3 1 "strings" 8]) (by kernel_rfl) rfl (all_cons ⟨⟨Zk, 8, .scalar⟩, by rw [h]; kernel_rfl⟩ (all_cons ⟨⟨Zk, 8, .scalar⟩, by rw [h]; kernel_rfl⟩ all_nil))
theorem Zp5 (E : Env) (h : E.ti = ZF tis) : Xu Tryz.prog E 182 ⟨Xg, 4, .scalar⟩ := Yc (inf := Tryz.t182) (by kernel_rfl) rfl rfl (by kernel_rfl) (by decide) (d := .int .u32) (by kernel_rfl) rfl
theorem Zp6 (E : Env) (h : E.ti = ZF tis) : Xu Tryz.prog E 187 ⟨ZlE, 8, .scalar⟩ := Yc (inf := Tryz.t187) (by kernel_rfl) rfl rfl (by kernel_rfl) (by decide) (d := .int .u64) (by kernel_rfl) rfl
theorem Zp7 (E : Env) (h : E.ti = ZF tis) : Xu Tryz.prog E 218 ⟨Y4, 32, .struct [(0, 9), (1, 3), (2, 4)]⟩ := Zq (inf := Tryz.t218) (by kernel_rfl) (by kernel_rfl) rfl (by kernel_rfl) (by decide) (by decide) rfl (fields := #[fd "text" 9 0 "loop.example/g00330/spec" 0, fd "at" 3 1 "loop.example/g00330/spec" 16, fd "bad" 4 2 "loop.example/g00330/spec" 24]) (by kernel_rfl) rfl (all_cons ⟨⟨Zf, 16, .scalar⟩, by rw [h]; kernel_rfl⟩ (all_cons ⟨⟨Zk, 8, .scalar⟩, by rw [h]; kernel_rfl⟩ (all_cons ⟨⟨ZA, 1, .scalar⟩, by rw [h]; kernel_rfl⟩ all_nil)))
theorem Zp8 (E : Env) (h : E.ti = ZF tis) : Xu Tryz.prog E 219 ⟨Vo, 32, .struct [(0, 9), (1, 3), (2, 4)]⟩ := Zq (inf := Tryz.t219) (by kernel_rfl) (by kernel_rfl) rfl (by kernel_rfl) (by decide) (by decide) rfl (fields := #[fd "text" 9 0 "loop.example/g00330/spec" 0, fd "at" 3 1 "loop.example/g00330/spec" 16, fd "bad" 4 2 "loop.example/g00330/spec" 24]) (by kernel_rfl) rfl (all_cons ⟨⟨Zf, 16, .scalar⟩, by rw [h]; kernel_rfl⟩ (all_cons ⟨⟨Zk, 8, .scalar⟩, by rw [h]; kernel_rfl⟩ (all_cons ⟨⟨ZA, 1, .scalar⟩, by rw [h]; kernel_rfl⟩ all_nil)))
theorem Zp9 (E : Env) (h : E.ti = ZF tis) : Xu Tryz.prog E 227 ⟨Wn, 2, .struct [(0, 5), (1, 5)]⟩ := Zq (inf := Tryz.t227) (by kernel_rfl) (by kernel_rfl) rfl (by kernel_rfl) (by decide) (by decide) rfl (fields := #[fd "lo" 5 0 "unicode/utf8" 0, fd "hi" 5 1 "unicode/utf8" 1]) (by kernel_rfl) rfl (all_cons ⟨⟨WN, 1, .scalar⟩, by rw [h]; kernel_rfl⟩ (all_cons ⟨⟨WN, 1, .scalar⟩, by rw [h]; kernel_rfl⟩ all_nil))
theorem Zqa (E : Env) (h : E.ti = ZF tis) : Xu Tryz.prog E 228 ⟨Kk, 2, .struct [(0, 5), (1, 5)]⟩ := Zq (inf := Tryz.t228) (by kernel_rfl) (by kernel_rfl) rfl (by kernel_rfl) (by decide) (by decide) rfl (fields := #[fd "lo" 5 0 "unicode/utf8" 0, fd "hi" 5 1 "unicode/utf8" 1]) (by kernel_rfl) rfl (all_cons ⟨⟨WN, 1, .scalar⟩, by rw [h]; kernel_rfl⟩ (all_cons ⟨⟨WN, 1, .scalar⟩, by rw [h]; kernel_rfl⟩ all_nil))
theorem Zqb (E : Env) (h : E.ti = ZF tis) : Xu Tryz.prog E 232 ⟨YQ, 24, .slice 238⟩ := Y0 (ie := ⟨Wy, 6, .struct [(0, 236), (1, 236), (2, 236)]⟩) (inf := Tryz.t232) (by kernel_rfl) rfl rfl rfl (by decide) (by kernel_rfl) (by rw [h]; kernel_rfl)
theorem Zqc (E : Env) (h : E.ti = ZF tis) : Xu Tryz.prog E 233 ⟨YR, 24, .slice 241⟩ := Y0 (ie := ⟨Wz, 12, .struct [(0, 182), (1, 182), (2, 182)]⟩) (inf := Tryz.t233) (by kernel_rfl) rfl rfl rfl (by decide) (by kernel_rfl) (by rw [h]; kernel_rfl)
theorem Zqd (E : Env) (h : E.ti = ZF tis) : Xu Tryz.prog E 234 ⟨YL, 56, .struct [(0, 232), (1, 233), (2, 3)]⟩ := Zq (inf := Tryz.t234) (by kernel_rfl) (by kernel_rfl) rfl (by kernel_rfl) (by decide) (by decide) rfl (fields := #[fd "R16" 232 0 "" 0, fd "R32" 233 1 "" 24, fd "LatinOffset" 3 2 "" 48]) (by kernel_rfl) rfl (all_cons ⟨⟨YQ, 24, .slice 238⟩, by rw [h]; kernel_rfl⟩ (all_cons ⟨⟨YR, 24, .slice 241⟩, by rw [h]; kernel_rfl⟩ (all_cons ⟨⟨Zk, 8, .scalar⟩, by rw [h]; kernel_rfl⟩ all_nil)))
theorem Zqe (E : Env) (h : E.ti = ZF tis) : Xu Tryz.prog E 235 ⟨UQ, 56, .struct [(0, 232), (1, 233), (2, 3)]⟩ := Zq (inf := Tryz.t235) (by kernel_rfl) (by kernel_rfl) rfl (by kernel_rfl) (by decide) (by decide) rfl (fields := #[fd "R16" 232 0 "" 0, fd "R32" 233 1 "" 24, fd "LatinOffset" 3 2 "" 48]) (by kernel_rfl) rfl (all_cons ⟨⟨YQ, 24, .slice 238⟩, by rw [h]; kernel_rfl⟩ (all_cons ⟨⟨YR, 24, .slice 241⟩, by rw [h]; kernel_rfl⟩ (all_cons ⟨⟨Zk, 8, .scalar⟩, by rw [h]; kernel_rfl⟩ all_nil)))
theorem Zqf (E : Env) (h : E.ti = ZF tis) : Xu Tryz.prog E 236 ⟨Vp, 2, .scalar⟩ := Yc (inf := Tryz.t236) (by kernel_rfl) rfl rfl (by kernel_rfl) (by decide) (d := .int .u16) (by kernel_rfl) rfl
theorem Zqg (E : Env) (h : E.ti = ZF tis) : Xu Tryz.prog E 237 ⟨YM, 6, .struct [(0, 236), (1, 236), (2, 236)]⟩ := Zq (inf := Tryz.t237) (by kernel_rfl) (by kernel_rfl) rfl (by kernel_rfl) (by decide) (by decide) rfl (fields := #[fd "Lo" 236 0 "" 0, fd "Hi" 236 1 "" 2, fd "Stride" 236 2 "" 4]) (by kernel_rfl) rfl (all_cons ⟨⟨Vp, 2, .scalar⟩, by rw [h]; kernel_rfl⟩ (all_cons ⟨⟨Vp, 2, .scalar⟩, by rw [h]; kernel_rfl⟩ (all_cons ⟨⟨Vp, 2, .scalar⟩, by rw [h]; kernel_rfl⟩ all_nil)))
theorem Zqh (E : Env) (h : E.ti = ZF tis) : Xu Tryz.prog E 238 ⟨Wy, 6, .struct [(0, 236), (1, 236), (2, 236)]⟩ := Zq (inf := Tryz.t238) (by kernel_rfl) (by kernel_rfl) rfl (by kernel_rfl) (by decide) (by decide) rfl (fields := #[fd "Lo" 236 0 "" 0, fd "Hi" 236 1 "" 2, fd "Stride" 236 2 "" 4]) (by kernel_rfl) rfl (all_cons ⟨⟨Vp, 2, .scalar⟩, by rw [h]; kernel_rfl⟩ (all_cons ⟨⟨Vp, 2, .scalar⟩, by rw [h]; kernel_rfl⟩ (all_cons ⟨⟨Vp, 2, .scalar⟩, by rw [h]; kernel_rfl⟩ all_nil)))
theorem Zqi (E : Env) (h : E.ti = ZF tis) : Xu Tryz.prog E 240 ⟨YN, 12, .struct [(0, 182), (1, 182), (2, 182)]⟩ := Zq (inf := Tryz.t240) (by kernel_rfl) (by kernel_rfl) rfl (by kernel_rfl) (by decide) (by decide) rfl (fields := #[fd "Lo" 182 0 "" 0, fd "Hi" 182 1 "" 4, fd "Stride" 182 2 "" 8]) (by kernel_rfl) rfl (all_cons ⟨⟨Xg, 4, .scalar⟩, by rw [h]; kernel_rfl⟩ (all_cons ⟨⟨Xg, 4, .scalar⟩, by rw [h]; kernel_rfl⟩ (all_cons ⟨⟨Xg, 4, .scalar⟩, by rw [h]; kernel_rfl⟩ all_nil)))
theorem Zqj (E : Env) (h : E.ti = ZF tis) : Xu Tryz.prog E 241 ⟨Wz, 12, .struct [(0, 182), (1, 182), (2, 182)]⟩ := Zq (inf := Tryz.t241) (by kernel_rfl) (by kernel_rfl) rfl (by kernel_rfl) (by decide) (by decide) rfl (fields := #[fd "Lo" 182 0 "" 0, fd "Hi" 182 1 "" 4, fd "Stride" 182 2 "" 8]) (by kernel_rfl) rfl (all_cons ⟨⟨Xg, 4, .scalar⟩, by rw [h]; kernel_rfl⟩ (all_cons ⟨⟨Xg, 4, .scalar⟩, by rw [h]; kernel_rfl⟩ (all_cons ⟨⟨Xg, 4, .scalar⟩, by rw [h]; kernel_rfl⟩ all_nil)))
theorem Zqk (E : Env) (h : E.ti = ZF tis) : Xu Tryz.prog E 243 ⟨Cf, 8, .scalar⟩ := Yc (inf := Tryz.t243) (by kernel_rfl) rfl rfl (by kernel_rfl) (by decide) (d := .int .i64) (by kernel_rfl) rfl
theorem Zql (E : Env) (h : E.ti = ZF tis) : Xu Tryz.prog E 266 ⟨Wo, 24, .struct [(0, 9), (1, 4)]⟩ := Zq (inf := Tryz.t266) (by kernel_rfl) (by kernel_rfl) rfl (by kernel_rfl) (by decide) (by decide) rfl (fields := #[fd "s" 9 0 "loop.example/g00330/impl" 0, fd "bad" 4 1 "loop.example/g00330/impl" 16]) (by kernel_rfl) rfl (all_cons ⟨⟨Zf, 16, .scalar⟩, by rw [h]; kernel_rfl⟩ (all_cons ⟨⟨ZA, 1, .scalar⟩, by rw [h]; kernel_rfl⟩ all_nil))
theorem Zqm (E : Env) (h : E.ti = ZF tis) : Xu Tryz.prog E 267 ⟨Zf7, 24, .struct [(0, 9), (1, 4)]⟩ := Zq (inf := Tryz.t267) (by kernel_rfl) (by kernel_rfl) rfl (by kernel_rfl) (by decide) (by decide) rfl (fields := #[fd "s" 9 0 "loop.example/g00330/impl" 0, fd "bad" 4 1 "loop.example/g00330/impl" 16]) (by kernel_rfl) rfl (all_cons ⟨⟨Zf, 16, .scalar⟩, by rw [h]; kernel_rfl⟩ (all_cons ⟨⟨ZA, 1, .scalar⟩, by rw [h]; kernel_rfl⟩ all_nil))
theorem Zqn (E : Env) (h : E.ti = ZF tis) : Xu Tryz.prog E 319 ⟨Kl, 16, .struct [(0, 9)]⟩ := Zq (inf := Tryz.t319) (by kernel_rfl) (by kernel_rfl) rfl (by kernel_rfl) (by decide) (by decide) rfl (fields := #[fd "s" 9 0 "errors" 0]) (by kernel_rfl) rfl (all_cons ⟨⟨Zf, 16, .scalar⟩, by rw [h]; kernel_rfl⟩ all_nil)
theorem Zqo (E : Env) (h : E.ti = ZF tis) : Xu Tryz.prog E 320 ⟨UR, 16, .struct [(0, 9)]⟩ := Zq (inf := Tryz.t320) (by kernel_rfl) (by kernel_rfl) rfl (by kernel_rfl) (by decide) (by decide) rfl (fields := #[fd "s" 9 0 "errors" 0]) (by kernel_rfl) rfl (all_cons ⟨⟨Zf, 16, .scalar⟩, by rw [h]; kernel_rfl⟩ all_nil)
theorem Zqp (E : Env) (h : E.ti = ZF tis) : Xu Tryz.prog E 342 ⟨Rf, 1, .scalar⟩ := Yc (inf := Tryz.t342) (by kernel_rfl) rfl rfl (by kernel_rfl) (by decide) (d := .int .u8) (by kernel_rfl) rfl
theorem Zqq (E : Env) (h : E.ti = ZF tis) : Xu Tryz.prog E 343 ⟨ZcQ, 1, .scalar⟩ := Yc (inf := Tryz.t343) (by kernel_rfl) rfl rfl (by kernel_rfl) (by decide) (d := .int .u8) (by kernel_rfl) rfl
theorem Zqr (E : Env) (h : E.ti = ZF tis) : Xu Tryz.prog E 345 ⟨H3, 4, .scalar⟩ := Yc (inf := Tryz.t345) (by kernel_rfl) rfl rfl (by kernel_rfl) (by decide) (d := .int .i32) (by kernel_rfl) rfl
theorem Zqs (E : Env) (h : E.ti = ZF tis) : Xu Tryz.prog E 346 ⟨H4, 4, .scalar⟩ := Yc (inf := Tryz.t346) (by kernel_rfl) rfl rfl (by kernel_rfl) (by decide) (d := .int .i32) (by kernel_rfl) rfl
theorem ZrQ (E : Env) (h : E.ti = ZF tis) : ∀ t i, E.ti t = some i → Xu Tryz.prog E t i := by
 rw [h]
 refine ZpO ?_
 refine all_cons (Zsj E h) ?_
 refine all_cons (Zsk E h) ?_
 refine all_cons (Zsl E h) ?_
 refine all_cons (Zsm E h) ?_
 refine all_cons (Zsn E h) ?_
 refine all_cons (Zso E h) ?_
 refine all_cons (Zsp E h) ?_
 refine all_cons (Zsq E h) ?_
 refine all_cons (Zrf E h) ?_
 refine all_cons (Zrg E h) ?_
 refine all_cons (Zrh E h) ?_
 refine all_cons (Zri E h) ?_
 refine all_cons (Zrj E h) ?_
 refine all_cons (Zrk E h) ?_
 refine all_cons (Zrl E h) ?_
 refine all_cons (Zrm E h) ?_
 refine all_cons (Zrn E h) ?_
 refine all_cons (Zro E h) ?_
 refine all_cons (Zrp E h) ?_
 refine all_cons (Zrq E h) ?_
 refine all_cons (Zrr E h) ?_
 refine all_cons (Zrs E h) ?_
 refine all_cons (Zrt E h) ?_
 refine all_cons (Zru E h) ?_
 refine all_cons (Zrv E h) ?_
 refine all_cons (Zrw E h) ?_
 refine all_cons (Zrx E h) ?_
 refine all_cons (Zry E h) ?_
 refine all_cons (Zrz E h) ?_
 refine all_cons (ZrA E h) ?_
 refine all_cons (ZrB E h) ?_
 refine all_cons (ZrC E h) ?_
 refine all_cons (ZrD E h) ?_
 refine all_cons (ZrE E h) ?_
 refine all_cons (ZrF E h) ?_
 refine all_cons (ZrG E h) ?_
 refine all_cons (ZrH E h) ?_
 refine all_cons (ZrI E h) ?_
 refine all_cons (ZrJ E h) ?_
 refine all_cons (ZrK E h) ?_
 refine all_cons (ZrL E h) ?_
 refine all_cons (ZrM E h) ?_
 refine all_cons (ZrN E h) ?_
 refine all_cons (ZrO E h) ?_
 refine all_cons (ZrP E h) ?_
 refine all_cons (ZpV E h) ?_
 refine all_cons (ZpW E h) ?_
 refine all_cons (ZpX E h) ?_
 refine all_cons (ZpY E h) ?_
 refine all_cons (ZpZ E h) ?_
 refine all_cons (Zp0 E h) ?_
 refine all_cons (Zp1 E h) ?_
 refine all_cons (Zp2 E h) ?_
 refine all_cons (Zp3 E h) ?_
 refine all_cons (Zp4 E h) ?_
 refine all_cons (Zp5 E h) ?_
 refine all_cons (Zp6 E h) ?_
 refine all_cons (Zp7 E h) ?_
 refine all_cons (Zp8 E h) ?_
 refine all_cons (Zp9 E h) ?_
 refine all_cons (Zqa E h) ?_
 refine all_cons (Zqb E h) ?_
 refine all_cons (Zqc E h) ?_
 refine all_cons (Zqd E h) ?_
 refine all_cons (Zqe E h) ?_
 refine all_cons (Zqf E h) ?_
 refine all_cons (Zqg E h) ?_
 refine all_cons (Zqh E h) ?_
 refine all_cons (Zqi E h) ?_
 refine all_cons (Zqj E h) ?_
 refine all_cons (Zqk E h) ?_
 refine all_cons (Zql E h) ?_
 refine all_cons (Zqm E h) ?_
 refine all_cons (Zqn E h) ?_
 refine all_cons (Zqo E h) ?_
 refine all_cons (Zqp E h) ?_
 refine all_cons (Zqq E h) ?_
 refine all_cons (Zqr E h) ?_
 refine all_cons (Zqs E h) ?_
 exact all_nil
theorem Zsr : Zom Tryz.prog 31 W1 := ZqZ 6 (by decide) (.struct (fs := [(fd "Kind" 3 0 "" 0), (fd "Key" 9 1 "" 8), (fd "Num" 3 2 "" 24)]) (by kernel_rfl) (by kernel_rfl) rfl (by kernel_rfl) (.cons (f := (fd "Kind" 3 0 "" 0)) (a := Zk) rfl (by decide) ⟨Tryz.t3, by kernel_rfl, rfl⟩ ⟨TypeDesc.int IntKind.i64, by kernel_rfl, rfl⟩ rfl (.int (by kernel_rfl)) (.cons (f := (fd "Key" 9 1 "" 8)) (a := Zf) rfl (by decide) ⟨Tryz.t9, by kernel_rfl, rfl⟩ ⟨TypeDesc.string, by kernel_rfl, rfl⟩ rfl (.str (by kernel_rfl)) (.cons (f := (fd "Num" 3 2 "" 24)) (a := Zk) rfl (by decide) ⟨Tryz.t3, by kernel_rfl, rfl⟩ ⟨TypeDesc.int IntKind.i64, by kernel_rfl, rfl⟩ rfl (.int (by kernel_rfl)) .nil)))) rfl (by kernel_rfl)
theorem Zss : Zom Tryz.prog 33 Yz := ZqZ 6 (by decide) (.struct (fs := [(fd "Kind" 3 0 "" 0), (fd "At" 3 1 "" 8), (fd "To" 3 2 "" 16), (fd "Num" 3 3 "" 24), (fd "Cmd" 31 4 "" 32)]) (by kernel_rfl) (by kernel_rfl) rfl (by kernel_rfl) (.cons (f := (fd "Kind" 3 0 "" 0)) (a := Zk) rfl (by decide) ⟨Tryz.t3, by kernel_rfl, rfl⟩ ⟨TypeDesc.int IntKind.i64, by kernel_rfl, rfl⟩ rfl (.int (by kernel_rfl)) (.cons (f := (fd "At" 3 1 "" 8)) (a := Zk) rfl (by decide) ⟨Tryz.t3, by kernel_rfl, rfl⟩ ⟨TypeDesc.int IntKind.i64, by kernel_rfl, rfl⟩ rfl (.int (by kernel_rfl)) (.cons (f := (fd "To" 3 2 "" 16)) (a := Zk) rfl (by decide) ⟨Tryz.t3, by kernel_rfl, rfl⟩ ⟨TypeDesc.int IntKind.i64, by kernel_rfl, rfl⟩ rfl (.int (by kernel_rfl)) (.cons (f := (fd "Num" 3 3 "" 24)) (a := Zk) rfl (by decide) ⟨Tryz.t3, by kernel_rfl, rfl⟩ ⟨TypeDesc.int IntKind.i64, by kernel_rfl, rfl⟩ rfl (.int (by kernel_rfl)) (.cons (f := (fd "Cmd" 31 4 "" 32)) (a := W1) rfl (by decide) ⟨Tryz.t31, by kernel_rfl, rfl⟩ ⟨TypeDesc.struct (Tryz.prog.fieldsOf 31), by kernel_rfl, rfl⟩ rfl (.struct (fs := [(fd "Kind" 3 0 "" 0), (fd "Key" 9 1 "" 8), (fd "Num" 3 2 "" 24)]) (by kernel_rfl) (by kernel_rfl) rfl (by kernel_rfl) (.cons (f := (fd "Kind" 3 0 "" 0)) (a := Zk) rfl (by decide) ⟨Tryz.t3, by kernel_rfl, rfl⟩ ⟨TypeDesc.int IntKind.i64, by kernel_rfl, rfl⟩ rfl (.int (by kernel_rfl)) (.cons (f := (fd "Key" 9 1 "" 8)) (a := Zf) rfl (by decide) ⟨Tryz.t9, by kernel_rfl, rfl⟩ ⟨TypeDesc.string, by kernel_rfl, rfl⟩ rfl (.str (by kernel_rfl)) (.cons (f := (fd "Num" 3 2 "" 24)) (a := Zk) rfl (by decide) ⟨Tryz.t3, by kernel_rfl, rfl⟩ ⟨TypeDesc.int IntKind.i64, by kernel_rfl, rfl⟩ rfl (.int (by kernel_rfl)) .nil)))) .nil)))))) rfl (by kernel_rfl)
theorem Zst : Zom Tryz.prog 85 Qc := ZqZ 6 (by decide) (.struct (fs := [(fd "Phase" 3 0 "" 0), (fd "View" 3 1 "" 8), (fd "Block" 3 2 "" 16), (fd "Signers" 3 3 "" 24)]) (by kernel_rfl) (by kernel_rfl) rfl (by kernel_rfl) (.cons (f := (fd "Phase" 3 0 "" 0)) (a := Zk) rfl (by decide) ⟨Tryz.t3, by kernel_rfl, rfl⟩ ⟨TypeDesc.int IntKind.i64, by kernel_rfl, rfl⟩ rfl (.int (by kernel_rfl)) (.cons (f := (fd "View" 3 1 "" 8)) (a := Zk) rfl (by decide) ⟨Tryz.t3, by kernel_rfl, rfl⟩ ⟨TypeDesc.int IntKind.i64, by kernel_rfl, rfl⟩ rfl (.int (by kernel_rfl)) (.cons (f := (fd "Block" 3 2 "" 16)) (a := Zk) rfl (by decide) ⟨Tryz.t3, by kernel_rfl, rfl⟩ ⟨TypeDesc.int IntKind.i64, by kernel_rfl, rfl⟩ rfl (.int (by kernel_rfl)) (.cons (f := (fd "Signers" 3 3 "" 24)) (a := Zk) rfl (by decide) ⟨Tryz.t3, by kernel_rfl, rfl⟩ ⟨TypeDesc.int IntKind.i64, by kernel_rfl, rfl⟩ rfl (.int (by kernel_rfl)) .nil))))) rfl (by kernel_rfl)
theorem Zsu : Zom Tryz.prog 87 Z8 := ZqZ 6 (by decide) (.struct (fs := [(fd "Phase" 3 0 "" 0), (fd "View" 3 1 "" 8), (fd "Block" 3 2 "" 16), (fd "By" 3 3 "" 24)]) (by kernel_rfl) (by kernel_rfl) rfl (by kernel_rfl) (.cons (f := (fd "Phase" 3 0 "" 0)) (a := Zk) rfl (by decide) ⟨Tryz.t3, by kernel_rfl, rfl⟩ ⟨TypeDesc.int IntKind.i64, by kernel_rfl, rfl⟩ rfl (.int (by kernel_rfl)) (.cons (f := (fd "View" 3 1 "" 8)) (a := Zk) rfl (by decide) ⟨Tryz.t3, by kernel_rfl, rfl⟩ ⟨TypeDesc.int IntKind.i64, by kernel_rfl, rfl⟩ rfl (.int (by kernel_rfl)) (.cons (f := (fd "Block" 3 2 "" 16)) (a := Zk) rfl (by decide) ⟨Tryz.t3, by kernel_rfl, rfl⟩ ⟨TypeDesc.int IntKind.i64, by kernel_rfl, rfl⟩ rfl (.int (by kernel_rfl)) (.cons (f := (fd "By" 3 3 "" 24)) (a := Zk) rfl (by decide) ⟨Tryz.t3, by kernel_rfl, rfl⟩ ⟨TypeDesc.int IntKind.i64, by kernel_rfl, rfl⟩ rfl (.int (by kernel_rfl)) .nil))))) rfl (by kernel_rfl)
def eqs (t : TypeId) : Bool := [31, 33, 85, 87].any (Nat.beq t)
theorem ZrR (E : Env) (h : E.ti = ZF tis) (he : E.eqs = eqs) : ∀ t ty, E.eqs t = true → E.ty t = some ty → Zom Tryz.prog t ty := by
 intro t ty h1 h2
 rw [he] at h1
 simp only [Env.ty, h] at h2
 unfold eqs at h1
 simp only [List.any_cons, List.any_nil, Bool.or_eq_true, Bool.or_false] at h1
 rcases h1 with h1 | h1 | h1 | h1
 ·have := Nat.eq_of_beq_eq_true h1
  subst this
  have e : (Option.map (fun x => x.ty) (ZF tis 31)) = some W1 := by kernel_rfl
  rw [e] at h2
  cases h2
  exact Zsr
 ·have := Nat.eq_of_beq_eq_true h1
  subst this
  have e : (Option.map (fun x => x.ty) (ZF tis 33)) = some Yz := by kernel_rfl
  rw [e] at h2
  cases h2
  exact Zss
 ·have := Nat.eq_of_beq_eq_true h1
  subst this
  have e : (Option.map (fun x => x.ty) (ZF tis 85)) = some Qc := by kernel_rfl
  rw [e] at h2
  cases h2
  exact Zst
 ·have := Nat.eq_of_beq_eq_true h1
  subst this
  have e : (Option.map (fun x => x.ty) (ZF tis 87)) = some Z8 := by kernel_rfl
  rw [e] at h2
  cases h2
  exact Zsu
abbrev Fl : Type := Bool × Bool × List Nat
def env (u : Fl) (l : List (Nat × Con)) : Env := ⟨ZF tis, eqs, ZF l, u.1, u.2.1, fun t => u.2.2.any (Nat.beq t)⟩
theorem Zqt {u : Fl} {l : List (Nat × Con)} (h : ∀ q ∈ l, KW Tryz.prog q.1 q.2) : HK Tryz.prog (env u l) :=
 { ti := ZrQ (env u l) rfl, eqs := ZrR (env u l) rfl rfl, tbl := ZpP h }
def body (f : Func) : Code := f.body.getD .skip
abbrev KP : Type := List (Nat × (List OB × List BK))
noncomputable def Zq3 {X : Type} (u : Fl) (l : List (Nat × Con)) (rt : List (Option Ty)) (f : Func) (s : Sh X) (args : List SV) : Ex → St → Option X :=
 fun e st => (Zse (env u l) rt f.results.toList (Xk [] args).2.2 e st).bind s.un
noncomputable def evX {X : Type} (u : Fl) (l : List (Nat × Con)) (kp : KP) (rt : List (Option Ty)) (f : Func) (s : Sh X) (N : Nat) (args : List SV) : Option X :=
 ev (env u l) (Lr (env u l) kp (body f) (Zq3 u l rt f s args) N) (body f) (Ra f.ntmps args) (Zq3 u l rt f s args)
theorem Zf8 {X : Type} {u : Fl} {l : List (Nat × Con)} (hl : ∀ q ∈ l, KW Tryz.prog q.1 q.2) {kp : KP} {rt : List (Option Ty)} {s : Sh X} {n : FuncId} {f : Func} {b : Code} (hf : Tryz.prog.funcs[n]? = some f) (hb : f.body = some b) (hn : ZhT (B7 kp b) = true)
  {args : List SV} (hbx : Ag args kp = true) (N : Nat) {v : X} (h : evX u l kp rt f s N args = some v) : Jl Tryz.prog n args (s.sh v).1 (s.sh v).2 := by
 have e : body f = b := by unfold body; rw [hb]; rfl
 unfold evX at h
 rw [e] at h
 refine Zrc (rt := rt) (Zqt hl) hf hb hn hbx N (fun e st he => ?_) h
 obtain ⟨r, h1, h2⟩ := Option.bind_eq_some_iff.1 he
 exact ⟨r, h1, s.ok r v h2⟩
theorem H6 : ∀ q ∈ ([] : List (Nat × Con)), KW Tryz.prog q.1 q.2 := fun _ h => by cases h
theorem cons_cons {n : Nat} {c : Con} {l : List (Nat × Con)} (h : KW Tryz.prog n c) (t : ∀ q ∈ l, KW Tryz.prog q.1 q.2) : ∀ q ∈ (n, c) :: l, KW Tryz.prog q.1 q.2 := fun q hq => by
 rcases List.mem_cons.1 hq with rfl | hq
 ·exact h
 ·exact t q hq
def big : Nat := 4611686018427387904
abbrev CO (n : FuncId) (c : Con) : Prop := KW Tryz.prog n c
def zs (l : List Ty) : List SV := l.map fun t => .val t (WI t)
structure FX (A : Type) where
 u : Fl
 l : List (Nat × Con)
 kp : KP
 rt : List (Option Ty)
 f : Func
 s : Sh A
noncomputable def qR {A : Type} (e : FX A) (ts : List Ty) (n : Nat) (x : Pg ts) : Option A := evX e.u e.l e.kp e.rt e.f e.s n (Zkt ts x)
noncomputable def qA {A : Type} (e : FX A) (ts : List AP) (n : Nat) (x : AP.denL ts) : Option A := evX e.u e.l e.kp e.rt e.f e.s n (AP.encL ts x)
noncomputable def rR {A : Type} (e : FX A) (az : List SV) (b : Nat) (k : List OB × List BK) (n : Nat) (x : KD k.1) (y : BD k.2) : Option A := ZfZ (env e.u e.l) e.kp (body e.f) (Zq3 e.u e.l e.rt e.f e.s az) n b k x y
noncomputable def cR {A : Type} (e : FX A) (ts : List Ty) (fr : Bool) : Con := roS ts fr e.s (qR e ts big)
noncomputable def cA {A : Type} (e : FX A) (ts : List AP) (fr : Bool) : Con := apS ts fr e.s (qA e ts big)
theorem ZI {A : Type} {e : FX A} {ts : List Ty} {fr : Bool} {n : FuncId} (hl : ∀ q ∈ e.l, KW Tryz.prog q.1 q.2) (hf : Tryz.prog.funcs[n]? = some e.f := by kernel_rfl) (hb : e.f.body = some (body e.f) := by rfl) (hn : ZhT (B7 e.kp (body e.f)) = true := by kernel_rfl) (hx : ∀ x, Ag (Zkt ts x) e.kp = true := by intro _; kernel_rfl) (hm : (e.f.name == "runtime.NumGoroutine") = false := by decide) : CO n (cR e ts fr) :=
 Zf2 ⟨e.f, hf, by rw [hb]; rfl, hm⟩ fun x _ h => Zf8 hl hf hb hn (hx x) big h
theorem Vr {A : Type} {e : FX A} {ts : List AP} {fr : Bool} {n : FuncId} (hl : ∀ q ∈ e.l, KW Tryz.prog q.1 q.2) (hf : Tryz.prog.funcs[n]? = some e.f := by kernel_rfl) (hb : e.f.body = some (body e.f) := by rfl) (hn : ZhT (B7 e.kp (body e.f)) = true := by kernel_rfl) (hx : ∀ x, Ag (AP.encL ts x) e.kp = true := by intro _; kernel_rfl) (hm : (e.f.name == "runtime.NumGoroutine") = false := by decide) : CO n (cA e ts fr) :=
 ZnU ⟨e.f, hf, by rw [hb]; rfl, hm⟩ fun x _ h => Zf8 hl hf hb hn (hx x) big h
@[reducible] def rp : Nat → Ty → List OB → List OB
 | 0, _, l => l
 | n + 1, t, l => .ro t :: rp n t l
noncomputable def L_ : List (Nat × Con) := []
theorem Zqu : Yg L_ := H6
end Go.Sx.Tryz
