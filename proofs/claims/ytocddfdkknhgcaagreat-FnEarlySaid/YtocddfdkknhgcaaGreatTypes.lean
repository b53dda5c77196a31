/- The types of the seat. -/
import Derived.Test.YtocddfdkknhgcaaGreatM8
import Derived.Test.YtocddfdkknhgcaaGreatProg
set_option linter.unusedVariables false
set_option linter.unusedSimpArgs false
set_option maxRecDepth 100000
namespace Go.Sx.Tryz
open Go Go.Sx Go.Proofs
abbrev Yy : Type 1 := List (Nat × Con)
abbrev VS : Type := List Zc1 × List BK
abbrev YA (l : Yy) : Prop := ∀ q ∈ l, ZM Tryz.prog q.1 q.2
abbrev fd (n : String) (t o : Nat) (p : String) (b : Nat) : Field := { name := n, type := t, offset := o, embedded := false, tag := "", pkgPath := p, byteOffset := b }
@[reducible] def dp : Nat → List Zc1 → List Zc1
 | 0, l => l
 | n + 1, l => .drop :: dp n l
abbrev Za : Ty := .int .i64
abbrev Zp : Ty := .int .i64
abbrev ZG : Ty := .bool
abbrev Zj1 : Ty := .int .u8
abbrev Y6 : Ty := .int .u8
abbrev Xd : Ty := .pair Za (.pair Zp (.pair ZG (.pair Y6 (.unit))))
abbrev Ku : Ty := .pair Za (.pair Zp (.pair ZG (.pair Y6 (.unit))))
abbrev Zy : Ty := .str
abbrev Kv : Ty := .str
abbrev KT : Ty := .str
abbrev F8 : Ty := .int .u64
abbrev X0 : Ty := .pair Zy (.pair F8 (.unit))
abbrev W5 : Ty := .pair Zy (.pair F8 (.unit))
abbrev Zul : Ty := .int .i32
abbrev Ys : Ty := .sl false Zj1
abbrev Vv : Ty := .pair Zp (.pair Zy (.pair Zp (.unit)))
abbrev Yl : Ty := .sl false Vv
abbrev EE : Ty := .sl true Vv
abbrev WZ : Ty := .pair Zp (.pair Zp (.pair Zp (.pair Zp (.unit))))
abbrev Y2 : Ty := .pair Zp (.pair Zp (.pair Yl (.pair WZ (.unit))))
abbrev QP : Ty := .pair Zp (.pair Zp (.pair EE (.pair WZ (.unit))))
abbrev Zg : Ty := .sl false Y2
abbrev YZ : Ty := .sl true QP
abbrev Zx : Ty := .pair Zp (.pair Zp (.pair Zp (.pair Zp (.unit))))
abbrev Xe : Ty := .pair Zp (.pair Zp (.pair Zp (.pair Zp (.unit))))
abbrev Z9 : Ty := .pair Zp (.pair Zp (.pair Zp (.pair Zp (.unit))))
abbrev Yx : Ty := .sl false Zp
abbrev Y0 : Ty := .sl true Zp
abbrev Yf : Ty := .pair Zy (.pair Zp (.unit))
abbrev Zn : Ty := .sl false Yf
abbrev ZF : Ty := .sl true Yf
abbrev YO : Ty := .pair Zy (.pair ZG (.pair Zp (.unit)))
abbrev Yo : Ty := .sl false YO
abbrev WF : Ty := .sl true YO
abbrev ZV : Ty := .sl false Z9
abbrev F9 : Ty := .sl true Z9
abbrev ZQ : Ty := .pair Zp (.pair Zp (.pair Zp (.pair Zp (.pair Zp (.pair WZ (.pair Z9 (.unit)))))))
abbrev ZO : Ty := .sl false ZQ
abbrev Z1 : Ty := .sl true ZQ
abbrev Xf : Ty := .pair Zp (.pair Zp (.pair WZ (.pair WZ (.pair Z9 (.pair Yx (.pair Zn (.pair Yx (.pair Yo (.pair ZV (.pair ZO (.pair Zp (.unit))))))))))))
abbrev Yg : Ty := .pair Zp (.pair Zp (.pair WZ (.pair WZ (.pair Z9 (.pair Y0 (.pair ZF (.pair Y0 (.pair WF (.pair F9 (.pair Z1 (.pair Zp (.unit))))))))))))
abbrev ZW : Ty := .pair Zp (.pair Zp (.pair WZ (.pair WZ (.pair Z9 (.pair Yx (.pair Zn (.pair Yx (.pair Yo (.pair ZV (.pair ZO (.pair Zp (.unit))))))))))))
abbrev ZL : Ty := .pair Zp (.pair Zp (.pair WZ (.pair WZ (.pair Z9 (.pair Y0 (.pair ZF (.pair Y0 (.pair WF (.pair F9 (.pair Z1 (.pair Zp (.unit))))))))))))
abbrev Zl : Ty := .pair Zp (.pair Zp (.pair Zp (.pair Zp (.pair Zp (.pair WZ (.pair Z9 (.unit)))))))
abbrev X3 : Ty := .sl false ZW
abbrev ZtD : Ty := .sl true ZL
abbrev Xg : Ty := .pair Zp (.pair ZG (.pair Zp (.pair Zg (.pair X3 (.pair ZO (.pair ZV (.pair Yl (.unit))))))))
abbrev YT : Ty := .pair Zp (.pair ZG (.pair Zp (.pair Zg (.pair X3 (.pair ZO (.pair ZV (.pair Yl (.unit))))))))
abbrev Zz : Ty := .pair Zp (.pair ZG (.pair Zp (.pair YZ (.pair ZtD (.pair Z1 (.pair F9 (.pair EE (.unit))))))))
abbrev Zq : Ty := .pair Zy (.pair Zp (.unit))
abbrev ZH : Ty := .pair Zy (.pair ZG (.pair Zp (.unit)))
abbrev Xh : Ty := .pair Zp (.pair Zp (.pair Yl (.pair WZ (.unit))))
abbrev ZP : Ty := .pair Zp (.pair Zp (.pair EE (.pair WZ (.unit))))
abbrev WP : Ty := .pair Ys (.pair Zp (.pair Zp (.unit)))
abbrev ZN : Ty := .pair Ys (.pair Zp (.pair Zp (.unit)))
abbrev Zwr : Ty := .int .u64
abbrev ZZ : Ty := .pair Zp (.pair Zy (.pair Zp (.unit)))
abbrev Xi : Ty := .pair Zp (.pair Zp (.pair Zp (.pair Zp (.pair Vv (.unit)))))
abbrev Vh : Ty := .pair Zp (.pair Zp (.pair Zp (.pair Zp (.pair Vv (.unit)))))
abbrev EF : Ty := .sl false Zy
abbrev Zj2 : Ty := .sl false Vh
abbrev XG : Ty := .pair Zy (.pair Zp (.pair ZG (.unit)))
abbrev X4 : Ty := .pair Zy (.pair Zp (.pair ZG (.unit)))
abbrev Wo : Ty := .int .u32
abbrev Tf : Ty := .int .u8
abbrev Zfw : Ty := .int .u8
abbrev Li : Ty := .int .i32
abbrev Lj : Ty := .int .i32
abbrev XK : Type := List Int
abbrev Y3 : Type := Int × ByteArray × Int × Unit
abbrev YW : Type := List Y3
abbrev Ch : Type := Int × Int × Int × Int × Unit
abbrev Zm : Type := Int × Int × YW × Ch × Unit
abbrev Zt : Type := List Zm
abbrev Zf : Type := Int × Int × Int × Int × Unit
abbrev ZX : Type := Int × Int × Int × Int × Unit
abbrev Yq : Type := List Int
abbrev ZB : Type := ByteArray × Int × Unit
abbrev Zu : Type := List ZB
abbrev Ya : Type := ByteArray × Bool × Int × Unit
abbrev YG : Type := List Ya
abbrev Yt : Type := List ZX
abbrev Zo : Type := Int × Int × Int × Int × Int × Ch × ZX × Unit
abbrev Z3 : Type := List Zo
abbrev ZK : Type := Int × Int × Ch × Ch × ZX × Yq × Zu × Yq × YG × Yt × Z3 × Int × Unit
abbrev Zj : Type := Int × Int × Ch × Ch × ZX × Yq × Zu × Yq × YG × Yt × Z3 × Int × Unit
abbrev Zc : Type := Int × Int × Int × Int × Int × Ch × ZX × Unit
abbrev CT : Type := List Zj
abbrev Zi : Type := Int × Bool × Int × Zt × CT × Z3 × Yt × YW × Unit
abbrev Ze : Type := ByteArray × Int × Unit
abbrev Zw : Type := ByteArray × Bool × Int × Unit
abbrev Zv : Type := Int × Int × YW × Ch × Unit
abbrev Z0 : Type := XK × Int × Int × Unit
abbrev ZI : Type := Int × ByteArray × Int × Unit
abbrev WG : Type := Int × Int × Int × Int × Y3 × Unit
abbrev Zj3 : Type := List ByteArray
abbrev XA : Type := ByteArray × Int × Bool × Unit
def tis : List (Nat × TI) := [
 (2, ⟨Za, 8, .scalar⟩),
 (3, ⟨Zp, 8, .scalar⟩),
 (4, ⟨ZG, 1, .scalar⟩),
 (5, ⟨Zj1, 1, .scalar⟩),
 (6, ⟨Y6, 1, .scalar⟩),
 (7, ⟨Xd, 24, .struct [(0, 2), (1, 3), (2, 4), (3, 6)]⟩),
 (8, ⟨Ku, 24, .struct [(0, 2), (1, 3), (2, 4), (3, 6)]⟩),
 (9, ⟨Zy, 16, .scalar⟩),
 (10, ⟨Kv, 16, .scalar⟩),
 (11, ⟨KT, 16, .scalar⟩),
 (12, ⟨F8, 8, .scalar⟩),
 (13, ⟨X0, 24, .struct [(0, 9), (1, 12)]⟩),
 (14, ⟨W5, 24, .struct [(0, 9), (1, 12)]⟩),
 (21, ⟨Zul, 4, .scalar⟩),
 (22, ⟨Ys, 24, .slice 5⟩),
 (24, ⟨Zg, 24, .slice 99⟩),
 (25, ⟨Zx, 32, .struct [(0, 3), (1, 3), (2, 3), (3, 3)]⟩),
 (26, ⟨WZ, 32, .struct [(0, 3), (1, 3), (2, 3), (3, 3)]⟩),
 (27, ⟨Xe, 32, .struct [(0, 3), (1, 3), (2, 3), (3, 3)]⟩),
 (28, ⟨Z9, 32, .struct [(0, 3), (1, 3), (2, 3), (3, 3)]⟩),
 (29, ⟨Yx, 24, .slice 3⟩),
 (30, ⟨Zn, 24, .slice 94⟩),
 (31, ⟨Yo, 24, .slice 97⟩),
 (32, ⟨ZV, 24, .slice 28⟩),
 (33, ⟨ZO, 24, .slice 47⟩),
 (34, ⟨Xf, 264, .struct [(0, 3), (1, 3), (2, 26), (6, 26), (10, 28), (14, 29), (15, 30), (16, 29), (17, 31), (18, 32), (19, 33), (20, 3)]⟩),
 (35, ⟨ZW, 264, .struct [(0, 3), (1, 3), (2, 26), (6, 26), (10, 28), (14, 29), (15, 30), (16, 29), (17, 31), (18, 32), (19, 33), (20, 3)]⟩),
 (46, ⟨Zl, 104, .struct [(0, 3), (1, 3), (2, 3), (3, 3), (4, 3), (5, 26), (9, 28)]⟩),
 (47, ⟨ZQ, 104, .struct [(0, 3), (1, 3), (2, 3), (3, 3), (4, 3), (5, 26), (9, 28)]⟩),
 (50, ⟨X3, 24, .slice 35⟩),
 (68, ⟨Yl, 24, .slice 139⟩),
 (69, ⟨Xg, 144, .struct [(0, 3), (1, 4), (2, 3), (3, 24), (4, 50), (5, 33), (6, 32), (7, 68)]⟩),
 (70, ⟨YT, 144, .struct [(0, 3), (1, 4), (2, 3), (3, 24), (4, 50), (5, 33), (6, 32), (7, 68)]⟩),
 (93, ⟨Zq, 24, .struct [(0, 9), (1, 3)]⟩),
 (94, ⟨Yf, 24, .struct [(0, 9), (1, 3)]⟩),
 (96, ⟨ZH, 32, .struct [(0, 9), (1, 4), (2, 3)]⟩),
 (97, ⟨YO, 32, .struct [(0, 9), (1, 4), (2, 3)]⟩),
 (98, ⟨Xh, 72, .struct [(0, 3), (1, 3), (2, 68), (3, 26)]⟩),
 (99, ⟨Y2, 72, .struct [(0, 3), (1, 3), (2, 68), (3, 26)]⟩),
 (125, ⟨WP, 40, .struct [(0, 22), (1, 3), (2, 3)]⟩),
 (126, ⟨ZN, 40, .struct [(0, 22), (1, 3), (2, 3)]⟩),
 (127, ⟨Zwr, 8, .scalar⟩),
 (138, ⟨ZZ, 32, .struct [(0, 3), (1, 9), (2, 3)]⟩),
 (139, ⟨Vv, 32, .struct [(0, 3), (1, 9), (2, 3)]⟩),
 (140, ⟨Xi, 64, .struct [(0, 3), (1, 3), (2, 3), (3, 3), (4, 139)]⟩),
 (141, ⟨Vh, 64, .struct [(0, 3), (1, 3), (2, 3), (3, 3), (4, 139)]⟩),
 (184, ⟨EF, 24, .slice 9⟩),
 (185, ⟨Zj2, 24, .slice 141⟩),
 (224, ⟨XG, 32, .struct [(0, 9), (1, 3), (2, 4)]⟩),
 (225, ⟨X4, 32, .struct [(0, 9), (1, 3), (2, 4)]⟩),
 (238, ⟨Wo, 4, .scalar⟩),
 (252, ⟨Tf, 1, .scalar⟩),
 (253, ⟨Zfw, 1, .scalar⟩),
 (256, ⟨Li, 4, .scalar⟩),
 (257, ⟨Lj, 4, .scalar⟩)]
theorem Zyw (E : Env) (h : E.ti = Yi tis) : Uo Tryz.prog E 2 ⟨Za, 8, .scalar⟩ := YV (inf := Tryz.t2) (by kernel_rfl) rfl rfl (by kernel_rfl) (by decide) (d := .int .i64) (by kernel_rfl) rfl
theorem Zyx (E : Env) (h : E.ti = Yi tis) : Uo Tryz.prog E 3 ⟨Zp, 8, .scalar⟩ := YV (inf := Tryz.t3) (by kernel_rfl) rfl rfl (by kernel_rfl) (by decide) (d := .int .i64) (by kernel_rfl) rfl
theorem Zyy (E : Env) (h : E.ti = Yi tis) : Uo Tryz.prog E 4 ⟨ZG, 1, .scalar⟩ := YV (inf := Tryz.t4) (by kernel_rfl) rfl rfl (by kernel_rfl) (by decide) (d := .bool) (by kernel_rfl) rfl
theorem Zyz (E : Env) (h : E.ti = Yi tis) : Uo Tryz.prog E 5 ⟨Zj1, 1, .scalar⟩ := YV (inf := Tryz.t5) (by kernel_rfl) rfl rfl (by kernel_rfl) (by decide) (d := .int .u8) (by kernel_rfl) rfl
theorem ZyA (E : Env) (h : E.ti = Yi tis) : Uo Tryz.prog E 6 ⟨Y6, 1, .scalar⟩ := YV (inf := Tryz.t6) (by kernel_rfl) rfl rfl (by kernel_rfl) (by decide) (d := .int .u8) (by kernel_rfl) rfl
theorem ZyB (E : Env) (h : E.ti = Yi tis) : Uo Tryz.prog E 7 ⟨Xd, 24, .struct [(0, 2), (1, 3), (2, 4), (3, 6)]⟩ := Z5 (inf := Tryz.t7) (by kernel_rfl) (by kernel_rfl) rfl (by kernel_rfl) (by decide) (by decide) rfl (fields := #[fd "x" 2 0 "runtime" 0, fd "y" 3 1 "runtime" 8, fd "signed" 4 2 "runtime" 16, fd "code" 6 3 "runtime" 17]) (by kernel_rfl) rfl (all_cons ⟨⟨Za, 8, .scalar⟩, by rw [h]; kernel_rfl⟩ (all_cons ⟨⟨Zp, 8, .scalar⟩, by rw [h]; kernel_rfl⟩ (all_cons ⟨⟨ZG, 1, .scalar⟩, by rw [h]; kernel_rfl⟩ (all_cons ⟨⟨Y6, 1, .scalar⟩, by rw [h]; kernel_rfl⟩ all_nil))))
theorem ZyC (E : Env) (h : E.ti = Yi tis) : Uo Tryz.prog E 8 ⟨Ku, 24, .struct [(0, 2), (1, 3), (2, 4), (3, 6)]⟩ := Z5 (inf := Tryz.t8) (by kernel_rfl) (by kernel_rfl) rfl (by kernel_rfl) (by decide) (by decide) rfl (fields := #[fd "x" 2 0 "runtime" 0, fd "y" 3 1 "runtime" 8, fd "signed" 4 2 "runtime" 16, fd "code" 6 3 "runtime" 17]) (by kernel_rfl) rfl (all_cons ⟨⟨Za, 8, .scalar⟩, by rw [h]; kernel_rfl⟩ (all_cons ⟨⟨Zp, 8, .scalar⟩, by rw [h]; kernel_rfl⟩ (all_cons ⟨⟨ZG, 1, .scalar⟩, by rw [h]; kernel_rfl⟩ (all_cons ⟨⟨Y6, 1, .scalar⟩, by rw [h]; kernel_rfl⟩ all_nil))))
theorem ZyD (E : Env) (h : E.ti = Yi tis) : Uo Tryz.prog E 9 ⟨Zy, 16, .scalar⟩ := YV (inf := Tryz.t9) (by kernel_rfl) rfl rfl (by kernel_rfl) (by decide) (d := .string) (by kernel_rfl) rfl
theorem Zxz (E : Env) (h : E.ti = Yi tis) : Uo Tryz.prog E 10 ⟨Kv, 16, .scalar⟩ := YV (inf := Tryz.t10) (by kernel_rfl) rfl rfl (by kernel_rfl) (by decide) (d := .string) (by kernel_rfl) rfl
theorem ZxA (E : Env) (h : E.ti = Yi tis) : Uo Tryz.prog E 11 ⟨KT, 16, .scalar⟩ := YV (inf := Tryz.t11) (by kernel_rfl) rfl rfl (by kernel_rfl) (by decide) (d := .string) (by kernel_rfl) rfl
theorem ZxB (E : Env) (h : E.ti = Yi tis) : Uo Tryz.prog E 12 ⟨F8, 8, .scalar⟩ := YV (inf := Tryz.t12) (by kernel_rfl) rfl rfl (by kernel_rfl) (by decide) (d := .int .u64) (by kernel_rfl) rfl
theorem ZxC (E : Env) (h : E.ti = Yi tis) : Uo Tryz.prog E 13 ⟨X0, 24, .struct [(0, 9), (1, 12)]⟩ := Z5 (inf := Tryz.t13) (by kernel_rfl) (by kernel_rfl) rfl (by kernel_rfl) (by decide) (by decide) rfl (fields := #[fd "msg" 9 0 "runtime" 0, fd "addr" 12 1 "runtime" 16]) (by kernel_rfl) rfl (all_cons ⟨⟨Zy, 16, .scalar⟩, by rw [h]; kernel_rfl⟩ (all_cons ⟨⟨F8, 8, .scalar⟩, by rw [h]; kernel_rfl⟩ all_nil))
theorem ZxD (E : Env) (h : E.ti = Yi tis) : Uo Tryz.prog E 14 ⟨W5, 24, .struct [(0, 9), (1, 12)]⟩ := Z5 (inf := Tryz.t14) (by kernel_rfl) (by kernel_rfl) rfl (by kernel_rfl) (by decide) (by decide) rfl (fields := #[fd "msg" 9 0 "runtime" 0, fd "addr" 12 1 "runtime" 16]) (by kernel_rfl) rfl (all_cons ⟨⟨Zy, 16, .scalar⟩, by rw [h]; kernel_rfl⟩ (all_cons ⟨⟨F8, 8, .scalar⟩, by rw [h]; kernel_rfl⟩ all_nil))
theorem ZxE (E : Env) (h : E.ti = Yi tis) : Uo Tryz.prog E 21 ⟨Zul, 4, .scalar⟩ := YV (inf := Tryz.t21) (by kernel_rfl) rfl rfl (by kernel_rfl) (by decide) (d := .int .i32) (by kernel_rfl) rfl
theorem ZxF (E : Env) (h : E.ti = Yi tis) : Uo Tryz.prog E 22 ⟨Ys, 24, .slice 5⟩ := Wn (ie := ⟨Zj1, 1, .scalar⟩) (inf := Tryz.t22) (by kernel_rfl) rfl rfl rfl (by decide) (by kernel_rfl) (by rw [h]; kernel_rfl)
theorem ZxG (E : Env) (h : E.ti = Yi tis) : Uo Tryz.prog E 24 ⟨Zg, 24, .slice 99⟩ := Wn (ie := ⟨Y2, 72, .struct [(0, 3), (1, 3), (2, 68), (3, 26)]⟩) (inf := Tryz.t24) (by kernel_rfl) rfl rfl rfl (by decide) (by kernel_rfl) (by rw [h]; kernel_rfl)
theorem ZxH (E : Env) (h : E.ti = Yi tis) : Uo Tryz.prog E 25 ⟨Zx, 32, .struct [(0, 3), (1, 3), (2, 3), (3, 3)]⟩ := Z5 (inf := Tryz.t25) (by kernel_rfl) (by kernel_rfl) rfl (by kernel_rfl) (by decide) (by decide) rfl (fields := #[fd "Phase" 3 0 "" 0, fd "View" 3 1 "" 8, fd "Block" 3 2 "" 16, fd "Signers" 3 3 "" 24]) (by kernel_rfl) rfl (all_cons ⟨⟨Zp, 8, .scalar⟩, by rw [h]; kernel_rfl⟩ (all_cons ⟨⟨Zp, 8, .scalar⟩, by rw [h]; kernel_rfl⟩ (all_cons ⟨⟨Zp, 8, .scalar⟩, by rw [h]; kernel_rfl⟩ (all_cons ⟨⟨Zp, 8, .scalar⟩, by rw [h]; kernel_rfl⟩ all_nil))))
theorem ZxI (E : Env) (h : E.ti = Yi tis) : Uo Tryz.prog E 26 ⟨WZ, 32, .struct [(0, 3), (1, 3), (2, 3), (3, 3)]⟩ := Z5 (inf := Tryz.t26) (by kernel_rfl) (by kernel_rfl) rfl (by kernel_rfl) (by decide) (by decide) rfl (fields := #[fd "Phase" 3 0 "" 0, fd "View" 3 1 "" 8, fd "Block" 3 2 "" 16, fd "Signers" 3 3 "" 24]) (by kernel_rfl) rfl (all_cons ⟨⟨Zp, 8, .scalar⟩, by rw [h]; kernel_rfl⟩ (all_cons ⟨⟨Zp, 8, .scalar⟩, by rw [h]; kernel_rfl⟩ (all_cons ⟨⟨Zp, 8, .scalar⟩, by rw [h]; kernel_rfl⟩ (all_cons ⟨⟨Zp, 8, .scalar⟩, by rw [h]; kernel_rfl⟩ all_nil))))
theorem ZxJ (E : Env) (h : E.ti = Yi tis) : Uo Tryz.prog E 27 ⟨Xe, 32, .struct [(0, 3), (1, 3), (2, 3), (3, 3)]⟩ := Z5 (inf := Tryz.t27) (by kernel_rfl) (by kernel_rfl) rfl (by kernel_rfl) (by decide) (by decide) rfl (fields := #[fd "Phase" 3 0 "" 0, fd "View" 3 1 "" 8, fd "Block" 3 2 "" 16, fd "By" 3 3 "" 24]) (by kernel_rfl) rfl (all_cons ⟨⟨Zp, 8, .scalar⟩, by rw [h]; kernel_rfl⟩ (all_cons ⟨⟨Zp, 8, .scalar⟩, by rw [h]; kernel_rfl⟩ (all_cons ⟨⟨Zp, 8, .scalar⟩, by rw [h]; kernel_rfl⟩ (all_cons ⟨⟨Zp, 8, .scalar⟩, by rw [h]; kernel_rfl⟩ all_nil))))
theorem ZxK (E : Env) (h : E.ti = Yi tis) : Uo Tryz.prog E 28 ⟨Z9, 32, .struct [(0, 3), (1, 3), (2, 3), (3, 3)]⟩ := Z5 (inf := Tryz.t28) (by kernel_rfl) (by kernel_rfl) rfl (by kernel_rfl) (by decide) (by decide) rfl (fields := #[fd "Phase" 3 0 "" 0, fd "View" 3 1 "" 8, fd "Block" 3 2 "" 16, fd "By" 3 3 "" 24]) (by kernel_rfl) rfl (all_cons ⟨⟨Zp, 8, .scalar⟩, by rw [h]; kernel_rfl⟩ (all_cons ⟨⟨Zp, 8, .scalar⟩, by rw [h]; kernel_rfl⟩ (all_cons ⟨⟨Zp, 8, .scalar⟩, by rw [h]; kernel_rfl⟩ (all_cons ⟨⟨Zp, 8, .scalar⟩, by rw [h]; kernel_rfl⟩ all_nil))))
theorem ZxL (E : Env) (h : E.ti = Yi tis) : Uo Tryz.prog E 29 ⟨Yx, 24, .slice 3⟩ := Wn (ie := ⟨Zp, 8, .scalar⟩) (inf := Tryz.t29) (by kernel_rfl) rfl rfl rfl (by decide) (by kernel_rfl) (by rw [h]; kernel_rfl)
theorem ZxM (E : Env) (h : E.ti = Yi tis) : Uo Tryz.prog E 30 ⟨Zn, 24, .slice 94⟩ := Wn (ie := ⟨Yf, 24, .struct [(0, 9), (1, 3)]⟩) (inf := Tryz.t30) (by kernel_rfl) rfl rfl rfl (by decide) (by kernel_rfl) (by rw [h]; kernel_rfl)
theorem ZxN (E : Env) (h : E.ti = Yi tis) : Uo Tryz.prog E 31 ⟨Yo, 24, .slice 97⟩ := Wn (ie := ⟨YO, 32, .struct [(0, 9), (1, 4), (2, 3)]⟩) (inf := Tryz.t31) (by kernel_rfl) rfl rfl rfl (by decide) (by kernel_rfl) (by rw [h]; kernel_rfl)
theorem ZxO (E : Env) (h : E.ti = Yi tis) : Uo Tryz.prog E 32 ⟨ZV, 24, .slice 28⟩ := Wn (ie := ⟨Z9, 32, .struct [(0, 3), (1, 3), (2, 3), (3, 3)]⟩) (inf := Tryz.t32) (by kernel_rfl) rfl rfl rfl (by decide) (by kernel_rfl) (by rw [h]; kernel_rfl)
theorem ZxP (E : Env) (h : E.ti = Yi tis) : Uo Tryz.prog E 33 ⟨ZO, 24, .slice 47⟩ := Wn (ie := ⟨ZQ, 104, .struct [(0, 3), (1, 3), (2, 3), (3, 3), (4, 3), (5, 26), (9, 28)]⟩) (inf := Tryz.t33) (by kernel_rfl) rfl rfl rfl (by decide) (by kernel_rfl) (by rw [h]; kernel_rfl)
theorem ZxQ (E : Env) (h : E.ti = Yi tis) : Uo Tryz.prog E 34 ⟨Xf, 264, .struct [(0, 3), (1, 3), (2, 26), (6, 26), (10, 28), (14, 29), (15, 30), (16, 29), (17, 31), (18, 32), (19, 33), (20, 3)]⟩ := Z5 (inf := Tryz.t34) (by kernel_rfl) (by kernel_rfl) rfl (by kernel_rfl) (by decide) (by decide) rfl (fields := #[fd "Id" 3 0 "" 0, fd "View" 3 1 "" 8, fd "High" 26 2 "" 16, fd "Lock" 26 6 "" 48, fd "Last" 28 10 "" 80, fd "Row" 29 14 "" 112, fd "Cells" 30 15 "" 136, fd "Early" 29 16 "" 160, fd "Undos" 31 17 "" 184, fd "Votes" 32 18 "" 208, fd "News" 33 19 "" 232, fd "Shown" 3 20 "" 256]) (by kernel_rfl) rfl (all_cons ⟨⟨Zp, 8, .scalar⟩, by rw [h]; kernel_rfl⟩ (all_cons ⟨⟨Zp, 8, .scalar⟩, by rw [h]; kernel_rfl⟩ (all_cons ⟨⟨WZ, 32, .struct [(0, 3), (1, 3), (2, 3), (3, 3)]⟩, by rw [h]; kernel_rfl⟩ (all_cons ⟨⟨WZ, 32, .struct [(0, 3), (1, 3), (2, 3), (3, 3)]⟩, by rw [h]; kernel_rfl⟩ (all_cons ⟨⟨Z9, 32, .struct [(0, 3), (1, 3), (2, 3), (3, 3)]⟩, by rw [h]; kernel_rfl⟩ (all_cons ⟨⟨Yx, 24, .slice 3⟩, by rw [h]; kernel_rfl⟩ (all_cons ⟨⟨Zn, 24, .slice 94⟩, by rw [h]; kernel_rfl⟩ (all_cons ⟨⟨Yx, 24, .slice 3⟩, by rw [h]; kernel_rfl⟩ (all_cons ⟨⟨Yo, 24, .slice 97⟩, by rw [h]; kernel_rfl⟩ (all_cons ⟨⟨ZV, 24, .slice 28⟩, by rw [h]; kernel_rfl⟩ (all_cons ⟨⟨ZO, 24, .slice 47⟩, by rw [h]; kernel_rfl⟩ (all_cons ⟨⟨Zp, 8, .scalar⟩, by rw [h]; kernel_rfl⟩ all_nil))))))))))))
theorem ZxR (E : Env) (h : E.ti = Yi tis) : Uo Tryz.prog E 35 ⟨ZW, 264, .struct [(0, 3), (1, 3), (2, 26), (6, 26), (10, 28), (14, 29), (15, 30), (16, 29), (17, 31), (18, 32), (19, 33), (20, 3)]⟩ := Z5 (inf := Tryz.t35) (by kernel_rfl) (by kernel_rfl) rfl (by kernel_rfl) (by decide) (by decide) rfl (fields := #[fd "Id" 3 0 "" 0, fd "View" 3 1 "" 8, fd "High" 26 2 "" 16, fd "Lock" 26 6 "" 48, fd "Last" 28 10 "" 80, fd "Row" 29 14 "" 112, fd "Cells" 30 15 "" 136, fd "Early" 29 16 "" 160, fd "Undos" 31 17 "" 184, fd "Votes" 32 18 "" 208, fd "News" 33 19 "" 232, fd "Shown" 3 20 "" 256]) (by kernel_rfl) rfl (all_cons ⟨⟨Zp, 8, .scalar⟩, by rw [h]; kernel_rfl⟩ (all_cons ⟨⟨Zp, 8, .scalar⟩, by rw [h]; kernel_rfl⟩ (all_cons ⟨⟨WZ, 32, .struct [(0, 3), (1, 3), (2, 3), (3, 3)]⟩, by rw [h]; kernel_rfl⟩ (all_cons ⟨⟨WZ, 32, .struct [(0, 3), (1, 3), (2, 3), (3, 3)]⟩, by rw [h]; kernel_rfl⟩ (all_cons ⟨⟨Z9, 32, .struct [(0, 3), (1, 3), (2, 3), (3, 3)]⟩, by rw [h]; kernel_rfl⟩ (all_cons ⟨⟨Yx, 24, .slice 3⟩, by rw [h]; kernel_rfl⟩ (all_cons ⟨⟨Zn, 24, .slice 94⟩, by rw [h]; kernel_rfl⟩ (all_cons ⟨⟨Yx, 24, .slice 3⟩, by rw [h]; kernel_rfl⟩ (all_cons ⟨⟨Yo, 24, .slice 97⟩, by rw [h]; kernel_rfl⟩ (all_cons ⟨⟨ZV, 24, .slice 28⟩, by rw [h]; kernel_rfl⟩ (all_cons ⟨⟨ZO, 24, .slice 47⟩, by rw [h]; kernel_rfl⟩ (all_cons ⟨⟨Zp, 8, .scalar⟩, by rw [h]; kernel_rfl⟩ all_nil))))))))))))
theorem ZxS (E : Env) (h : E.ti = Yi tis) : Uo Tryz.prog E 46 ⟨Zl, 104, .struct [(0, 3), (1, 3), (2, 3), (3, 3), (4, 3), (5, 26), (9, 28)]⟩ := Z5 (inf := Tryz.t46) (by kernel_rfl) (by kernel_rfl) rfl (by kernel_rfl) (by decide) (by decide) rfl (fields := #[fd "Kind" 3 0 "" 0, fd "From" 3 1 "" 8, fd "To" 3 2 "" 16, fd "View" 3 3 "" 24, fd "Block" 3 4 "" 32, fd "Qc" 26 5 "" 40, fd "Vote" 28 9 "" 72]) (by kernel_rfl) rfl (all_cons ⟨⟨Zp, 8, .scalar⟩, by rw [h]; kernel_rfl⟩ (all_cons ⟨⟨Zp, 8, .scalar⟩, by rw [h]; kernel_rfl⟩ (all_cons ⟨⟨Zp, 8, .scalar⟩, by rw [h]; kernel_rfl⟩ (all_cons ⟨⟨Zp, 8, .scalar⟩, by rw [h]; kernel_rfl⟩ (all_cons ⟨⟨Zp, 8, .scalar⟩, by rw [h]; kernel_rfl⟩ (all_cons ⟨⟨WZ, 32, .struct [(0, 3), (1, 3), (2, 3), (3, 3)]⟩, by rw [h]; kernel_rfl⟩ (all_cons ⟨⟨Z9, 32, .struct [(0, 3), (1, 3), (2, 3), (3, 3)]⟩, by rw [h]; kernel_rfl⟩ all_nil)))))))
theorem ZxT (E : Env) (h : E.ti = Yi tis) : Uo Tryz.prog E 47 ⟨ZQ, 104, .struct [(0, 3), (1, 3), (2, 3), (3, 3), (4, 3), (5, 26), (9, 28)]⟩ := Z5 (inf := Tryz.t47) (by kernel_rfl) (by kernel_rfl) rfl (by kernel_rfl) (by decide) (by decide) rfl (fields := #[fd "Kind" 3 0 "" 0, fd "From" 3 1 "" 8, fd "To" 3 2 "" 16, fd "View" 3 3 "" 24, fd "Block" 3 4 "" 32, fd "Qc" 26 5 "" 40, fd "Vote" 28 9 "" 72]) (by kernel_rfl) rfl (all_cons ⟨⟨Zp, 8, .scalar⟩, by rw [h]; kernel_rfl⟩ (all_cons ⟨⟨Zp, 8, .scalar⟩, by rw [h]; kernel_rfl⟩ (all_cons ⟨⟨Zp, 8, .scalar⟩, by rw [h]; kernel_rfl⟩ (all_cons ⟨⟨Zp, 8, .scalar⟩, by rw [h]; kernel_rfl⟩ (all_cons ⟨⟨Zp, 8, .scalar⟩, by rw [h]; kernel_rfl⟩ (all_cons ⟨⟨WZ, 32, .struct [(0, 3), (1, 3), (2, 3), (3, 3)]⟩, by rw [h]; kernel_rfl⟩ (all_cons ⟨⟨Z9, 32, .struct [(0, 3), (1, 3), (2, 3), (3, 3)]⟩, by rw [h]; kernel_rfl⟩ all_nil)))))))
theorem ZxU (E : Env) (h : E.ti = Yi tis) : Uo Tryz.prog E 50 ⟨X3, 24, .slice 35⟩ := Wn (ie := ⟨ZW, 264, .struct [(0, 3), (1, 3), (2, 26), (6, 26), (10, 28), (14, 29), (15, 30), (16, 29), (17, 31), (18, 32), (19, 33), (20, 3)]⟩) (inf := Tryz.t50) (by kernel_rfl) rfl rfl rfl (by decide) (by kernel_rfl) (by rw [h]; kernel_rfl)
theorem ZxV (E : Env) (h : E.ti = Yi tis) : Uo Tryz.prog E 68 ⟨Yl, 24, .slice 139⟩ := Wn (ie := ⟨Vv, 32, .struct [(0, 3), (1, 9), (2, 3)]⟩) (inf := Tryz.t68) (by kernel_rfl) rfl rfl rfl (by decide) (by kernel_rfl) (by rw [h]; kernel_rfl)
theorem ZxW (E : Env) (h : E.ti = Yi tis) : Uo Tryz.prog E 69 ⟨Xg, 144, .struct [(0, 3), (1, 4), (2, 3), (3, 24), (4, 50), (5, 33), (6, 32), (7, 68)]⟩ := Z5 (inf := Tryz.t69) (by kernel_rfl) (by kernel_rfl) rfl (by kernel_rfl) (by decide) (by decide) rfl (fields := #[fd "N" 3 0 "" 0, fd "Chain" 4 1 "" 8, fd "Liars" 3 2 "" 16, fd "Tree" 24 3 "" 24, fd "Peers" 50 4 "" 48, fd "Net" 33 5 "" 72, fd "Said" 32 6 "" 96, fd "Pending" 68 7 "" 120]) (by kernel_rfl) rfl (all_cons ⟨⟨Zp, 8, .scalar⟩, by rw [h]; kernel_rfl⟩ (all_cons ⟨⟨ZG, 1, .scalar⟩, by rw [h]; kernel_rfl⟩ (all_cons ⟨⟨Zp, 8, .scalar⟩, by rw [h]; kernel_rfl⟩ (all_cons ⟨⟨Zg, 24, .slice 99⟩, by rw [h]; kernel_rfl⟩ (all_cons ⟨⟨X3, 24, .slice 35⟩, by rw [h]; kernel_rfl⟩ (all_cons ⟨⟨ZO, 24, .slice 47⟩, by rw [h]; kernel_rfl⟩ (all_cons ⟨⟨ZV, 24, .slice 28⟩, by rw [h]; kernel_rfl⟩ (all_cons ⟨⟨Yl, 24, .slice 139⟩, by rw [h]; kernel_rfl⟩ all_nil))))))))
theorem ZxX (E : Env) (h : E.ti = Yi tis) : Uo Tryz.prog E 70 ⟨YT, 144, .struct [(0, 3), (1, 4), (2, 3), (3, 24), (4, 50), (5, 33), (6, 32), (7, 68)]⟩ := Z5 (inf := Tryz.t70) (by kernel_rfl) (by kernel_rfl) rfl (by kernel_rfl) (by decide) (by decide) rfl (fields := #[fd "N" 3 0 "" 0, fd "Chain" 4 1 "" 8, fd "Liars" 3 2 "" 16, fd "Tree" 24 3 "" 24, fd "Peers" 50 4 "" 48, fd "Net" 33 5 "" 72, fd "Said" 32 6 "" 96, fd "Pending" 68 7 "" 120]) (by kernel_rfl) rfl (all_cons ⟨⟨Zp, 8, .scalar⟩, by rw [h]; kernel_rfl⟩ (all_cons ⟨⟨ZG, 1, .scalar⟩, by rw [h]; kernel_rfl⟩ (all_cons ⟨⟨Zp, 8, .scalar⟩, by rw [h]; kernel_rfl⟩ (all_cons ⟨⟨Zg, 24, .slice 99⟩, by rw [h]; kernel_rfl⟩ (all_cons ⟨⟨X3, 24, .slice 35⟩, by rw [h]; kernel_rfl⟩ (all_cons ⟨⟨ZO, 24, .slice 47⟩, by rw [h]; kernel_rfl⟩ (all_cons ⟨⟨ZV, 24, .slice 28⟩, by rw [h]; kernel_rfl⟩ (all_cons ⟨⟨Yl, 24, .slice 139⟩, by rw [h]; kernel_rfl⟩ all_nil))))))))
theorem ZxY (E : Env) (h : E.ti = Yi tis) : Uo Tryz.prog E 93 ⟨Zq, 24, .struct [(0, 9), (1, 3)]⟩ := Z5 (inf := Tryz.t93) (by kernel_rfl) (by kernel_rfl) rfl (by kernel_rfl) (by decide) (by decide) rfl (fields := #[fd "Key" 9 0 "" 0, fd "Num" 3 1 "" 16]) (by kernel_rfl) rfl (all_cons ⟨⟨Zy, 16, .scalar⟩, by rw [h]; kernel_rfl⟩ (all_cons ⟨⟨Zp, 8, .scalar⟩, by rw [h]; kernel_rfl⟩ all_nil))
theorem ZxZ (E : Env) (h : E.ti = Yi tis) : Uo Tryz.prog E 94 ⟨Yf, 24, .struct [(0, 9), (1, 3)]⟩ := Z5 (inf := Tryz.t94) (by kernel_rfl) (by kernel_rfl) rfl (by kernel_rfl) (by decide) (by decide) rfl (fields := #[fd "Key" 9 0 "" 0, fd "Num" 3 1 "" 16]) (by kernel_rfl) rfl (all_cons ⟨⟨Zy, 16, .scalar⟩, by rw [h]; kernel_rfl⟩ (all_cons ⟨⟨Zp, 8, .scalar⟩, by rw [h]; kernel_rfl⟩ all_nil))
theorem Zx0 (E : Env) (h : E.ti = Yi tis) : Uo Tryz.prog E 96 ⟨ZH, 32, .struct [(0, 9), (1, 4), (2, 3)]⟩ := Z5 (inf := Tryz.t96) (by kernel_rfl) (by kernel_rfl) rfl (by kernel_rfl) (by decide) (by decide) rfl (fields := #[fd "Key" 9 0 "" 0, fd "Had" 4 1 "" 16, fd "Num" 3 2 "" 24]) (by kernel_rfl) rfl (all_cons ⟨⟨Zy, 16, .scalar⟩, by rw [h]; kernel_rfl⟩ (all_cons ⟨⟨ZG, 1, .scalar⟩, by rw [h]; kernel_rfl⟩ (all_cons ⟨⟨Zp, 8, .scalar⟩, by rw [h]; kernel_rfl⟩ all_nil)))
theorem Zx1 (E : Env) (h : E.ti = Yi tis) : Uo Tryz.prog E 97 ⟨YO, 32, .struct [(0, 9), (1, 4), (2, 3)]⟩ := Z5 (inf := Tryz.t97) (by kernel_rfl) (by kernel_rfl) rfl (by kernel_rfl) (by decide) (by decide) rfl (fields := #[fd "Key" 9 0 "" 0, fd "Had" 4 1 "" 16, fd "Num" 3 2 "" 24]) (by kernel_rfl) rfl (all_cons ⟨⟨Zy, 16, .scalar⟩, by rw [h]; kernel_rfl⟩ (all_cons ⟨⟨ZG, 1, .scalar⟩, by rw [h]; kernel_rfl⟩ (all_cons ⟨⟨Zp, 8, .scalar⟩, by rw [h]; kernel_rfl⟩ all_nil)))
theorem Zx2 (E : Env) (h : E.ti = Yi tis) : Uo Tryz.prog E 98 ⟨Xh, 72, .struct [(0, 3), (1, 3), (2, 68), (3, 26)]⟩ := Z5 (inf := Tryz.t98) (by kernel_rfl) (by kernel_rfl) rfl (by kernel_rfl) (by decide) (by decide) rfl (fields := #[fd "Parent" 3 0 "" 0, fd "View" 3 1 "" 8, fd "Cmds" 68 2 "" 16, fd "Just" 26 3 "" 40]) (by kernel_rfl) rfl (all_cons ⟨⟨Zp, 8, .scalar⟩, by rw [h]; kernel_rfl⟩ (all_cons ⟨⟨Zp, 8, .scalar⟩, by rw [h]; kernel_rfl⟩ (all_cons ⟨⟨Yl, 24, .slice 139⟩, by rw [h]; kernel_rfl⟩ (all_cons ⟨⟨WZ, 32, .struct [(0, 3), (1, 3), (2, 3), (3, 3)]⟩, by rw [h]; kernel_rfl⟩ all_nil))))
theorem Zx3 (E : Env) (h : E.ti = Yi tis) : Uo Tryz.prog E 99 ⟨Y2, 72, .struct [(0, 3), (1, 3), (2, 68), (3, 26)]⟩ := Z5 (inf := Tryz.t99) (by kernel_rfl) (by kernel_rfl) rfl (by kernel_rfl) (by decide) (by decide) rfl (fields := #[fd "Parent" 3 0 "" 0, fd "View" 3 1 "" 8, fd "Cmds" 68 2 "" 16, fd "Just" 26 3 "" 40]) (by kernel_rfl) rfl (all_cons ⟨⟨Zp, 8, .scalar⟩, by rw [h]; kernel_rfl⟩ (all_cons ⟨⟨Zp, 8, .scalar⟩, by rw [h]; kernel_rfl⟩ (all_cons ⟨⟨Yl, 24, .slice 139⟩, by rw [h]; kernel_rfl⟩ (all_cons ⟨⟨WZ, 32, .struct [(0, 3), (1, 3), (2, 3), (3, 3)]⟩, by rw [h]; kernel_rfl⟩ all_nil))))
theorem Zws (E : Env) (h : E.ti = Yi tis) : Uo Tryz.prog E 125 ⟨WP, 40, .struct [(0, 22), (1, 3), (2, 3)]⟩ := Z5 (inf := Tryz.t125) (by kernel_rfl) (by kernel_rfl) rfl (by kernel_rfl) (by decide) (by decide) rfl (fields := #[fd "b" 22 0 "loop.example/g00330/spec" 0, fd "i" 3 1 "loop.example/g00330/spec" 24, fd "h" 3 2 "loop.example/g00330/spec" 32]) (by kernel_rfl) rfl (all_cons ⟨⟨Ys, 24, .slice 5⟩, by rw [h]; kernel_rfl⟩ (all_cons ⟨⟨Zp, 8, .scalar⟩, by rw [h]; kernel_rfl⟩ (all_cons ⟨⟨Zp, 8, .scalar⟩, by rw [h]; kernel_rfl⟩ all_nil)))
theorem Zwt (E : Env) (h : E.ti = Yi tis) : Uo Tryz.prog E 126 ⟨ZN, 40, .struct [(0, 22), (1, 3), (2, 3)]⟩ := Z5 (inf := Tryz.t126) (by kernel_rfl) (by kernel_rfl) rfl (by kernel_rfl) (by decide) (by decide) rfl (fields := #[fd "b" 22 0 "loop.example/g00330/spec" 0, fd "i" 3 1 "loop.example/g00330/spec" 24, fd "h" 3 2 "loop.example/g00330/spec" 32]) (by kernel_rfl) rfl (all_cons ⟨⟨Ys, 24, .slice 5⟩, by rw [h]; kernel_rfl⟩ (all_cons ⟨⟨Zp, 8, .scalar⟩, by rw [h]; kernel_rfl⟩ (all_cons ⟨⟨Zp, 8, .scalar⟩, by rw [h]; kernel_rfl⟩ all_nil)))
theorem Zwu (E : Env) (h : E.ti = Yi tis) : Uo Tryz.prog E 127 ⟨Zwr, 8, .scalar⟩ := YV (inf := Tryz.t127) (by kernel_rfl) rfl rfl (by kernel_rfl) (by decide) (d := .int .u64) (by kernel_rfl) rfl
theorem Zwv (E : Env) (h : E.ti = Yi tis) : Uo Tryz.prog E 138 ⟨ZZ, 32, .struct [(0, 3), (1, 9), (2, 3)]⟩ := Z5 (inf := Tryz.t138) (by kernel_rfl) (by kernel_rfl) rfl (by kernel_rfl) (by decide) (by decide) rfl (fields := #[fd "Kind" 3 0 "" 0, fd "Key" 9 1 "" 8, fd "Num" 3 2 "" 24]) (by kernel_rfl) rfl (all_cons ⟨⟨Zp, 8, .scalar⟩, by rw [h]; kernel_rfl⟩ (all_cons ⟨⟨Zy, 16, .scalar⟩, by rw [h]; kernel_rfl⟩ (all_cons ⟨⟨Zp, 8, .scalar⟩, by rw [h]; kernel_rfl⟩ all_nil)))
theorem Zww (E : Env) (h : E.ti = Yi tis) : Uo Tryz.prog E 139 ⟨Vv, 32, .struct [(0, 3), (1, 9), (2, 3)]⟩ := Z5 (inf := Tryz.t139) (by kernel_rfl) (by kernel_rfl) rfl (by kernel_rfl) (by decide) (by decide) rfl (fields := #[fd "Kind" 3 0 "" 0, fd "Key" 9 1 "" 8, fd "Num" 3 2 "" 24]) (by kernel_rfl) rfl (all_cons ⟨⟨Zp, 8, .scalar⟩, by rw [h]; kernel_rfl⟩ (all_cons ⟨⟨Zy, 16, .scalar⟩, by rw [h]; kernel_rfl⟩ (all_cons ⟨⟨Zp, 8, .scalar⟩, by rw [h]; kernel_rfl⟩ all_nil)))
theorem Zwx (E : Env) (h : E.ti = Yi tis) : Uo Tryz.prog E 140 ⟨Xi, 64, .struct [(0, 3), (1, 3), (2, 3), (3, 3), (4, 139)]⟩ := Z5 (inf := Tryz.t140) (by kernel_rfl) (by kernel_rfl) rfl (by kernel_rfl) (by decide) (by decide) rfl (fields := #[fd "Kind" 3 0 "" 0, fd "At" 3 1 "" 8, fd "To" 3 2 "" 16, fd "Num" 3 3 "" 24, fd "Cmd" 139 4 "" 32]) (by kernel_rfl) rfl (all_cons ⟨⟨Zp, 8, .scalar⟩, by rw [h]; kernel_rfl⟩ (all_cons ⟨⟨Zp, 8, .scalar⟩, by rw [h]; kernel_rfl⟩ (all_cons ⟨⟨Zp, 8, .scalar⟩, by rw [h]; kernel_rfl⟩ (all_cons ⟨⟨Zp, 8, .scalar⟩, by rw [h]; kernel_rfl⟩ (all_cons ⟨⟨Vv, 32, .struct [(0, 3), (1, 9), (2, 3)]⟩, by rw [h]; kernel_rfl⟩ all_nil)))))
theorem Zwy (E : Env) (h : E.ti = Yi tis) : Uo Tryz.prog E 141 ⟨Vh, 64, .struct [(0, 3), (1, 3), (2, 3), (3, 3), (4, 139)]⟩ := Z5 (inf := Tryz.t141) (by kernel_rfl) (by kernel_rfl) rfl (by kernel_rfl) (by decide) (by decide) rfl (fields := #[fd "Kind" 3 0 "" 0, fd "At" 3 1 "" 8, fd "To" 3 2 "" 16, fd "Num" 3 3 "" 24, fd "Cmd" 139 4 "" 32]) (by kernel_rfl) rfl (all_cons ⟨⟨Zp, 8, .scalar⟩, by rw [h]; kernel_rfl⟩ (all_cons ⟨⟨Zp, 8, .scalar⟩, by rw [h]; kernel_rfl⟩ (all_cons ⟨⟨Zp, 8, .scalar⟩, by rw [h]; kernel_rfl⟩ (all_cons ⟨⟨Zp, 8, .scalar⟩, by rw [h]; kernel_rfl⟩ (all_cons ⟨⟨Vv, 32, .struct [(0, 3), (1, 9), (2, 3)]⟩, by rw [h]; kernel_rfl⟩ all_nil)))))
theorem Zwz (E : Env) (h : E.ti = Yi tis) : Uo Tryz.prog E 184 ⟨EF, 24, .slice 9⟩ := Wn (ie := ⟨Zy, 16, .scalar⟩) (inf := Tryz.t184) (by kernel_rfl) rfl rfl rfl (by decide) (by kernel_rfl) (by rw [h]; kernel_rfl)
theorem ZwA (E : Env) (h : E.ti = Yi tis) : Uo Tryz.prog E 185 ⟨Zj2, 24, .slice 141⟩ := Wn (ie := ⟨Vh, 64, .struct [(0, 3), (1, 3), (2, 3), (3, 3), (4, 139)]⟩) (inf := Tryz.t185) (by kernel_rfl) rfl rfl rfl (by decide) (by kernel_rfl) (by rw [h]; kernel_rfl)
theorem ZwB (E : Env) (h : E.ti = Yi tis) : Uo Tryz.prog E 224 ⟨XG, 32, .struct [(0, 9), (1, 3), (2, 4)]⟩ := Z5 (inf := Tryz.t224) (by kernel_rfl) (by kernel_rfl) rfl (by kernel_rfl) (by decide) (by decide) rfl (fields := #[fd "text" 9 0 "loop.example/g00330/spec" 0, fd "at" 3 1 "loop.example/g00330/spec" 16, fd "bad" 4 2 "loop.example/g00330/spec" 24]) (by kernel_rfl) rfl (all_cons ⟨⟨Zy, 16, .scalar⟩, by rw [h]; kernel_rfl⟩ (all_cons ⟨⟨Zp, 8, .scalar⟩, by rw [h]; kernel_rfl⟩ (all_cons ⟨⟨ZG, 1, .scalar⟩, by rw [h]; kernel_rfl⟩ all_nil)))
theorem ZwC (E : Env) (h : E.ti = Yi tis) : Uo Tryz.prog E 225 ⟨X4, 32, .struct [(0, 9), (1, 3), (2, 4)]⟩ := Z5 (inf := Tryz.t225) (by kernel_rfl) (by kernel_rfl) rfl (by kernel_rfl) (by decide) (by decide) rfl (fields := #[fd "text" 9 0 "loop.example/g00330/spec" 0, fd "at" 3 1 "loop.example/g00330/spec" 16, fd "bad" 4 2 "loop.example/g00330/spec" 24]) (by kernel_rfl) rfl (all_cons ⟨⟨Zy, 16, .scalar⟩, by rw [h]; kernel_rfl⟩ (all_cons ⟨⟨Zp, 8, .scalar⟩, by rw [h]; kernel_rfl⟩ (all_cons ⟨⟨ZG, 1, .scalar⟩, by rw [h]; kernel_rfl⟩ all_nil)))
theorem ZwD (E : Env) (h : E.ti = Yi tis) : Uo Tryz.prog E 238 ⟨Wo, 4, .scalar⟩ := YV (inf := Tryz.t238) (by kernel_rfl) rfl rfl (by kernel_rfl) (by decide) (d := .int .u32) (by kernel_rfl) rfl
theorem ZwE (E : Env) (h : E.ti = Yi tis) : Uo Tryz.prog E 252 ⟨Tf, 1, .scalar⟩ := YV (inf := Tryz.t252) (by kernel_rfl) rfl rfl (by kernel_rfl) (by decide) (d := .int .u8) (by kernel_rfl) rfl
theorem ZwF (E : Env) (h : E.ti = Yi tis) : Uo Tryz.prog E 253 ⟨Zfw, 1, .scalar⟩ := YV (inf := Tryz.t253) (by kernel_rfl) rfl rfl (by kernel_rfl) (by decide) (d := .int .u8) (by kernel_rfl) rfl
theorem ZwG (E : Env) (h : E.ti = Yi tis) : Uo Tryz.prog E 256 ⟨Li, 4, .scalar⟩ := YV (inf := Tryz.t256) (by kernel_rfl) rfl rfl (by kernel_rfl) (by decide) (d := .int .i32) (by kernel_rfl) rfl
theorem ZwH (E : Env) (h : E.ti = Yi tis) : Uo Tryz.prog E 257 ⟨Lj, 4, .scalar⟩ := YV (inf := Tryz.t257) (by kernel_rfl) rfl rfl (by kernel_rfl) (by decide) (d := .int .i32) (by kernel_rfl) rfl
theorem Zx4 (E : Env) (h : E.ti = Yi tis) : ∀ t i, E.ti t = some i → Uo Tryz.prog E t i := by
 rw [h]
 refine Zwj ?_
 refine all_cons (Zyw E h) ?_
 refine all_cons (Zyx E h) ?_
 refine all_cons (Zyy E h) ?_
 refine all_cons (Zyz E h) ?_
 refine all_cons (ZyA E h) ?_
 refine all_cons (ZyB E h) ?_
 refine all_cons (ZyC E h) ?_
 refine all_cons (ZyD E h) ?_
 refine all_cons (Zxz E h) ?_
 refine all_cons (ZxA E h) ?_
 refine all_cons (ZxB E h) ?_
 refine all_cons (ZxC E h) ?_
 refine all_cons (ZxD E h) ?_
 refine all_cons (ZxE E h) ?_
 refine all_cons (ZxF E h) ?_
 refine all_cons (ZxG E h) ?_
 refine all_cons (ZxH E h) ?_
 refine all_cons (ZxI E h) ?_
 refine all_cons (ZxJ E h) ?_
 refine all_cons (ZxK E h) ?_
 refine all_cons (ZxL E h) ?_
 refine all_cons (ZxM E h) ?_
 refine all_cons (ZxN E h) ?_
 refine all_cons (ZxO E h) ?_
 refine all_cons (ZxP E h) ?_
 refine all_cons (ZxQ E h) ?_
 refine all_cons (ZxR E h) ?_
 refine all_cons (ZxS E h) ?_
 refine all_cons (ZxT E h) ?_
 refine all_cons (ZxU E h) ?_
 refine all_cons (ZxV E h) ?_
 refine all_cons (ZxW E h) ?_
 refine all_cons (ZxX E h) ?_
 refine all_cons (ZxY E h) ?_
 refine all_cons (ZxZ E h) ?_
 refine all_cons (Zx0 E h) ?_
 refine all_cons (Zx1 E h) ?_
 refine all_cons (Zx2 E h) ?_
 refine all_cons (Zx3 E h) ?_
 refine all_cons (Zws E h) ?_
 refine all_cons (Zwt E h) ?_
 refine all_cons (Zwu E h) ?_
 refine all_cons (Zwv E h) ?_
 refine all_cons (Zww E h) ?_
 refine all_cons (Zwx E h) ?_
 refine all_cons (Zwy E h) ?_
 refine all_cons (Zwz E h) ?_
 refine all_cons (ZwA E h) ?_
 refine all_cons (ZwB E h) ?_
 refine all_cons (ZwC E h) ?_
 refine all_cons (ZwD E h) ?_
 refine all_cons (ZwE E h) ?_
 refine all_cons (ZwF E h) ?_
 refine all_cons (ZwG E h) ?_
 refine all_cons (ZwH E h) ?_
 exact all_nil
theorem ZyE : ZsZ Tryz.prog 26 WZ := ZvW 6 (by decide) (.struct (fs := [(fd "Phase" 3 0 "" 0), (fd "View" 3 1 "" 8), (fd "Block" 3 2 "" 16), (fd "Signers" 3 3 "" 24)]) (by kernel_rfl) (by kernel_rfl) rfl (by kernel_rfl) (.cons (f := (fd "Phase" 3 0 "" 0)) (a := Zp) rfl (by decide) ⟨Tryz.t3, by kernel_rfl, rfl⟩ ⟨TypeDesc.int IntKind.i64, by kernel_rfl, rfl⟩ rfl (.int (by kernel_rfl)) (.cons (f := (fd "View" 3 1 "" 8)) (a := Zp) rfl (by decide) ⟨Tryz.t3, by kernel_rfl, rfl⟩ ⟨TypeDesc.int IntKind.i64, by kernel_rfl, rfl⟩ rfl (.int (by kernel_rfl)) (.cons (f := (fd "Block" 3 2 "" 16)) (a := Zp) rfl (by decide) ⟨Tryz.t3, by kernel_rfl, rfl⟩ ⟨TypeDesc.int IntKind.i64, by kernel_rfl, rfl⟩ rfl (.int (by kernel_rfl)) (.cons (f := (fd "Signers" 3 3 "" 24)) (a := Zp) rfl (by decide) ⟨Tryz.t3, by kernel_rfl, rfl⟩ ⟨TypeDesc.int IntKind.i64, by kernel_rfl, rfl⟩ rfl (.int (by kernel_rfl)) .nil))))) rfl (by kernel_rfl)
theorem ZyF : ZsZ Tryz.prog 28 Z9 := ZvW 6 (by decide) (.struct (fs := [(fd "Phase" 3 0 "" 0), (fd "View" 3 1 "" 8), (fd "Block" 3 2 "" 16), (fd "By" 3 3 "" 24)]) (by kernel_rfl) (by kernel_rfl) rfl (by kernel_rfl) (.cons (f := (fd "Phase" 3 0 "" 0)) (a := Zp) rfl (by decide) ⟨Tryz.t3, by kernel_rfl, rfl⟩ ⟨TypeDesc.int IntKind.i64, by kernel_rfl, rfl⟩ rfl (.int (by kernel_rfl)) (.cons (f := (fd "View" 3 1 "" 8)) (a := Zp) rfl (by decide) ⟨Tryz.t3, by kernel_rfl, rfl⟩ ⟨TypeDesc.int IntKind.i64, by kernel_rfl, rfl⟩ rfl (.int (by kernel_rfl)) (.cons (f := (fd "Block" 3 2 "" 16)) (a := Zp) rfl (by decide) ⟨Tryz.t3, by kernel_rfl, rfl⟩ ⟨TypeDesc.int IntKind.i64, by kernel_rfl, rfl⟩ rfl (.int (by kernel_rfl)) (.cons (f := (fd "By" 3 3 "" 24)) (a := Zp) rfl (by decide) ⟨Tryz.t3, by kernel_rfl, rfl⟩ ⟨TypeDesc.int IntKind.i64, by kernel_rfl, rfl⟩ rfl (.int (by kernel_rfl)) .nil))))) rfl (by kernel_rfl)
theorem ZyG : ZsZ Tryz.prog 47 ZQ := ZvW 6 (by decide) (.struct (fs := [(fd "Kind" 3 0 "" 0), (fd "From" 3 1 "" 8), (fd "To" 3 2 "" 16), (fd "View" 3 3 "" 24), (fd "Block" 3 4 "" 32), (fd "Qc" 26 5 "" 40), (fd "Vote" 28 9 "" 72)]) (by kernel_rfl) (by kernel_rfl) rfl (by kernel_rfl) (.cons (f := (fd "Kind" 3 0 "" 0)) (a := Zp) rfl (by decide) ⟨Tryz.t3, by kernel_rfl, rfl⟩ ⟨TypeDesc.int IntKind.i64, by kernel_rfl, rfl⟩ rfl (.int (by kernel_rfl)) (.cons (f := (fd "From" 3 1 "" 8)) (a := Zp) rfl (by decide) ⟨Tryz.t3, by kernel_rfl, rfl⟩ ⟨TypeDesc.int IntKind.i64, by kernel_rfl, rfl⟩ rfl (.int (by kernel_rfl)) (.cons (f := (fd "To" 3 2 "" 16)) (a := Zp) rfl (by decide) ⟨Tryz.t3, by kernel_rfl, rfl⟩ ⟨TypeDesc.int IntKind.i64, by kernel_rfl, rfl⟩ rfl (.int (by kernel_rfl)) (.cons (f := (fd "View" 3 3 "" 24)) (a := Zp) rfl (by decide) ⟨Tryz.t3, by kernel_rfl, rfl⟩ ⟨TypeDesc.int IntKind.i64, by kernel_rfl, rfl⟩ rfl (.int (by kernel_rfl)) (.cons (f := (fd "Block" 3 4 "" 32)) (a := Zp) rfl (by decide) ⟨Tryz.t3, by kernel_rfl, rfl⟩ ⟨TypeDesc.int IntKind.i64, by kernel_rfl, rfl⟩ rfl (.int (by kernel_rfl)) (.cons (f := (fd "Qc" 26 5 "" 40)) (a := WZ) rfl (by decide) ⟨Tryz.t26, by kernel_rfl, rfl⟩ ⟨TypeDesc.struct (Tryz.prog.fieldsOf 26), by kernel_rfl, rfl⟩ rfl (.struct (fs := [(fd "Phase" 3 0 "" 0), (fd "View" 3 1 "" 8), (fd "Block" 3 2 "" 16), (fd "Signers" 3 3 "" 24)]) (by kernel_rfl) (by kernel_rfl) rfl (by kernel_rfl) (.cons (f := (fd "Phase" 3 0 "" 0)) (a := Zp) rfl (by decide) ⟨Tryz.t3, by kernel_rfl, rfl⟩ ⟨TypeDesc.int IntKind.i64, by kernel_rfl, rfl⟩ rfl (.int (by kernel_rfl)) (.cons (f := (fd "View" 3 1 "" 8)) (a := Zp) rfl (by decide) ⟨Tryz.t3, by kernel_rfl, rfl⟩ ⟨TypeDesc.int IntKind.i64, by kernel_rfl, rfl⟩ rfl (.int (by kernel_rfl)) (.cons (f := (fd "Block" 3 2 "" 16)) (a := Zp) rfl (by decide) ⟨Tryz.t3, by kernel_rfl, rfl⟩ ⟨TypeDesc.int IntKind.i64, by kernel_rfl, rfl⟩ rfl (.int (by kernel_rfl)) (.cons (f := (fd "Signers" 3 3 "" 24)) (a := Zp) rfl (by decide) ⟨Tryz.t3, by kernel_rfl, rfl⟩ ⟨TypeDesc.int IntKind.i64, by kernel_rfl, rfl⟩ rfl (.int (by kernel_rfl)) .nil))))) (.cons (f := (fd "Vote" 28 9 "" 72)) (a := Z9) rfl (by decide) ⟨Tryz.t28, by kernel_rfl, rfl⟩ ⟨TypeDesc.struct (Tryz.prog.fieldsOf 28), by kernel_rfl, rfl⟩ rfl (.struct (fs := [(fd "Phase" 3 0 "" 0), (fd "View" 3 1 "" 8), (fd "Block" 3 2 "" 16), (fd "By" 3 3 "" 24)]) (by kernel_rfl) (by kernel_rfl) rfl (by kernel_rfl) (.cons (f := (fd "Phase" 3 0 "" 0)) (a := Zp) rfl (by decide) ⟨Tryz.t3, by kernel_rfl, rfl⟩ ⟨TypeDesc.int IntKind.i64, by kernel_rfl, rfl⟩ rfl (.int (by kernel_rfl)) (.cons (f := (fd "View" 3 1 "" 8)) (a := Zp) rfl (by decide) ⟨Tryz.t3, by kernel_rfl, rfl⟩ ⟨TypeDesc.int IntKind.i64, by kernel_rfl, rfl⟩ rfl (.int (by kernel_rfl)) (.cons (f := (fd "Block" 3 2 "" 16)) (a := Zp) rfl (by decide) ⟨Tryz.t3, by kernel_rfl, rfl⟩ ⟨TypeDesc.int IntKind.i64, by kernel_rfl, rfl⟩ rfl (.int (by kernel_rfl)) (.cons (f := (fd "By" 3 3 "" 24)) (a := Zp) rfl (by decide) ⟨Tryz.t3, by kernel_rfl, rfl⟩ ⟨TypeDesc.int IntKind.i64, by kernel_rfl, rfl⟩ rfl (.int (by kernel_rfl)) .nil))))) .nil)))))))) rfl (by kernel_rfl)
theorem ZyH : ZsZ Tryz.prog 94 Yf := ZvW 6 (by decide) (.struct (fs := [(fd "Key" 9 0 "" 0), (fd "Num" 3 1 "" 16)]) (by kernel_rfl) (by kernel_rfl) rfl (by kernel_rfl) (.cons (f := (fd "Key" 9 0 "" 0)) (a := Zy) rfl (by decide) ⟨Tryz.t9, by kernel_rfl, rfl⟩ ⟨TypeDesc.string, by kernel_rfl, rfl⟩ rfl (.str (by kernel_rfl)) (.cons (f := (fd "Num" 3 1 "" 16)) (a := Zp) rfl (by decide) ⟨Tryz.t3, by kernel_rfl, rfl⟩ ⟨TypeDesc.int IntKind.i64, by kernel_rfl, rfl⟩ rfl (.int (by kernel_rfl)) .nil))) rfl (by kernel_rfl)
theorem ZyI : ZsZ Tryz.prog 97 YO := ZvW 6 (by decide) (.struct (fs := [(fd "Key" 9 0 "" 0), (fd "Had" 4 1 "" 16), (fd "Num" 3 2 "" 24)]) (by kernel_rfl) (by kernel_rfl) rfl (by kernel_rfl) (.cons (f := (fd "Key" 9 0 "" 0)) (a := Zy) rfl (by decide) ⟨Tryz.t9, by kernel_rfl, rfl⟩ ⟨TypeDesc.string, by kernel_rfl, rfl⟩ rfl (.str (by kernel_rfl)) (.cons (f := (fd "Had" 4 1 "" 16)) (a := ZG) rfl (by decide) ⟨Tryz.t4, by kernel_rfl, rfl⟩ ⟨TypeDesc.bool, by kernel_rfl, rfl⟩ rfl (.bool (by kernel_rfl)) (.cons (f := (fd "Num" 3 2 "" 24)) (a := Zp) rfl (by decide) ⟨Tryz.t3, by kernel_rfl, rfl⟩ ⟨TypeDesc.int IntKind.i64, by kernel_rfl, rfl⟩ rfl (.int (by kernel_rfl)) .nil)))) rfl (by kernel_rfl)
theorem Zx5 : ZsZ Tryz.prog 139 Vv := ZvW 6 (by decide) (.struct (fs := [(fd "Kind" 3 0 "" 0), (fd "Key" 9 1 "" 8), (fd "Num" 3 2 "" 24)]) (by kernel_rfl) (by kernel_rfl) rfl (by kernel_rfl) (.cons (f := (fd "Kind" 3 0 "" 0)) (a := Zp) rfl (by decide) ⟨Tryz.t3, by kernel_rfl, rfl⟩ ⟨TypeDesc.int IntKind.i64, by kernel_rfl, rfl⟩ rfl (.int (by kernel_rfl)) (.cons (f := (fd "Key" 9 1 "" 8)) (a := Zy) rfl (by decide) ⟨Tryz.t9, by kernel_rfl, rfl⟩ ⟨TypeDesc.string, by kernel_rfl, rfl⟩ rfl (.str (by kernel_rfl)) (.cons (f := (fd "Num" 3 2 "" 24)) (a := Zp) rfl (by decide) ⟨Tryz.t3, by kernel_rfl, rfl⟩ ⟨TypeDesc.int IntKind.i64, by kernel_rfl, rfl⟩ rfl (.int (by kernel_rfl)) .nil)))) rfl (by kernel_rfl)
def eqs (t : TypeId) : Bool := [26, 28, 47, 94, 97, 139].any (Nat.beq t)
theorem Zx6 (E : Env) (h : E.ti = Yi tis) (he : E.eqs = eqs) : ∀ t ty, E.eqs t = true → E.ty t = some ty → ZsZ Tryz.prog t ty := by
 intro t ty h1 h2
 rw [he] at h1
 simp only [Env.ty, h] at h2
 unfold eqs at h1
 simp only [List.any_cons, List.any_nil, Bool.or_eq_true, Bool.or_false] at h1
 rcases h1 with h1 | h1 | h1 | h1 | h1 | h1
 ·have := Nat.eq_of_beq_eq_true h1
  subst this
  have e : (Option.map (fun x => x.ty) (Yi tis 26)) = some WZ := by kernel_rfl
  rw [e] at h2
  cases h2
  exact ZyE
 ·have := Nat.eq_of_beq_eq_true h1
  subst this
  have e : (Option.map (fun x => x.ty) (Yi tis 28)) = some Z9 := by kernel_rfl
  rw [e] at h2
  cases h2
  exact ZyF
 ·have := Nat.eq_of_beq_eq_true h1
  subst this
  have e : (Option.map (fun x => x.ty) (Yi tis 47)) = some ZQ := by kernel_rfl
  rw [e] at h2
  cases h2
  exact ZyG
 ·have := Nat.eq_of_beq_eq_true h1
  subst this
  have e : (Option.map (fun x => x.ty) (Yi tis 94)) = some Yf := by kernel_rfl
  rw [e] at h2
  cases h2
  exact ZyH
 ·have := Nat.eq_of_beq_eq_true h1
  subst this
  have e : (Option.map (fun x => x.ty) (Yi tis 97)) = some YO := by kernel_rfl
  rw [e] at h2
  cases h2
  exact ZyI
 ·have := Nat.eq_of_beq_eq_true h1
  subst this
  have e : (Option.map (fun x => x.ty) (Yi tis 139)) = some Vv := by kernel_rfl
  rw [e] at h2
  cases h2
  exact Zx5
abbrev Fl : Type := Bool × Bool × List Nat
def env (u : Fl) (l : List (Nat × Con)) : Env := ⟨Yi tis, eqs, Yi l, u.1, u.2.1, fun t => u.2.2.any (Nat.beq t)⟩
theorem ZwI {u : Fl} {l : List (Nat × Con)} (h : ∀ q ∈ l, ZM Tryz.prog q.1 q.2) : IX Tryz.prog (env u l) :=
 { ti := Zx4 (env u l) rfl, eqs := Zx6 (env u l) rfl rfl, tbl := Zwk h }
def body (f : Func) : Code := f.body.getD .skip
abbrev KP : Type := List (Nat × (List Zc1 × List BK))
noncomputable def VN {X : Type} (u : Fl) (l : List (Nat × Con)) (rt : List (Option Ty)) (f : Func) (s : Sh X) (args : List SV) : Ex → St → Option X :=
 fun e st => (Zyo (env u l) rt f.results.toList (XV [] args).2.2 e st).bind s.un
noncomputable def evX {X : Type} (u : Fl) (l : List (Nat × Con)) (kp : KP) (rt : List (Option Ty)) (f : Func) (s : Sh X) (N : Nat) (args : List SV) : Option X :=
 ev (env u l) (Lr (env u l) kp (body f) (VN u l rt f s args) N) (body f) (Tc f.ntmps args) (VN u l rt f s args)
theorem ZA {X : Type} {u : Fl} {l : List (Nat × Con)} (hl : ∀ q ∈ l, ZM Tryz.prog q.1 q.2) {kp : KP} {rt : List (Option Ty)} {s : Sh X} {n : FuncId} {f : Func} {b : Code} (hf : Tryz.prog.funcs[n]? = some f) (hb : f.body = some b) (hn : Zrp (H2 kp b) = true)
  {args : List SV} (hbx : H3 args kp = true) (N : Nat) {v : X} (h : evX u l kp rt f s N args = some v) : CallOk Tryz.prog n args (s.sh v).1 (s.sh v).2 := by
 have e : body f = b := by unfold body; rw [hb]; rfl
 unfold evX at h
 rw [e] at h
 refine Zxx (rt := rt) (ZwI hl) hf hb hn hbx N (fun e st he => ?_) h
 obtain ⟨r, h1, h2⟩ := Option.bind_eq_some_iff.1 he
 exact ⟨r, h1, s.ok r v h2⟩
theorem Zh : ∀ q ∈ ([] : List (Nat × Con)), ZM Tryz.prog q.1 q.2 := fun _ h => by cases h
theorem cons_cons {n : Nat} {c : Con} {l : List (Nat × Con)} (h : ZM Tryz.prog n c) (t : ∀ q ∈ l, ZM Tryz.prog q.1 q.2) : ∀ q ∈ (n, c) :: l, ZM Tryz.prog q.1 q.2 := fun q hq => by
 rcases List.mem_cons.1 hq with rfl | hq
 ·exact h
 ·exact t q hq
def big : Nat := 4611686018427387904
abbrev CO (n : FuncId) (c : Con) : Prop := ZM Tryz.prog n c
def zs (l : List Ty) : List SV := l.map fun t => .val t (ZS t)
structure FX (A : Type) where
 u : Fl
 l : List (Nat × Con)
 kp : KP
 rt : List (Option Ty)
 f : Func
 s : Sh A
noncomputable def qR {A : Type} (e : FX A) (ts : List Ty) (n : Nat) (x : YN ts) : Option A := evX e.u e.l e.kp e.rt e.f e.s n (YY ts x)
noncomputable def qA {A : Type} (e : FX A) (ts : List AP) (n : Nat) (x : AP.denL ts) : Option A := evX e.u e.l e.kp e.rt e.f e.s n (AP.encL ts x)
noncomputable def rR {A : Type} (e : FX A) (az : List SV) (b : Nat) (k : List Zc1 × List BK) (n : Nat) (x : KD k.1) (y : BD k.2) : Option A := Yc (env e.u e.l) e.kp (body e.f) (VN e.u e.l e.rt e.f e.s az) n b k x y
noncomputable def cR {A : Type} (e : FX A) (ts : List Ty) (fr : Bool) : Con := roS ts fr e.s (qR e ts big)
noncomputable def cA {A : Type} (e : FX A) (ts : List AP) (fr : Bool) : Con := apS ts fr e.s (qA e ts big)
theorem ZyS {A : Type} {e : FX A} {ts : List Ty} {fr : Bool} {n : FuncId} (hl : ∀ q ∈ e.l, ZM Tryz.prog q.1 q.2) (hf : Tryz.prog.funcs[n]? = some e.f := by kernel_rfl) (hb : e.f.body = some (body e.f) := by rfl) (hn : Zrp (H2 e.kp (body e.f)) = true := by kernel_rfl) (hx : ∀ x, H3 (YY ts x) e.kp = true := by intro _; kernel_rfl) (hm : (e.f.name == "runtime.NumGoroutine") = false := by decide) : CO n (cR e ts fr) :=
 ZJ ⟨e.f, hf, by rw [hb]; rfl, hm⟩ fun x _ h => ZA hl hf hb hn (hx x) big h
theorem ZBw {A : Type} {e : FX A} {ts : List AP} {fr : Bool} {n : FuncId} (hl : ∀ q ∈ e.l, ZM Tryz.prog q.1 q.2) (hf : Tryz.prog.funcs[n]? = some e.f := by kernel_rfl) (hb : e.f.body = some (body e.f) := by rfl) (hn : Zrp (H2 e.kp (body e.f)) = true := by kernel_rfl) (hx : ∀ x, H3 (AP.encL ts x) e.kp = true := by intro _; kernel_rfl) (hm : (e.f.name == "runtime.NumGoroutine") = false := by decide) : CO n (cA e ts fr) :=
 Xl ⟨e.f, hf, by rw [hb]; rfl, hm⟩ fun x _ h => ZA hl hf hb hn (hx x) big h
@[reducible] def rp : Nat → Ty → List Zc1 → List Zc1
 | 0, _, l => l
 | n + 1, t, l => .ro t :: rp n t l
noncomputable def L_ : List (Nat × Con) := []
theorem ZDt : YA L_ := Zh
end Go.Sx.Tryz
