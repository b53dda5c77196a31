/- The functions of the seat: what each comes to. -/
import Derived.Test.YtocddfdkknhgcaaGreatTypes
import Derived.Test.YtocddfdkknhgcaaGreatSafeToldF1
set_option linter.unusedVariables false
set_option linter.unusedSimpArgs false
set_option maxRecDepth 100000
namespace Go.Sx.Tryz
open Go Go.Sx Go.Proofs
noncomputable section
def Ar : Ys := [(151, ZfZ), (145, Zh9)]
theorem Zaf : Yu Ar := cons_cons Zic (cons_cons Zaa (Zh))
abbrev Qx : Vl := (.drop :: .ro Yj :: dp 4 (.own Zn :: .own ZF :: .ro Zb :: dp 31 []), [])
def Le : KP := [(4, Qx)]
def Ov (n : Nat) (x : YH [Zm, Yj]) := evX (false, false, []) Ar Le [some ZE, some Wo] Tryz.f90 (shT [(true, ZE), (true, Wo)]) n (YR [Zm, Yj] x)
def Ow : Con := roS [Zm, Yj] true (shT [(true, ZE), (true, Wo)]) (Ov big)
theorem Zag : ZH Tryz.prog 90 Ow := ZC ⟨Tryz.f90, by kernel_rfl, rfl, by decide⟩ fun _ _ h => Zw Zaf (f := Tryz.f90) (by kernel_rfl) rfl (by kernel_rfl) (by kernel_rfl) big h
def As (n : Nat) (a0 : Zq) (a1 : YU) : Option (Zq × YB × Unit) := Ov n (a0, a1, ())
def ZdO (n : Nat) (x : KD Qx.1) (y : BD Qx.2) := Z9 (env (false, false, []) Ar) Le (body Tryz.f90) (Vm (false, false, []) Ar [some ZE, some Wo] Tryz.f90 (shT [(true, ZE), (true, Wo)]) [.val Zm (ZR Zm), .val Yj (ZR Yj)]) n 4 Qx x y
def Vs (n : Nat) (s1 : YU) (s6 : (List Ze)) (s7 : (List Zs)) (s8 : Int) : Option (Zq × YB × Unit) := ZdO n (s1, s6, s7, s8, ()) ()
theorem Ee (n : Nat) (a0 : Zq) (a1 : YU) : As n a0 a1 = if (0 : Nat) + List.length a0 ≤ lim then Vs n a1 a0 [] 0 else none := by kernel_rfl
theorem Vc (n : Nat) (s1 : YU) (s6 : (List Ze)) (s7 : (List Zs)) (s8 : Int) : Vs (n + 1) s1 s6 s7 s8 = bif decide (s8 < (↑(List.length s1) : Int)) then if 0 ≤ s8 then (nth s1 s8.toNat).bind fun y => (Fx big s6 y.2.1).bind fun y => if s7.length + [y].length ≤ lim then if 0 ≤ s8 then (nth s1 s8.toNat).bind fun y_1 => (I9 big s6 y_1).bind fun y_2 => Vs n s1 y_2.1 (s7.append [y]) (IntKind.i64.wrap (s8 + 1)) else none else none else none else some (s6, s7, ()) := by kernel_rfl
def Zah : Ys := [(27, Ld)]
theorem ZdP : Yu Zah := cons_cons PM (Zh)
def Zli : KP := []
def Zai (n : Nat) (x : AP.denL [.mu ZB]) := evX (false, false, [2, 3, 4, 5, 7, 8, 9, 12, 14, 16, 18, 20]) Zah Zli [] Tryz.f89 (shO shN [.mu ZB]) n (AP.encL [.mu ZB] x)
def Hx : Con := apS [.mu ZB] true (shO shN [.mu ZB]) (Zai big)
theorem Gw : ZH Tryz.prog 89 Hx := YK ⟨Tryz.f89, by kernel_rfl, rfl, by decide⟩ fun _ _ h => Zw ZdP (f := Tryz.f89) (by kernel_rfl) rfl (by kernel_rfl) (by kernel_rfl) big h
def JG (n : Nat) (a0 : Zo) : Option (Unit × Zo × Unit) := Zai n (a0, ())
theorem Gx (n : Nat) (a0 : Zo) : JG n a0 = (KK big a0.2.2.2.2.2.2.1 a0.2.2.2.2.2.2.2.2.1).bind fun y => some ((), (a0.1, a0.2.1, a0.2.2.1, a0.2.2.2.1, a0.2.2.2.2.1, a0.2.2.2.2.2.1, y, [], [], a0.2.2.2.2.2.2.2.2.2), ()) := by kernel_rfl
def CC : Ys := [(68, Xs), (88, Hr), (31, Cw), (89, Hx), (30, D9), (82, Hw)]
theorem ZdQ : Yu CC := cons_cons YV (cons_cons Gn (cons_cons A9 (cons_cons Gw (cons_cons Ea (cons_cons Gs (Zh))))))
abbrev KL : Vl := (.ro Zf :: dp 5 (.is (.ptr 1 0) :: .is (.ptr 8 0) :: .is (.own 15 0) :: .ro Zb :: dp 46 []), [.drop, .vars [.ro Zb, .ro Zb, .ro Zb, .ro Zb, .ro Zb, .ro Zb, .ro Zb, .ro Zb, .ro Zb, .ro Zb, .ro Zb, .ro Zb, .ro Zb, .ro Zb, .own Zl, .own Yc, .own Zl, .own YL, .own Z5, .own ZO, .ro Zb], .drop, .drop, .drop, .drop, .drop, .drop, .vars [.ro Zb, .ro Zb, .ro Zb, .ro Zb, .ro Zb, .ro Zb, .ro Zb, .ro Zb, .ro Zb, .ro Zb, .ro Zb, .ro Zb, .ro Zb, .ro Zb, .own Zb, .own Zn, .own Zb, .own ZF, .own Zt, .own Zj, .ro Zb], .drop, .drop, .drop, .drop, .drop, .drop, .arr Zb])
def Ox : KP := [(7, KL)]
def Zaj (n : Nat) (x : YH [Zf, ZQ, Zl]) := evX (false, false, [4, 7, 31, 41]) CC Ox [some ZB] Tryz.f40 (shF ZB) n (YR [Zf, ZQ, Zl] x)
def CD : Con := roS [Zf, ZQ, Zl] true (shF ZB) (Zaj big)
theorem Bf : ZH Tryz.prog 40 CD := ZC ⟨Tryz.f40, by kernel_rfl, rfl, by decide⟩ fun _ _ h => Zw ZdQ (f := Tryz.f40) (by kernel_rfl) rfl (by kernel_rfl) (by kernel_rfl) big h
def Qk (n : Nat) (a0 : Zi) (a1 : Zo) (a2 : Int) : Option Zo := Zaj n (a0, a1, a2, ())
def Zif (n : Nat) (x : KD KL.1) (y : BD KL.2) := Z9 (env (false, false, [4, 7, 31, 41]) CC) Ox (body Tryz.f40) (Vm (false, false, [4, 7, 31, 41]) CC [some ZB] Tryz.f40 (shF ZB) [.val Zf (ZR Zf), .val ZQ (ZR ZQ), .val Zl (ZR Zl)]) n 7 KL x y
def UB (n : Nat) (s0 : Zi) (s9 b1_0 : Int) (b1_1 b1_2 : Int) (b1_3 b1_4 : Int) (b1_5 b1_6 : Int) (b1_7 b1_8 : Int) (b1_9 b1_10 : Int) (b1_11 b1_12 b1_13 : Int) (b1_14 : (List Int)) (b1_15 : (List ZM)) (b1_16 : (List Int)) (b1_17 : (List Yg)) (b1_18 : (List Z4)) (b1_19 : (List Zz)) (b1_20 b8_0 : Int) (b8_1 b8_2 : Int) (b8_3 b8_4 : Int) (b8_5 b8_6 : Int) (b8_7 b8_8 : Int) (b8_9 b8_10 : Int) (b8_11 b8_12 b8_13 : Int) (b8_14 : (List Int)) (b8_15 : (List Ze)) (b8_16 : (List Int)) (b8_17 : (List Zs)) (b8_18 : (List Zg)) (b8_19 : (List Zd)) (b8_20 : Int) (b15 : (List Int)) : Option Zo := Zif n (s0, s9, ()) ((b1_0, b1_1, b1_2, b1_3, b1_4, b1_5, b1_6, b1_7, b1_8, b1_9, b1_10, b1_11, b1_12, b1_13, b1_14, b1_15, b1_16, b1_17, b1_18, b1_19, b1_20, ()), (b8_0, b8_1, b8_2, b8_3, b8_4, b8_5, b8_6, b8_7, b8_8, b8_9, b8_10, b8_11, b8_12, b8_13, b8_14, b8_15, b8_16, b8_17, b8_18, b8_19, b8_20, ()), b15, ())
theorem Gy (n : Nat) (a0 : Zi) (a1 : Zo) (a2 : Int) : Qk n a0 a1 a2 = (YY big a1).bind fun y => (Qi big a1).bind fun y_1 => (Qh big a0 a2 y_1).bind fun y_2 => bif !y_2 then some y else (JG big y).bind fun y => (Qi big a1).bind fun y_3 => (QT big a0 a2 y_3).bind fun y_4 => UB n a0 0 0 0 0 0 0 0 0 0 0 0 0 0 0 0 [] [] [] [] [] [] 0 y.2.1.1 y.2.1.2.1 y.2.1.2.2.1.1 y.2.1.2.2.1.2.1 y.2.1.2.2.1.2.2.1 y.2.1.2.2.1.2.2.2.1 y.2.1.2.2.2.1.1 y.2.1.2.2.2.1.2.1 y.2.1.2.2.2.1.2.2.1 y.2.1.2.2.2.1.2.2.2.1 y.2.1.2.2.2.2.1.1 y.2.1.2.2.2.2.1.2.1 y.2.1.2.2.2.2.1.2.2.1 y.2.1.2.2.2.2.1.2.2.2.1 y.2.1.2.2.2.2.2.1 y.2.1.2.2.2.2.2.2.1 y.2.1.2.2.2.2.2.2.2.1 y.2.1.2.2.2.2.2.2.2.2.1 y.2.1.2.2.2.2.2.2.2.2.2.1 y.2.1.2.2.2.2.2.2.2.2.2.2.1 y.2.1.2.2.2.2.2.2.2.2.2.2.2.1 y_4 := by kernel_rfl
theorem VB (n : Nat) (s0 : Zi) (s9 b1_0 : Int) (b1_1 b1_2 : Int) (b1_3 b1_4 : Int) (b1_5 b1_6 : Int) (b1_7 b1_8 : Int) (b1_9 b1_10 : Int) (b1_11 b1_12 b1_13 : Int) (b1_14 : (List Int)) (b1_15 : (List ZM)) (b1_16 : (List Int)) (b1_17 : (List Yg)) (b1_18 : (List Z4)) (b1_19 : (List Zz)) (b1_20 b8_0 : Int) (b8_1 b8_2 : Int) (b8_3 b8_4 : Int) (b8_5 b8_6 : Int) (b8_7 b8_8 : Int) (b8_9 b8_10 : Int) (b8_11 b8_12 b8_13 : Int) (b8_14 : (List Int)) (b8_15 : (List Ze)) (b8_16 : (List Int)) (b8_17 : (List Zs)) (b8_18 : (List Zg)) (b8_19 : (List Zd)) (b8_20 : Int) (b15 : (List Int)) : UB (n + 1) s0 s9 b1_0 b1_1 b1_2 b1_3 b1_4 b1_5 b1_6 b1_7 b1_8 b1_9 b1_10 b1_11 b1_12 b1_13 b1_14 b1_15 b1_16 b1_17 b1_18 b1_19 b1_20 b8_0 b8_1 b8_2 b8_3 b8_4 b8_5 b8_6 b8_7 b8_8 b8_9 b8_10 b8_11 b8_12 b8_13 b8_14 b8_15 b8_16 b8_17 b8_18 b8_19 b8_20 b15 = bif decide (s9 < (↑b15.length : Int)) then if 0 ≤ s9 then if s9 < (↑b15.length : Int) then (nth b15 s9.toNat).bind fun y => if b8_14.length + [y].length ≤ lim then if 0 ≤ s9 then if s9 < (↑b15.length : Int) then (nth b15 s9.toNat).bind fun y_1 => if 0 ≤ y_1 then (nth s0 (Int.toNat y_1)).bind fun y_2 => (JF big b8_15 y_2.2.2.1).bind fun y_3 => UB n s0 (IntKind.i64.wrap (s9 + 1)) b1_0 b1_1 b1_2 b1_3 b1_4 b1_5 b1_6 b1_7 b1_8 b1_9 b1_10 b1_11 b1_12 b1_13 b1_14 b1_15 b1_16 b1_17 b1_18 b1_19 b1_20 b8_0 b8_1 b8_2 b8_3 b8_4 b8_5 b8_6 b8_7 b8_8 b8_9 b8_10 b8_11 b8_12 b8_13 (b8_14.append [y]) y_3.1 b8_16 b8_17 b8_18 b8_19 b8_20 b15 else none else none else none else none else none else none else some (b8_0, b8_1, (b8_2, b8_3, b8_4, b8_5, ()), (b8_6, b8_7, b8_8, b8_9, ()), (b8_10, b8_11, b8_12, b8_13, ()), b8_14, b8_15, b8_16, b8_17, b8_18, b8_19, b8_20, ()) := by kernel_rfl
def Au : Ys := [(68, Xs), (89, Hx), (88, Hr), (30, D9), (90, Ow)]
theorem Zak : Yu Au := cons_cons YV (cons_cons Gw (cons_cons Gn (cons_cons Ea (cons_cons Zag (Zh)))))
abbrev Qy : Vl := (.ro Zf :: dp 5 (.is (.ptr 1 0) :: .is (.ptr 8 0) :: .is (.own 15 0) :: .ro Zb :: dp 47 []), [.drop, .vars [.ro Zb, .ro Zb, .ro Zb, .ro Zb, .ro Zb, .ro Zb, .ro Zb, .ro Zb, .ro Zb, .ro Zb, .ro Zb, .ro Zb, .ro Zb, .ro Zb, .own Zl, .own Yc, .own Zl, .own YL, .own Z5, .own ZO, .ro Zb], .drop, .drop, .drop, .drop, .drop, .drop, .vars [.ro Zb, .ro Zb, .ro Zb, .ro Zb, .ro Zb, .ro Zb, .ro Zb, .ro Zb, .ro Zb, .ro Zb, .ro Zb, .ro Zb, .ro Zb, .ro Zb, .own Zb, .own Zn, .own Zb, .own ZF, .own Zt, .own Zj, .ro Zb], .drop, .drop, .drop, .drop, .drop, .drop, .arr Zb])
def Lf : KP := [(5, Qy)]
def Oy (n : Nat) (x : YH [Zf, ZQ, Zl]) := evX (false, false, [4, 7, 27, 42, 51]) Au Lf [some ZB] Tryz.f41 (shF ZB) n (YR [Zf, ZQ, Zl] x)
def Ef : Con := roS [Zf, ZQ, Zl] true (shF ZB) (Oy big)
theorem Eg : ZH Tryz.prog 41 Ef := ZC ⟨Tryz.f41, by kernel_rfl, rfl, by decide⟩ fun _ _ h => Zw Zak (f := Tryz.f41) (by kernel_rfl) rfl (by kernel_rfl) (by kernel_rfl) big h
def V6 (n : Nat) (a0 : Zi) (a1 : Zo) (a2 : Int) : Option Zo := Oy n (a0, a1, a2, ())
def ZdR (n : Nat) (x : KD Qy.1) (y : BD Qy.2) := Z9 (env (false, false, [4, 7, 27, 42, 51]) Au) Lf (body Tryz.f41) (Vm (false, false, [4, 7, 27, 42, 51]) Au [some ZB] Tryz.f41 (shF ZB) [.val Zf (ZR Zf), .val ZQ (ZR ZQ), .val Zl (ZR Zl)]) n 5 Qy x y
def Vt (n : Nat) (s0 : Zi) (s9 b1_0 : Int) (b1_1 b1_2 : Int) (b1_3 b1_4 : Int) (b1_5 b1_6 : Int) (b1_7 b1_8 : Int) (b1_9 b1_10 : Int) (b1_11 b1_12 b1_13 : Int) (b1_14 : (List Int)) (b1_15 : (List ZM)) (b1_16 : (List Int)) (b1_17 : (List Yg)) (b1_18 : (List Z4)) (b1_19 : (List Zz)) (b1_20 b8_0 : Int) (b8_1 b8_2 : Int) (b8_3 b8_4 : Int) (b8_5 b8_6 : Int) (b8_7 b8_8 : Int) (b8_9 b8_10 : Int) (b8_11 b8_12 b8_13 : Int) (b8_14 : (List Int)) (b8_15 : (List Ze)) (b8_16 : (List Int)) (b8_17 : (List Zs)) (b8_18 : (List Zg)) (b8_19 : (List Zd)) (b8_20 : Int) (b15 : (List Int)) : Option Zo := ZdR n (s0, s9, ()) ((b1_0, b1_1, b1_2, b1_3, b1_4, b1_5, b1_6, b1_7, b1_8, b1_9, b1_10, b1_11, b1_12, b1_13, b1_14, b1_15, b1_16, b1_17, b1_18, b1_19, b1_20, ()), (b8_0, b8_1, b8_2, b8_3, b8_4, b8_5, b8_6, b8_7, b8_8, b8_9, b8_10, b8_11, b8_12, b8_13, b8_14, b8_15, b8_16, b8_17, b8_18, b8_19, b8_20, ()), b15, ())
theorem Eh (n : Nat) (a0 : Zi) (a1 : Zo) (a2 : Int) : V6 n a0 a1 a2 = (YY big a1).bind fun y => (JG big y).bind fun y => (Qi big a1).bind fun y_1 => (QT big a0 a2 y_1).bind fun y_2 => Vt n a0 0 0 0 0 0 0 0 0 0 0 0 0 0 0 0 [] [] [] [] [] [] 0 y.2.1.1 y.2.1.2.1 y.2.1.2.2.1.1 y.2.1.2.2.1.2.1 y.2.1.2.2.1.2.2.1 y.2.1.2.2.1.2.2.2.1 y.2.1.2.2.2.1.1 y.2.1.2.2.2.1.2.1 y.2.1.2.2.2.1.2.2.1 y.2.1.2.2.2.1.2.2.2.1 y.2.1.2.2.2.2.1.1 y.2.1.2.2.2.2.1.2.1 y.2.1.2.2.2.2.1.2.2.1 y.2.1.2.2.2.2.1.2.2.2.1 y.2.1.2.2.2.2.2.1 y.2.1.2.2.2.2.2.2.1 y.2.1.2.2.2.2.2.2.2.1 y.2.1.2.2.2.2.2.2.2.2.1 y.2.1.2.2.2.2.2.2.2.2.2.1 y.2.1.2.2.2.2.2.2.2.2.2.2.1 y.2.1.2.2.2.2.2.2.2.2.2.2.2.1 y_2 := by kernel_rfl
theorem Vd (n : Nat) (s0 : Zi) (s9 b1_0 : Int) (b1_1 b1_2 : Int) (b1_3 b1_4 : Int) (b1_5 b1_6 : Int) (b1_7 b1_8 : Int) (b1_9 b1_10 : Int) (b1_11 b1_12 b1_13 : Int) (b1_14 : (List Int)) (b1_15 : (List ZM)) (b1_16 : (List Int)) (b1_17 : (List Yg)) (b1_18 : (List Z4)) (b1_19 : (List Zz)) (b1_20 b8_0 : Int) (b8_1 b8_2 : Int) (b8_3 b8_4 : Int) (b8_5 b8_6 : Int) (b8_7 b8_8 : Int) (b8_9 b8_10 : Int) (b8_11 b8_12 b8_13 : Int) (b8_14 : (List Int)) (b8_15 : (List Ze)) (b8_16 : (List Int)) (b8_17 : (List Zs)) (b8_18 : (List Zg)) (b8_19 : (List Zd)) (b8_20 : Int) (b15 : (List Int)) : Vt (n + 1) s0 s9 b1_0 b1_1 b1_2 b1_3 b1_4 b1_5 b1_6 b1_7 b1_8 b1_9 b1_10 b1_11 b1_12 b1_13 b1_14 b1_15 b1_16 b1_17 b1_18 b1_19 b1_20 b8_0 b8_1 b8_2 b8_3 b8_4 b8_5 b8_6 b8_7 b8_8 b8_9 b8_10 b8_11 b8_12 b8_13 b8_14 b8_15 b8_16 b8_17 b8_18 b8_19 b8_20 b15 = bif decide (s9 < (↑b15.length : Int)) then if 0 ≤ s9 then if s9 < (↑b15.length : Int) then (nth b15 s9.toNat).bind fun y => if 0 ≤ y then (nth s0 (Int.toNat y)).bind fun y => (As big b8_15 y.2.2.1).bind fun y => if 0 ≤ s9 then if s9 < (↑b15.length : Int) then (nth b15 s9.toNat).bind fun y_1 => if b8_16.length + [y_1].length ≤ lim then if b8_17.length + List.length y.2.1 ≤ lim then Vt n s0 (IntKind.i64.wrap (s9 + 1)) b1_0 b1_1 b1_2 b1_3 b1_4 b1_5 b1_6 b1_7 b1_8 b1_9 b1_10 b1_11 b1_12 b1_13 b1_14 b1_15 b1_16 b1_17 b1_18 b1_19 b1_20 b8_0 b8_1 b8_2 b8_3 b8_4 b8_5 b8_6 b8_7 b8_8 b8_9 b8_10 b8_11 b8_12 b8_13 b8_14 y.1 (b8_16.append [y_1]) (b8_17.append y.2.1) b8_18 b8_19 b8_20 b15 else none else none else none else none else none else none else none else some (b8_0, b8_1, (b8_2, b8_3, b8_4, b8_5, ()), (b8_6, b8_7, b8_8, b8_9, ()), (b8_10, b8_11, b8_12, b8_13, ()), b8_14, b8_15, b8_16, b8_17, b8_18, b8_19, b8_20, ()) := by kernel_rfl
def Gz : Ys := [(68, Xs), (95, D5), (96, VW), (97, Oh), (40, CD), (98, Ho), (41, Ef)]
theorem M4 : Yu Gz := cons_cons YV (cons_cons D6 (cons_cons WP (cons_cons TC (cons_cons Bf (cons_cons Gg (cons_cons Eg (Zh)))))))
def Zal : KP := []
def GA (n : Nat) (x : YH [Zf, ZQ, Zl]) := evX (false, false, [4, 7, 27, 36]) Gz Zal [some ZB] Tryz.f44 (shF ZB) n (YR [Zf, ZQ, Zl] x)
def GB : Con := roS [Zf, ZQ, Zl] true (shF ZB) (GA big)
theorem M5 : ZH Tryz.prog 44 GB := ZC ⟨Tryz.f44, by kernel_rfl, rfl, by decide⟩ fun _ _ h => Zw M4 (f := Tryz.f44) (by kernel_rfl) rfl (by kernel_rfl) (by kernel_rfl) big h
def WA (n : Nat) (a0 : Zi) (a1 : Zo) (a2 : Int) : Option Zo := GA n (a0, a1, a2, ())
theorem M6 (n : Nat) (a0 : Zi) (a1 : Zo) (a2 : Int) : WA n a0 a1 a2 = (YY big a1).bind fun y => (Ak big a0 a2).bind fun y_1 => bif !y_1.2.2.2.1 then some y else if 0 ≤ a2 then (nth a0 a2.toNat).bind fun y_2 => (Xz big y.2.2.1 y_2.2.2.2.1).bind fun y_3 => if 0 ≤ y_1.1 then (nth a0 (Int.toNat y_1.1)).bind fun y_4 => (Xz big y.2.2.2.1 y_4.2.2.2.1).bind fun y_5 => (D7 big a0 a2).bind fun y_6 => bif y_6.2.1 then (Qk big a0 (y.1, y.2.1, y_3, y_5, y.2.2.2.2) y_6.1).bind fun y => (JB big a0 y_1.1 y_1.2.1).bind fun y_7 => bif y_7 then (V6 big a0 y y_1.2.1).bind fun y => some y else some y else (JB big a0 y_1.1 y_1.2.1).bind fun y_7 => bif y_7 then (V6 big a0 (y.1, y.2.1, y_3, y_5, y.2.2.2.2) y_1.2.1).bind fun y => some y else some (y.1, y.2.1, y_3, y_5, y.2.2.2.2) else none else none := by kernel_rfl
def Av : Ys := [(67, Yy), (82, Hw)]
theorem Zam : Yu Av := cons_cons Z7 (cons_cons Gs (Zh))
abbrev Qz : Vl := (.ro Zf :: .ro Yx :: dp 3 (.own Zn :: .ro Zb :: dp 29 []), [])
def Lg : KP := [(3, Qz)]
def Oz (n : Nat) (x : YH [Zf, Yx]) := evX (false, false, []) Av Lg [some ZE] Tryz.f28 (shF ZE) n (YR [Zf, Yx] x)
def OA : Con := roS [Zf, Yx] true (shF ZE) (Oz big)
theorem Zan : ZH Tryz.prog 28 OA := ZC ⟨Tryz.f28, by kernel_rfl, rfl, by decide⟩ fun _ _ h => Zw Zam (f := Tryz.f28) (by kernel_rfl) rfl (by kernel_rfl) (by kernel_rfl) big h
def Ei (n : Nat) (a0 : Zi) (a1 : Yt) : Option Zq := Oz n (a0, a1, ())
def ZdS (n : Nat) (x : KD Qz.1) (y : BD Qz.2) := Z9 (env (false, false, []) Av) Lg (body Tryz.f28) (Vm (false, false, []) Av [some ZE] Tryz.f28 (shF ZE) [.val Zf (ZR Zf), .val Yx (ZR Yx)]) n 3 Qz x y
def Vu (n : Nat) (s0 : Zi) (s1 : Yt) (s5 : (List Ze)) (s6 : Int) : Option Zq := ZdS n (s0, s1, s5, s6, ()) ()
theorem Zao (n : Nat) (a0 : Zi) (a1 : Yt) : Ei n a0 a1 = Vu n a0 a1 [] 0 := by kernel_rfl
theorem BG (n : Nat) (s0 : Zi) (s1 : Yt) (s5 : (List Ze)) (s6 : Int) : Vu (n + 1) s0 s1 s5 s6 = bif decide (s6 < (↑(List.length s1) : Int)) then if 0 ≤ s6 then (nth s1 s6.toNat).bind fun y => (ZT big y 0 (IntKind.i64.wrap ((↑(List.length s0) : Int) - 1))).bind fun y => bif y then if 0 ≤ s6 then (nth s1 s6.toNat).bind fun y => if 0 ≤ y then (nth s0 (Int.toNat y)).bind fun y => (JF big s5 y.2.2.1).bind fun y => Vu n s0 s1 y.1 (IntKind.i64.wrap (s6 + 1)) else none else none else Vu n s0 s1 s5 (IntKind.i64.wrap (s6 + 1)) else none else some s5 := by kernel_rfl
def OB : Ys := [(67, Yy), (125, Hn), (113, MU)]
theorem Zap : Yu OB := cons_cons Z7 (cons_cons Gd (cons_cons IT (Zh)))
def Zig : KP := []
def OC (n : Nat) (x : YH [Zf, Zl, ZO]) := evX (false, false, [5, 10, 16, 24, 32, 41, 45, 50, 54, 61, 65, 71, 75, 83, 88, 94, 99, 106, 114, 118, 119, 121, 126, 127, 129, 137, 141, 142, 144, 150, 154, 155, 157]) OB Zig [none] Tryz.f234 (shV ZD) n (YR [Zf, Zl, ZO] x)
def QV : Con := roS [Zf, Zl, ZO] true (shV ZD) (OC big)
theorem UC : ZH Tryz.prog 234 QV := ZC ⟨Tryz.f234, by kernel_rfl, rfl, by decide⟩ fun _ _ h => Zw Zap (f := Tryz.f234) (by kernel_rfl) rfl (by kernel_rfl) (by kernel_rfl) big h
def V7 (n : Nat) (a0 : Zi) (a1 : Int) (a2 : Zz) : Option Bool := OC n (a0, a1, a2, ())
theorem Zaq (n : Nat) (a0 : Zi) (a1 : Int) (a2 : Zz) : V7 n a0 a1 a2 = bif decide (a1 < 1) then some false else (ZT big a2.1 1 4).bind fun y => bif !y then some false else (ZT big a2.2.1 0 (IntKind.i64.wrap (a1 - 1))).bind fun y => bif !y then some false else (ZT big a2.2.2.1 0 (IntKind.i64.wrap (a1 - 1))).bind fun y => bif !y then some false else (ZT big a2.2.2.2.1 1 900).bind fun y => (fun zC0 => (fun zC1 => bif !y then some false else bif decide (7 < a1) then some false else bif !decide (a2.1 = 1) then bif !decide (a2.2.2.2.2.1 = 0) then some false else bif !decide (a2.1 = 2) then bif !eqD Z5 a2.2.2.2.2.2.2.1 (0, 0, 0, 0, ()) then some false else zC1 else zC1 else bif !decide (a2.1 = 2) then bif !eqD Z5 a2.2.2.2.2.2.2.1 (0, 0, 0, 0, ()) then some false else zC1 else zC1) (bif decide (a2.1 = 2) then bif !eqD Wy a2.2.2.2.2.2.1 (0, 0, 0, 0, ()) then some false else zC0 else zC0)) (bif decide (a2.1 = 1) then (ZT big a2.2.2.2.2.1 1 (IntKind.i64.wrap ((↑(List.length a0) : Int) - 1))).bind fun y => bif y then if 0 ≤ a2.2.2.2.2.1 then (nth a0 (Int.toNat a2.2.2.2.2.1)).bind fun y => bif decide (y.2.1 = a2.2.2.2.1) then if 0 ≤ a2.2.2.2.2.1 then (nth a0 (Int.toNat a2.2.2.2.2.1)).bind fun y => bif eqD Wy y.2.2.2.1 a2.2.2.2.2.2.1 then (XV big a0 a1 a2.2.2.2.2.2.1).bind fun y => some y else some false else none else some false else none else some false else bif decide (a2.1 = 2) then (Ft big a0 a1 a2.2.2.2.2.2.2.1).bind fun y => bif y then bif decide (a2.2.2.2.2.2.2.1.2.2.2.1 = a2.2.1) then some (decide (a2.2.2.2.2.2.2.1.2.1 = a2.2.2.2.1)) else some false else some false else bif decide (a2.1 = 3) then (XV big a0 a1 a2.2.2.2.2.2.1).bind fun y => bif y then some (decide (a2.2.2.2.2.2.1.2.1 = a2.2.2.2.1)) else some false else (XV big a0 a1 a2.2.2.2.2.2.1).bind fun y => bif y then some (decide (a2.2.2.2.2.2.1.2.1 < a2.2.2.2.1)) else some false) := by kernel_rfl
def Zlj : Ys := [(39, WQ), (96, VW), (40, CD), (22, Wg), (69, QS), (15, Cu), (236, Cy)]
theorem Zlk : Yu Zlj := cons_cons XW (cons_cons WP (cons_cons Bf (cons_cons XG (cons_cons Us (cons_cons A8 (cons_cons Be (Zh)))))))
def ZqI : KP := []
def Zll (n : Nat) (x : AP.denL [.ro Zf, .ro Zl, .mu ZB, .ro ZO]) := evX (false, false, [7, 9, 10, 11, 12, 14, 18, 20, 25, 26, 27, 28, 32, 36, 37, 38, 39, 43, 47, 49, 50, 52, 55, 60, 61, 63, 64, 65, 69, 70, 71, 76, 77, 79, 82, 88, 91, 93, 95]) Zlj ZqI [some ZV] Tryz.f237 (shO (shF ZV) [.mu ZB]) n (AP.encL [.ro Zf, .ro Zl, .mu ZB, .ro ZO] x)
def Zlm : Con := apS [.ro Zf, .ro Zl, .mu ZB, .ro ZO] true (shO (shF ZV) [.mu ZB]) (Zll big)
theorem Zln : ZH Tryz.prog 237 Zlm := YK ⟨Tryz.f237, by kernel_rfl, rfl, by decide⟩ fun _ _ h => Zw Zlk (f := Tryz.f237) (by kernel_rfl) rfl (by kernel_rfl) (by kernel_rfl) big h
def Zar (n : Nat) (a0 : Zi) (a1 : Int) (a2 : Zo) (a3 : Zz) : Option (ZX × Zo × Unit) := Zll n (a0, a1, a2, a3, ())
theorem Zlo (n : Nat) (a0 : Zi) (a1 : Int) (a2 : Zo) (a3 : Zz) : Zar n a0 a1 a2 a3 = (XH big a2 a3.2.2.2.1).bind fun y => bif decide (a3.2.2.2.2.2.1.1 = 1) then (Xz big y.2.2.1 a3.2.2.2.2.2.1).bind fun y_1 => (Qg big (y.1, y.2.1, y_1, y.2.2.2) (IntKind.i64.wrap (a3.2.2.2.2.2.1.1 + 1)) a3.2.2.2.1).bind fun y_2 => bif !y_2 then some ([], (y.1, y.2.1, y_1, y.2.2.2), ()) else (Qj big (y.1, y.2.1, y_1, y.2.2.2) (IntKind.i64.wrap (a3.2.2.2.2.2.1.1 + 1)) a3.2.2.2.1 a3.2.2.2.2.2.1.2.2.1 a3.2.1).bind fun y => some y else bif decide (a3.2.2.2.2.2.1.1 = 2) then (Xz big y.2.2.2.1 a3.2.2.2.2.2.1).bind fun y_1 => (Qg big (y.1, y.2.1, y.2.2.1, y_1, y.2.2.2.2) (IntKind.i64.wrap (a3.2.2.2.2.2.1.1 + 1)) a3.2.2.2.1).bind fun y_2 => bif !y_2 then some ([], (y.1, y.2.1, y.2.2.1, y_1, y.2.2.2.2), ()) else (Qj big (y.1, y.2.1, y.2.2.1, y_1, y.2.2.2.2) (IntKind.i64.wrap (a3.2.2.2.2.2.1.1 + 1)) a3.2.2.2.1 a3.2.2.2.2.2.1.2.2.1 a3.2.1).bind fun y => some y else bif decide (a3.2.2.2.2.2.1.1 = 3) then (Qk big a0 y a3.2.2.2.2.2.1.2.2.1).bind fun y => (XH big y (IntKind.i64.wrap (a3.2.2.2.1 + 1))).bind fun y => (Xl big y.2.1 a1).bind fun y_1 => some ([(4, y.1, y_1, y.2.1, 0, y.2.2.1, (0, 0, 0, 0, ()), ())], y, ()) else some ([], y, ()) := by kernel_rfl
def FA : Ys := [(22, Wg), (39, WQ)]
theorem Zih : Yu FA := cons_cons XG (cons_cons XW (Zh))
abbrev Aw : Vl := (.is (.ptr 6 0) :: dp 4 (.is (.ptr 7 0) :: .ro Zb :: dp 68 []), [.drop, .drop, .drop, .drop, .drop, .drop, .vars [.ro Zb, .ro Zb, .ro Zb, .ro Zb, .ro Zb, .ro Zb, .ro Zb, .ro Zb, .ro Zb, .ro Zb, .ro Zb, .ro Zb, .ro Zb, .ro Zb, .own Zb, .own Zn, .own Zb, .own ZF, .own Zt, .own Zj, .ro Zb], .vars [.ro Zb, .ro Zb, .ro Zb, .ro Zb, .ro Zb, .ro Zb, .ro Zb, .ro Zb, .ro Zb, .ro Zb, .ro Zb, .ro Zb, .ro Zb]])
def Zas : KP := [(4, Aw)]
def Zf2 (n : Nat) (x : AP.denL [.mu ZB, .ro Zl, .ro ZO]) := evX (false, false, [5, 7, 11, 12, 13, 17, 19, 20, 21, 25, 27, 28, 29, 35, 36, 37, 39, 44, 45, 46, 52, 53, 54, 60, 63, 65, 66, 67, 73]) FA Zas [] Tryz.f252 (shO shN [.mu ZB]) n (AP.encL [.mu ZB, .ro Zl, .ro ZO] x)
def Zf3 : Con := apS [.mu ZB, .ro Zl, .ro ZO] true (shO shN [.mu ZB]) (Zf2 big)
theorem Zii : ZH Tryz.prog 252 Zf3 := YK ⟨Tryz.f252, by kernel_rfl, rfl, by decide⟩ fun _ _ h => Zw Zih (f := Tryz.f252) (by kernel_rfl) rfl (by kernel_rfl) (by kernel_rfl) big h
def M7 (n : Nat) (a0 : Zo) (a1 : Int) (a2 : Zz) : Option (Unit × Zo × Unit) := Zf2 n (a0, a1, a2, ())
def Zlp (n : Nat) (x : KD Aw.1) (y : BD Aw.2) := Z9 (env (false, false, [5, 7, 11, 12, 13, 17, 19, 20, 21, 25, 27, 28, 29, 35, 36, 37, 39, 44, 45, 46, 52, 53, 54, 60, 63, 65, 66, 67, 73]) FA) Zas (body Tryz.f252) (Vm (false, false, [5, 7, 11, 12, 13, 17, 19, 20, 21, 25, 27, 28, 29, 35, 36, 37, 39, 44, 45, 46, 52, 53, 54, 60, 63, 65, 66, 67, 73]) FA [] Tryz.f252 (shO shN [.mu ZB]) [AP.enc (.mu ZB) (ZR ZB), AP.enc (.ro Zl) (ZR Zl), AP.enc (.ro ZO) (ZR ZO)]) n 4 Aw x y
def WV (n : Nat) (s6 b6_0 : Int) (b6_1 b6_2 : Int) (b6_3 b6_4 : Int) (b6_5 b6_6 : Int) (b6_7 b6_8 : Int) (b6_9 b6_10 : Int) (b6_11 b6_12 b6_13 : Int) (b6_14 : (List Int)) (b6_15 : (List Ze)) (b6_16 : (List Int)) (b6_17 : (List Zs)) (b6_18 : (List Zg)) (b6_19 : (List Zd)) (b6_20 b7_0 : Int) (b7_1 b7_2 : Int) (b7_3 b7_4 : Int) (b7_5 b7_6 : Int) (b7_7 b7_8 : Int) (b7_9 b7_10 : Int) (b7_11 b7_12 : Int) : Option (Unit × Zo × Unit) := Zlp n (s6, ()) ((b6_0, b6_1, b6_2, b6_3, b6_4, b6_5, b6_6, b6_7, b6_8, b6_9, b6_10, b6_11, b6_12, b6_13, b6_14, b6_15, b6_16, b6_17, b6_18, b6_19, b6_20, ()), (b7_0, b7_1, b7_2, b7_3, b7_4, b7_5, b7_6, b7_7, b7_8, b7_9, b7_10, b7_11, b7_12, ()), ())
theorem Zij (n : Nat) (a0 : Zo) (a1 : Int) (a2 : Zz) : M7 n a0 a1 a2 = (Xl big a2.2.2.2.1 a1).bind fun y => (fun zC0 => bif !decide (y = a0.1) then some ((), a0, ()) else bif !decide (a2.2.2.2.1 = a0.2.1) then bif !decide (a2.2.2.2.1 = IntKind.i64.wrap (a0.2.1 + 1)) then some ((), a0, ()) else zC0 else zC0) ((XH big a0 a2.2.2.2.1).bind fun y => WV n 0 y.1 y.2.1 y.2.2.1.1 y.2.2.1.2.1 y.2.2.1.2.2.1 y.2.2.1.2.2.2.1 y.2.2.2.1.1 y.2.2.2.1.2.1 y.2.2.2.1.2.2.1 y.2.2.2.1.2.2.2.1 y.2.2.2.2.1.1 y.2.2.2.2.1.2.1 y.2.2.2.2.1.2.2.1 y.2.2.2.2.1.2.2.2.1 y.2.2.2.2.2.1 y.2.2.2.2.2.2.1 y.2.2.2.2.2.2.2.1 y.2.2.2.2.2.2.2.2.1 y.2.2.2.2.2.2.2.2.2.1 y.2.2.2.2.2.2.2.2.2.2.1 y.2.2.2.2.2.2.2.2.2.2.2.1 a2.1 a2.2.1 a2.2.2.1 a2.2.2.2.1 a2.2.2.2.2.1 a2.2.2.2.2.2.1.1 a2.2.2.2.2.2.1.2.1 a2.2.2.2.2.2.1.2.2.1 a2.2.2.2.2.2.1.2.2.2.1 a2.2.2.2.2.2.2.1.1 a2.2.2.2.2.2.2.1.2.1 a2.2.2.2.2.2.2.1.2.2.1 a2.2.2.2.2.2.2.1.2.2.2.1) := by kernel_rfl
theorem Ej (n : Nat) (s6 b6_0 : Int) (b6_1 b6_2 : Int) (b6_3 b6_4 : Int) (b6_5 b6_6 : Int) (b6_7 b6_8 : Int) (b6_9 b6_10 : Int) (b6_11 b6_12 b6_13 : Int) (b6_14 : (List Int)) (b6_15 : (List Ze)) (b6_16 : (List Int)) (b6_17 : (List Zs)) (b6_18 : (List Zg)) (b6_19 : (List Zd)) (b6_20 b7_0 : Int) (b7_1 b7_2 : Int) (b7_3 b7_4 : Int) (b7_5 b7_6 : Int) (b7_7 b7_8 : Int) (b7_9 b7_10 : Int) (b7_11 b7_12 : Int) : WV (n + 1) s6 b6_0 b6_1 b6_2 b6_3 b6_4 b6_5 b6_6 b6_7 b6_8 b6_9 b6_10 b6_11 b6_12 b6_13 b6_14 b6_15 b6_16 b6_17 b6_18 b6_19 b6_20 b7_0 b7_1 b7_2 b7_3 b7_4 b7_5 b7_6 b7_7 b7_8 b7_9 b7_10 b7_11 b7_12 = bif decide (s6 < (↑b6_19.length : Int)) then if 0 ≤ s6 then if s6 < (↑b6_19.length : Int) then (nth b6_19 s6.toNat).bind fun y => bif decide (y.2.1 = b7_1) then some ((), (b6_0, b6_1, (b6_2, b6_3, b6_4, b6_5, ()), (b6_6, b6_7, b6_8, b6_9, ()), (b6_10, b6_11, b6_12, b6_13, ()), b6_14, b6_15, b6_16, b6_17, b6_18, b6_19, b6_20, ()), ()) else WV n (IntKind.i64.wrap (s6 + 1)) b6_0 b6_1 b6_2 b6_3 b6_4 b6_5 b6_6 b6_7 b6_8 b6_9 b6_10 b6_11 b6_12 b6_13 b6_14 b6_15 b6_16 b6_17 b6_18 b6_19 b6_20 b7_0 b7_1 b7_2 b7_3 b7_4 b7_5 b7_6 b7_7 b7_8 b7_9 b7_10 b7_11 b7_12 else none else none else (fun zB => (fun zB => X7 (X7 zB zB) zB) (zB)) (if (0 : Nat) + b6_19.length ≤ lim then if b6_19.length + [(b7_0, b7_1, b7_2, b7_3, b7_4, (b7_5, b7_6, b7_7, b7_8, ()), (b7_9, b7_10, b7_11, b7_12, ()), ())].length ≤ lim then some ((), (b6_0, b6_1, (b6_2, b6_3, b6_4, b6_5, ()), (b6_6, b6_7, b6_8, b6_9, ()), (b6_10, b6_11, b6_12, b6_13, ()), b6_14, b6_15, b6_16, b6_17, b6_18, b6_19.append [(b7_0, b7_1, b7_2, b7_3, b7_4, (b7_5, b7_6, b7_7, b7_8, ()), (b7_9, b7_10, b7_11, b7_12, ()), ())], b6_20, ()), ()) else none else none) := by kernel_rfl
def Ql : Ys := [(22, Wg), (39, WQ), (261, ZfS), (176, KC), (174, Jw), (175, BC), (248, ZhX), (96, VW), (69, QS)]
theorem ZdT : Yu Ql := cons_cons XG (cons_cons XW (cons_cons ZhV (cons_cons Q5 (cons_cons Qs (cons_cons Ku (cons_cons Tq (cons_cons WP (cons_cons Us (Zh)))))))))
abbrev QA : Vl := (.is (.ptr 6 0) :: .ro Zb :: dp 5 (.own Zj :: .drop :: .is (.ptr 17 0) :: .drop :: .ro Zb :: dp 130 []), [.drop, .drop, .drop, .drop, .drop, .drop, .vars [.ro Zb, .ro Zb, .ro Zb, .ro Zb, .ro Zb, .ro Zb, .ro Zb, .ro Zb, .ro Zb, .ro Zb, .ro Zb, .ro Zb, .ro Zb, .ro Zb, .own Zb, .own Zn, .own Zb, .own ZF, .own Zt, .own Zj, .ro Zb], .drop, .drop, .drop, .drop, .drop, .drop, .drop, .drop, .drop, .drop, .vars [.ro Zb, .ro Zb, .ro Zb, .ro Zb]])
abbrev Wr : Vl := (.is (.ptr 6 0) :: .ro Zb :: dp 3 (.is (.ptr 7 0) :: .drop :: .own Zj :: .ro Zb :: dp 133 []), [.drop, .drop, .drop, .drop, .drop, .drop, .vars [.ro Zb, .ro Zb, .ro Zb, .ro Zb, .ro Zb, .ro Zb, .ro Zb, .ro Zb, .ro Zb, .ro Zb, .ro Zb, .ro Zb, .ro Zb, .ro Zb, .own Zb, .own Zn, .own Zb, .own ZF, .own Zt, .own Zj, .ro Zb], .vars [.ro Zb, .ro Zb, .ro Zb, .ro Zb]])
def Ek : KP := [(17, QA), (5000007, Wr)]
def Zat (n : Nat) (x : AP.denL [.mu ZB, .ro Zl, .ro Z5]) := evX (false, false, [5, 9, 13, 15, 18, 24, 25, 26, 31, 32, 33, 38, 39, 40, 45, 46, 47, 55, 56, 57, 62, 63, 64, 70, 72, 73, 74, 80, 82, 83, 84, 86, 88, 90, 99, 100, 101, 103, 105, 107, 113, 116, 117, 118, 119, 123, 132, 133, 999999]) Ql Ek [some ZV] Tryz.f258 (shO (shF ZV) [.mu ZB]) n (AP.encL [.mu ZB, .ro Zl, .ro Z5] x)
def Zau : Con := apS [.mu ZB, .ro Zl, .ro Z5] true (shO (shF ZV) [.mu ZB]) (Zat big)
theorem ZdU : ZH Tryz.prog 258 Zau := YK ⟨Tryz.f258, by kernel_rfl, rfl, by decide⟩ fun _ _ h => Zw ZdT (f := Tryz.f258) (by kernel_rfl) rfl (by kernel_rfl) (by kernel_rfl) big h
def Hy (n : Nat) (a0 : Zo) (a1 : Int) (a2 : Z4) : Option (ZX × Zo × Unit) := Zat n (a0, a1, a2, ())
def ZdV (n : Nat) (x : KD QA.1) (y : BD QA.2) := Z9 (env (false, false, [5, 9, 13, 15, 18, 24, 25, 26, 31, 32, 33, 38, 39, 40, 45, 46, 47, 55, 56, 57, 62, 63, 64, 70, 72, 73, 74, 80, 82, 83, 84, 86, 88, 90, 99, 100, 101, 103, 105, 107, 113, 116, 117, 118, 119, 123, 132, 133, 999999]) Ql) Ek (body Tryz.f258) (Vm (false, false, [5, 9, 13, 15, 18, 24, 25, 26, 31, 32, 33, 38, 39, 40, 45, 46, 47, 55, 56, 57, 62, 63, 64, 70, 72, 73, 74, 80, 82, 83, 84, 86, 88, 90, 99, 100, 101, 103, 105, 107, 113, 116, 117, 118, 119, 123, 132, 133, 999999]) Ql [some ZV] Tryz.f258 (shO (shF ZV) [.mu ZB]) [AP.enc (.mu ZB) (ZR ZB), AP.enc (.ro Zl) (ZR Zl), AP.enc (.ro Z5) (ZR Z5)]) n 17 QA x y
def QB (n : Nat) (s1 : Int) (s7 : (List Zd)) (s11 b6_0 : Int) (b6_1 b6_2 : Int) (b6_3 b6_4 : Int) (b6_5 b6_6 : Int) (b6_7 b6_8 : Int) (b6_9 b6_10 : Int) (b6_11 b6_12 b6_13 : Int) (b6_14 : (List Int)) (b6_15 : (List Ze)) (b6_16 : (List Int)) (b6_17 : (List Zs)) (b6_18 : (List Zg)) (b6_19 : (List Zd)) (b6_20 b17_0 : Int) (b17_1 b17_2 b17_3 : Int) : Option (ZX × Zo × Unit) := ZdV n (s1, s7, s11, ()) ((b6_0, b6_1, b6_2, b6_3, b6_4, b6_5, b6_6, b6_7, b6_8, b6_9, b6_10, b6_11, b6_12, b6_13, b6_14, b6_15, b6_16, b6_17, b6_18, b6_19, b6_20, ()), (b17_0, b17_1, b17_2, b17_3, ()), ())
def Hz (n : Nat) (x : KD Wr.1) (y : BD Wr.2) := Z9 (env (false, false, [5, 9, 13, 15, 18, 24, 25, 26, 31, 32, 33, 38, 39, 40, 45, 46, 47, 55, 56, 57, 62, 63, 64, 70, 72, 73, 74, 80, 82, 83, 84, 86, 88, 90, 99, 100, 101, 103, 105, 107, 113, 116, 117, 118, 119, 123, 132, 133, 999999]) Ql) Ek (body Tryz.f258) (Vm (false, false, [5, 9, 13, 15, 18, 24, 25, 26, 31, 32, 33, 38, 39, 40, 45, 46, 47, 55, 56, 57, 62, 63, 64, 70, 72, 73, 74, 80, 82, 83, 84, 86, 88, 90, 99, 100, 101, 103, 105, 107, 113, 116, 117, 118, 119, 123, 132, 133, 999999]) Ql [some ZV] Tryz.f258 (shO (shF ZV) [.mu ZB]) [AP.enc (.mu ZB) (ZR ZB), AP.enc (.ro Zl) (ZR Zl), AP.enc (.ro Z5) (ZR Z5)]) n 5000007 Wr x y
def XI (n : Nat) (s1 : Int) (s7 : (List Zd)) (s8 b6_0 : Int) (b6_1 b6_2 : Int) (b6_3 b6_4 : Int) (b6_5 b6_6 : Int) (b6_7 b6_8 : Int) (b6_9 b6_10 : Int) (b6_11 b6_12 b6_13 : Int) (b6_14 : (List Int)) (b6_15 : (List Ze)) (b6_16 : (List Int)) (b6_17 : (List Zs)) (b6_18 : (List Zg)) (b6_19 : (List Zd)) (b6_20 b7_0 : Int) (b7_1 b7_2 b7_3 : Int) : Option (ZX × Zo × Unit) := Hz n (s1, s7, s8, ()) ((b6_0, b6_1, b6_2, b6_3, b6_4, b6_5, b6_6, b6_7, b6_8, b6_9, b6_10, b6_11, b6_12, b6_13, b6_14, b6_15, b6_16, b6_17, b6_18, b6_19, b6_20, ()), (b7_0, b7_1, b7_2, b7_3, ()), ())
theorem ZdW (n : Nat) (a0 : Zo) (a1 : Int) (a2 : Z4) : Hy n a0 a1 a2 = bif decide (a2.1 = 4) then (Xl big (IntKind.i64.wrap (a2.2.1 + 1)) a1).bind fun y => (fun zC0 => bif decide (y = a0.1) then bif decide (IntKind.i64.wrap (a2.2.1 + 1) = IntKind.i64.wrap (a0.2.1 + 1)) then (XH big a0 (IntKind.i64.wrap (a2.2.1 + 1))).bind fun y => XI n a1 [] (IntKind.i64.wrap (a2.2.1 + 1)) y.1 y.2.1 y.2.2.1.1 y.2.2.1.2.1 y.2.2.1.2.2.1 y.2.2.1.2.2.2.1 y.2.2.2.1.1 y.2.2.2.1.2.1 y.2.2.2.1.2.2.1 y.2.2.2.1.2.2.2.1 y.2.2.2.2.1.1 y.2.2.2.2.1.2.1 y.2.2.2.2.1.2.2.1 y.2.2.2.2.1.2.2.2.1 y.2.2.2.2.2.1 y.2.2.2.2.2.2.1 y.2.2.2.2.2.2.2.1 y.2.2.2.2.2.2.2.2.1 y.2.2.2.2.2.2.2.2.2.1 y.2.2.2.2.2.2.2.2.2.2.1 y.2.2.2.2.2.2.2.2.2.2.2.1 a2.1 a2.2.1 a2.2.2.1 a2.2.2.2.1 else zC0 else zC0) (XI n a1 [] (IntKind.i64.wrap (a2.2.1 + 1)) a0.1 a0.2.1 a0.2.2.1.1 a0.2.2.1.2.1 a0.2.2.1.2.2.1 a0.2.2.1.2.2.2.1 a0.2.2.2.1.1 a0.2.2.2.1.2.1 a0.2.2.2.1.2.2.1 a0.2.2.2.1.2.2.2.1 a0.2.2.2.2.1.1 a0.2.2.2.2.1.2.1 a0.2.2.2.2.1.2.2.1 a0.2.2.2.2.1.2.2.2.1 a0.2.2.2.2.2.1 a0.2.2.2.2.2.2.1 a0.2.2.2.2.2.2.2.1 a0.2.2.2.2.2.2.2.2.1 a0.2.2.2.2.2.2.2.2.2.1 a0.2.2.2.2.2.2.2.2.2.2.1 a0.2.2.2.2.2.2.2.2.2.2.2.1 a2.1 a2.2.1 a2.2.2.1 a2.2.2.2.1) else XI n a1 [] a2.2.1 a0.1 a0.2.1 a0.2.2.1.1 a0.2.2.1.2.1 a0.2.2.1.2.2.1 a0.2.2.1.2.2.2.1 a0.2.2.2.1.1 a0.2.2.2.1.2.1 a0.2.2.2.1.2.2.1 a0.2.2.2.1.2.2.2.1 a0.2.2.2.2.1.1 a0.2.2.2.2.1.2.1 a0.2.2.2.2.1.2.2.1 a0.2.2.2.2.1.2.2.2.1 a0.2.2.2.2.2.1 a0.2.2.2.2.2.2.1 a0.2.2.2.2.2.2.2.1 a0.2.2.2.2.2.2.2.2.1 a0.2.2.2.2.2.2.2.2.2.1 a0.2.2.2.2.2.2.2.2.2.2.1 a0.2.2.2.2.2.2.2.2.2.2.2.1 a2.1 a2.2.1 a2.2.2.1 a2.2.2.2.1 := by kernel_rfl
theorem BH (n : Nat) (s1 : Int) (s7 : (List Zd)) (s11 b6_0 : Int) (b6_1 b6_2 : Int) (b6_3 b6_4 : Int) (b6_5 b6_6 : Int) (b6_7 b6_8 : Int) (b6_9 b6_10 : Int) (b6_11 b6_12 b6_13 : Int) (b6_14 : (List Int)) (b6_15 : (List Ze)) (b6_16 : (List Int)) (b6_17 : (List Zs)) (b6_18 : (List Zg)) (b6_19 : (List Zd)) (b6_20 b17_0 : Int) (b17_1 b17_2 b17_3 : Int) : QB (n + 1) s1 s7 s11 b6_0 b6_1 b6_2 b6_3 b6_4 b6_5 b6_6 b6_7 b6_8 b6_9 b6_10 b6_11 b6_12 b6_13 b6_14 b6_15 b6_16 b6_17 b6_18 b6_19 b6_20 b17_0 b17_1 b17_2 b17_3 = bif decide (s11 < s1) then if s7.length + [(3, b6_0, s11, b6_1, 0, (b17_0, b17_1, b17_2, b17_3, ()), (0, 0, 0, 0, ()), ())].length ≤ lim then QB n s1 (s7.append [(3, b6_0, s11, b6_1, 0, (b17_0, b17_1, b17_2, b17_3, ()), (0, 0, 0, 0, ()), ())]) (IntKind.i64.wrap (s11 + 1)) b6_0 b6_1 b6_2 b6_3 b6_4 b6_5 b6_6 b6_7 b6_8 b6_9 b6_10 b6_11 b6_12 b6_13 b6_14 b6_15 b6_16 b6_17 b6_18 b6_19 b6_20 b17_0 b17_1 b17_2 b17_3 else none else some (s7, (b6_0, b6_1, (b6_2, b6_3, b6_4, b6_5, ()), (b6_6, b6_7, b6_8, b6_9, ()), (b6_10, b6_11, b6_12, b6_13, ()), b6_14, b6_15, b6_16, b6_17, b6_18, b6_19, b6_20, ()), ()) := by kernel_rfl
theorem DD (n : Nat) (s1 : Int) (s7 : (List Zd)) (s8 b6_0 : Int) (b6_1 b6_2 : Int) (b6_3 b6_4 : Int) (b6_5 b6_6 : Int) (b6_7 b6_8 : Int) (b6_9 b6_10 : Int) (b6_11 b6_12 b6_13 : Int) (b6_14 : (List Int)) (b6_15 : (List Ze)) (b6_16 : (List Int)) (b6_17 : (List Zs)) (b6_18 : (List Zg)) (b6_19 : (List Zd)) (b6_20 b7_0 : Int) (b7_1 b7_2 b7_3 : Int) : XI (n + 1) s1 s7 s8 b6_0 b6_1 b6_2 b6_3 b6_4 b6_5 b6_6 b6_7 b6_8 b6_9 b6_10 b6_11 b6_12 b6_13 b6_14 b6_15 b6_16 b6_17 b6_18 b6_19 b6_20 b7_0 b7_1 b7_2 b7_3 = (fun zC0 => bif !decide (b6_1 = s8) then zC0 else (Xl big s8 s1).bind fun y => bif !decide (y = b6_0) then zC0 else (MV big b6_18 (b7_0, b7_1, b7_2, b7_3, ())).bind fun y => bif y then zC0 else (fun zB => (fun zB => X7 (X7 zB zB) zB) (zB)) (if (0 : Nat) + b6_18.length ≤ lim then if b6_18.length + [(b7_0, b7_1, b7_2, b7_3, ())].length ≤ lim then (Ur big (b6_18.append [(b7_0, b7_1, b7_2, b7_3, ())]) b7_0 b7_1 b7_2).bind fun y => (XF big y).bind fun y => (Jf big s1).bind fun y_1 => bif !decide (y = y_1) then some (s7, (b6_0, b6_1, (b6_2, b6_3, b6_4, b6_5, ()), (b6_6, b6_7, b6_8, b6_9, ()), (b6_10, b6_11, b6_12, b6_13, ()), b6_14, b6_15, b6_16, b6_17, b6_18.append [(b7_0, b7_1, b7_2, b7_3, ())], b6_19, b6_20, ()), ()) else (IV big (b6_18.append [(b7_0, b7_1, b7_2, b7_3, ())]) b7_0 b7_1 b7_2 s1).bind fun y => bif decide (b7_0 = 4) then (Xz big (b6_2, b6_3, b6_4, b6_5, ()) y.1).bind fun y => some (s7, (b6_0, b6_1, y, (b6_6, b6_7, b6_8, b6_9, ()), (b6_10, b6_11, b6_12, b6_13, ()), b6_14, b6_15, b6_16, b6_17, b6_18.append [(b7_0, b7_1, b7_2, b7_3, ())], b6_19, b6_20, ()), ()) else QB n s1 s7 0 b6_0 b6_1 b6_2 b6_3 b6_4 b6_5 b6_6 b6_7 b6_8 b6_9 b6_10 b6_11 b6_12 b6_13 b6_14 b6_15 b6_16 b6_17 (b6_18.append [(b7_0, b7_1, b7_2, b7_3, ())]) b6_19 b6_20 y.1.1 y.1.2.1 y.1.2.2.1 y.1.2.2.2.1 else none else none)) (some (s7, (b6_0, b6_1, (b6_2, b6_3, b6_4, b6_5, ()), (b6_6, b6_7, b6_8, b6_9, ()), (b6_10, b6_11, b6_12, b6_13, ()), b6_14, b6_15, b6_16, b6_17, b6_18, b6_19, b6_20, ()), ())) := by kernel_rfl
def OD : Ys := [(258, Zau)]
theorem Zav : Yu OD := cons_cons ZdU (Zh)
def Zik : KP := []
def OE (n : Nat) (x : AP.denL [.gs ZB, .ro Zl, .ro Z5]) := evX (false, false, [3, 5]) OD Zik [some ZB, some ZV] Tryz.f251 (shT [(true, ZB), (true, ZV)]) n (AP.encL [.gs ZB, .ro Zl, .ro Z5] x)
def OF : Con := apS [.gs ZB, .ro Zl, .ro Z5] true (shT [(true, ZB), (true, ZV)]) (OE big)
theorem Zaw : ZH Tryz.prog 251 OF := YK ⟨Tryz.f251, by kernel_rfl, rfl, by decide⟩ fun _ _ h => Zw Zav (f := Tryz.f251) (by kernel_rfl) rfl (by kernel_rfl) (by kernel_rfl) big h
def El (n : Nat) (a0 : Zo) (a1 : Int) (a2 : Z4) : Option (Zo × ZX × Unit) := OE n (a0, a1, a2, ())
theorem Zax (n : Nat) (a0 : Zo) (a1 : Int) (a2 : Z4) : El n a0 a1 a2 = (Hy big a0 a1 a2).bind fun y => some (y.2.1, y.1, ()) := by kernel_rfl
def OG : Ys := [(68, Xs), (234, QV), (251, OF), (252, Zf3)]
theorem Zay : Yu OG := cons_cons YV (cons_cons UC (cons_cons Zaw (cons_cons Zii (Zh))))
def Zil : KP := []
def OH (n : Nat) (x : YH [Zf, Zl, ZQ, ZO]) := evX (false, false, [6, 7, 10, 21, 23, 29, 35]) OG Zil [some ZB, some ZV] Tryz.f235 (shT [(true, ZB), (true, ZV)]) n (YR [Zf, Zl, ZQ, ZO] x)
def Em : Con := roS [Zf, Zl, ZQ, ZO] true (shT [(true, ZB), (true, ZV)]) (OH big)
theorem En : ZH Tryz.prog 235 Em := ZC ⟨Tryz.f235, by kernel_rfl, rfl, by decide⟩ fun _ _ h => Zw Zay (f := Tryz.f235) (by kernel_rfl) rfl (by kernel_rfl) (by kernel_rfl) big h
def WW (n : Nat) (a0 : Zi) (a1 : Int) (a2 : Zo) (a3 : Zz) : Option (Zo × ZX × Unit) := OH n (a0, a1, a2, a3, ())
theorem Zaz (n : Nat) (a0 : Zi) (a1 : Int) (a2 : Zo) (a3 : Zz) : WW n a0 a1 a2 a3 = (YY big a2).bind fun y => (V7 big a0 a1 a3).bind fun y_1 => bif !y_1 then some (y, [], ()) else bif !decide (a3.2.2.1 = a2.1) then some (y, [], ()) else bif decide (a3.1 = 2) then (El big y a1 a3.2.2.2.2.2.2.1).bind fun y => some y else bif decide (a3.1 = 4) then (M7 big y a1 a3).bind fun y => some (y.2.1, [], ()) else some (y, [], ()) := by kernel_rfl
def ZaA : Ys := [(68, Xs), (234, QV), (235, Em), (22, Wg), (237, Zlm), (39, WQ), (15, Cu), (38, KF), (236, Cy)]
theorem ZdX : Yu ZaA := cons_cons YV (cons_cons UC (cons_cons En (cons_cons XG (cons_cons Zln (cons_cons XW (cons_cons A8 (cons_cons Q7 (cons_cons Be (Zh)))))))))
def Zlq : KP := []
def ZaB (n : Nat) (x : YH [Zf, Zl, ZQ, ZO]) := evX (false, false, [6, 7, 10, 23, 25, 31, 35, 46, 48, 54, 56, 62, 72, 76, 82, 84, 91, 93, 95]) ZaA Zlq [some ZB, some ZV] Tryz.f217 (shT [(true, ZB), (true, ZV)]) n (YR [Zf, Zl, ZQ, ZO] x)
def ZaC : Con := roS [Zf, Zl, ZQ, ZO] true (shT [(true, ZB), (true, ZV)]) (ZaB big)
theorem ZdY : ZH Tryz.prog 217 ZaC := ZC ⟨Tryz.f217, by kernel_rfl, rfl, by decide⟩ fun _ _ h => Zw ZdX (f := Tryz.f217) (by kernel_rfl) rfl (by kernel_rfl) (by kernel_rfl) big h
def CE (n : Nat) (a0 : Zi) (a1 : Int) (a2 : Zo) (a3 : Zz) : Option (Zo × ZX × Unit) := ZaB n (a0, a1, a2, a3, ())
theorem ZdZ (n : Nat) (a0 : Zi) (a1 : Int) (a2 : Zo) (a3 : Zz) : CE n a0 a1 a2 a3 = (YY big a2).bind fun y => (V7 big a0 a1 a3).bind fun y_1 => bif !y_1 then some (y, [], ()) else bif !decide (a3.2.2.1 = a2.1) then some (y, [], ()) else bif decide (a3.1 = 2) then (WW big a0 a1 a2 a3).bind fun y => some y else bif decide (a3.1 = 4) then (WW big a0 a1 a2 a3).bind fun y => some y else (Xl big a3.2.2.2.1 a1).bind fun y_2 => bif !decide (a3.2.1 = y_2) then some (y, [], ()) else bif decide (a3.2.2.2.1 < a2.2.1) then some (y, [], ()) else bif decide (a3.1 = 3) then (Zar big a0 a1 y a3).bind fun y => some (y.2.1, y.1, ()) else (XH big y a3.2.2.2.1).bind fun y => (Qg big y 1 a3.2.2.2.1).bind fun y_3 => bif !y_3 then some (y, [], ()) else (Wq big a0 y.2.2.2.1 a3.2.2.2.2.1).bind fun y_4 => bif !y_4 then some (y, [], ()) else (Qj big y 1 a3.2.2.2.1 a3.2.2.2.2.1 a3.2.1).bind fun y => some (y.2.1, y.1, ()) := by kernel_rfl
def Lh : Ys := [(68, Xs), (234, QV), (235, Em), (96, VW), (22, Wg), (15, Cu), (38, KF), (44, GB), (236, Cy), (39, WQ)]
theorem PN : Yu Lh := cons_cons YV (cons_cons UC (cons_cons En (cons_cons WP (cons_cons XG (cons_cons A8 (cons_cons Q7 (cons_cons M5 (cons_cons Be (cons_cons XW (Zh))))))))))
def Zd0 : KP := []
def Li (n : Nat) (x : YH [Zf, Zl, ZQ, ZO]) := evX (false, false, [6, 7, 10, 23, 25, 31, 44, 46, 61, 63, 71, 76, 78, 83, 85, 91, 98, 100, 102, 109]) Lh Zd0 [some ZB, some ZV] Tryz.f216 (shT [(true, ZB), (true, ZV)]) n (YR [Zf, Zl, ZQ, ZO] x)
def Lj : Con := roS [Zf, Zl, ZQ, ZO] true (shT [(true, ZB), (true, ZV)]) (Li big)
theorem PO : ZH Tryz.prog 216 Lj := ZC ⟨Tryz.f216, by kernel_rfl, rfl, by decide⟩ fun _ _ h => Zw PN (f := Tryz.f216) (by kernel_rfl) rfl (by kernel_rfl) (by kernel_rfl) big h
def KM (n : Nat) (a0 : Zi) (a1 : Int) (a2 : Zo) (a3 : Zz) : Option (Zo × ZX × Unit) := Li n (a0, a1, a2, a3, ())
theorem PP (n : Nat) (a0 : Zi) (a1 : Int) (a2 : Zo) (a3 : Zz) : KM n a0 a1 a2 a3 = (YY big a2).bind fun y => (V7 big a0 a1 a3).bind fun y_1 => bif !y_1 then some (y, [], ()) else bif !decide (a3.2.2.1 = a2.1) then some (y, [], ()) else bif decide (a3.1 = 2) then (WW big a0 a1 a2 a3).bind fun y => some y else bif decide (a3.1 = 4) then (Xz big y.2.2.1 a3.2.2.2.2.2.1).bind fun y_2 => (WW big a0 a1 (y.1, y.2.1, y_2, y.2.2.2) a3).bind fun y => some y else bif decide (a3.1 = 3) then some (y, [], ()) else (Xl big a3.2.2.2.1 a1).bind fun y_2 => bif !decide (a3.2.1 = y_2) then some (y, [], ()) else (Qg big y 4 a3.2.2.2.1).bind fun y_3 => bif y_3 then (Wq big a0 y.2.2.2.1 a3.2.2.2.2.1).bind fun y_4 => bif y_4 then (WA big a0 y a3.2.2.2.2.1).bind fun y => bif !decide (a2.2.1 ≤ a3.2.2.2.1) then some (y, [], ()) else (Xl big (IntKind.i64.wrap (a3.2.2.2.1 + 1)) a1).bind fun y_5 => (Qj big y 4 a3.2.2.2.1 a3.2.2.2.2.1 y_5).bind fun y => (XH big y.2.1 (IntKind.i64.wrap (a3.2.2.2.1 + 1))).bind fun y_6 => some (y_6, y.1, ()) else (WA big a0 y a3.2.2.2.2.1).bind fun y => some (y, [], ()) else (WA big a0 y a3.2.2.2.2.1).bind fun y => some (y, [], ()) := by kernel_rfl
def Zf4 : Ys := [(67, Yy)]
theorem Zim : Yu Zf4 := cons_cons Z7 (Zh)
def Zn4 : KP := []
def Zf5 (n : Nat) (x : AP.denL [.mu Zx, .ro Zl]) := evX (false, false, [6, 8, 9, 10, 17, 18, 19, 24, 26, 27, 28, 33, 34, 35, 41]) Zf4 Zn4 [none, none] Tryz.f182 (shO (shT [(false, ZO), (false, ZD)]) [.mu Zx]) n (AP.encL [.mu Zx, .ro Zl] x)
def M8 : Con := apS [.mu Zx, .ro Zl] true (shO (shT [(false, ZO), (false, ZD)]) [.mu Zx]) (Zf5 big)
theorem Lk : ZH Tryz.prog 182 M8 := YK ⟨Tryz.f182, by kernel_rfl, rfl, by decide⟩ fun _ _ h => Zw Zim (f := Tryz.f182) (by kernel_rfl) rfl (by kernel_rfl) (by kernel_rfl) big h
def FB (n : Nat) (a0 : Zp) (a1 : Int) : Option ((Zz × Bool × Unit) × Zp × Unit) := Zf5 n (a0, a1, ())
theorem Zin (n : Nat) (a0 : Zp) (a1 : Int) : FB n a0 a1 = (ZT big a1 0 (IntKind.i64.wrap ((↑(List.length a0.2.2.2.2.2.1) : Int) - 1))).bind fun y => bif !y then some (((0, 0, 0, 0, 0, (0, 0, 0, 0, ()), (0, 0, 0, 0, ()), ()), false, ()), a0, ()) else if 0 ≤ a1 then if a1 < (↑(List.length a0.2.2.2.2.2.1) : Int) then (nth a0.2.2.2.2.2.1 a1.toNat).bind fun y => (fun zC0 => (fun zC1 => (fun zC2 => X7 (if 0 ≤ a1 then if a1 ≤ (↑(List.length a0.2.2.2.2.2.1) : Int) then (fun zB0 zB1 => (fun zB0 zB1 => X7 zB0 (X7 zB0 zB1)) (zB0) (zB1)) zC1 zC2 else none else none) (X7 (if 0 ≤ a1 then if a1 ≤ (↑(List.length a0.2.2.2.2.2.1) : Int) then (fun zB0 zB1 => (fun zB0 zB1 => X7 (X7 zB0 (X7 zB0 zB1)) (X7 (X7 zB0 zB1) zB1)) (zB0) (zB1)) zC1 zC2 else none else none) (X7 (if 0 ≤ a1 then if a1 ≤ (↑(List.length a0.2.2.2.2.2.1) : Int) then X7 (zC1) (zC2) else none else none) (X7 (if 0 ≤ a1 then if a1 ≤ (↑(List.length a0.2.2.2.2.2.1) : Int) then (fun zB0 zB1 => (fun zB0 zB1 => X7 (X7 zB0 zB1) zB1) (zB0) (zB1)) zC1 zC2 else none else none) (if 0 ≤ IntKind.i64.wrap (a1 + 1) then if IntKind.i64.wrap (a1 + 1) ≤ (↑(List.length a0.2.2.2.2.2.1) : Int) then (fun zB => (fun zB => X7 zB zB) (zB)) (if 0 ≤ a1 then if a1 ≤ (↑(List.length a0.2.2.2.2.2.1) : Int) then if (0 : Nat) + (List.take (a1.toNat - (0 : Nat)) (List.drop (0 : Nat) a0.2.2.2.2.2.1)).length ≤ lim then zC0 else none else none else none) else none else none))))) (if 0 ≤ IntKind.i64.wrap (a1 + 1) then if IntKind.i64.wrap (a1 + 1) ≤ (↑(List.length a0.2.2.2.2.2.1) : Int) then if (0 : Nat) + (List.take (a1.toNat - (0 : Nat)) (List.drop (0 : Nat) a0.2.2.2.2.2.1)).length ≤ lim then zC0 else none else none else none)) (if (0 : Nat) + (List.take (a1.toNat - (0 : Nat)) (List.drop (0 : Nat) a0.2.2.2.2.2.1)).length ≤ lim then if 0 ≤ IntKind.i64.wrap (a1 + 1) then if IntKind.i64.wrap (a1 + 1) ≤ (↑(List.length a0.2.2.2.2.2.1) : Int) then zC0 else none else none else none)) (if (List.take (a1.toNat - (0 : Nat)) (List.drop (0 : Nat) a0.2.2.2.2.2.1)).length + (List.take (List.length a0.2.2.2.2.2.1 - (IntKind.i64.wrap (a1 + 1)).toNat) (List.drop (IntKind.i64.wrap (a1 + 1)).toNat a0.2.2.2.2.2.1)).length ≤ lim then some ((y, true, ()), (a0.1, a0.2.1, a0.2.2.1, a0.2.2.2.1, a0.2.2.2.2.1, (List.take (a1.toNat - (0 : Nat)) (List.drop (0 : Nat) a0.2.2.2.2.2.1)).append (List.take (List.length a0.2.2.2.2.2.1 - (IntKind.i64.wrap (a1 + 1)).toNat) (List.drop (IntKind.i64.wrap (a1 + 1)).toNat a0.2.2.2.2.2.1)), a0.2.2.2.2.2.2), ()) else none) else none else none := by kernel_rfl
def ZaD : Ys := []
theorem Zd1 : Yu ZaD := Zh
def Zlr : KP := []
def ZaE (n : Nat) (x : AP.denL [.mu Zx, .ro ZN]) := evX (false, false, [5, 6, 7, 14, 16, 17, 18, 23]) ZaD Zlr [none] Tryz.f214 (shO (shV ZD) [.mu Zx]) n (AP.encL [.mu Zx, .ro ZN] x)
def JH : Con := apS [.mu Zx, .ro ZN] true (shO (shV ZD) [.mu Zx]) (ZaE big)
theorem QC : ZH Tryz.prog 214 JH := YK ⟨Tryz.f214, by kernel_rfl, rfl, by decide⟩ fun _ _ h => Zw Zd1 (f := Tryz.f214) (by kernel_rfl) rfl (by kernel_rfl) (by kernel_rfl) big h
def VH (n : Nat) (a0 : Zp) (a1 : ZX) : Option (Bool × Zp × Unit) := ZaE n (a0, a1, ())
theorem Zd2 (n : Nat) (a0 : Zp) (a1 : ZX) : VH n a0 a1 = bif decide (60 < IntKind.i64.wrap ((↑(List.length a0.2.2.2.2.2.1) : Int) + (↑(List.length a1) : Int))) then some (false, a0, ()) else if (0 : Nat) + List.length a0.2.2.2.2.2.1 ≤ lim then if List.length a0.2.2.2.2.2.1 + List.length a1 ≤ lim then some (true, (a0.1, a0.2.1, a0.2.2.1, a0.2.2.2.1, a0.2.2.2.2.1, List.append a0.2.2.2.2.2.1 a1, a0.2.2.2.2.2.2), ()) else none else none := by kernel_rfl
def CF : Ys := []
theorem Zd3 : Yu CF := Zh
abbrev KN : Vl := (.is (.ptr 5 0) :: dp 2 (.is (.ptr 6 0) :: .ro Zb :: dp 30 []), [.drop, .drop, .drop, .drop, .drop, .vars [.ro Zb, .ro ZD, .ro Zb, .own ZJ, .own Yd, .own Zj, .own Zt, .own ZP], .vars [.ro Zb, .ro Zb, .ro Zb, .ro Zb]])
def OI : KP := [(2, KN)]
def ZaF (n : Nat) (x : AP.denL [.mu Zx, .ro Z5]) := evX (false, false, [3, 6, 7, 8, 14, 15, 16, 23, 25, 26, 27, 33]) CF OI [] Tryz.f218 (shO shN [.mu Zx]) n (AP.encL [.mu Zx, .ro Z5] x)
def ZaG : Con := apS [.mu Zx, .ro Z5] true (shO shN [.mu Zx]) (ZaF big)
theorem Zd4 : ZH Tryz.prog 218 ZaG := YK ⟨Tryz.f218, by kernel_rfl, rfl, by decide⟩ fun _ _ h => Zw Zd3 (f := Tryz.f218) (by kernel_rfl) rfl (by kernel_rfl) (by kernel_rfl) big h
def HA (n : Nat) (a0 : Zp) (a1 : Z4) : Option (Unit × Zp × Unit) := ZaF n (a0, a1, ())
def Zio (n : Nat) (x : KD KN.1) (y : BD KN.2) := Z9 (env (false, false, [3, 6, 7, 8, 14, 15, 16, 23, 25, 26, 27, 33]) CF) OI (body Tryz.f218) (Vm (false, false, [3, 6, 7, 8, 14, 15, 16, 23, 25, 26, 27, 33]) CF [] Tryz.f218 (shO shN [.mu Zx]) [AP.enc (.mu Zx) (ZR Zx), AP.enc (.ro Z5) (ZR Z5)]) n 2 KN x y
def KO (n : Nat) (s4 b5_0 : Int) (b5_1 : Bool) (b5_2 : Int) (b5_3 : (List Zr)) (b5_4 : (List ZK)) (b5_5 : (List Zd)) (b5_6 : (List Zg)) (b5_7 : (List ZG)) (b6_0 b6_1 : Int) (b6_2 b6_3 : Int) : Option (Unit × Zp × Unit) := Zio n (s4, ()) ((b5_0, b5_1, b5_2, b5_3, b5_4, b5_5, b5_6, b5_7, ()), (b6_0, b6_1, b6_2, b6_3, ()), ())
theorem Zd5 (n : Nat) (a0 : Zp) (a1 : Z4) : HA n a0 a1 = KO n 0 a0.1 a0.2.1 a0.2.2.1 a0.2.2.2.1 a0.2.2.2.2.1 a0.2.2.2.2.2.1 a0.2.2.2.2.2.2.1 a0.2.2.2.2.2.2.2.1 a1.1 a1.2.1 a1.2.2.1 a1.2.2.2.1 := by kernel_rfl
theorem Dd (n : Nat) (s4 b5_0 : Int) (b5_1 : Bool) (b5_2 : Int) (b5_3 : (List Zr)) (b5_4 : (List ZK)) (b5_5 : (List Zd)) (b5_6 : (List Zg)) (b5_7 : (List ZG)) (b6_0 b6_1 : Int) (b6_2 b6_3 : Int) : KO (n + 1) s4 b5_0 b5_1 b5_2 b5_3 b5_4 b5_5 b5_6 b5_7 b6_0 b6_1 b6_2 b6_3 = bif decide (s4 < (↑b5_6.length : Int)) then if 0 ≤ s4 then if s4 < (↑b5_6.length : Int) then (nth b5_6 s4.toNat).bind fun y => bif eqD Z5 y (b6_0, b6_1, b6_2, b6_3, ()) then some ((), (b5_0, b5_1, b5_2, b5_3, b5_4, b5_5, b5_6, b5_7, ()), ()) else KO n (IntKind.i64.wrap (s4 + 1)) b5_0 b5_1 b5_2 b5_3 b5_4 b5_5 b5_6 b5_7 b6_0 b6_1 b6_2 b6_3 else none else none else (fun zB => X7 (X7 zB zB) zB) (if (0 : Nat) + b5_6.length ≤ lim then if b5_6.length + [(b6_0, b6_1, b6_2, b6_3, ())].length ≤ lim then some ((), (b5_0, b5_1, b5_2, b5_3, b5_4, b5_5, b5_6.append [(b6_0, b6_1, b6_2, b6_3, ())], b5_7, ()), ()) else none else none) := by kernel_rfl
def Ay : Ys := [(182, M8), (106, W8), (216, Lj), (217, ZaC), (218, ZaG), (214, JH)]
theorem ZaH : Yu Ay := cons_cons Lk (cons_cons Ww (cons_cons PO (cons_cons ZdY (cons_cons Zd4 (cons_cons QC (Zh))))))
abbrev UD : Vl := (.is (.ptr 5 0) :: dp 6 (.is (.own 25 0) :: .ro Zb :: dp 108 []), [.drop, .drop, .drop, .drop, .drop, .vars [.ro Zb, .ro ZD, .ro Zb, .own ZJ, .own Yd, .own Zj, .own Zt, .own ZP], .drop, .drop, .drop, .drop, .drop, .drop, .drop, .drop, .drop, .drop, .drop, .drop, .drop, .drop, .drop, .drop, .drop, .drop, .drop, .arr Zj])
def Ll : KP := [(11, UD)]
def OJ (n : Nat) (x : AP.denL [.mu Zx, .ro Zl]) := evX (true, true, [5, 17, 18, 20, 25, 26, 27, 30, 31, 32, 34, 36, 37, 38, 40, 41, 42, 44, 45, 46, 48, 58, 59, 60, 62, 64, 65, 66, 68, 69, 70, 72, 73, 74, 76, 104, 105, 106]) Ay Ll [none] Tryz.f181 (shO (shV ZD) [.mu Zx]) n (AP.encL [.mu Zx, .ro Zl] x)
def OK : Con := apS [.mu Zx, .ro Zl] true (shO (shV ZD) [.mu Zx]) (OJ big)
theorem ZaI : ZH Tryz.prog 181 OK := YK ⟨Tryz.f181, by kernel_rfl, rfl, by decide⟩ fun _ _ h => Zw ZaH (f := Tryz.f181) (by kernel_rfl) rfl (by kernel_rfl) (by kernel_rfl) big h
def Eo (n : Nat) (a0 : Zp) (a1 : Int) : Option (Bool × Zp × Unit) := OJ n (a0, a1, ())
def ZaJ (n : Nat) (x : KD UD.1) (y : BD UD.2) := Z9 (env (true, true, [5, 17, 18, 20, 25, 26, 27, 30, 31, 32, 34, 36, 37, 38, 40, 41, 42, 44, 45, 46, 48, 58, 59, 60, 62, 64, 65, 66, 68, 69, 70, 72, 73, 74, 76, 104, 105, 106]) Ay) Ll (body Tryz.f181) (Vm (true, true, [5, 17, 18, 20, 25, 26, 27, 30, 31, 32, 34, 36, 37, 38, 40, 41, 42, 44, 45, 46, 48, 58, 59, 60, 62, 64, 65, 66, 68, 69, 70, 72, 73, 74, 76, 104, 105, 106]) Ay [none] Tryz.f181 (shO (shV ZD) [.mu Zx]) [AP.enc (.mu Zx) (ZR Zx), AP.enc (.ro Zl) (ZR Zl)]) n 11 UD x y
def YJ (n : Nat) (s8 b5_0 : Int) (b5_1 : Bool) (b5_2 : Int) (b5_3 : (List Zr)) (b5_4 : (List ZK)) (b5_5 : (List Zd)) (b5_6 : (List Zg)) (b5_7 : (List ZG)) (b25 : (List Zd)) : Option (Bool × Zp × Unit) := ZaJ n (s8, ()) ((b5_0, b5_1, b5_2, b5_3, b5_4, b5_5, b5_6, b5_7, ()), b25, ())
theorem ZaK (n : Nat) (a0 : Zp) (a1 : Int) : Eo n a0 a1 = (FB big a0 a1).bind fun y => bif !y.1.2.1 then some (false, y.2) else (Wp big y.2.1 y.1.1.2.2.1).bind fun y_1 => bif !y_1 then some (true, y.2) else bif y.2.1.2.1 then if 0 ≤ y.1.1.2.2.1 then if y.1.1.2.2.1 < (↑(List.length y.2.1.2.2.2.2.1) : Int) then (nth y.2.1.2.2.2.2.1 (Int.toNat y.1.1.2.2.1)).bind fun y_2 => (KM big y.2.1.2.2.2.1 y.2.1.1 y_2 y.1.1).bind fun y_3 => (DH y.2.1.2.2.2.2.1 (Int.toNat y.1.1.2.2.1) y_2).bind fun y_4 => if 0 ≤ y.1.1.2.2.1 then if y.1.1.2.2.1 < (↑y_4.length : Int) then (nth y_4 (Int.toNat y.1.1.2.2.1)).bind fun y_5 => (DH y_4 (Int.toNat y.1.1.2.2.1) y_3.1).bind fun y_6 => YJ n 0 y.2.1.1 y.2.1.2.1 y.2.1.2.2.1 y.2.1.2.2.2.1 y_6 y.2.1.2.2.2.2.2.1 y.2.1.2.2.2.2.2.2.1 y.2.1.2.2.2.2.2.2.2.1 y_3.2.1 else none else none else none else none else if 0 ≤ y.1.1.2.2.1 then if y.1.1.2.2.1 < (↑(List.length y.2.1.2.2.2.2.1) : Int) then (nth y.2.1.2.2.2.2.1 (Int.toNat y.1.1.2.2.1)).bind fun y_2 => (CE big y.2.1.2.2.2.1 y.2.1.1 y_2 y.1.1).bind fun y_3 => (DH y.2.1.2.2.2.2.1 (Int.toNat y.1.1.2.2.1) y_2).bind fun y_4 => if 0 ≤ y.1.1.2.2.1 then if y.1.1.2.2.1 < (↑y_4.length : Int) then (nth y_4 (Int.toNat y.1.1.2.2.1)).bind fun y_5 => (DH y_4 (Int.toNat y.1.1.2.2.1) y_3.1).bind fun y_6 => YJ n 0 y.2.1.1 y.2.1.2.1 y.2.1.2.2.1 y.2.1.2.2.2.1 y_6 y.2.1.2.2.2.2.2.1 y.2.1.2.2.2.2.2.2.1 y.2.1.2.2.2.2.2.2.2.1 y_3.2.1 else none else none else none else none := by kernel_rfl
theorem Az (n : Nat) (s8 b5_0 : Int) (b5_1 : Bool) (b5_2 : Int) (b5_3 : (List Zr)) (b5_4 : (List ZK)) (b5_5 : (List Zd)) (b5_6 : (List Zg)) (b5_7 : (List ZG)) (b25 : (List Zd)) : YJ (n + 1) s8 b5_0 b5_1 b5_2 b5_3 b5_4 b5_5 b5_6 b5_7 b25 = bif decide (s8 < (↑b25.length : Int)) then if 0 ≤ s8 then if s8 < (↑b25.length : Int) then (nth b25 s8.toNat).bind fun y => bif decide (y.1 = 2) then if 0 ≤ s8 then if s8 < (↑b25.length : Int) then (nth b25 s8.toNat).bind fun y => (HA big (b5_0, b5_1, b5_2, b5_3, b5_4, b5_5, b5_6, b5_7, ()) y.2.2.2.2.2.2.1).bind fun y => bif decide ((↑(List.length y.2.1.2.2.2.2.2.1) : Int) < 60) then if 0 ≤ IntKind.i64.wrap (s8 + 1) then if IntKind.i64.wrap (s8 + 1) ≤ (↑b25.length : Int) then if 0 ≤ s8 then if s8 ≤ IntKind.i64.wrap (s8 + 1) then (VH big y.2.1 (List.take ((IntKind.i64.wrap (s8 + 1)).toNat - s8.toNat) (List.drop s8.toNat b25))).bind fun y => YJ n (IntKind.i64.wrap (s8 + 1)) y.2.1.1 y.2.1.2.1 y.2.1.2.2.1 y.2.1.2.2.2.1 y.2.1.2.2.2.2.1 y.2.1.2.2.2.2.2.1 y.2.1.2.2.2.2.2.2.1 y.2.1.2.2.2.2.2.2.2.1 b25 else none else none else none else none else YJ n (IntKind.i64.wrap (s8 + 1)) y.2.1.1 y.2.1.2.1 y.2.1.2.2.1 y.2.1.2.2.2.1 y.2.1.2.2.2.2.1 y.2.1.2.2.2.2.2.1 y.2.1.2.2.2.2.2.2.1 y.2.1.2.2.2.2.2.2.2.1 b25 else none else none else bif decide ((↑b5_5.length : Int) < 60) then if 0 ≤ IntKind.i64.wrap (s8 + 1) then if IntKind.i64.wrap (s8 + 1) ≤ (↑b25.length : Int) then if 0 ≤ s8 then if s8 ≤ IntKind.i64.wrap (s8 + 1) then (VH big (b5_0, b5_1, b5_2, b5_3, b5_4, b5_5, b5_6, b5_7, ()) (List.take ((IntKind.i64.wrap (s8 + 1)).toNat - s8.toNat) (List.drop s8.toNat b25))).bind fun y => YJ n (IntKind.i64.wrap (s8 + 1)) y.2.1.1 y.2.1.2.1 y.2.1.2.2.1 y.2.1.2.2.2.1 y.2.1.2.2.2.2.1 y.2.1.2.2.2.2.2.1 y.2.1.2.2.2.2.2.2.1 y.2.1.2.2.2.2.2.2.2.1 b25 else none else none else none else none else YJ n (IntKind.i64.wrap (s8 + 1)) b5_0 b5_1 b5_2 b5_3 b5_4 b5_5 b5_6 b5_7 b25 else none else none else some (true, (b5_0, b5_1, b5_2, b5_3, b5_4, b5_5, b5_6, b5_7, ()), ()) := by kernel_rfl
def ZaL : Ys := [(106, W8), (18, Oo), (214, JH)]
theorem Zd6 : Yu ZaL := cons_cons Ww (cons_cons TT (cons_cons QC (Zh)))
def Zls : KP := []
def ZaM (n : Nat) (x : AP.denL [.mu Zx, .ro Zl]) := evX (true, true, [5, 6, 8, 9, 15, 16, 17, 22, 23, 24, 32, 33, 34, 999999]) ZaL Zls [none] Tryz.f184 (shO (shV ZD) [.mu Zx]) n (AP.encL [.mu Zx, .ro Zl] x)
def ZaN : Con := apS [.mu Zx, .ro Zl] true (shO (shV ZD) [.mu Zx]) (ZaM big)
theorem Zd7 : ZH Tryz.prog 184 ZaN := YK ⟨Tryz.f184, by kernel_rfl, rfl, by decide⟩ fun _ _ h => Zw Zd6 (f := Tryz.f184) (by kernel_rfl) rfl (by kernel_rfl) (by kernel_rfl) big h
def HB (n : Nat) (a0 : Zp) (a1 : Int) : Option (Bool × Zp × Unit) := ZaM n (a0, a1, ())
theorem Zd8 (n : Nat) (a0 : Zp) (a1 : Int) : HB n a0 a1 = (Wp big a0 a1).bind fun y => bif !y then some (false, a0, ()) else if 0 ≤ a1 then if a1 < (↑(List.length a0.2.2.2.2.1) : Int) then (nth a0.2.2.2.2.1 a1.toNat).bind fun y => (Ed big y a0.1).bind fun y_1 => (DH a0.2.2.2.2.1 a1.toNat y).bind fun y => (fun zB => X7 zB zB) (bif !y_1.2.2.1 then some (false, (a0.1, a0.2.1, a0.2.2.1, a0.2.2.2.1, y, a0.2.2.2.2.2), ()) else if 0 ≤ a1 then if a1 < (↑y.length : Int) then (nth y a1.toNat).bind fun y_2 => (DH y a1.toNat y_1.1).bind fun y => (VH big (a0.1, a0.2.1, a0.2.2.1, a0.2.2.2.1, y, a0.2.2.2.2.2) [y_1.2.1]).bind fun y => some (true, y.2) else none else none) else none else none := by kernel_rfl
def shI : Sh Res := ⟨id, some, fun r x h => by cases h; exact Ztz.of_eq rfl⟩
def Zip (n : Nat) (args : List SV) : Option Res := bif Hf args [] then evX (false, false, []) [] [] [none] Tryz.f214 shI n args else none
def Zu0 (v3 v4 v5 v6 v7 : Value) (x : Zp) : SV := .mr [.val Zl x.1, .val ZD x.2.1, .val Zl x.2.2.1, .vl v3 Zf x.2.2.2.1, .vl v4 XQ x.2.2.2.2.1, .vl v5 ZN x.2.2.2.2.2.1, .vl v6 ZS x.2.2.2.2.2.2.1, .vl v7 Yj x.2.2.2.2.2.2.2.1]
abbrev cX (v3 v4 v6 v7 : Value) (e : SV) (x : Zp) : List SV := [.val Zl x.1, .val ZD x.2.1, .val Zl x.2.2.1, .vl v3 Zf x.2.2.2.1, .vl v4 XQ x.2.2.2.2.1, e, .vl v6 ZS x.2.2.2.2.2.2.1, .vl v7 Yj x.2.2.2.2.2.2.2.1]
theorem ZqJ (v3 v4 v5 v6 v7 : Value) (x : Zp) (l : ZX) (n : Nat) : Zip n [Zu0 v3 v4 v5 v6 v7 x, .val ZN l] =
  bif decide ((60 : Int) < IntKind.i64.wrap ((↑(List.length x.2.2.2.2.2.1) : Int) + (↑(List.length l) : Int))) then some (.val .bool false, [cX v3 v4 v6 v7 (.vl v5 ZN x.2.2.2.2.2.1) x])
  else if 0 + List.length x.2.2.2.2.2.1 ≤ lim then if List.length x.2.2.2.2.2.1 + List.length l ≤ lim then some (.val .bool true, [cX v3 v4 v6 v7 (.fr ZO (List.append x.2.2.2.2.2.1 l)) x]) else none else none := by kernel_rfl
def unV (t : Ty) (l : List SV) : Option (t.den × List SV) := match l with
 | .val s x :: r => (match toS s t x with | some y => some (y, r) | none => none)
 | _ => none
def unX (t : Ty) (l : List SV) : Option (Value × t.den × List SV) := match l with
 | .vl c s x :: r => (match toS s t x with | some y => some (c, y, r) | none => none)
 | _ => none
theorem Zsy {t : Ty} {l : List SV} {x : t.den} {r : List SV} (h : unV t l = some (x, r)) : l = .val t x :: r := by
 unfold unV at h
 split at h
 ·split at h
  ·rename_i hy
   cases h
   obtain ⟨e, h2⟩ := F5 hy
   subst e; subst h2
   rfl
  ·cases h
 ·cases h
theorem Zlt {t : Ty} {l : List SV} {c : Value} {x : t.den} {r : List SV} (h : unX t l = some (c, x, r)) : l = .vl c t x :: r := by
 unfold unX at h
 split at h
 ·split at h
  ·rename_i hy
   cases h
   obtain ⟨e, h2⟩ := F5 hy
   subst e; subst h2
   rfl
  ·cases h
 ·cases h
abbrev XD : Type := (Value × Value × Value × Value × Value) × Zp × ZX
def Zyk (l0 : List SV) : Option ((Value × Value × Value × Value × Value) × Zp) :=
 (unV Zl l0).bind fun q1 => (unV ZD q1.2).bind fun q2 => (unV Zl q2.2).bind fun q3 => (unX Zf q3.2).bind fun q4 => (unX XQ q4.2.2).bind fun q5 => (unX ZN q5.2.2).bind fun q6 =>
  (unX ZS q6.2.2).bind fun q7 => (unX Yj q7.2.2).bind fun q8 => match q8.2.2 with
  | [] => some ((q4.1, q5.1, q6.1, q7.1, q8.1), (q1.1, q2.1, q3.1, q4.2.1, q5.2.1, q6.2.1, q7.2.1, q8.2.1, ()))
  | _ :: _ => none
def Zyl (args : List SV) : Option XD := match args with
 | [.mr l0, .val t9 l] => (Zyk l0).bind fun q => (toS t9 ZN l).bind fun y => some (q.1, q.2, y)
 | _ => none
theorem ZvI {l0 : List SV} {q : (Value × Value × Value × Value × Value) × Zp} (h : Zyk l0 = some q) : SV.mr l0 = Zu0 q.1.1 q.1.2.1 q.1.2.2.1 q.1.2.2.2.1 q.1.2.2.2.2 q.2 := by
 unfold Zyk at h
 obtain ⟨q1, h1, h⟩ := Option.bind_eq_some_iff.1 h
 obtain ⟨q2, h2, h⟩ := Option.bind_eq_some_iff.1 h
 obtain ⟨q3, h3, h⟩ := Option.bind_eq_some_iff.1 h
 obtain ⟨q4, h4, h⟩ := Option.bind_eq_some_iff.1 h
 obtain ⟨q5, h5, h⟩ := Option.bind_eq_some_iff.1 h
 obtain ⟨q6, h6, h⟩ := Option.bind_eq_some_iff.1 h
 obtain ⟨q7, h7, h⟩ := Option.bind_eq_some_iff.1 h
 obtain ⟨q8, h8, h⟩ := Option.bind_eq_some_iff.1 h
 split at h
 ·rename_i h9
  simp only [Option.some.injEq] at h
  subst h
  have e8 := Zlt h8
  rw [h9] at e8
  rw [Zsy h1, Zsy h2, Zsy h3, Zlt h4, Zlt h5, Zlt h6, Zlt h7, e8]
  rfl
 ·cases h
theorem ZvJ {args : List SV} {q : XD} (h : Zyl args = some q) : args = [Zu0 q.1.1 q.1.2.1 q.1.2.2.1 q.1.2.2.2.1 q.1.2.2.2.2 q.2.1, .val ZN q.2.2] := by
 unfold Zyl at h
 split at h
 ·obtain ⟨q1, h1, h⟩ := Option.bind_eq_some_iff.1 h
  obtain ⟨y, h2, h⟩ := Option.bind_eq_some_iff.1 h
  simp only [Option.some.injEq] at h
  subst h
  obtain ⟨e, h3⟩ := F5 h2
  subst e; subst h3
  rw [ZvI h1]
 ·cases h
def Zym {R : Type} (q : XD) (K : SV → List (List SV) → Option R) : Option R :=
 bif decide ((60 : Int) < IntKind.i64.wrap ((↑(List.length q.2.1.2.2.2.2.2.1) : Int) + (↑(List.length q.2.2) : Int))) then K (.val .bool false) [cX q.1.1 q.1.2.1 q.1.2.2.2.1 q.1.2.2.2.2 (.vl q.1.2.2.1 ZN q.2.1.2.2.2.2.2.1) q.2.1]
 else if 0 + List.length q.2.1.2.2.2.2.2.1 ≤ lim then if List.length q.2.1.2.2.2.2.2.1 + List.length q.2.2 ≤ lim then K (.val .bool true) [cX q.1.1 q.1.2.1 q.1.2.2.2.1 q.1.2.2.2.2 (.fr ZO (List.append q.2.1.2.2.2.2.2.1 q.2.2)) q.2.1] else none else none
def ZaO : Con := ⟨[.mref, .ro ZN], fun _ args K => (Zyl args).bind fun q => Zym q K, false⟩
theorem Zsz (n : Nat) (args : List SV) (r0 : Res) (hb : Hf args [] = true) (h1 : evX (false, false, []) [] [] [none] Tryz.f214 shI n args = some r0) : CallOk Tryz.prog 214 args (shI.sh r0).1 (shI.sh r0).2 :=
 Zw Zh (by kernel_rfl) rfl (by kernel_rfl) hb n h1
theorem ZqK (args : List SV) (r0 : Res) (h1 : Zip big args = some r0) : CallOk Tryz.prog 214 args r0.1 r0.2 := by
 unfold Zip at h1
 cases hb : Hf args [] with
 | false => rw [hb] at h1; cases h1
 | true =>
  rw [hb, cond_true] at h1
  exact Zsz big args r0 hb h1
theorem ZqL {R : Type} {P : SV → List (List SV) → Prop} {o : Option Res} (fin : ∀ r0 : Res, o = some r0 → P r0.1 r0.2) {c1 : Bool} {c2 c3 : Prop} [Decidable c2] [Decidable c3] {a b : SV} {x y : List (List SV)}
  (hp : o = bif c1 then some (a, x) else if c2 then if c3 then some (b, y) else none else none) {K : SV → List (List SV) → Option R} {r : R} (h : (bif c1 then K a x else if c2 then if c3 then K b y else none else none) = some r) : ∃ sv outs, P sv outs ∧ K sv outs = some r := by
 cases c1 with
 | true => exact ⟨a, x, fin (a, x) hp, h⟩
 | false =>
  simp only [cond_false] at h hp
  split at h
  ·rename_i g1
   rw [if_pos g1] at hp
   split at h
   ·rename_i g2
    rw [if_pos g2] at hp
    exact ⟨b, y, fin (b, y) hp, h⟩
   ·cases h
  ·cases h
theorem ZsA {R : Type} {c1 : Bool} {c2 c3 : Prop} [Decidable c2] [Decidable c3] {a b : SV} {x y : List (List SV)} {K K' : SV → List (List SV) → Option R} {r : R} (hk : ∀ sv outs, K sv outs = some r → K' sv outs = some r)
  (h : (bif c1 then K a x else if c2 then if c3 then K b y else none else none) = some r) : (bif c1 then K' a x else if c2 then if c3 then K' b y else none else none) = some r := by
 cases c1 with
 | true => exact hk _ _ h
 | false =>
  simp only [cond_false] at h ⊢
  split at h
  ·split at h
   ·rename_i g1 g2; rw [if_pos g1, if_pos g2]; exact hk _ _ h
   ·cases h
  ·cases h
theorem Zlu : ZH Tryz.prog 214 ZaO := by
 refine ⟨⟨Tryz.f214, by kernel_rfl, rfl, by decide⟩, fun R args K r he => ?_, fun R args K K' r hk he => ?_⟩
 ·obtain ⟨q, h1, h2⟩ := Option.bind_eq_some_iff.1 he
  have hp := ZqJ q.1.1 q.1.2.1 q.1.2.2.1 q.1.2.2.2.1 q.1.2.2.2.2 q.2.1 q.2.2 big
  rw [← ZvJ h1] at hp
  have fin := fun r0 => ZqK args r0
  generalize Zip big args = o at hp fin
  exact ZqL fin hp h2
 ·obtain ⟨q, h1, h2⟩ := Option.bind_eq_some_iff.1 he
  exact Option.bind_eq_some_iff.2 ⟨q, h1, ZsA hk h2⟩
def Ziq (n : Nat) (v3 v4 v5 v6 v7 : Value) (x : Zp) (k : Int) : Option Res := evX (false, false, []) [(67, Yy), (214, ZaO)] [] [none] Tryz.f183 shI n [Zu0 v3 v4 v5 v6 v7 x, .val Zl k]
abbrev twL (x : Zp) (k : Int) : List Zz := List.take ((IntKind.i64.wrap (k + 1)).toNat - k.toNat) (List.drop k.toNat x.2.2.2.2.2.1)
theorem Zn5 (v3 v4 v5 v6 v7 : Value) (x : Zp) (k : Int) (n : Nat) : Ziq n v3 v4 v5 v6 v7 x k =
  (ZT big k 0 (IntKind.i64.wrap ((↑(List.length x.2.2.2.2.2.1) : Int) - 1))).bind fun y => bif !y then some (.val .bool false, [cX v3 v4 v6 v7 (.vl v5 ZN x.2.2.2.2.2.1) x]) else
  if 0 ≤ IntKind.i64.wrap (k + 1) then if IntKind.i64.wrap (k + 1) ≤ (↑(List.length x.2.2.2.2.2.1) : Int) then if 0 ≤ k then if k ≤ IntKind.i64.wrap (k + 1) then
  bif decide ((60 : Int) < IntKind.i64.wrap ((↑(List.length x.2.2.2.2.2.1) : Int) + (↑(List.length (twL x k)) : Int))) then some (.val .bool false, [cX v3 v4 v6 v7 (.vl v5 ZN x.2.2.2.2.2.1) x])
  else if 0 + List.length x.2.2.2.2.2.1 ≤ lim then if List.length x.2.2.2.2.2.1 + List.length (twL x k) ≤ lim then some (.val .bool true, [cX v3 v4 v6 v7 (.fr ZO (List.append x.2.2.2.2.2.1 (twL x k))) x]) else none else none
  else none else none else none else none := by kernel_rfl
theorem X6 {im : Nat → Prop} {w : World} {x : SV} {l : List SV} {cs : List Value} {S : List Nat} (h : CVL im w (x :: l) cs S []) : ∃ c r S1 S2, cs = c :: r ∧ S = S1 ++ S2 ∧ CV im w x c S1 [] ∧ CVL im w l r S2 [] := by
 simp only [CVL] at h
 obtain ⟨c, r, S1, S2, B1, B2, h1, h2, h3, h4, h5⟩ := h
 obtain ⟨rfl, rfl⟩ := List.append_eq_nil_iff.1 h3.symm
 exact ⟨c, r, S1, S2, h1, h2, h4, h5⟩
theorem ZsB {im : Nat → Prop} {w : World} {cs : List Value} {S : List Nat} (h : CVL im w [] cs S []) : cs = [] ∧ S = [] := by
 simp only [CVL] at h; exact ⟨h.1, h.2.1⟩
theorem Kg {im : Nat → Prop} {w : World} {x : SV} {l : List SV} {c : Value} {r : List Value} {S1 S2 : List Nat} (h4 : CV im w x c S1 []) (h5 : CVL im w l r S2 []) : CVL im w (x :: l) (c :: r) (S1 ++ S2) [] := by
 simp only [CVL]; exact ⟨c, r, S1, S2, [], [], rfl, rfl, rfl, h4, h5⟩
theorem ZsC {im : Nat → Prop} {w : World} : CVL im w [] [] [] [] := by simp [CVL]
theorem Zlv {im : Nat → Prop} {w : World} {n : Int} {c : Value} {S : List Nat} {B : List LC} (h : CV im w (.val Zl n) c S B) : S = [] ∧ B = [] ∧ ∀ (im' : Nat → Prop) (w' : World), CV im' w' (.val Zl n) c [] [] := by
 simp only [CV] at h
 obtain ⟨rfl, rfl, cs, h1, rfl⟩ := h
 exact ⟨rfl, rfl, fun im' w' => by simp only [CV]; exact ⟨trivial, trivial, cs, h1, rfl⟩⟩
theorem Zn6 {im : Nat → Prop} {w : World} {n : Bool} {c : Value} {S : List Nat} {B : List LC} (h : CV im w (.val ZD n) c S B) : S = [] ∧ B = [] ∧ ∀ (im' : Nat → Prop) (w' : World), CV im' w' (.val ZD n) c [] [] := by
 simp only [CV] at h
 obtain ⟨rfl, rfl, cs, h1, rfl⟩ := h
 exact ⟨rfl, rfl, fun im' w' => by simp only [CV]; exact ⟨trivial, trivial, cs, h1, rfl⟩⟩
theorem ZqM {im : Nat → Prop} {w : World} {t : Ty} {y : List t.den} {c : Value} {S : List Nat} (h : CV im w (.fr t y) c S []) : 0 < t.size ∧ TR im w true (.sl true t) y [c] S := by
 simp only [CV] at h; exact h.2
theorem ZsD {im : Nat → Prop} {w : World} {t : Ty} {y : t.den} {c c0 : Value} {S : List Nat} (h : CV im w (.vl c0 t y) c S []) : S = [] ∧ c = c0 := by
 simp only [CV] at h; exact ⟨h.1, h.2.2.1⟩
theorem vlB {p p2 : Nat → Prop} {w : World} {S : List Nat} {c : Value} {y : List Zy} (h1 : ∀ k, p k → p2 k) (h2 : ∀ k ∈ S, p2 k) (h : TR p w true (.sl true YX) y [c] S) : CV p2 w (.vl c Zf y) c [] [] := by
 simp only [CV]
 exact ⟨trivial, trivial, trivial, [c], TR.weak h1 (.sl true YX) y [c] S true h2 h, rfl⟩
theorem vlP {p p2 : Nat → Prop} {w : World} {S : List Nat} {c : Value} {y : List Zo} (h1 : ∀ k, p k → p2 k) (h2 : ∀ k ∈ S, p2 k) (h : TR p w true (.sl true ZB) y [c] S) : CV p2 w (.vl c XQ y) c [] [] := by
 simp only [CV]
 exact ⟨trivial, trivial, trivial, [c], TR.weak h1 (.sl true ZB) y [c] S true h2 h, rfl⟩
theorem vlL {p p2 : Nat → Prop} {w : World} {S : List Nat} {c : Value} {y : List Zz} (h1 : ∀ k, p k → p2 k) (h2 : ∀ k ∈ S, p2 k) (h : TR p w true (.sl true ZO) y [c] S) : CV p2 w (.vl c ZN y) c [] [] := by
 simp only [CV]
 exact ⟨trivial, trivial, trivial, [c], TR.weak h1 (.sl true ZO) y [c] S true h2 h, rfl⟩
theorem vlV {p p2 : Nat → Prop} {w : World} {S : List Nat} {c : Value} {y : List Z4} (h1 : ∀ k, p k → p2 k) (h2 : ∀ k ∈ S, p2 k) (h : TR p w true (.sl true Z5) y [c] S) : CV p2 w (.vl c ZS y) c [] [] := by
 simp only [CV]
 exact ⟨trivial, trivial, trivial, [c], TR.weak h1 (.sl true Z5) y [c] S true h2 h, rfl⟩
theorem vlC {p p2 : Nat → Prop} {w : World} {S : List Nat} {c : Value} {y : List Xf} (h1 : ∀ k, p k → p2 k) (h2 : ∀ k ∈ S, p2 k) (h : TR p w true (.sl true Wn) y [c] S) : CV p2 w (.vl c Yj y) c [] [] := by
 simp only [CV]
 exact ⟨trivial, trivial, trivial, [c], TR.weak h1 (.sl true Wn) y [c] S true h2 h, rfl⟩
abbrev muC (x : Zp) (l : List Zz) : List SV := [.val Zl x.1, .val ZD x.2.1, .val Zl x.2.2.1, .fr YX x.2.2.2.1, .fr ZB x.2.2.2.2.1, .fr ZO l, .fr Z5 x.2.2.2.2.2.2.1, .fr Wn x.2.2.2.2.2.2.2.1]
def Zyn (v5 : Value) (x : Zp) : Option (List Zz) → SV
 | none => .vl v5 ZN x.2.2.2.2.2.1
 | some y => .fr ZO y
set_option maxHeartbeats 4000000 in
theorem ZvK (x : Zp) (k : Int) (b : Bool) (o : Option (List Zz))
  (h : ∀ v3 v4 v5 v6 v7, CallOk Tryz.prog 183 [Zu0 v3 v4 v5 v6 v7 x, .val Zl k] (.val .bool b) [cX v3 v4 v6 v7 (Zyn v5 x o) x]) :
  CallOk Tryz.prog 183 [.mr (muC x x.2.2.2.2.2.1), .val Zl k] (.val .bool b) [muC x (o.getD x.2.2.2.2.2.1)] := by
 intro p w cargs S B hcv hnd hS hp hnt
 simp only [CVL] at hcv
 obtain ⟨c, r, S0, S9, B0, B9, rfl, rfl, rfl, hc, c9, r9, Sa, Sb, Ba, Bb, rfl, rfl, rfl, hk, rfl, rfl, rfl⟩ := hcv
 simp only [CV] at hc
 obtain ⟨blk, cs, e, S', rfl, rfl, rfl, hheap, hcells⟩ := hc
 obtain ⟨rfl, rfl, hk'⟩ := Zlv hk
 obtain ⟨c0, r0, T0, U0, rfl, rfl, h0, hcells⟩ := X6 hcells
 obtain ⟨c1, r1, T1, U1, rfl, rfl, h1, hcells⟩ := X6 hcells
 obtain ⟨c2, r2, T2, U2, rfl, rfl, h2, hcells⟩ := X6 hcells
 obtain ⟨c3, r3, S3, U3, rfl, rfl, h3, hcells⟩ := X6 hcells
 obtain ⟨c4, r4, S4, U4, rfl, rfl, h4, hcells⟩ := X6 hcells
 obtain ⟨c5, r5, S5, U5, rfl, rfl, h5, hcells⟩ := X6 hcells
 obtain ⟨c6, r6, S6, U6, rfl, rfl, h6, hcells⟩ := X6 hcells
 obtain ⟨c7, r7, S7, U7, rfl, rfl, h7, hcells⟩ := X6 hcells
 obtain ⟨rfl, rfl⟩ := ZsB hcells
 obtain ⟨rfl, _, k0⟩ := Zlv h0
 obtain ⟨rfl, _, k1⟩ := Zn6 h1
 obtain ⟨rfl, _, k2⟩ := Zlv h2
 obtain ⟨p3, t3⟩ := ZqM h3
 obtain ⟨p4, t4⟩ := ZqM h4
 obtain ⟨p5, t5⟩ := ZqM h5
 obtain ⟨p6, t6⟩ := ZqM h6
 obtain ⟨p7, t7⟩ := ZqM h7
 simp only [List.nil_append, List.append_nil] at hnd hS ⊢
 -- what the lists are read from
 let p2 : Nat → Prop := fun k => p k ∨ k ∈ S3 ++ (S4 ++ (S5 ++ (S6 ++ S7)))
 obtain ⟨hnb, hnl⟩ := List.nodup_cons.1 hnd
 have lt : ∀ k ∈ S3 ++ (S4 ++ (S5 ++ (S6 ++ S7))), ¬ p k ∧ k < w.heap.size := fun k hk => hS k (List.mem_cons_of_mem _ hk)
 have hb := hS blk (List.mem_cons_self ..)
 have q1 : ∀ k, p k → p2 k := fun k hk => .inl hk
 have q3 : ∀ k ∈ S3, p2 k := fun k hk => .inr (by simp [hk])
 have q4 : ∀ k ∈ S4, p2 k := fun k hk => .inr (by simp [hk])
 have q5 : ∀ k ∈ S5, p2 k := fun k hk => .inr (by simp [hk])
 have q6 : ∀ k ∈ S6, p2 k := fun k hk => .inr (by simp [hk])
 have q7 : ∀ k ∈ S7, p2 k := fun k hk => .inr (by simp [hk])
 have hX : CVL p2 w [Zu0 c3 c4 c5 c6 c7 x, .val Zl k] [.pointer (some ⟨blk, 0, none⟩), c9] [blk] [.box blk] := by
  simp only [CVL]
  refine ⟨_, _, [blk], [], [.box blk], [], rfl, rfl, rfl, ?_, _, _, [], [], [], [], rfl, rfl, rfl, hk' p2 w, rfl, rfl, rfl⟩
  unfold Zu0
  simp only [CV]
  refine ⟨blk, _, e, [], rfl, rfl, rfl, hheap, ?_⟩
  exact Kg (S1 := []) (k0 p2 w) (Kg (S1 := []) (k1 p2 w) (Kg (S1 := []) (k2 p2 w) (Kg (S1 := []) (vlB q1 q3 t3) (Kg (S1 := []) (vlP q1 q4 t4) (Kg (S1 := []) (vlL q1 q5 t5) (Kg (S1 := []) (vlV q1 q6 t6) (Kg (S1 := []) (vlC q1 q7 t7) ZsC)))))))
 refine (h c3 c4 c5 c6 c7 p2 w _ [blk] [.box blk] hX (by simp) (fun k hk => ?_) (fun k hk => ?_) (fun t ht => by cases ht)).mono ?_
 ·simp only [List.mem_singleton] at hk
  subst hk
  exact ⟨fun hc => hc.elim hb.1 hnb, hb.2⟩
 ·rcases hk with hk | hk
  ·exact hp k hk
  ·exact (lt k hk).2
 rintro e' w' ⟨cr, S1, S2, he, hnd2, hrg, hkept, hcr, houts⟩
 obtain ⟨rfl, _, kb⟩ := Zn6 hcr
 simp only [Outs] at houts
 obtain ⟨cells, e2, V1, V2, rfl, hheap', hc', rfl⟩ := houts
 simp only [List.nil_append, List.append_nil] at hnd2 hrg hc'
 obtain ⟨d0, r0, T0, U0, rfl, rfl, g0, hc'⟩ := X6 hc'
 obtain ⟨d1, r1, T1, U1, rfl, rfl, g1, hc'⟩ := X6 hc'
 obtain ⟨d2, r2, T2, U2, rfl, rfl, g2, hc'⟩ := X6 hc'
 obtain ⟨d3, r3, T3, U3, rfl, rfl, g3, hc'⟩ := X6 hc'
 obtain ⟨d4, r4, T4, U4, rfl, rfl, g4, hc'⟩ := X6 hc'
 obtain ⟨d5, r5, T5, U5, rfl, rfl, g5, hc'⟩ := X6 hc'
 obtain ⟨d6, r6, T6, U6, rfl, rfl, g6, hc'⟩ := X6 hc'
 obtain ⟨d7, r7, T7, U7, rfl, rfl, g7, hc'⟩ := X6 hc'
 obtain ⟨rfl, rfl⟩ := ZsB hc'
 obtain ⟨rfl, _, k0⟩ := Zlv g0
 obtain ⟨rfl, _, k1⟩ := Zn6 g1
 obtain ⟨rfl, _, k2⟩ := Zlv g2
 obtain ⟨rfl, rfl⟩ := ZsD g3
 obtain ⟨rfl, rfl⟩ := ZsD g4
 obtain ⟨rfl, rfl⟩ := ZsD g6
 obtain ⟨rfl, rfl⟩ := ZsD g7
 simp only [List.nil_append, List.append_nil] at hnd2 hrg
 obtain ⟨hn5, hnd5⟩ := List.nodup_cons.1 hnd2
 -- the letters' blocks behind the call
 have hT5 : ∀ k ∈ T5, w.heap.size ≤ k := fun k hk => by
  rcases (hrg k (List.mem_cons_of_mem _ hk)).1 with e | e
  ·simp only [List.mem_singleton] at e; subst e; exact absurd hk hn5
  ·exact e
 have same : ∀ k, k < w.heap.size → k ≠ blk → w'.heap[k]? = w.heap[k]? := fun k hk hne => hkept.same k hk (by simpa using hne)
 obtain ⟨S5', hS5, h5'⟩ : ∃ S5' : List Nat, (S5' = S5 ∨ S5' = T5) ∧ ∀ im' : Nat → Prop, (∀ b, p b → im' b) → CV im' w' (.fr ZO (o.getD x.2.2.2.2.2.1)) d5 S5' [] := by
  cases o with
  | none =>
   obtain ⟨rfl, rfl⟩ := ZsD (show CV _ w' (.vl c5 ZN x.2.2.2.2.2.1) d5 T5 [] from g5)
   refine ⟨S5, .inl rfl, fun im' hi => ?_⟩
   simp only [CV, Option.getD]
   refine ⟨trivial, p5, t5.mono (fun b hb2 => ⟨hi b hb2, same b (hp b hb2) (fun e => hb.1 (e ▸ hb2))⟩) _ _ _ _ _ (fun b hb2 => same b (lt b (by simp [hb2])).2 (fun e => hnb (e ▸ by simp [hb2])))⟩
  | some y =>
   obtain ⟨q, tq⟩ := ZqM (show CV _ w' (.fr ZO y) d5 T5 [] from g5)
   refine ⟨T5, .inr rfl, fun im' _ => ?_⟩
   simp only [CV, Option.getD]
   exact ⟨trivial, q, tq.noRo rfl⟩
 have m5 : ∀ k ∈ S5', (k ∈ S5 ∨ w.heap.size ≤ k) ∧ k < w'.heap.size ∧ k ≠ blk := fun k hk => by
  rcases hS5 with e | e
  ·subst e
   have := (lt k (by simp [hk])).2
   exact ⟨.inl hk, by have := hkept.size; omega, fun e => hnb (e ▸ by simp [hk])⟩
  ·subst e
   exact ⟨.inr (hT5 k hk), (hrg k (List.mem_cons_of_mem _ hk)).2, fun e => hn5 (e ▸ hk)⟩
 have n5 : S5'.Nodup := by
  rcases hS5 with e | e
  ·subst e
   exact (List.nodup_append.1 (List.nodup_append.1 (List.nodup_append.1 hnl).2.1).2.1).1
  ·subst e; exact hnd5
 obtain ⟨a3, ar3, ad3⟩ := List.nodup_append.1 hnl
 obtain ⟨a4, ar4, ad4⟩ := List.nodup_append.1 ar3
 obtain ⟨a5, ar5, ad5⟩ := List.nodup_append.1 ar4
 have d5 : ∀ a ∈ S5', ∀ b ∈ S6 ++ S7, a ≠ b := fun a ha b hb2 => by
  rcases (m5 a ha).1 with q | q
  ·exact ad5 a q b hb2
  ·have := (lt b (List.mem_append.2 (.inr (List.mem_append.2 (.inr (List.mem_append.2 (.inr hb2))))))).2
   omega
 have d4 : ∀ a ∈ S4, ∀ b ∈ S5' ++ (S6 ++ S7), a ≠ b := fun a ha b hb2 => by
  rcases List.mem_append.1 hb2 with hb2 | hb2
  ·rcases (m5 b hb2).1 with q | q
   ·exact ad4 a ha b (List.mem_append.2 (.inl q))
   ·have := (lt a (by simp [ha])).2
    omega
  ·exact ad4 a ha b (List.mem_append.2 (.inr hb2))
 have d3 : ∀ a ∈ S3, ∀ b ∈ S4 ++ (S5' ++ (S6 ++ S7)), a ≠ b := fun a ha b hb2 => by
  rcases List.mem_append.1 hb2 with hb2 | hb2
  ·exact ad3 a ha b (List.mem_append.2 (.inl hb2))
  ·rcases List.mem_append.1 hb2 with hb2 | hb2
   ·rcases (m5 b hb2).1 with q | q
    ·exact ad3 a ha b (List.mem_append.2 (.inr (List.mem_append.2 (.inl q))))
    ·have := (lt a (by simp [ha])).2
     omega
   ·exact ad3 a ha b (List.mem_append.2 (.inr (List.mem_append.2 (.inr hb2))))
 have old : ∀ k, (k ∈ S3 ∨ k ∈ S4 ∨ k ∈ S6 ∨ k ∈ S7) → k ∈ S3 ++ (S4 ++ (S5 ++ (S6 ++ S7))) := fun k hk => by
  simp only [List.mem_append]
  rcases hk with q | q | q | q
  ·exact .inl q
  ·exact .inr (.inl q)
  ·exact .inr (.inr (.inr (.inl q)))
  ·exact .inr (.inr (.inr (.inr q)))
 have split : ∀ k, k ∈ S3 ++ (S4 ++ (S5' ++ (S6 ++ S7))) → k ∈ S5' ∨ (k ∈ S3 ∨ k ∈ S4 ∨ k ∈ S6 ∨ k ∈ S7) := fun k hk => by
  simp only [List.mem_append] at hk
  rcases hk with q | q | q | q | q
  ·exact .inr (.inl q)
  ·exact .inr (.inr (.inl q))
  ·exact .inl q
  ·exact .inr (.inr (.inr (.inl q)))
  ·exact .inr (.inr (.inr (.inr q)))
 have hnb' : blk ∉ S3 ++ (S4 ++ (S5' ++ (S6 ++ S7))) := fun hm => by
  rcases split blk hm with q | q
  ·exact (m5 blk q).2.2 rfl
  ·exact hnb (old blk q)
 have hsz := hkept.size
 have hi : ∀ b, p b → after p (blk :: (S3 ++ (S4 ++ (S5 ++ (S6 ++ S7))))) ([] ++ blk :: (S3 ++ (S4 ++ (S5' ++ (S6 ++ S7))))) w w' b := fun b hb2 => by
  have hlt := hp b hb2
  refine ⟨.inl hb2, by omega, fun hm => ?_⟩
  rcases List.mem_cons.1 hm with q | q
  ·exact hb.1 (q ▸ hb2)
  ·rcases split b q with q | q
   ·rcases (m5 b q).1 with q | q
    ·exact (lt b (by simp [q])).1 hb2
    ·omega
   ·exact (lt b (old b q)).1 hb2
 have keep : ∀ {t : Ty} {y : List t.den} {c : Value} {S : List Nat}, 0 < t.size → (∀ k ∈ S, k ∈ S3 ++ (S4 ++ (S5 ++ (S6 ++ S7)))) → TR p w true (.sl true t) y [c] S →
   CV (after p (blk :: (S3 ++ (S4 ++ (S5 ++ (S6 ++ S7))))) ([] ++ blk :: (S3 ++ (S4 ++ (S5' ++ (S6 ++ S7))))) w w') w' (.fr t y) c S [] := by
  intro t y c S hq hs ht
  simp only [CV]
  exact ⟨trivial, hq, ht.mono (fun b hb2 => ⟨hi b hb2, same b (hp b hb2) (fun e => hb.1 (e ▸ hb2))⟩) _ _ _ _ _ (fun b hb2 => same b (lt b (hs b hb2)).2 (fun e => hnb (e ▸ hs b hb2)))⟩
 refine ⟨cr, [], blk :: (S3 ++ (S4 ++ (S5' ++ (S6 ++ S7)))), he, ?_, fun k hk => ?_, ⟨hsz, fun k hk hn => hkept.same k hk (fun hm => hn (by simp only [List.mem_singleton] at hm; simp [hm])), hkept.frz⟩, kb _ _, ?_⟩
 ·exact List.nodup_cons.2 ⟨hnb', List.nodup_append.2 ⟨a3, List.nodup_append.2 ⟨a4, List.nodup_append.2 ⟨n5, ar5, d5⟩, d4⟩, d3⟩⟩
 ·rcases List.mem_cons.1 (show k ∈ blk :: (S3 ++ (S4 ++ (S5' ++ (S6 ++ S7)))) from hk) with q | q
  ·subst q
   exact ⟨.inl (List.mem_cons_self ..), by have := hb.2; omega⟩
  ·rcases split k q with q | q
   ·refine ⟨?_, (m5 k q).2.1⟩
    rcases (m5 k q).1 with q | q
    ·exact .inl (List.mem_cons_of_mem _ (by simp [q]))
    ·exact .inr q
   ·exact ⟨.inl (List.mem_cons_of_mem _ (old k q)), by have := (lt k (old k q)).2; omega⟩
 ·simp only [Outs]
  refine ⟨_, e2, S3 ++ (S4 ++ (S5' ++ (S6 ++ S7))), [], by simp, hheap', ?_, rfl⟩
  have hc := Kg (S1 := []) (k0 (after p (blk :: (S3 ++ (S4 ++ (S5 ++ (S6 ++ S7))))) ([] ++ blk :: (S3 ++ (S4 ++ (S5' ++ (S6 ++ S7))))) w w') w') (Kg (S1 := []) (k1 _ w') (Kg (S1 := []) (k2 _ w')
   (Kg (keep p3 (fun k hk => old k (.inl hk)) t3) (Kg (keep p4 (fun k hk => old k (.inr (.inl hk))) t4) (Kg (h5' _ hi)
   (Kg (keep p6 (fun k hk => old k (.inr (.inr (.inl hk)))) t6) (Kg (keep p7 (fun k hk => old k (.inr (.inr (.inr hk)))) t7) ZsC)))))))
  simp only [List.nil_append, List.append_nil] at hc
  simpa only [List.nil_append] using hc
def twF (x : Zp) (k : Int) : Option (Bool × Option (List Zz)) :=
 (ZT big k 0 (IntKind.i64.wrap ((↑(List.length x.2.2.2.2.2.1) : Int) - 1))).bind fun y => bif !y then some (false, none) else
  if 0 ≤ IntKind.i64.wrap (k + 1) then if IntKind.i64.wrap (k + 1) ≤ (↑(List.length x.2.2.2.2.2.1) : Int) then if 0 ≤ k then if k ≤ IntKind.i64.wrap (k + 1) then
  bif decide ((60 : Int) < IntKind.i64.wrap ((↑(List.length x.2.2.2.2.2.1) : Int) + (↑(List.length (twL x k)) : Int))) then some (false, none)
  else if 0 + List.length x.2.2.2.2.2.1 ≤ lim then if List.length x.2.2.2.2.2.1 + List.length (twL x k) ≤ lim then some (true, some (List.append x.2.2.2.2.2.1 (twL x k))) else none else none
  else none else none else none else none
theorem ZvL {α β : Type} {g : α → β} (c : Bool) (a : α) (y : Option α) : (bif c then some (g a) else y.map g) = (bif c then some a else y).map g := by cases c <;> rfl
theorem Zw7 {α β : Type} {g : α → β} (c : Prop) [Decidable c] (y : Option α) : (if c then y.map g else none) = (if c then y else none).map g := by split <;> rfl
theorem Zw8 (v3 v4 v5 v6 v7 : Value) (x : Zp) (k : Int) : Ziq big v3 v4 v5 v6 v7 x k = (twF x k).map fun r => (SV.val .bool r.1, [cX v3 v4 v6 v7 (Zyn v5 x r.2) x]) := by
 rw [Zn5]
 unfold twF
 cases ZT big k 0 (IntKind.i64.wrap ((↑(List.length x.2.2.2.2.2.1) : Int) - 1)) with
 | none => rfl
 | some y =>
  simp only [Option.bind_some]
  cases y with
  | false => rfl
  | true =>
   simp only [Bool.not_true, cond_false, ← Zw7, ← ZvL]
   rfl
theorem ZvM (n : Nat) (args : List SV) (r0 : Res) (hb : Hf args [] = true) (h1 : evX (false, false, []) [(67, Yy), (214, ZaO)] [] [none] Tryz.f183 shI n args = some r0) : CallOk Tryz.prog 183 args (shI.sh r0).1 (shI.sh r0).2 :=
 Zw (cons_cons Z7 (cons_cons Zlu Zh)) (by kernel_rfl) rfl (by kernel_rfl) hb n h1
theorem ZvN {x : Zp} {k : Int} {r : Bool × Option (List Zz)} (h : twF x k = some r) (v3 v4 v5 v6 v7 : Value) : CallOk Tryz.prog 183 [Zu0 v3 v4 v5 v6 v7 x, .val Zl k] (.val .bool r.1) [cX v3 v4 v6 v7 (Zyn v5 x r.2) x] := by
 have h1 := Zw8 v3 v4 v5 v6 v7 x k
 rw [h, Option.map_some] at h1
 unfold Ziq at h1
 exact ZvM big _ _ (by kernel_rfl) h1
def QW (_n : Nat) (x : AP.denL [.mu Zx, .ro Zl]) : Option (Bool × Zp × Unit) :=
 (twF x.1 x.2.1).bind fun r => some (r.1, (x.1.1, x.1.2.1, x.1.2.2.1, x.1.2.2.2.1, x.1.2.2.2.2.1, r.2.getD x.1.2.2.2.2.2.1, x.1.2.2.2.2.2.2.1, x.1.2.2.2.2.2.2.2.1, ()), ())
def OL : Con := apS [.mu Zx, .ro Zl] true (shO (shV ZD) [.mu Zx]) (QW big)
theorem ZaP : ZH Tryz.prog 183 OL := YK ⟨Tryz.f183, by kernel_rfl, rfl, by decide⟩ fun xs v h => by
 obtain ⟨x, k, u⟩ := xs
 cases u
 unfold QW at h
 obtain ⟨r, h1, h2⟩ := Option.bind_eq_some_iff.1 h
 cases h2
 have h3 := ZvK x k r.1 r.2 (ZvN h1)
 exact h3
def OM (n : Nat) (a0 : Zp) (a1 : Int) : Option (Bool × Zp × Unit) := QW n (a0, a1, ())
def FC : Ys := []
theorem Zir : Yu FC := Zh
abbrev AA : Vl := (.ro Zb :: dp 2 (.own Zkr :: dp 18 []), [])
def ZaQ : KP := [(2, AA)]
def Zf6 (n : Nat) (x : YH [Zl]) := evX (false, false, []) FC ZaQ [none] Tryz.f245 (shV Zu) n (YR [Zl] x)
def FD : Con := roS [Zl] true (shV Zu) (Zf6 big)
theorem CG : ZH Tryz.prog 245 FD := ZC ⟨Tryz.f245, by kernel_rfl, rfl, by decide⟩ fun _ _ h => Zw Zir (f := Tryz.f245) (by kernel_rfl) rfl (by kernel_rfl) (by kernel_rfl) big h
def BI (n : Nat) (a0 : Int) : Option ByteArray := Zf6 n (a0, ())
def Zlw (n : Nat) (x : KD AA.1) (y : BD AA.2) := Z9 (env (false, false, []) FC) ZaQ (body Tryz.f245) (Vm (false, false, []) FC [none] Tryz.f245 (shV Zu) [.val Zl (ZR Zl)]) n 2 AA x y
def AB (n : Nat) (s0 : Int) (s3 : (List Int)) : Option ByteArray := Zlw n (s0, s3, ()) ()
theorem Zis (n : Nat) (a0 : Int) : BI n a0 = AB n a0 [] := by kernel_rfl
theorem JI (n : Nat) (s0 : Int) (s3 : (List Int)) : AB (n + 1) s0 s3 = bif decide (127 < s0) then if s3.length + [IntKind.u8.wrap (IntKind.i64.wrap (s0.tmod 128 + 128))].length ≤ lim then AB n (IntKind.i64.wrap (s0.tdiv 128)) (s3.append [IntKind.u8.wrap (IntKind.i64.wrap (s0.tmod 128 + 128))]) else none else if s3.length + [IntKind.u8.wrap s0].length ≤ lim then some (ByteArray.mk (List.map (fun n => UInt8.ofNat n.toNat) (s3.append [IntKind.u8.wrap s0])).toArray) else none := by kernel_rfl
def Zf7 : Ys := [(245, FD)]
theorem Zit : Yu Zf7 := cons_cons CG (Zh)
def Zn7 : KP := []
def Zf8 (n : Nat) (x : YH [Zl]) := evX (false, false, []) Zf7 Zn7 [none] Tryz.f242 (shV Zu) n (YR [Zl] x)
def FE : Con := roS [Zl] true (shV Zu) (Zf8 big)
theorem CH : ZH Tryz.prog 242 FE := ZC ⟨Tryz.f242, by kernel_rfl, rfl, by decide⟩ fun _ _ h => Zw Zit (f := Tryz.f242) (by kernel_rfl) rfl (by kernel_rfl) (by kernel_rfl) big h
def XE (n : Nat) (a0 : Int) : Option ByteArray := Zf8 n (a0, ())
theorem Ziu (n : Nat) (a0 : Int) : XE n a0 = bif decide (a0 < 0) then some (ByteArray.mk (List.map (fun n => UInt8.ofNat n.toNat) [IntKind.u8.wrap 0]).toArray) else (BI big a0).bind fun y => some y := by kernel_rfl
def Zf9 : Ys := [(242, FE)]
theorem Ziv : Yu Zf9 := cons_cons CH (Zh)
def Zn8 : KP := []
def Zga (n : Nat) (x : YH [Wy]) := evX (false, false, [1, 3, 6, 10, 14]) Zf9 Zn8 [none] Tryz.f243 (shV Zu) n (YR [Wy] x)
def Zgb : Con := roS [Wy] true (shV Zu) (Zga big)
theorem Ziw : ZH Tryz.prog 243 Zgb := ZC ⟨Tryz.f243, by kernel_rfl, rfl, by decide⟩ fun _ _ h => Zw Ziv (f := Tryz.f243) (by kernel_rfl) rfl (by kernel_rfl) (by kernel_rfl) big h
def FF (n : Nat) (a0 : B6) : Option ByteArray := Zga n (a0, ())
theorem Zix (n : Nat) (a0 : B6) : FF n a0 = (XE big a0.1).bind fun y => (XE big a0.2.1).bind fun y_1 => if ByteArray.size y + ByteArray.size y_1 ≤ lim then (XE big a0.2.2.1).bind fun y_2 => if (y ++ y_1).size + ByteArray.size y_2 ≤ lim then (XE big a0.2.2.2.1).bind fun y_3 => if (y ++ y_1 ++ y_2).size + ByteArray.size y_3 ≤ lim then some (y ++ y_1 ++ y_2 ++ y_3) else none else none else none := by kernel_rfl
def ON : Ys := [(242, FE)]
theorem ZaR : Yu ON := cons_cons CH (Zh)
def Ziy : KP := []
def OO (n : Nat) (x : YH [Z5]) := evX (false, false, [1, 3, 6, 10, 14]) ON Ziy [none] Tryz.f244 (shV Zu) n (YR [Z5] x)
def OP : Con := roS [Z5] true (shV Zu) (OO big)
theorem ZaS : ZH Tryz.prog 244 OP := ZC ⟨Tryz.f244, by kernel_rfl, rfl, by decide⟩ fun _ _ h => Zw ZaR (f := Tryz.f244) (by kernel_rfl) rfl (by kernel_rfl) (by kernel_rfl) big h
def Ep (n : Nat) (a0 : Z4) : Option ByteArray := OO n (a0, ())
theorem ZaT (n : Nat) (a0 : Z4) : Ep n a0 = (XE big a0.1).bind fun y => (XE big a0.2.1).bind fun y_1 => if ByteArray.size y + ByteArray.size y_1 ≤ lim then (XE big a0.2.2.1).bind fun y_2 => if (y ++ y_1).size + ByteArray.size y_2 ≤ lim then (XE big a0.2.2.2.1).bind fun y_3 => if (y ++ y_1 ++ y_2).size + ByteArray.size y_3 ≤ lim then some (y ++ y_1 ++ y_2 ++ y_3) else none else none else none := by kernel_rfl
def Qm : Ys := []
theorem Zd9 : Yu Qm := Zh
abbrev KQ : Vl := (.ro X9 :: .ro Zu :: dp 3 (.ro Zb :: dp 27 []), [])
abbrev KR : Vl := (.ro X9 :: .ro Zu :: dp 3 (.ro Zb :: .ro Zb :: dp 26 []), [])
def Er : KP := [(2, KQ), (6, KR)]
def ZaU (n : Nat) (x : YH [X9, Zu]) := evX (false, false, []) Qm Er [none] Tryz.f259 (shV X9) n (YR [X9, Zu] x)
def ZaV : Con := roS [X9, Zu] true (shV X9) (ZaU big)
theorem Zea : ZH Tryz.prog 259 ZaV := ZC ⟨Tryz.f259, by kernel_rfl, rfl, by decide⟩ fun _ _ h => Zw Zd9 (f := Tryz.f259) (by kernel_rfl) rfl (by kernel_rfl) (by kernel_rfl) big h
def ZaW (n : Nat) (a0 : Int) (a1 : ByteArray) : Option Int := ZaU n (a0, a1, ())
def Ziz (n : Nat) (x : KD KQ.1) (y : BD KQ.2) := Z9 (env (false, false, []) Qm) Er (body Tryz.f259) (Vm (false, false, []) Qm [none] Tryz.f259 (shV X9) [.val X9 (ZR X9), .val Zu (ZR Zu)]) n 2 KQ x y
def UE (n : Nat) (s0 : Int) (s1 : ByteArray) (s5 : Int) : Option Int := Ziz n (s0, s1, s5, ()) ()
def ZiA (n : Nat) (x : KD KR.1) (y : BD KR.2) := Z9 (env (false, false, []) Qm) Er (body Tryz.f259) (Vm (false, false, []) Qm [none] Tryz.f259 (shV X9) [.val X9 (ZR X9), .val Zu (ZR Zu)]) n 6 KR x y
def UF (n : Nat) (s0 : Int) (s1 : ByteArray) (s5 s6 : Int) : Option Int := ZiA n (s0, s1, s5, s6, ()) ()
theorem Zeb (n : Nat) (a0 : Int) (a1 : ByteArray) : ZaW n a0 a1 = UE n a0 a1 0 := by kernel_rfl
theorem De (n : Nat) (s0 : Int) (s1 : ByteArray) (s5 : Int) : UE (n + 1) s0 s1 s5 = bif decide (s5 < (↑s1.size : Int)) then if 0 ≤ s5 then (nth s1.data.toList s5.toNat).bind fun y => UF n (IntKind.u32.wrap (↑(BitVec.ofInt IntKind.u32.bits s0 ^^^ BitVec.ofInt IntKind.u32.bits (IntKind.u32.wrap (↑y.toNat : Int))).toNat : Int)) s1 s5 0 else none else some s0 := by kernel_rfl
theorem Df (n : Nat) (s0 : Int) (s1 : ByteArray) (s5 s6 : Int) : UF (n + 1) s0 s1 s5 s6 = bif decide (s6 < 8) then bif decide (s0.tmod 2 = 1) then UF n (IntKind.u32.wrap (↑(BitVec.ofInt IntKind.u32.bits (IntKind.u32.wrap (s0.tdiv 2)) ^^^ BitVec.ofInt IntKind.u32.bits 3558460437).toNat : Int)) s1 s5 (IntKind.i64.wrap (s6 + 1)) else UF n (IntKind.u32.wrap (s0.tdiv 2)) s1 s5 (IntKind.i64.wrap (s6 + 1)) else UE n s0 s1 (IntKind.i64.wrap (s5 + 1)) := by kernel_rfl
def Zlx : Ys := [(259, ZaV)]
theorem Zly : Yu Zlx := cons_cons Zea (Zh)
def ZqN : KP := []
def Zlz (n : Nat) (x : YH [Zu]) := evX (false, false, []) Zlx ZqN [none] Tryz.f255 (shV X9) n (YR [Zu] x)
def ZaX : Con := roS [Zu] true (shV X9) (Zlz big)
theorem OQ : ZH Tryz.prog 255 ZaX := ZC ⟨Tryz.f255, by kernel_rfl, rfl, by decide⟩ fun _ _ h => Zw Zly (f := Tryz.f255) (by kernel_rfl) rfl (by kernel_rfl) (by kernel_rfl) big h
def Lm (n : Nat) (a0 : ByteArray) : Option Int := Zlz n (a0, ())
theorem ZlA (n : Nat) (a0 : ByteArray) : Lm n a0 = (ZaW big 4294967295 a0).bind fun y => some y := by kernel_rfl
def ZaY : Ys := []
theorem Zec : Yu ZaY := Zh
def ZlB : KP := []
def Zn9 (n : Nat) (x : YH [X9]) := evX (false, false, []) ZaY ZlB [none] Tryz.f254 (shV Zu) n (YR [X9] x)
def HC : Con := roS [X9] true (shV Zu) (Zn9 big)
theorem GC : ZH Tryz.prog 254 HC := ZC ⟨Tryz.f254, by kernel_rfl, rfl, by decide⟩ fun _ _ h => Zw Zec (f := Tryz.f254) (by kernel_rfl) rfl (by kernel_rfl) (by kernel_rfl) big h
def Zgc : Ys := [(255, ZaX), (254, HC)]
theorem ZiB : Yu Zgc := cons_cons OQ (cons_cons GC (Zh))
def Zoa : KP := []
def Zgd (n : Nat) (x : YH [Zu]) := evX (false, false, []) Zgc Zoa [none, none] Tryz.f246 (shT [(false, Zu), (false, ZD)]) n (YR [Zu] x)
def Zge : Con := roS [Zu] true (shT [(false, Zu), (false, ZD)]) (Zgd big)
theorem ZiC : ZH Tryz.prog 246 Zge := ZC ⟨Tryz.f246, by kernel_rfl, rfl, by decide⟩ fun _ _ h => Zw ZiB (f := Tryz.f246) (by kernel_rfl) rfl (by kernel_rfl) (by kernel_rfl) big h
def M9 (n : Nat) (a0 : ByteArray) : Option (ByteArray × Bool × Unit) := Zgd n (a0, ())
theorem ZiD (n : Nat) (a0 : ByteArray) : M9 n a0 = bif decide (20000 < (↑a0.size : Int)) then some (ByteArray.mk #[], false, ()) else (Lm big a0).bind fun y => if a0.size + (ByteArray.mk (List.map (fun n => UInt8.ofNat n.toNat) [IntKind.u8.wrap (Int.fdiv y (2 ^ min (Int.toNat 24) IntKind.u32.bits)), IntKind.u8.wrap (Int.fdiv y (2 ^ min (Int.toNat 16) IntKind.u32.bits)), IntKind.u8.wrap (Int.fdiv y (2 ^ min (Int.toNat 8) IntKind.u32.bits)), IntKind.u8.wrap y]).toArray).size ≤ lim then some (a0 ++ ByteArray.mk (List.map (fun n => UInt8.ofNat n.toNat) [IntKind.u8.wrap (Int.fdiv y (2 ^ min (Int.toNat 24) IntKind.u32.bits)), IntKind.u8.wrap (Int.fdiv y (2 ^ min (Int.toNat 16) IntKind.u32.bits)), IntKind.u8.wrap (Int.fdiv y (2 ^ min (Int.toNat 8) IntKind.u32.bits)), IntKind.u8.wrap y]).toArray, true, ()) else none := by kernel_rfl
def OR : Ys := [(255, ZaX), (254, HC)]
theorem ZaZ : Yu OR := cons_cons OQ (cons_cons GC (Zh))
def ZiE : KP := []
def OS (n : Nat) (x : YH [Zu]) := evX (false, false, []) OR ZiE [none, none] Tryz.f238 (shT [(false, Zu), (false, ZD)]) n (YR [Zu] x)
def OT : Con := roS [Zu] true (shT [(false, Zu), (false, ZD)]) (OS big)
theorem Za0 : ZH Tryz.prog 238 OT := ZC ⟨Tryz.f238, by kernel_rfl, rfl, by decide⟩ fun _ _ h => Zw ZaZ (f := Tryz.f238) (by kernel_rfl) rfl (by kernel_rfl) (by kernel_rfl) big h
def Es (n : Nat) (a0 : ByteArray) : Option (ByteArray × Bool × Unit) := OS n (a0, ())
theorem Za1 (n : Nat) (a0 : ByteArray) : Es n a0 = bif decide (IntKind.i64.wrap ((↑a0.size : Int) - 4) < 0) then some (ByteArray.mk #[], false, ()) else bif decide (20000 < IntKind.i64.wrap ((↑a0.size : Int) - 4)) then some (ByteArray.mk #[], false, ()) else if 0 ≤ IntKind.i64.wrap ((↑a0.size : Int) - 4) then if IntKind.i64.wrap ((↑a0.size : Int) - 4) ≤ (↑a0.size : Int) then if 0 ≤ IntKind.i64.wrap ((↑a0.size : Int) - 4) then if IntKind.i64.wrap ((↑a0.size : Int) - 4) ≤ (↑a0.size : Int) then (Lm big (a0.extract (0 : Nat) (IntKind.i64.wrap ((↑a0.size : Int) - 4)).toNat)).bind fun y => bif !decide (a0.extract (IntKind.i64.wrap ((↑a0.size : Int) - 4)).toNat a0.size = ByteArray.mk (List.map (fun n => UInt8.ofNat n.toNat) [IntKind.u8.wrap (Int.fdiv y (2 ^ min (Int.toNat 24) IntKind.u32.bits)), IntKind.u8.wrap (Int.fdiv y (2 ^ min (Int.toNat 16) IntKind.u32.bits)), IntKind.u8.wrap (Int.fdiv y (2 ^ min (Int.toNat 8) IntKind.u32.bits)), IntKind.u8.wrap y]).toArray) then some (ByteArray.mk #[], false, ()) else if 0 ≤ IntKind.i64.wrap ((↑a0.size : Int) - 4) then if IntKind.i64.wrap ((↑a0.size : Int) - 4) ≤ (↑a0.size : Int) then some (a0.extract (0 : Nat) (IntKind.i64.wrap ((↑a0.size : Int) - 4)).toNat, true, ()) else none else none else none else none else none else none := by kernel_rfl
def AC : Ys := [(242, FE), (243, Zgb), (244, OP), (245, FD), (246, Zge)]
theorem Za2 : Yu AC := cons_cons CH (cons_cons Ziw (cons_cons ZaS (cons_cons CG (cons_cons ZiC (Zh)))))
abbrev QD : Vl := (.drop :: .is (.ptr 0 0) :: .drop :: .ro Zu :: .ro Zb :: dp 47 [], [.vars [.ro Zb, .ro Zb, .ro Zb, .ro Zb, .ro Zb, .ro Zb, .ro Zb, .ro Zb, .ro Zb, .ro Zb, .ro Zb, .ro Zb, .ro Zb, .ro Zb, .ro Yx, .ro Zm, .ro Yx, .ro Yl, .ro ZS, .ro ZN, .ro Zb]])
def Lo : KP := [(3, QD)]
def OU (n : Nat) (x : YH [ZQ]) := evX (false, false, [1, 7, 10, 14, 18, 22, 26, 32, 39]) AC Lo [none] Tryz.f220 (shV Zu) n (YR [ZQ] x)
def Et : Con := roS [ZQ] true (shV Zu) (OU big)
theorem Eu : ZH Tryz.prog 220 Et := ZC ⟨Tryz.f220, by kernel_rfl, rfl, by decide⟩ fun _ _ h => Zw Za2 (f := Tryz.f220) (by kernel_rfl) rfl (by kernel_rfl) (by kernel_rfl) big h
def QX (n : Nat) (a0 : Zo) : Option ByteArray := OU n (a0, ())
def Zed (n : Nat) (x : KD QD.1) (y : BD QD.2) := Z9 (env (false, false, [1, 7, 10, 14, 18, 22, 26, 32, 39]) AC) Lo (body Tryz.f220) (Vm (false, false, [1, 7, 10, 14, 18, 22, 26, 32, 39]) AC [none] Tryz.f220 (shV Zu) [.val ZQ (ZR ZQ)]) n 3 QD x y
def QE (n : Nat) (s3 : ByteArray) (s4 b0_0 : Int) (b0_1 b0_2 : Int) (b0_3 b0_4 : Int) (b0_5 b0_6 : Int) (b0_7 b0_8 : Int) (b0_9 b0_10 : Int) (b0_11 b0_12 b0_13 : Int) (b0_14 : Yt) (b0_15 : Zq) (b0_16 : Yt) (b0_17 : YB) (b0_18 : Yq) (b0_19 : ZX) (b0_20 : Int) : Option ByteArray := Zed n (s3, s4, ()) ((b0_0, b0_1, b0_2, b0_3, b0_4, b0_5, b0_6, b0_7, b0_8, b0_9, b0_10, b0_11, b0_12, b0_13, b0_14, b0_15, b0_16, b0_17, b0_18, b0_19, b0_20, ()), ())
theorem Za3 (n : Nat) (a0 : Zo) : QX n a0 = (XE big a0.1).bind fun y => (XE big a0.2.1).bind fun y_1 => if ByteArray.size y + ByteArray.size y_1 ≤ lim then (FF big a0.2.2.1).bind fun y_2 => if (y ++ y_1).size + ByteArray.size y_2 ≤ lim then (FF big a0.2.2.2.1).bind fun y_3 => if (y ++ y_1 ++ y_2).size + ByteArray.size y_3 ≤ lim then (Ep big a0.2.2.2.2.1).bind fun y_4 => if (y ++ y_1 ++ y_2 ++ y_3).size + ByteArray.size y_4 ≤ lim then (BI big (↑(List.length a0.2.2.2.2.2.1) : Int)).bind fun y_5 => if (y ++ y_1 ++ y_2 ++ y_3 ++ y_4).size + ByteArray.size y_5 ≤ lim then QE n (y ++ y_1 ++ y_2 ++ y_3 ++ y_4 ++ y_5) 0 a0.1 a0.2.1 a0.2.2.1.1 a0.2.2.1.2.1 a0.2.2.1.2.2.1 a0.2.2.1.2.2.2.1 a0.2.2.2.1.1 a0.2.2.2.1.2.1 a0.2.2.2.1.2.2.1 a0.2.2.2.1.2.2.2.1 a0.2.2.2.2.1.1 a0.2.2.2.2.1.2.1 a0.2.2.2.2.1.2.2.1 a0.2.2.2.2.1.2.2.2.1 a0.2.2.2.2.2.1 a0.2.2.2.2.2.2.1 a0.2.2.2.2.2.2.2.1 a0.2.2.2.2.2.2.2.2.1 a0.2.2.2.2.2.2.2.2.2.1 a0.2.2.2.2.2.2.2.2.2.2.1 a0.2.2.2.2.2.2.2.2.2.2.2.1 else none else none else none else none else none := by kernel_rfl
theorem BJ (n : Nat) (s3 : ByteArray) (s4 b0_0 : Int) (b0_1 b0_2 : Int) (b0_3 b0_4 : Int) (b0_5 b0_6 : Int) (b0_7 b0_8 : Int) (b0_9 b0_10 : Int) (b0_11 b0_12 b0_13 : Int) (b0_14 : Yt) (b0_15 : Zq) (b0_16 : Yt) (b0_17 : YB) (b0_18 : Yq) (b0_19 : ZX) (b0_20 : Int) : QE (n + 1) s3 s4 b0_0 b0_1 b0_2 b0_3 b0_4 b0_5 b0_6 b0_7 b0_8 b0_9 b0_10 b0_11 b0_12 b0_13 b0_14 b0_15 b0_16 b0_17 b0_18 b0_19 b0_20 = bif decide (s4 < (↑(List.length b0_14) : Int)) then if 0 ≤ s4 then (nth b0_14 s4.toNat).bind fun y => (XE big y).bind fun y => if s3.size + ByteArray.size y ≤ lim then QE n (s3 ++ y) (IntKind.i64.wrap (s4 + 1)) b0_0 b0_1 b0_2 b0_3 b0_4 b0_5 b0_6 b0_7 b0_8 b0_9 b0_10 b0_11 b0_12 b0_13 b0_14 b0_15 b0_16 b0_17 b0_18 b0_19 b0_20 else none else none else (M9 big s3).bind fun y => some y.1 := by kernel_rfl
end
end Go.Sx.Tryz
