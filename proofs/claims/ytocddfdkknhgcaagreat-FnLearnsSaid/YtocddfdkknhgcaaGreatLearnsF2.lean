/- The functions of the seat: what each comes to. -/
import Derived.Test.YtocddfdkknhgcaaGreatTypes
import Derived.Test.YtocddfdkknhgcaaGreatLearnsF1
set_option linter.unusedVariables false
set_option linter.unusedSimpArgs false
set_option maxRecDepth 100000
namespace Go.Sx.Tryz
open Go Go.Sx Go.Proofs
noncomputable section
def Al : Yq := [(151, ZfG), (145, ZhR)]
theorem TF : Yr Al := cons_cons ZhU (cons_cons TA (Zh))
abbrev QA : Vz := (.drop :: .ro Yg :: dp 4 (.own Zo :: .own ZF :: .ro Zb :: dp 31 []), [])
def IR : KP := [(4, QA)]
def NW (n : Nat) (x : YG [Zm, Yg]) := evX (false, false, []) Al IR [some ZE, some Wm] Tryz.f90 (shT [(true, ZE), (true, Wm)]) n (YP [Zm, Yg] x)
def NX : Con := roS [Zm, Yg] true (shT [(true, ZE), (true, Wm)]) (NW big)
theorem TG : ZJ Tryz.prog 90 NX := ZD ⟨Tryz.f90, by kernel_rfl, rfl, by decide⟩ fun _ _ h => Zw TF (f := Tryz.f90) (by kernel_rfl) rfl (by kernel_rfl) (by kernel_rfl) big h
def Am (n : Nat) (a0 : Zq) (a1 : YS) : Option (Zq × YA × Unit) := NW n (a0, a1, ())
def Zdv (n : Nat) (x : KD QA.1) (y : BD QA.2) := Z6 (env (false, false, []) Al) IR (body Tryz.f90) (Vn (false, false, []) Al [some ZE, some Wm] Tryz.f90 (shT [(true, ZE), (true, Wm)]) [.val Zm (ZR Zm), .val Yg (ZR Yg)]) n 4 QA x y
def Vu (n : Nat) (s1 : YS) (s6 : (List Zf)) (s7 : (List Zs)) (s8 : Int) : Option (Zq × YA × Unit) := Zdv n (s1, s6, s7, s8, ()) ()
theorem D7 (n : Nat) (a0 : Zq) (a1 : YS) : Am n a0 a1 = if (0 : Nat) + List.length a0 ≤ lim then Vu n a1 a0 [] 0 else none := by kernel_rfl
theorem Vd (n : Nat) (s1 : YS) (s6 : (List Zf)) (s7 : (List Zs)) (s8 : Int) : Vu (n + 1) s1 s6 s7 s8 = bif decide (s8 < (↑(List.length s1) : Int)) then if 0 ≤ s8 then (nth s1 s8.toNat).bind fun y => (Fn big s6 y.2.1).bind fun y => if s7.length + [y].length ≤ lim then if 0 ≤ s8 then (nth s1 s8.toNat).bind fun y_1 => (IL big s6 y_1).bind fun y_2 => Vu n s1 y_2.1 (s7.append [y]) (IntKind.i64.wrap (s8 + 1)) else none else none else none else some (s6, s7, ()) := by kernel_rfl
def TH : Yq := [(27, IQ)]
theorem Zdw : Yr TH := cons_cons Po (Zh)
def Zk1 : KP := []
def TJ (n : Nat) (x : AP.denL [.mu ZI]) := evX (false, false, [2, 3, 4, 5, 7, 8, 9, 12, 14, 16, 18, 20]) TH Zk1 [] Tryz.f89 (shO shN [.mu ZI]) n (AP.encL [.mu ZI] x)
def Hg : Con := apS [.mu ZI] true (shO shN [.mu ZI]) (TJ big)
theorem Gf : ZJ Tryz.prog 89 Hg := YU ⟨Tryz.f89, by kernel_rfl, rfl, by decide⟩ fun _ _ h => Zw Zdw (f := Tryz.f89) (by kernel_rfl) rfl (by kernel_rfl) (by kernel_rfl) big h
def JE (n : Nat) (a0 : Zn) : Option (Unit × Zn × Unit) := TJ n (a0, ())
theorem Gg (n : Nat) (a0 : Zn) : JE n a0 = (KO big a0.2.2.2.2.2.2.1 a0.2.2.2.2.2.2.2.2.1).bind fun y => some ((), (a0.1, a0.2.1, a0.2.2.1, a0.2.2.2.1, a0.2.2.2.2.1, a0.2.2.2.2.2.1, y, [], [], a0.2.2.2.2.2.2.2.2.2), ()) := by kernel_rfl
def Ct : Yq := [(68, Xr), (88, Ha), (31, Cm), (89, Hg), (30, DZ), (82, Hf)]
theorem Zdx : Yr Ct := cons_cons YT (cons_cons F8 (cons_cons A7 (cons_cons Gf (cons_cons D0 (cons_cons Gc (Zh))))))
abbrev KQ : Vz := (.ro Ze :: dp 5 (.is (.ptr 1 0) :: .is (.ptr 8 0) :: .is (.own 15 0) :: .ro Zb :: dp 46 []), [.drop, .vars [.ro Zb, .ro Zb, .ro Zb, .ro Zb, .ro Zb, .ro Zb, .ro Zb, .ro Zb, .ro Zb, .ro Zb, .ro Zb, .ro Zb, .ro Zb, .ro Zb, .own Zk, .own Z9, .own Zk, .own YJ, .own Z4, .own ZP, .ro Zb], .drop, .drop, .drop, .drop, .drop, .drop, .vars [.ro Zb, .ro Zb, .ro Zb, .ro Zb, .ro Zb, .ro Zb, .ro Zb, .ro Zb, .ro Zb, .ro Zb, .ro Zb, .ro Zb, .ro Zb, .ro Zb, .own Zb, .own Zo, .own Zb, .own ZF, .own Zt, .own Zj, .ro Zb], .drop, .drop, .drop, .drop, .drop, .drop, .arr Zb])
def NY : KP := [(7, KQ)]
def TL (n : Nat) (x : YG [Ze, ZQ, Zk]) := evX (false, false, [4, 7, 31, 41]) Ct NY [some ZI] Tryz.f40 (shF ZI) n (YP [Ze, ZQ, Zk] x)
def Hh : Con := roS [Ze, ZQ, Zk] true (shF ZI) (TL big)
theorem Gh : ZJ Tryz.prog 40 Hh := ZD ⟨Tryz.f40, by kernel_rfl, rfl, by decide⟩ fun _ _ h => Zw Zdx (f := Tryz.f40) (by kernel_rfl) rfl (by kernel_rfl) (by kernel_rfl) big h
def JF (n : Nat) (a0 : Zi) (a1 : Zn) (a2 : Int) : Option Zn := TL n (a0, a1, a2, ())
def ZhX (n : Nat) (x : KD KQ.1) (y : BD KQ.2) := Z6 (env (false, false, [4, 7, 31, 41]) Ct) NY (body Tryz.f40) (Vn (false, false, [4, 7, 31, 41]) Ct [some ZI] Tryz.f40 (shF ZI) [.val Ze (ZR Ze), .val ZQ (ZR ZQ), .val Zk (ZR Zk)]) n 7 KQ x y
def UD (n : Nat) (s0 : Zi) (s9 b1_0 : Int) (b1_1 b1_2 : Int) (b1_3 b1_4 : Int) (b1_5 b1_6 : Int) (b1_7 b1_8 : Int) (b1_9 b1_10 : Int) (b1_11 b1_12 b1_13 : Int) (b1_14 : (List Int)) (b1_15 : (List ZL)) (b1_16 : (List Int)) (b1_17 : (List Yd)) (b1_18 : (List Z3)) (b1_19 : (List Zy)) (b1_20 b8_0 : Int) (b8_1 b8_2 : Int) (b8_3 b8_4 : Int) (b8_5 b8_6 : Int) (b8_7 b8_8 : Int) (b8_9 b8_10 : Int) (b8_11 b8_12 b8_13 : Int) (b8_14 : (List Int)) (b8_15 : (List Zf)) (b8_16 : (List Int)) (b8_17 : (List Zs)) (b8_18 : (List Zg)) (b8_19 : (List Zc)) (b8_20 : Int) (b15 : (List Int)) : Option Zn := ZhX n (s0, s9, ()) ((b1_0, b1_1, b1_2, b1_3, b1_4, b1_5, b1_6, b1_7, b1_8, b1_9, b1_10, b1_11, b1_12, b1_13, b1_14, b1_15, b1_16, b1_17, b1_18, b1_19, b1_20, ()), (b8_0, b8_1, b8_2, b8_3, b8_4, b8_5, b8_6, b8_7, b8_8, b8_9, b8_10, b8_11, b8_12, b8_13, b8_14, b8_15, b8_16, b8_17, b8_18, b8_19, b8_20, ()), b15, ())
theorem Gi (n : Nat) (a0 : Zi) (a1 : Zn) (a2 : Int) : JF n a0 a1 a2 = (YW big a1).bind fun y => (Qn big a1).bind fun y_1 => (Ql big a0 a2 y_1).bind fun y_2 => bif !y_2 then some y else (JE big y).bind fun y => (Qn big a1).bind fun y_3 => (QX big a0 a2 y_3).bind fun y_4 => UD n a0 0 0 0 0 0 0 0 0 0 0 0 0 0 0 0 [] [] [] [] [] [] 0 y.2.1.1 y.2.1.2.1 y.2.1.2.2.1.1 y.2.1.2.2.1.2.1 y.2.1.2.2.1.2.2.1 y.2.1.2.2.1.2.2.2.1 y.2.1.2.2.2.1.1 y.2.1.2.2.2.1.2.1 y.2.1.2.2.2.1.2.2.1 y.2.1.2.2.2.1.2.2.2.1 y.2.1.2.2.2.2.1.1 y.2.1.2.2.2.2.1.2.1 y.2.1.2.2.2.2.1.2.2.1 y.2.1.2.2.2.2.1.2.2.2.1 y.2.1.2.2.2.2.2.1 y.2.1.2.2.2.2.2.2.1 y.2.1.2.2.2.2.2.2.2.1 y.2.1.2.2.2.2.2.2.2.2.1 y.2.1.2.2.2.2.2.2.2.2.2.1 y.2.1.2.2.2.2.2.2.2.2.2.2.1 y.2.1.2.2.2.2.2.2.2.2.2.2.2.1 y_4 := by kernel_rfl
theorem VE (n : Nat) (s0 : Zi) (s9 b1_0 : Int) (b1_1 b1_2 : Int) (b1_3 b1_4 : Int) (b1_5 b1_6 : Int) (b1_7 b1_8 : Int) (b1_9 b1_10 : Int) (b1_11 b1_12 b1_13 : Int) (b1_14 : (List Int)) (b1_15 : (List ZL)) (b1_16 : (List Int)) (b1_17 : (List Yd)) (b1_18 : (List Z3)) (b1_19 : (List Zy)) (b1_20 b8_0 : Int) (b8_1 b8_2 : Int) (b8_3 b8_4 : Int) (b8_5 b8_6 : Int) (b8_7 b8_8 : Int) (b8_9 b8_10 : Int) (b8_11 b8_12 b8_13 : Int) (b8_14 : (List Int)) (b8_15 : (List Zf)) (b8_16 : (List Int)) (b8_17 : (List Zs)) (b8_18 : (List Zg)) (b8_19 : (List Zc)) (b8_20 : Int) (b15 : (List Int)) : UD (n + 1) s0 s9 b1_0 b1_1 b1_2 b1_3 b1_4 b1_5 b1_6 b1_7 b1_8 b1_9 b1_10 b1_11 b1_12 b1_13 b1_14 b1_15 b1_16 b1_17 b1_18 b1_19 b1_20 b8_0 b8_1 b8_2 b8_3 b8_4 b8_5 b8_6 b8_7 b8_8 b8_9 b8_10 b8_11 b8_12 b8_13 b8_14 b8_15 b8_16 b8_17 b8_18 b8_19 b8_20 b15 = bif decide (s9 < (↑b15.length : Int)) then if 0 ≤ s9 then if s9 < (↑b15.length : Int) then (nth b15 s9.toNat).bind fun y => if b8_14.length + [y].length ≤ lim then if 0 ≤ s9 then if s9 < (↑b15.length : Int) then (nth b15 s9.toNat).bind fun y_1 => if 0 ≤ y_1 then (nth s0 (Int.toNat y_1)).bind fun y_2 => (JD big b8_15 y_2.2.2.1).bind fun y_3 => UD n s0 (IntKind.i64.wrap (s9 + 1)) b1_0 b1_1 b1_2 b1_3 b1_4 b1_5 b1_6 b1_7 b1_8 b1_9 b1_10 b1_11 b1_12 b1_13 b1_14 b1_15 b1_16 b1_17 b1_18 b1_19 b1_20 b8_0 b8_1 b8_2 b8_3 b8_4 b8_5 b8_6 b8_7 b8_8 b8_9 b8_10 b8_11 b8_12 b8_13 (b8_14.append [y]) y_3.1 b8_16 b8_17 b8_18 b8_19 b8_20 b15 else none else none else none else none else none else none else some (b8_0, b8_1, (b8_2, b8_3, b8_4, b8_5, ()), (b8_6, b8_7, b8_8, b8_9, ()), (b8_10, b8_11, b8_12, b8_13, ()), b8_14, b8_15, b8_16, b8_17, b8_18, b8_19, b8_20, ()) := by kernel_rfl
def An : Yq := [(68, Xr), (89, Hg), (88, Ha), (30, DZ), (90, NX)]
theorem TM : Yr An := cons_cons YT (cons_cons Gf (cons_cons F8 (cons_cons D0 (cons_cons TG (Zh)))))
abbrev QB : Vz := (.ro Ze :: dp 5 (.is (.ptr 1 0) :: .is (.ptr 8 0) :: .is (.own 15 0) :: .ro Zb :: dp 47 []), [.drop, .vars [.ro Zb, .ro Zb, .ro Zb, .ro Zb, .ro Zb, .ro Zb, .ro Zb, .ro Zb, .ro Zb, .ro Zb, .ro Zb, .ro Zb, .ro Zb, .ro Zb, .own Zk, .own Z9, .own Zk, .own YJ, .own Z4, .own ZP, .ro Zb], .drop, .drop, .drop, .drop, .drop, .drop, .vars [.ro Zb, .ro Zb, .ro Zb, .ro Zb, .ro Zb, .ro Zb, .ro Zb, .ro Zb, .ro Zb, .ro Zb, .ro Zb, .ro Zb, .ro Zb, .ro Zb, .own Zb, .own Zo, .own Zb, .own ZF, .own Zt, .own Zj, .ro Zb], .drop, .drop, .drop, .drop, .drop, .drop, .arr Zb])
def IS : KP := [(5, QB)]
def NZ (n : Nat) (x : YG [Ze, ZQ, Zk]) := evX (false, false, [4, 7, 27, 42, 51]) An IS [some ZI] Tryz.f41 (shF ZI) n (YP [Ze, ZQ, Zk] x)
def N0 : Con := roS [Ze, ZQ, Zk] true (shF ZI) (NZ big)
theorem TN : ZJ Tryz.prog 41 N0 := ZD ⟨Tryz.f41, by kernel_rfl, rfl, by decide⟩ fun _ _ h => Zw TM (f := Tryz.f41) (by kernel_rfl) rfl (by kernel_rfl) (by kernel_rfl) big h
def QZ (n : Nat) (a0 : Zi) (a1 : Zn) (a2 : Int) : Option Zn := NZ n (a0, a1, a2, ())
def Zdy (n : Nat) (x : KD QB.1) (y : BD QB.2) := Z6 (env (false, false, [4, 7, 27, 42, 51]) An) IS (body Tryz.f41) (Vn (false, false, [4, 7, 27, 42, 51]) An [some ZI] Tryz.f41 (shF ZI) [.val Ze (ZR Ze), .val ZQ (ZR ZQ), .val Zk (ZR Zk)]) n 5 QB x y
def Vv (n : Nat) (s0 : Zi) (s9 b1_0 : Int) (b1_1 b1_2 : Int) (b1_3 b1_4 : Int) (b1_5 b1_6 : Int) (b1_7 b1_8 : Int) (b1_9 b1_10 : Int) (b1_11 b1_12 b1_13 : Int) (b1_14 : (List Int)) (b1_15 : (List ZL)) (b1_16 : (List Int)) (b1_17 : (List Yd)) (b1_18 : (List Z3)) (b1_19 : (List Zy)) (b1_20 b8_0 : Int) (b8_1 b8_2 : Int) (b8_3 b8_4 : Int) (b8_5 b8_6 : Int) (b8_7 b8_8 : Int) (b8_9 b8_10 : Int) (b8_11 b8_12 b8_13 : Int) (b8_14 : (List Int)) (b8_15 : (List Zf)) (b8_16 : (List Int)) (b8_17 : (List Zs)) (b8_18 : (List Zg)) (b8_19 : (List Zc)) (b8_20 : Int) (b15 : (List Int)) : Option Zn := Zdy n (s0, s9, ()) ((b1_0, b1_1, b1_2, b1_3, b1_4, b1_5, b1_6, b1_7, b1_8, b1_9, b1_10, b1_11, b1_12, b1_13, b1_14, b1_15, b1_16, b1_17, b1_18, b1_19, b1_20, ()), (b8_0, b8_1, b8_2, b8_3, b8_4, b8_5, b8_6, b8_7, b8_8, b8_9, b8_10, b8_11, b8_12, b8_13, b8_14, b8_15, b8_16, b8_17, b8_18, b8_19, b8_20, ()), b15, ())
theorem D8 (n : Nat) (a0 : Zi) (a1 : Zn) (a2 : Int) : QZ n a0 a1 a2 = (YW big a1).bind fun y => (JE big y).bind fun y => (Qn big a1).bind fun y_1 => (QX big a0 a2 y_1).bind fun y_2 => Vv n a0 0 0 0 0 0 0 0 0 0 0 0 0 0 0 0 [] [] [] [] [] [] 0 y.2.1.1 y.2.1.2.1 y.2.1.2.2.1.1 y.2.1.2.2.1.2.1 y.2.1.2.2.1.2.2.1 y.2.1.2.2.1.2.2.2.1 y.2.1.2.2.2.1.1 y.2.1.2.2.2.1.2.1 y.2.1.2.2.2.1.2.2.1 y.2.1.2.2.2.1.2.2.2.1 y.2.1.2.2.2.2.1.1 y.2.1.2.2.2.2.1.2.1 y.2.1.2.2.2.2.1.2.2.1 y.2.1.2.2.2.2.1.2.2.2.1 y.2.1.2.2.2.2.2.1 y.2.1.2.2.2.2.2.2.1 y.2.1.2.2.2.2.2.2.2.1 y.2.1.2.2.2.2.2.2.2.2.1 y.2.1.2.2.2.2.2.2.2.2.2.1 y.2.1.2.2.2.2.2.2.2.2.2.2.1 y.2.1.2.2.2.2.2.2.2.2.2.2.2.1 y_2 := by kernel_rfl
theorem Ve (n : Nat) (s0 : Zi) (s9 b1_0 : Int) (b1_1 b1_2 : Int) (b1_3 b1_4 : Int) (b1_5 b1_6 : Int) (b1_7 b1_8 : Int) (b1_9 b1_10 : Int) (b1_11 b1_12 b1_13 : Int) (b1_14 : (List Int)) (b1_15 : (List ZL)) (b1_16 : (List Int)) (b1_17 : (List Yd)) (b1_18 : (List Z3)) (b1_19 : (List Zy)) (b1_20 b8_0 : Int) (b8_1 b8_2 : Int) (b8_3 b8_4 : Int) (b8_5 b8_6 : Int) (b8_7 b8_8 : Int) (b8_9 b8_10 : Int) (b8_11 b8_12 b8_13 : Int) (b8_14 : (List Int)) (b8_15 : (List Zf)) (b8_16 : (List Int)) (b8_17 : (List Zs)) (b8_18 : (List Zg)) (b8_19 : (List Zc)) (b8_20 : Int) (b15 : (List Int)) : Vv (n + 1) s0 s9 b1_0 b1_1 b1_2 b1_3 b1_4 b1_5 b1_6 b1_7 b1_8 b1_9 b1_10 b1_11 b1_12 b1_13 b1_14 b1_15 b1_16 b1_17 b1_18 b1_19 b1_20 b8_0 b8_1 b8_2 b8_3 b8_4 b8_5 b8_6 b8_7 b8_8 b8_9 b8_10 b8_11 b8_12 b8_13 b8_14 b8_15 b8_16 b8_17 b8_18 b8_19 b8_20 b15 = bif decide (s9 < (↑b15.length : Int)) then if 0 ≤ s9 then if s9 < (↑b15.length : Int) then (nth b15 s9.toNat).bind fun y => if 0 ≤ y then (nth s0 (Int.toNat y)).bind fun y => (Am big b8_15 y.2.2.1).bind fun y => if 0 ≤ s9 then if s9 < (↑b15.length : Int) then (nth b15 s9.toNat).bind fun y_1 => if b8_16.length + [y_1].length ≤ lim then if b8_17.length + List.length y.2.1 ≤ lim then Vv n s0 (IntKind.i64.wrap (s9 + 1)) b1_0 b1_1 b1_2 b1_3 b1_4 b1_5 b1_6 b1_7 b1_8 b1_9 b1_10 b1_11 b1_12 b1_13 b1_14 b1_15 b1_16 b1_17 b1_18 b1_19 b1_20 b8_0 b8_1 b8_2 b8_3 b8_4 b8_5 b8_6 b8_7 b8_8 b8_9 b8_10 b8_11 b8_12 b8_13 b8_14 y.1 (b8_16.append [y_1]) (b8_17.append y.2.1) b8_18 b8_19 b8_20 b15 else none else none else none else none else none else none else none else some (b8_0, b8_1, (b8_2, b8_3, b8_4, b8_5, ()), (b8_6, b8_7, b8_8, b8_9, ()), (b8_10, b8_11, b8_12, b8_13, ()), b8_14, b8_15, b8_16, b8_17, b8_18, b8_19, b8_20, ()) := by kernel_rfl
def Gj : Yq := [(68, Xr), (95, DV), (96, V0), (97, NM), (40, Hh), (98, G8), (41, N0)]
theorem MF : Yr Gj := cons_cons YT (cons_cons DW (cons_cons WO (cons_cons Tc (cons_cons Gh (cons_cons F1 (cons_cons TN (Zh)))))))
def TO : KP := []
def Gk (n : Nat) (x : YG [Ze, ZQ, Zk]) := evX (false, false, [4, 7, 27, 36]) Gj TO [some ZI] Tryz.f44 (shF ZI) n (YP [Ze, ZQ, Zk] x)
def Bd : Con := roS [Ze, ZQ, Zk] true (shF ZI) (Gk big)
theorem BC : ZJ Tryz.prog 44 Bd := ZD ⟨Tryz.f44, by kernel_rfl, rfl, by decide⟩ fun _ _ h => Zw MF (f := Tryz.f44) (by kernel_rfl) rfl (by kernel_rfl) (by kernel_rfl) big h
def Xi (n : Nat) (a0 : Zi) (a1 : Zn) (a2 : Int) : Option Zn := Gk n (a0, a1, a2, ())
theorem Vf (n : Nat) (a0 : Zi) (a1 : Zn) (a2 : Int) : Xi n a0 a1 a2 = (YW big a1).bind fun y => (V4 big a0 a2).bind fun y_1 => bif !y_1.2.2.2.1 then some y else if 0 ≤ a2 then (nth a0 a2.toNat).bind fun y_2 => (Xx big y.2.2.1 y_2.2.2.2.1).bind fun y_3 => if 0 ≤ y_1.1 then (nth a0 (Int.toNat y_1.1)).bind fun y_4 => (Xx big y.2.2.2.1 y_4.2.2.2.1).bind fun y_5 => (Ae big a0 a2).bind fun y_6 => bif y_6.2.1 then (JF big a0 (y.1, y.2.1, y_3, y_5, y.2.2.2.2) y_6.1).bind fun y => (Qm big a0 y_1.1 y_1.2.1).bind fun y_7 => bif y_7 then (QZ big a0 y y_1.2.1).bind fun y => some y else some y else (Qm big a0 y_1.1 y_1.2.1).bind fun y_7 => bif y_7 then (QZ big a0 (y.1, y.2.1, y_3, y_5, y.2.2.2.2) y_1.2.1).bind fun y => some y else some (y.1, y.2.1, y_3, y_5, y.2.2.2.2) else none else none := by kernel_rfl
def Ao : Yq := [(67, Yx), (82, Hf)]
theorem TP : Yr Ao := cons_cons Z5 (cons_cons Gc (Zh))
abbrev QC : Vz := (.ro Ze :: .ro Yu :: dp 3 (.own Zo :: .ro Zb :: dp 29 []), [])
def IT : KP := [(3, QC)]
def N1 (n : Nat) (x : YG [Ze, Yu]) := evX (false, false, []) Ao IT [some ZE] Tryz.f28 (shF ZE) n (YP [Ze, Yu] x)
def N2 : Con := roS [Ze, Yu] true (shF ZE) (N1 big)
theorem TQ : ZJ Tryz.prog 28 N2 := ZD ⟨Tryz.f28, by kernel_rfl, rfl, by decide⟩ fun _ _ h => Zw TP (f := Tryz.f28) (by kernel_rfl) rfl (by kernel_rfl) (by kernel_rfl) big h
def D9 (n : Nat) (a0 : Zi) (a1 : Yp) : Option Zq := N1 n (a0, a1, ())
def Zdz (n : Nat) (x : KD QC.1) (y : BD QC.2) := Z6 (env (false, false, []) Ao) IT (body Tryz.f28) (Vn (false, false, []) Ao [some ZE] Tryz.f28 (shF ZE) [.val Ze (ZR Ze), .val Yu (ZR Yu)]) n 3 QC x y
def Vw (n : Nat) (s0 : Zi) (s1 : Yp) (s5 : (List Zf)) (s6 : Int) : Option Zq := Zdz n (s0, s1, s5, s6, ()) ()
theorem TS (n : Nat) (a0 : Zi) (a1 : Yp) : D9 n a0 a1 = Vw n a0 a1 [] 0 := by kernel_rfl
theorem BE (n : Nat) (s0 : Zi) (s1 : Yp) (s5 : (List Zf)) (s6 : Int) : Vw (n + 1) s0 s1 s5 s6 = bif decide (s6 < (↑(List.length s1) : Int)) then if 0 ≤ s6 then (nth s1 s6.toNat).bind fun y => (ZT big y 0 (IntKind.i64.wrap ((↑(List.length s0) : Int) - 1))).bind fun y => bif y then if 0 ≤ s6 then (nth s1 s6.toNat).bind fun y => if 0 ≤ y then (nth s0 (Int.toNat y)).bind fun y => (JD big s5 y.2.2.1).bind fun y => Vw n s0 s1 y.1 (IntKind.i64.wrap (s6 + 1)) else none else none else Vw n s0 s1 s5 (IntKind.i64.wrap (s6 + 1)) else none else some s5 := by kernel_rfl
def N3 : Yq := [(67, Yx), (125, G7), (113, Mv)]
theorem TT : Yr N3 := cons_cons Z5 (cons_cons FZ (cons_cons Iw (Zh)))
def ZhY : KP := []
def N4 (n : Nat) (x : YG [Ze, Zk, ZP]) := evX (false, false, [5, 10, 16, 24, 32, 41, 45, 50, 54, 61, 65, 71, 75, 83, 88, 94, 99, 106, 114, 118, 119, 121, 126, 127, 129, 137, 141, 142, 144, 150, 154, 155, 157]) N3 ZhY [none] Tryz.f234 (shV ZC) n (YP [Ze, Zk, ZP] x)
def Q0 : Con := roS [Ze, Zk, ZP] true (shV ZC) (N4 big)
theorem UE : ZJ Tryz.prog 234 Q0 := ZD ⟨Tryz.f234, by kernel_rfl, rfl, by decide⟩ fun _ _ h => Zw TT (f := Tryz.f234) (by kernel_rfl) rfl (by kernel_rfl) (by kernel_rfl) big h
def Ua (n : Nat) (a0 : Zi) (a1 : Int) (a2 : Zy) : Option Bool := N4 n (a0, a1, a2, ())
theorem TU (n : Nat) (a0 : Zi) (a1 : Int) (a2 : Zy) : Ua n a0 a1 a2 = bif decide (a1 < 1) then some false else (ZT big a2.1 1 4).bind fun y => bif !y then some false else (ZT big a2.2.1 0 (IntKind.i64.wrap (a1 - 1))).bind fun y => bif !y then some false else (ZT big a2.2.2.1 0 (IntKind.i64.wrap (a1 - 1))).bind fun y => bif !y then some false else (ZT big a2.2.2.2.1 1 900).bind fun y => (fun zC0 => (fun zC1 => bif !y then some false else bif decide (7 < a1) then some false else bif !decide (a2.1 = 1) then bif !decide (a2.2.2.2.2.1 = 0) then some false else bif !decide (a2.1 = 2) then bif !eqD Z4 a2.2.2.2.2.2.2.1 (0, 0, 0, 0, ()) then some false else zC1 else zC1 else bif !decide (a2.1 = 2) then bif !eqD Z4 a2.2.2.2.2.2.2.1 (0, 0, 0, 0, ()) then some false else zC1 else zC1) (bif decide (a2.1 = 2) then bif !eqD Wl a2.2.2.2.2.2.1 (0, 0, 0, 0, ()) then some false else zC0 else zC0)) (bif decide (a2.1 = 1) then (ZT big a2.2.2.2.2.1 1 (IntKind.i64.wrap ((↑(List.length a0) : Int) - 1))).bind fun y => bif y then if 0 ≤ a2.2.2.2.2.1 then (nth a0 (Int.toNat a2.2.2.2.2.1)).bind fun y => bif decide (y.2.1 = a2.2.2.2.1) then if 0 ≤ a2.2.2.2.2.1 then (nth a0 (Int.toNat a2.2.2.2.2.1)).bind fun y => bif eqD Wl y.2.2.2.1 a2.2.2.2.2.2.1 then (XU big a0 a1 a2.2.2.2.2.2.1).bind fun y => some y else some false else none else some false else none else some false else bif decide (a2.1 = 2) then (Fi big a0 a1 a2.2.2.2.2.2.2.1).bind fun y => bif y then bif decide (a2.2.2.2.2.2.2.1.2.2.2.1 = a2.2.1) then some (decide (a2.2.2.2.2.2.2.1.2.1 = a2.2.2.2.1)) else some false else some false else bif decide (a2.1 = 3) then (XU big a0 a1 a2.2.2.2.2.2.1).bind fun y => bif y then some (decide (a2.2.2.2.2.2.1.2.1 = a2.2.2.2.1)) else some false else (XU big a0 a1 a2.2.2.2.2.2.1).bind fun y => bif y then some (decide (a2.2.2.2.2.2.1.2.1 < a2.2.2.2.1)) else some false) := by kernel_rfl
def Zk2 : Yq := [(39, VN), (96, V0), (40, Hh), (22, Wd), (69, QW), (15, Ck), (236, Cp)]
theorem Zk3 : Yr Zk2 := cons_cons Ww (cons_cons WO (cons_cons Gh (cons_cons XE (cons_cons Uu (cons_cons A6 (cons_cons Bc (Zh)))))))
def Zqq : KP := []
def Zk4 (n : Nat) (x : AP.denL [.ro Ze, .ro Zk, .mu ZI, .ro ZP]) := evX (false, false, [7, 9, 10, 11, 12, 14, 18, 20, 25, 26, 27, 28, 32, 36, 37, 38, 39, 43, 47, 49, 50, 52, 55, 60, 61, 63, 64, 65, 69, 70, 71, 76, 77, 79, 82, 88, 91, 93, 95]) Zk2 Zqq [some ZW] Tryz.f237 (shO (shF ZW) [.mu ZI]) n (AP.encL [.ro Ze, .ro Zk, .mu ZI, .ro ZP] x)
def Zk5 : Con := apS [.ro Ze, .ro Zk, .mu ZI, .ro ZP] true (shO (shF ZW) [.mu ZI]) (Zk4 big)
theorem Zk6 : ZJ Tryz.prog 237 Zk5 := YU ⟨Tryz.f237, by kernel_rfl, rfl, by decide⟩ fun _ _ h => Zw Zk3 (f := Tryz.f237) (by kernel_rfl) rfl (by kernel_rfl) (by kernel_rfl) big h
def TV (n : Nat) (a0 : Zi) (a1 : Int) (a2 : Zn) (a3 : Zy) : Option (ZX × Zn × Unit) := Zk4 n (a0, a1, a2, a3, ())
theorem Zk7 (n : Nat) (a0 : Zi) (a1 : Int) (a2 : Zn) (a3 : Zy) : TV n a0 a1 a2 a3 = (Wo big a2 a3.2.2.2.1).bind fun y => bif decide (a3.2.2.2.2.2.1.1 = 1) then (Xx big y.2.2.1 a3.2.2.2.2.2.1).bind fun y_1 => (Qk big (y.1, y.2.1, y_1, y.2.2.2) (IntKind.i64.wrap (a3.2.2.2.2.2.1.1 + 1)) a3.2.2.2.1).bind fun y_2 => bif !y_2 then some ([], (y.1, y.2.1, y_1, y.2.2.2), ()) else (Qo big (y.1, y.2.1, y_1, y.2.2.2) (IntKind.i64.wrap (a3.2.2.2.2.2.1.1 + 1)) a3.2.2.2.1 a3.2.2.2.2.2.1.2.2.1 a3.2.1).bind fun y => some y else bif decide (a3.2.2.2.2.2.1.1 = 2) then (Xx big y.2.2.2.1 a3.2.2.2.2.2.1).bind fun y_1 => (Qk big (y.1, y.2.1, y.2.2.1, y_1, y.2.2.2.2) (IntKind.i64.wrap (a3.2.2.2.2.2.1.1 + 1)) a3.2.2.2.1).bind fun y_2 => bif !y_2 then some ([], (y.1, y.2.1, y.2.2.1, y_1, y.2.2.2.2), ()) else (Qo big (y.1, y.2.1, y.2.2.1, y_1, y.2.2.2.2) (IntKind.i64.wrap (a3.2.2.2.2.2.1.1 + 1)) a3.2.2.2.1 a3.2.2.2.2.2.1.2.2.1 a3.2.1).bind fun y => some y else bif decide (a3.2.2.2.2.2.1.1 = 3) then (JF big a0 y a3.2.2.2.2.2.1.2.2.1).bind fun y => (Wo big y (IntKind.i64.wrap (a3.2.2.2.1 + 1))).bind fun y => (Xj big y.2.1 a1).bind fun y_1 => some ([(4, y.1, y_1, y.2.1, 0, y.2.2.1, (0, 0, 0, 0, ()), ())], y, ()) else some ([], y, ()) := by kernel_rfl
def Fq : Yq := [(22, Wd), (39, VN)]
theorem ZhZ : Yr Fq := cons_cons XE (cons_cons Ww (Zh))
abbrev Ap : Vz := (.is (.ptr 6 0) :: dp 4 (.is (.ptr 7 0) :: .ro Zb :: dp 68 []), [.drop, .drop, .drop, .drop, .drop, .drop, .vars [.ro Zb, .ro Zb, .ro Zb, .ro Zb, .ro Zb, .ro Zb, .ro Zb, .ro Zb, .ro Zb, .ro Zb, .ro Zb, .ro Zb, .ro Zb, .ro Zb, .own Zb, .own Zo, .own Zb, .own ZF, .own Zt, .own Zj, .ro Zb], .vars [.ro Zb, .ro Zb, .ro Zb, .ro Zb, .ro Zb, .ro Zb, .ro Zb, .ro Zb, .ro Zb, .ro Zb, .ro Zb, .ro Zb, .ro Zb]])
def TW : KP := [(4, Ap)]
def ZfJ (n : Nat) (x : AP.denL [.mu ZI, .ro Zk, .ro ZP]) := evX (false, false, [5, 7, 11, 12, 13, 17, 19, 20, 21, 25, 27, 28, 29, 35, 36, 37, 39, 44, 45, 46, 52, 53, 54, 60, 63, 65, 66, 67, 73]) Fq TW [] Tryz.f252 (shO shN [.mu ZI]) n (AP.encL [.mu ZI, .ro Zk, .ro ZP] x)
def ZfK : Con := apS [.mu ZI, .ro Zk, .ro ZP] true (shO shN [.mu ZI]) (ZfJ big)
theorem Zh0 : ZJ Tryz.prog 252 ZfK := YU ⟨Tryz.f252, by kernel_rfl, rfl, by decide⟩ fun _ _ h => Zw ZhZ (f := Tryz.f252) (by kernel_rfl) rfl (by kernel_rfl) (by kernel_rfl) big h
def MG (n : Nat) (a0 : Zn) (a1 : Int) (a2 : Zy) : Option (Unit × Zn × Unit) := ZfJ n (a0, a1, a2, ())
def Zk8 (n : Nat) (x : KD Ap.1) (y : BD Ap.2) := Z6 (env (false, false, [5, 7, 11, 12, 13, 17, 19, 20, 21, 25, 27, 28, 29, 35, 36, 37, 39, 44, 45, 46, 52, 53, 54, 60, 63, 65, 66, 67, 73]) Fq) TW (body Tryz.f252) (Vn (false, false, [5, 7, 11, 12, 13, 17, 19, 20, 21, 25, 27, 28, 29, 35, 36, 37, 39, 44, 45, 46, 52, 53, 54, 60, 63, 65, 66, 67, 73]) Fq [] Tryz.f252 (shO shN [.mu ZI]) [AP.enc (.mu ZI) (ZR ZI), AP.enc (.ro Zk) (ZR Zk), AP.enc (.ro ZP) (ZR ZP)]) n 4 Ap x y
def WT (n : Nat) (s6 b6_0 : Int) (b6_1 b6_2 : Int) (b6_3 b6_4 : Int) (b6_5 b6_6 : Int) (b6_7 b6_8 : Int) (b6_9 b6_10 : Int) (b6_11 b6_12 b6_13 : Int) (b6_14 : (List Int)) (b6_15 : (List Zf)) (b6_16 : (List Int)) (b6_17 : (List Zs)) (b6_18 : (List Zg)) (b6_19 : (List Zc)) (b6_20 b7_0 : Int) (b7_1 b7_2 : Int) (b7_3 b7_4 : Int) (b7_5 b7_6 : Int) (b7_7 b7_8 : Int) (b7_9 b7_10 : Int) (b7_11 b7_12 : Int) : Option (Unit × Zn × Unit) := Zk8 n (s6, ()) ((b6_0, b6_1, b6_2, b6_3, b6_4, b6_5, b6_6, b6_7, b6_8, b6_9, b6_10, b6_11, b6_12, b6_13, b6_14, b6_15, b6_16, b6_17, b6_18, b6_19, b6_20, ()), (b7_0, b7_1, b7_2, b7_3, b7_4, b7_5, b7_6, b7_7, b7_8, b7_9, b7_10, b7_11, b7_12, ()), ())
theorem Zh1 (n : Nat) (a0 : Zn) (a1 : Int) (a2 : Zy) : MG n a0 a1 a2 = (Xj big a2.2.2.2.1 a1).bind fun y => (fun zC0 => bif !decide (y = a0.1) then some ((), a0, ()) else bif !decide (a2.2.2.2.1 = a0.2.1) then bif !decide (a2.2.2.2.1 = IntKind.i64.wrap (a0.2.1 + 1)) then some ((), a0, ()) else zC0 else zC0) ((Wo big a0 a2.2.2.2.1).bind fun y => WT n 0 y.1 y.2.1 y.2.2.1.1 y.2.2.1.2.1 y.2.2.1.2.2.1 y.2.2.1.2.2.2.1 y.2.2.2.1.1 y.2.2.2.1.2.1 y.2.2.2.1.2.2.1 y.2.2.2.1.2.2.2.1 y.2.2.2.2.1.1 y.2.2.2.2.1.2.1 y.2.2.2.2.1.2.2.1 y.2.2.2.2.1.2.2.2.1 y.2.2.2.2.2.1 y.2.2.2.2.2.2.1 y.2.2.2.2.2.2.2.1 y.2.2.2.2.2.2.2.2.1 y.2.2.2.2.2.2.2.2.2.1 y.2.2.2.2.2.2.2.2.2.2.1 y.2.2.2.2.2.2.2.2.2.2.2.1 a2.1 a2.2.1 a2.2.2.1 a2.2.2.2.1 a2.2.2.2.2.1 a2.2.2.2.2.2.1.1 a2.2.2.2.2.2.1.2.1 a2.2.2.2.2.2.1.2.2.1 a2.2.2.2.2.2.1.2.2.2.1 a2.2.2.2.2.2.2.1.1 a2.2.2.2.2.2.2.1.2.1 a2.2.2.2.2.2.2.1.2.2.1 a2.2.2.2.2.2.2.1.2.2.2.1) := by kernel_rfl
theorem Ea (n : Nat) (s6 b6_0 : Int) (b6_1 b6_2 : Int) (b6_3 b6_4 : Int) (b6_5 b6_6 : Int) (b6_7 b6_8 : Int) (b6_9 b6_10 : Int) (b6_11 b6_12 b6_13 : Int) (b6_14 : (List Int)) (b6_15 : (List Zf)) (b6_16 : (List Int)) (b6_17 : (List Zs)) (b6_18 : (List Zg)) (b6_19 : (List Zc)) (b6_20 b7_0 : Int) (b7_1 b7_2 : Int) (b7_3 b7_4 : Int) (b7_5 b7_6 : Int) (b7_7 b7_8 : Int) (b7_9 b7_10 : Int) (b7_11 b7_12 : Int) : WT (n + 1) s6 b6_0 b6_1 b6_2 b6_3 b6_4 b6_5 b6_6 b6_7 b6_8 b6_9 b6_10 b6_11 b6_12 b6_13 b6_14 b6_15 b6_16 b6_17 b6_18 b6_19 b6_20 b7_0 b7_1 b7_2 b7_3 b7_4 b7_5 b7_6 b7_7 b7_8 b7_9 b7_10 b7_11 b7_12 = bif decide (s6 < (↑b6_19.length : Int)) then if 0 ≤ s6 then if s6 < (↑b6_19.length : Int) then (nth b6_19 s6.toNat).bind fun y => bif decide (y.2.1 = b7_1) then some ((), (b6_0, b6_1, (b6_2, b6_3, b6_4, b6_5, ()), (b6_6, b6_7, b6_8, b6_9, ()), (b6_10, b6_11, b6_12, b6_13, ()), b6_14, b6_15, b6_16, b6_17, b6_18, b6_19, b6_20, ()), ()) else WT n (IntKind.i64.wrap (s6 + 1)) b6_0 b6_1 b6_2 b6_3 b6_4 b6_5 b6_6 b6_7 b6_8 b6_9 b6_10 b6_11 b6_12 b6_13 b6_14 b6_15 b6_16 b6_17 b6_18 b6_19 b6_20 b7_0 b7_1 b7_2 b7_3 b7_4 b7_5 b7_6 b7_7 b7_8 b7_9 b7_10 b7_11 b7_12 else none else none else (fun zB => (fun zB => X4 (X4 zB zB) zB) (zB)) (if (0 : Nat) + b6_19.length ≤ lim then if b6_19.length + [(b7_0, b7_1, b7_2, b7_3, b7_4, (b7_5, b7_6, b7_7, b7_8, ()), (b7_9, b7_10, b7_11, b7_12, ()), ())].length ≤ lim then some ((), (b6_0, b6_1, (b6_2, b6_3, b6_4, b6_5, ()), (b6_6, b6_7, b6_8, b6_9, ()), (b6_10, b6_11, b6_12, b6_13, ()), b6_14, b6_15, b6_16, b6_17, b6_18, b6_19.append [(b7_0, b7_1, b7_2, b7_3, b7_4, (b7_5, b7_6, b7_7, b7_8, ()), (b7_9, b7_10, b7_11, b7_12, ()), ())], b6_20, ()), ()) else none else none) := by kernel_rfl
def Qp : Yq := [(22, Wd), (39, VN), (261, Zfz), (176, KH), (174, Jw), (175, Bz), (248, ZhF), (96, V0), (69, QW)]
theorem ZdA : Yr Qp := cons_cons XE (cons_cons Ww (cons_cons ZhD (cons_cons Ka (cons_cons Qv (cons_cons Ky (cons_cons SS (cons_cons WO (cons_cons Uu (Zh)))))))))
abbrev QD : Vz := (.is (.ptr 6 0) :: .ro Zb :: dp 5 (.own Zj :: .drop :: .is (.ptr 17 0) :: .drop :: .ro Zb :: dp 130 []), [.drop, .drop, .drop, .drop, .drop, .drop, .vars [.ro Zb, .ro Zb, .ro Zb, .ro Zb, .ro Zb, .ro Zb, .ro Zb, .ro Zb, .ro Zb, .ro Zb, .ro Zb, .ro Zb, .ro Zb, .ro Zb, .own Zb, .own Zo, .own Zb, .own ZF, .own Zt, .own Zj, .ro Zb], .drop, .drop, .drop, .drop, .drop, .drop, .drop, .drop, .drop, .drop, .vars [.ro Zb, .ro Zb, .ro Zb, .ro Zb]])
abbrev Wp : Vz := (.is (.ptr 6 0) :: .ro Zb :: dp 3 (.is (.ptr 7 0) :: .drop :: .own Zj :: .ro Zb :: dp 133 []), [.drop, .drop, .drop, .drop, .drop, .drop, .vars [.ro Zb, .ro Zb, .ro Zb, .ro Zb, .ro Zb, .ro Zb, .ro Zb, .ro Zb, .ro Zb, .ro Zb, .ro Zb, .ro Zb, .ro Zb, .ro Zb, .own Zb, .own Zo, .own Zb, .own ZF, .own Zt, .own Zj, .ro Zb], .vars [.ro Zb, .ro Zb, .ro Zb, .ro Zb]])
def Eb : KP := [(17, QD), (5000007, Wp)]
def TX (n : Nat) (x : AP.denL [.mu ZI, .ro Zk, .ro Z4]) := evX (false, false, [5, 9, 13, 15, 18, 24, 25, 26, 31, 32, 33, 38, 39, 40, 45, 46, 47, 55, 56, 57, 62, 63, 64, 70, 72, 73, 74, 80, 82, 83, 84, 86, 88, 90, 99, 100, 101, 103, 105, 107, 113, 116, 117, 118, 119, 123, 132, 133, 999999]) Qp Eb [some ZW] Tryz.f258 (shO (shF ZW) [.mu ZI]) n (AP.encL [.mu ZI, .ro Zk, .ro Z4] x)
def TY : Con := apS [.mu ZI, .ro Zk, .ro Z4] true (shO (shF ZW) [.mu ZI]) (TX big)
theorem ZdB : ZJ Tryz.prog 258 TY := YU ⟨Tryz.f258, by kernel_rfl, rfl, by decide⟩ fun _ _ h => Zw ZdA (f := Tryz.f258) (by kernel_rfl) rfl (by kernel_rfl) (by kernel_rfl) big h
def Hi (n : Nat) (a0 : Zn) (a1 : Int) (a2 : Z3) : Option (ZX × Zn × Unit) := TX n (a0, a1, a2, ())
def ZdC (n : Nat) (x : KD QD.1) (y : BD QD.2) := Z6 (env (false, false, [5, 9, 13, 15, 18, 24, 25, 26, 31, 32, 33, 38, 39, 40, 45, 46, 47, 55, 56, 57, 62, 63, 64, 70, 72, 73, 74, 80, 82, 83, 84, 86, 88, 90, 99, 100, 101, 103, 105, 107, 113, 116, 117, 118, 119, 123, 132, 133, 999999]) Qp) Eb (body Tryz.f258) (Vn (false, false, [5, 9, 13, 15, 18, 24, 25, 26, 31, 32, 33, 38, 39, 40, 45, 46, 47, 55, 56, 57, 62, 63, 64, 70, 72, 73, 74, 80, 82, 83, 84, 86, 88, 90, 99, 100, 101, 103, 105, 107, 113, 116, 117, 118, 119, 123, 132, 133, 999999]) Qp [some ZW] Tryz.f258 (shO (shF ZW) [.mu ZI]) [AP.enc (.mu ZI) (ZR ZI), AP.enc (.ro Zk) (ZR Zk), AP.enc (.ro Z4) (ZR Z4)]) n 17 QD x y
def QE (n : Nat) (s1 : Int) (s7 : (List Zc)) (s11 b6_0 : Int) (b6_1 b6_2 : Int) (b6_3 b6_4 : Int) (b6_5 b6_6 : Int) (b6_7 b6_8 : Int) (b6_9 b6_10 : Int) (b6_11 b6_12 b6_13 : Int) (b6_14 : (List Int)) (b6_15 : (List Zf)) (b6_16 : (List Int)) (b6_17 : (List Zs)) (b6_18 : (List Zg)) (b6_19 : (List Zc)) (b6_20 b17_0 : Int) (b17_1 b17_2 b17_3 : Int) : Option (ZX × Zn × Unit) := ZdC n (s1, s7, s11, ()) ((b6_0, b6_1, b6_2, b6_3, b6_4, b6_5, b6_6, b6_7, b6_8, b6_9, b6_10, b6_11, b6_12, b6_13, b6_14, b6_15, b6_16, b6_17, b6_18, b6_19, b6_20, ()), (b17_0, b17_1, b17_2, b17_3, ()), ())
def Hj (n : Nat) (x : KD Wp.1) (y : BD Wp.2) := Z6 (env (false, false, [5, 9, 13, 15, 18, 24, 25, 26, 31, 32, 33, 38, 39, 40, 45, 46, 47, 55, 56, 57, 62, 63, 64, 70, 72, 73, 74, 80, 82, 83, 84, 86, 88, 90, 99, 100, 101, 103, 105, 107, 113, 116, 117, 118, 119, 123, 132, 133, 999999]) Qp) Eb (body Tryz.f258) (Vn (false, false, [5, 9, 13, 15, 18, 24, 25, 26, 31, 32, 33, 38, 39, 40, 45, 46, 47, 55, 56, 57, 62, 63, 64, 70, 72, 73, 74, 80, 82, 83, 84, 86, 88, 90, 99, 100, 101, 103, 105, 107, 113, 116, 117, 118, 119, 123, 132, 133, 999999]) Qp [some ZW] Tryz.f258 (shO (shF ZW) [.mu ZI]) [AP.enc (.mu ZI) (ZR ZI), AP.enc (.ro Zk) (ZR Zk), AP.enc (.ro Z4) (ZR Z4)]) n 5000007 Wp x y
def XF (n : Nat) (s1 : Int) (s7 : (List Zc)) (s8 b6_0 : Int) (b6_1 b6_2 : Int) (b6_3 b6_4 : Int) (b6_5 b6_6 : Int) (b6_7 b6_8 : Int) (b6_9 b6_10 : Int) (b6_11 b6_12 b6_13 : Int) (b6_14 : (List Int)) (b6_15 : (List Zf)) (b6_16 : (List Int)) (b6_17 : (List Zs)) (b6_18 : (List Zg)) (b6_19 : (List Zc)) (b6_20 b7_0 : Int) (b7_1 b7_2 b7_3 : Int) : Option (ZX × Zn × Unit) := Hj n (s1, s7, s8, ()) ((b6_0, b6_1, b6_2, b6_3, b6_4, b6_5, b6_6, b6_7, b6_8, b6_9, b6_10, b6_11, b6_12, b6_13, b6_14, b6_15, b6_16, b6_17, b6_18, b6_19, b6_20, ()), (b7_0, b7_1, b7_2, b7_3, ()), ())
theorem ZdD (n : Nat) (a0 : Zn) (a1 : Int) (a2 : Z3) : Hi n a0 a1 a2 = bif decide (a2.1 = 4) then (Xj big (IntKind.i64.wrap (a2.2.1 + 1)) a1).bind fun y => (fun zC0 => bif decide (y = a0.1) then bif decide (IntKind.i64.wrap (a2.2.1 + 1) = IntKind.i64.wrap (a0.2.1 + 1)) then (Wo big a0 (IntKind.i64.wrap (a2.2.1 + 1))).bind fun y => XF n a1 [] (IntKind.i64.wrap (a2.2.1 + 1)) y.1 y.2.1 y.2.2.1.1 y.2.2.1.2.1 y.2.2.1.2.2.1 y.2.2.1.2.2.2.1 y.2.2.2.1.1 y.2.2.2.1.2.1 y.2.2.2.1.2.2.1 y.2.2.2.1.2.2.2.1 y.2.2.2.2.1.1 y.2.2.2.2.1.2.1 y.2.2.2.2.1.2.2.1 y.2.2.2.2.1.2.2.2.1 y.2.2.2.2.2.1 y.2.2.2.2.2.2.1 y.2.2.2.2.2.2.2.1 y.2.2.2.2.2.2.2.2.1 y.2.2.2.2.2.2.2.2.2.1 y.2.2.2.2.2.2.2.2.2.2.1 y.2.2.2.2.2.2.2.2.2.2.2.1 a2.1 a2.2.1 a2.2.2.1 a2.2.2.2.1 else zC0 else zC0) (XF n a1 [] (IntKind.i64.wrap (a2.2.1 + 1)) a0.1 a0.2.1 a0.2.2.1.1 a0.2.2.1.2.1 a0.2.2.1.2.2.1 a0.2.2.1.2.2.2.1 a0.2.2.2.1.1 a0.2.2.2.1.2.1 a0.2.2.2.1.2.2.1 a0.2.2.2.1.2.2.2.1 a0.2.2.2.2.1.1 a0.2.2.2.2.1.2.1 a0.2.2.2.2.1.2.2.1 a0.2.2.2.2.1.2.2.2.1 a0.2.2.2.2.2.1 a0.2.2.2.2.2.2.1 a0.2.2.2.2.2.2.2.1 a0.2.2.2.2.2.2.2.2.1 a0.2.2.2.2.2.2.2.2.2.1 a0.2.2.2.2.2.2.2.2.2.2.1 a0.2.2.2.2.2.2.2.2.2.2.2.1 a2.1 a2.2.1 a2.2.2.1 a2.2.2.2.1) else XF n a1 [] a2.2.1 a0.1 a0.2.1 a0.2.2.1.1 a0.2.2.1.2.1 a0.2.2.1.2.2.1 a0.2.2.1.2.2.2.1 a0.2.2.2.1.1 a0.2.2.2.1.2.1 a0.2.2.2.1.2.2.1 a0.2.2.2.1.2.2.2.1 a0.2.2.2.2.1.1 a0.2.2.2.2.1.2.1 a0.2.2.2.2.1.2.2.1 a0.2.2.2.2.1.2.2.2.1 a0.2.2.2.2.2.1 a0.2.2.2.2.2.2.1 a0.2.2.2.2.2.2.2.1 a0.2.2.2.2.2.2.2.2.1 a0.2.2.2.2.2.2.2.2.2.1 a0.2.2.2.2.2.2.2.2.2.2.1 a0.2.2.2.2.2.2.2.2.2.2.2.1 a2.1 a2.2.1 a2.2.2.1 a2.2.2.2.1 := by kernel_rfl
theorem BF (n : Nat) (s1 : Int) (s7 : (List Zc)) (s11 b6_0 : Int) (b6_1 b6_2 : Int) (b6_3 b6_4 : Int) (b6_5 b6_6 : Int) (b6_7 b6_8 : Int) (b6_9 b6_10 : Int) (b6_11 b6_12 b6_13 : Int) (b6_14 : (List Int)) (b6_15 : (List Zf)) (b6_16 : (List Int)) (b6_17 : (List Zs)) (b6_18 : (List Zg)) (b6_19 : (List Zc)) (b6_20 b17_0 : Int) (b17_1 b17_2 b17_3 : Int) : QE (n + 1) s1 s7 s11 b6_0 b6_1 b6_2 b6_3 b6_4 b6_5 b6_6 b6_7 b6_8 b6_9 b6_10 b6_11 b6_12 b6_13 b6_14 b6_15 b6_16 b6_17 b6_18 b6_19 b6_20 b17_0 b17_1 b17_2 b17_3 = bif decide (s11 < s1) then if s7.length + [(3, b6_0, s11, b6_1, 0, (b17_0, b17_1, b17_2, b17_3, ()), (0, 0, 0, 0, ()), ())].length ≤ lim then QE n s1 (s7.append [(3, b6_0, s11, b6_1, 0, (b17_0, b17_1, b17_2, b17_3, ()), (0, 0, 0, 0, ()), ())]) (IntKind.i64.wrap (s11 + 1)) b6_0 b6_1 b6_2 b6_3 b6_4 b6_5 b6_6 b6_7 b6_8 b6_9 b6_10 b6_11 b6_12 b6_13 b6_14 b6_15 b6_16 b6_17 b6_18 b6_19 b6_20 b17_0 b17_1 b17_2 b17_3 else none else some (s7, (b6_0, b6_1, (b6_2, b6_3, b6_4, b6_5, ()), (b6_6, b6_7, b6_8, b6_9, ()), (b6_10, b6_11, b6_12, b6_13, ()), b6_14, b6_15, b6_16, b6_17, b6_18, b6_19, b6_20, ()), ()) := by kernel_rfl
theorem Ds (n : Nat) (s1 : Int) (s7 : (List Zc)) (s8 b6_0 : Int) (b6_1 b6_2 : Int) (b6_3 b6_4 : Int) (b6_5 b6_6 : Int) (b6_7 b6_8 : Int) (b6_9 b6_10 : Int) (b6_11 b6_12 b6_13 : Int) (b6_14 : (List Int)) (b6_15 : (List Zf)) (b6_16 : (List Int)) (b6_17 : (List Zs)) (b6_18 : (List Zg)) (b6_19 : (List Zc)) (b6_20 b7_0 : Int) (b7_1 b7_2 b7_3 : Int) : XF (n + 1) s1 s7 s8 b6_0 b6_1 b6_2 b6_3 b6_4 b6_5 b6_6 b6_7 b6_8 b6_9 b6_10 b6_11 b6_12 b6_13 b6_14 b6_15 b6_16 b6_17 b6_18 b6_19 b6_20 b7_0 b7_1 b7_2 b7_3 = (fun zC0 => bif !decide (b6_1 = s8) then zC0 else (Xj big s8 s1).bind fun y => bif !decide (y = b6_0) then zC0 else (Mw big b6_18 (b7_0, b7_1, b7_2, b7_3, ())).bind fun y => bif y then zC0 else (fun zB => (fun zB => X4 (X4 zB zB) zB) (zB)) (if (0 : Nat) + b6_18.length ≤ lim then if b6_18.length + [(b7_0, b7_1, b7_2, b7_3, ())].length ≤ lim then (Ut big (b6_18.append [(b7_0, b7_1, b7_2, b7_3, ())]) b7_0 b7_1 b7_2).bind fun y => (XC big y).bind fun y => (Ji big s1).bind fun y_1 => bif !decide (y = y_1) then some (s7, (b6_0, b6_1, (b6_2, b6_3, b6_4, b6_5, ()), (b6_6, b6_7, b6_8, b6_9, ()), (b6_10, b6_11, b6_12, b6_13, ()), b6_14, b6_15, b6_16, b6_17, b6_18.append [(b7_0, b7_1, b7_2, b7_3, ())], b6_19, b6_20, ()), ()) else (Iy big (b6_18.append [(b7_0, b7_1, b7_2, b7_3, ())]) b7_0 b7_1 b7_2 s1).bind fun y => bif decide (b7_0 = 4) then (Xx big (b6_2, b6_3, b6_4, b6_5, ()) y.1).bind fun y => some (s7, (b6_0, b6_1, y, (b6_6, b6_7, b6_8, b6_9, ()), (b6_10, b6_11, b6_12, b6_13, ()), b6_14, b6_15, b6_16, b6_17, b6_18.append [(b7_0, b7_1, b7_2, b7_3, ())], b6_19, b6_20, ()), ()) else QE n s1 s7 0 b6_0 b6_1 b6_2 b6_3 b6_4 b6_5 b6_6 b6_7 b6_8 b6_9 b6_10 b6_11 b6_12 b6_13 b6_14 b6_15 b6_16 b6_17 (b6_18.append [(b7_0, b7_1, b7_2, b7_3, ())]) b6_19 b6_20 y.1.1 y.1.2.1 y.1.2.2.1 y.1.2.2.2.1 else none else none)) (some (s7, (b6_0, b6_1, (b6_2, b6_3, b6_4, b6_5, ()), (b6_6, b6_7, b6_8, b6_9, ()), (b6_10, b6_11, b6_12, b6_13, ()), b6_14, b6_15, b6_16, b6_17, b6_18, b6_19, b6_20, ()), ())) := by kernel_rfl
def N5 : Yq := [(258, TY)]
theorem TZ : Yr N5 := cons_cons ZdB (Zh)
def Zh2 : KP := []
def N6 (n : Nat) (x : AP.denL [.gs ZI, .ro Zk, .ro Z4]) := evX (false, false, [3, 5]) N5 Zh2 [some ZI, some ZW] Tryz.f251 (shT [(true, ZI), (true, ZW)]) n (AP.encL [.gs ZI, .ro Zk, .ro Z4] x)
def N7 : Con := apS [.gs ZI, .ro Zk, .ro Z4] true (shT [(true, ZI), (true, ZW)]) (N6 big)
theorem T8 : ZJ Tryz.prog 251 N7 := YU ⟨Tryz.f251, by kernel_rfl, rfl, by decide⟩ fun _ _ h => Zw TZ (f := Tryz.f251) (by kernel_rfl) rfl (by kernel_rfl) (by kernel_rfl) big h
def Ec (n : Nat) (a0 : Zn) (a1 : Int) (a2 : Z3) : Option (Zn × ZX × Unit) := N6 n (a0, a1, a2, ())
theorem T9 (n : Nat) (a0 : Zn) (a1 : Int) (a2 : Z3) : Ec n a0 a1 a2 = (Hi big a0 a1 a2).bind fun y => some (y.2.1, y.1, ()) := by kernel_rfl
def N8 : Yq := [(68, Xr), (234, Q0), (251, N7), (252, ZfK)]
theorem Zaa : Yr N8 := cons_cons YT (cons_cons UE (cons_cons T8 (cons_cons Zh0 (Zh))))
def Zh3 : KP := []
def N9 (n : Nat) (x : YG [Ze, Zk, ZQ, ZP]) := evX (false, false, [6, 7, 10, 21, 23, 29, 35]) N8 Zh3 [some ZI, some ZW] Tryz.f235 (shT [(true, ZI), (true, ZW)]) n (YP [Ze, Zk, ZQ, ZP] x)
def Ed : Con := roS [Ze, Zk, ZQ, ZP] true (shT [(true, ZI), (true, ZW)]) (N9 big)
theorem Ee : ZJ Tryz.prog 235 Ed := ZD ⟨Tryz.f235, by kernel_rfl, rfl, by decide⟩ fun _ _ h => Zw Zaa (f := Tryz.f235) (by kernel_rfl) rfl (by kernel_rfl) (by kernel_rfl) big h
def WU (n : Nat) (a0 : Zi) (a1 : Int) (a2 : Zn) (a3 : Zy) : Option (Zn × ZX × Unit) := N9 n (a0, a1, a2, a3, ())
theorem Zab (n : Nat) (a0 : Zi) (a1 : Int) (a2 : Zn) (a3 : Zy) : WU n a0 a1 a2 a3 = (YW big a2).bind fun y => (Ua big a0 a1 a3).bind fun y_1 => bif !y_1 then some (y, [], ()) else bif !decide (a3.2.2.1 = a2.1) then some (y, [], ()) else bif decide (a3.1 = 2) then (Ec big y a1 a3.2.2.2.2.2.2.1).bind fun y => some y else bif decide (a3.1 = 4) then (MG big y a1 a3).bind fun y => some (y.2.1, [], ()) else some (y, [], ()) := by kernel_rfl
def Zac : Yq := [(68, Xr), (234, Q0), (235, Ed), (22, Wd), (237, Zk5), (39, VN), (15, Ck), (38, Cn), (236, Cp)]
theorem ZdE : Yr Zac := cons_cons YT (cons_cons UE (cons_cons Ee (cons_cons XE (cons_cons Zk6 (cons_cons Ww (cons_cons A6 (cons_cons C1 (cons_cons Bc (Zh)))))))))
def Zk9 : KP := []
def Zad (n : Nat) (x : YG [Ze, Zk, ZQ, ZP]) := evX (false, false, [6, 7, 10, 23, 25, 31, 35, 46, 48, 54, 56, 62, 72, 76, 82, 84, 91, 93, 95]) Zac Zk9 [some ZI, some ZW] Tryz.f217 (shT [(true, ZI), (true, ZW)]) n (YP [Ze, Zk, ZQ, ZP] x)
def Zae : Con := roS [Ze, Zk, ZQ, ZP] true (shT [(true, ZI), (true, ZW)]) (Zad big)
theorem ZdF : ZJ Tryz.prog 217 Zae := ZD ⟨Tryz.f217, by kernel_rfl, rfl, by decide⟩ fun _ _ h => Zw ZdE (f := Tryz.f217) (by kernel_rfl) rfl (by kernel_rfl) (by kernel_rfl) big h
def Cu (n : Nat) (a0 : Zi) (a1 : Int) (a2 : Zn) (a3 : Zy) : Option (Zn × ZX × Unit) := Zad n (a0, a1, a2, a3, ())
theorem ZdG (n : Nat) (a0 : Zi) (a1 : Int) (a2 : Zn) (a3 : Zy) : Cu n a0 a1 a2 a3 = (YW big a2).bind fun y => (Ua big a0 a1 a3).bind fun y_1 => bif !y_1 then some (y, [], ()) else bif !decide (a3.2.2.1 = a2.1) then some (y, [], ()) else bif decide (a3.1 = 2) then (WU big a0 a1 a2 a3).bind fun y => some y else bif decide (a3.1 = 4) then (WU big a0 a1 a2 a3).bind fun y => some y else (Xj big a3.2.2.2.1 a1).bind fun y_2 => bif !decide (a3.2.1 = y_2) then some (y, [], ()) else bif decide (a3.2.2.2.1 < a2.2.1) then some (y, [], ()) else bif decide (a3.1 = 3) then (TV big a0 a1 y a3).bind fun y => some (y.2.1, y.1, ()) else (Wo big y a3.2.2.2.1).bind fun y => (Qk big y 1 a3.2.2.2.1).bind fun y_3 => bif !y_3 then some (y, [], ()) else (KJ big a0 y.2.2.2.1 a3.2.2.2.2.1).bind fun y_4 => bif !y_4 then some (y, [], ()) else (Qo big y 1 a3.2.2.2.1 a3.2.2.2.2.1 a3.2.1).bind fun y => some (y.2.1, y.1, ()) := by kernel_rfl
def IU : Yq := [(68, Xr), (234, Q0), (235, Ed), (96, V0), (22, Wd), (15, Ck), (38, Cn), (44, Bd), (236, Cp), (39, VN)]
theorem Pp : Yr IU := cons_cons YT (cons_cons UE (cons_cons Ee (cons_cons WO (cons_cons XE (cons_cons A6 (cons_cons C1 (cons_cons BC (cons_cons Bc (cons_cons Ww (Zh))))))))))
def ZdH : KP := []
def IV (n : Nat) (x : YG [Ze, Zk, ZQ, ZP]) := evX (false, false, [6, 7, 10, 23, 25, 31, 44, 46, 61, 63, 71, 76, 78, 83, 85, 91, 98, 100, 102, 109]) IU ZdH [some ZI, some ZW] Tryz.f216 (shT [(true, ZI), (true, ZW)]) n (YP [Ze, Zk, ZQ, ZP] x)
def IW : Con := roS [Ze, Zk, ZQ, ZP] true (shT [(true, ZI), (true, ZW)]) (IV big)
theorem Pq : ZJ Tryz.prog 216 IW := ZD ⟨Tryz.f216, by kernel_rfl, rfl, by decide⟩ fun _ _ h => Zw Pp (f := Tryz.f216) (by kernel_rfl) rfl (by kernel_rfl) (by kernel_rfl) big h
def KR (n : Nat) (a0 : Zi) (a1 : Int) (a2 : Zn) (a3 : Zy) : Option (Zn × ZX × Unit) := IV n (a0, a1, a2, a3, ())
theorem Pr (n : Nat) (a0 : Zi) (a1 : Int) (a2 : Zn) (a3 : Zy) : KR n a0 a1 a2 a3 = (YW big a2).bind fun y => (Ua big a0 a1 a3).bind fun y_1 => bif !y_1 then some (y, [], ()) else bif !decide (a3.2.2.1 = a2.1) then some (y, [], ()) else bif decide (a3.1 = 2) then (WU big a0 a1 a2 a3).bind fun y => some y else bif decide (a3.1 = 4) then (Xx big y.2.2.1 a3.2.2.2.2.2.1).bind fun y_2 => (WU big a0 a1 (y.1, y.2.1, y_2, y.2.2.2) a3).bind fun y => some y else bif decide (a3.1 = 3) then some (y, [], ()) else (Xj big a3.2.2.2.1 a1).bind fun y_2 => bif !decide (a3.2.1 = y_2) then some (y, [], ()) else (Qk big y 4 a3.2.2.2.1).bind fun y_3 => bif y_3 then (KJ big a0 y.2.2.2.1 a3.2.2.2.2.1).bind fun y_4 => bif y_4 then (Xi big a0 y a3.2.2.2.2.1).bind fun y => bif !decide (a2.2.1 ≤ a3.2.2.2.1) then some (y, [], ()) else (Xj big (IntKind.i64.wrap (a3.2.2.2.1 + 1)) a1).bind fun y_5 => (Qo big y 4 a3.2.2.2.1 a3.2.2.2.2.1 y_5).bind fun y => (Wo big y.2.1 (IntKind.i64.wrap (a3.2.2.2.1 + 1))).bind fun y_6 => some (y_6, y.1, ()) else (Xi big a0 y a3.2.2.2.2.1).bind fun y => some (y, [], ()) else (Xi big a0 y a3.2.2.2.2.1).bind fun y => some (y, [], ()) := by kernel_rfl
def ZfL : Yq := [(67, Yx)]
theorem Zh4 : Yr ZfL := cons_cons Z5 (Zh)
def ZnJ : KP := []
def ZfM (n : Nat) (x : AP.denL [.mu Zx, .ro Zk]) := evX (false, false, [6, 8, 9, 10, 17, 18, 19, 24, 26, 27, 28, 33, 34, 35, 41]) ZfL ZnJ [none, none] Tryz.f182 (shO (shT [(false, ZP), (false, ZC)]) [.mu Zx]) n (AP.encL [.mu Zx, .ro Zk] x)
def MH : Con := apS [.mu Zx, .ro Zk] true (shO (shT [(false, ZP), (false, ZC)]) [.mu Zx]) (ZfM big)
theorem IX : ZJ Tryz.prog 182 MH := YU ⟨Tryz.f182, by kernel_rfl, rfl, by decide⟩ fun _ _ h => Zw Zh4 (f := Tryz.f182) (by kernel_rfl) rfl (by kernel_rfl) (by kernel_rfl) big h
def Fr (n : Nat) (a0 : Zp) (a1 : Int) : Option ((Zy × Bool × Unit) × Zp × Unit) := ZfM n (a0, a1, ())
theorem Zh5 (n : Nat) (a0 : Zp) (a1 : Int) : Fr n a0 a1 = (ZT big a1 0 (IntKind.i64.wrap ((↑(List.length a0.2.2.2.2.2.1) : Int) - 1))).bind fun y => bif !y then some (((0, 0, 0, 0, 0, (0, 0, 0, 0, ()), (0, 0, 0, 0, ()), ()), false, ()), a0, ()) else if 0 ≤ a1 then if a1 < (↑(List.length a0.2.2.2.2.2.1) : Int) then (nth a0.2.2.2.2.2.1 a1.toNat).bind fun y => (fun zC0 => (fun zC1 => (fun zC2 => X4 (if 0 ≤ a1 then if a1 ≤ (↑(List.length a0.2.2.2.2.2.1) : Int) then (fun zB0 zB1 => (fun zB0 zB1 => X4 zB0 (X4 zB0 zB1)) (zB0) (zB1)) zC1 zC2 else none else none) (X4 (if 0 ≤ a1 then if a1 ≤ (↑(List.length a0.2.2.2.2.2.1) : Int) then (fun zB0 zB1 => (fun zB0 zB1 => X4 (X4 zB0 (X4 zB0 zB1)) (X4 (X4 zB0 zB1) zB1)) (zB0) (zB1)) zC1 zC2 else none else none) (X4 (if 0 ≤ a1 then if a1 ≤ (↑(List.length a0.2.2.2.2.2.1) : Int) then X4 (zC1) (zC2) else none else none) (X4 (if 0 ≤ a1 then if a1 ≤ (↑(List.length a0.2.2.2.2.2.1) : Int) then (fun zB0 zB1 => (fun zB0 zB1 => X4 (X4 zB0 zB1) zB1) (zB0) (zB1)) zC1 zC2 else none else none) (if 0 ≤ IntKind.i64.wrap (a1 + 1) then if IntKind.i64.wrap (a1 + 1) ≤ (↑(List.length a0.2.2.2.2.2.1) : Int) then (fun zB => (fun zB => X4 zB zB) (zB)) (if 0 ≤ a1 then if a1 ≤ (↑(List.length a0.2.2.2.2.2.1) : Int) then if (0 : Nat) + (List.take (a1.toNat - (0 : Nat)) (List.drop (0 : Nat) a0.2.2.2.2.2.1)).length ≤ lim then zC0 else none else none else none) else none else none))))) (if 0 ≤ IntKind.i64.wrap (a1 + 1) then if IntKind.i64.wrap (a1 + 1) ≤ (↑(List.length a0.2.2.2.2.2.1) : Int) then if (0 : Nat) + (List.take (a1.toNat - (0 : Nat)) (List.drop (0 : Nat) a0.2.2.2.2.2.1)).length ≤ lim then zC0 else none else none else none)) (if (0 : Nat) + (List.take (a1.toNat - (0 : Nat)) (List.drop (0 : Nat) a0.2.2.2.2.2.1)).length ≤ lim then if 0 ≤ IntKind.i64.wrap (a1 + 1) then if IntKind.i64.wrap (a1 + 1) ≤ (↑(List.length a0.2.2.2.2.2.1) : Int) then zC0 else none else none else none)) (if (List.take (a1.toNat - (0 : Nat)) (List.drop (0 : Nat) a0.2.2.2.2.2.1)).length + (List.take (List.length a0.2.2.2.2.2.1 - (IntKind.i64.wrap (a1 + 1)).toNat) (List.drop (IntKind.i64.wrap (a1 + 1)).toNat a0.2.2.2.2.2.1)).length ≤ lim then some ((y, true, ()), (a0.1, a0.2.1, a0.2.2.1, a0.2.2.2.1, a0.2.2.2.2.1, (List.take (a1.toNat - (0 : Nat)) (List.drop (0 : Nat) a0.2.2.2.2.2.1)).append (List.take (List.length a0.2.2.2.2.2.1 - (IntKind.i64.wrap (a1 + 1)).toNat) (List.drop (IntKind.i64.wrap (a1 + 1)).toNat a0.2.2.2.2.2.1)), a0.2.2.2.2.2.2), ()) else none) else none else none := by kernel_rfl
def Zaf : Yq := []
theorem ZdI : Yr Zaf := Zh
def Zla : KP := []
def Zag (n : Nat) (x : AP.denL [.mu Zx, .ro ZN]) := evX (false, false, [5, 6, 7, 14, 16, 17, 18, 23]) Zaf Zla [none] Tryz.f214 (shO (shV ZC) [.mu Zx]) n (AP.encL [.mu Zx, .ro ZN] x)
def JG : Con := apS [.mu Zx, .ro ZN] true (shO (shV ZC) [.mu Zx]) (Zag big)
theorem QF : ZJ Tryz.prog 214 JG := YU ⟨Tryz.f214, by kernel_rfl, rfl, by decide⟩ fun _ _ h => Zw ZdI (f := Tryz.f214) (by kernel_rfl) rfl (by kernel_rfl) (by kernel_rfl) big h
def VO (n : Nat) (a0 : Zp) (a1 : ZX) : Option (Bool × Zp × Unit) := Zag n (a0, a1, ())
theorem ZdJ (n : Nat) (a0 : Zp) (a1 : ZX) : VO n a0 a1 = bif decide (60 < IntKind.i64.wrap ((↑(List.length a0.2.2.2.2.2.1) : Int) + (↑(List.length a1) : Int))) then some (false, a0, ()) else if (0 : Nat) + List.length a0.2.2.2.2.2.1 ≤ lim then if List.length a0.2.2.2.2.2.1 + List.length a1 ≤ lim then some (true, (a0.1, a0.2.1, a0.2.2.1, a0.2.2.2.1, a0.2.2.2.2.1, List.append a0.2.2.2.2.2.1 a1, a0.2.2.2.2.2.2), ()) else none else none := by kernel_rfl
def Cv : Yq := []
theorem ZdK : Yr Cv := Zh
abbrev KS : Vz := (.is (.ptr 5 0) :: dp 2 (.is (.ptr 6 0) :: .ro Zb :: dp 30 []), [.drop, .drop, .drop, .drop, .drop, .vars [.ro Zb, .ro ZC, .ro Zb, .own ZO, .own Ya, .own Zj, .own Zt, .own ZV], .vars [.ro Zb, .ro Zb, .ro Zb, .ro Zb]])
def Oa : KP := [(2, KS)]
def Zah (n : Nat) (x : AP.denL [.mu Zx, .ro Z4]) := evX (false, false, [3, 6, 7, 8, 14, 15, 16, 23, 25, 26, 27, 33]) Cv Oa [] Tryz.f218 (shO shN [.mu Zx]) n (AP.encL [.mu Zx, .ro Z4] x)
def Zai : Con := apS [.mu Zx, .ro Z4] true (shO shN [.mu Zx]) (Zah big)
theorem ZdL : ZJ Tryz.prog 218 Zai := YU ⟨Tryz.f218, by kernel_rfl, rfl, by decide⟩ fun _ _ h => Zw ZdK (f := Tryz.f218) (by kernel_rfl) rfl (by kernel_rfl) (by kernel_rfl) big h
def Hk (n : Nat) (a0 : Zp) (a1 : Z3) : Option (Unit × Zp × Unit) := Zah n (a0, a1, ())
def Zh6 (n : Nat) (x : KD KS.1) (y : BD KS.2) := Z6 (env (false, false, [3, 6, 7, 8, 14, 15, 16, 23, 25, 26, 27, 33]) Cv) Oa (body Tryz.f218) (Vn (false, false, [3, 6, 7, 8, 14, 15, 16, 23, 25, 26, 27, 33]) Cv [] Tryz.f218 (shO shN [.mu Zx]) [AP.enc (.mu Zx) (ZR Zx), AP.enc (.ro Z4) (ZR Z4)]) n 2 KS x y
def KT (n : Nat) (s4 b5_0 : Int) (b5_1 : Bool) (b5_2 : Int) (b5_3 : (List Zr)) (b5_4 : (List ZK)) (b5_5 : (List Zc)) (b5_6 : (List Zg)) (b5_7 : (List ZG)) (b6_0 b6_1 : Int) (b6_2 b6_3 : Int) : Option (Unit × Zp × Unit) := Zh6 n (s4, ()) ((b5_0, b5_1, b5_2, b5_3, b5_4, b5_5, b5_6, b5_7, ()), (b6_0, b6_1, b6_2, b6_3, ()), ())
theorem ZdM (n : Nat) (a0 : Zp) (a1 : Z3) : Hk n a0 a1 = KT n 0 a0.1 a0.2.1 a0.2.2.1 a0.2.2.2.1 a0.2.2.2.2.1 a0.2.2.2.2.2.1 a0.2.2.2.2.2.2.1 a0.2.2.2.2.2.2.2.1 a1.1 a1.2.1 a1.2.2.1 a1.2.2.2.1 := by kernel_rfl
theorem C4 (n : Nat) (s4 b5_0 : Int) (b5_1 : Bool) (b5_2 : Int) (b5_3 : (List Zr)) (b5_4 : (List ZK)) (b5_5 : (List Zc)) (b5_6 : (List Zg)) (b5_7 : (List ZG)) (b6_0 b6_1 : Int) (b6_2 b6_3 : Int) : KT (n + 1) s4 b5_0 b5_1 b5_2 b5_3 b5_4 b5_5 b5_6 b5_7 b6_0 b6_1 b6_2 b6_3 = bif decide (s4 < (↑b5_6.length : Int)) then if 0 ≤ s4 then if s4 < (↑b5_6.length : Int) then (nth b5_6 s4.toNat).bind fun y => bif eqD Z4 y (b6_0, b6_1, b6_2, b6_3, ()) then some ((), (b5_0, b5_1, b5_2, b5_3, b5_4, b5_5, b5_6, b5_7, ()), ()) else KT n (IntKind.i64.wrap (s4 + 1)) b5_0 b5_1 b5_2 b5_3 b5_4 b5_5 b5_6 b5_7 b6_0 b6_1 b6_2 b6_3 else none else none else (fun zB => X4 (X4 zB zB) zB) (if (0 : Nat) + b5_6.length ≤ lim then if b5_6.length + [(b6_0, b6_1, b6_2, b6_3, ())].length ≤ lim then some ((), (b5_0, b5_1, b5_2, b5_3, b5_4, b5_5, b5_6.append [(b6_0, b6_1, b6_2, b6_3, ())], b5_7, ()), ()) else none else none) := by kernel_rfl
def Aq : Yq := [(182, MH), (106, W9), (216, IW), (217, Zae), (218, Zai), (214, JG)]
theorem Zaj : Yr Aq := cons_cons IX (cons_cons Wt (cons_cons Pq (cons_cons ZdF (cons_cons ZdL (cons_cons QF (Zh))))))
abbrev UF : Vz := (.is (.ptr 5 0) :: dp 6 (.is (.own 25 0) :: .ro Zb :: dp 108 []), [.drop, .drop, .drop, .drop, .drop, .vars [.ro Zb, .ro ZC, .ro Zb, .own ZO, .own Ya, .own Zj, .own Zt, .own ZV], .drop, .drop, .drop, .drop, .drop, .drop, .drop, .drop, .drop, .drop, .drop, .drop, .drop, .drop, .drop, .drop, .drop, .drop, .drop, .arr Zj])
def IY : KP := [(11, UF)]
def Ob (n : Nat) (x : AP.denL [.mu Zx, .ro Zk]) := evX (true, true, [5, 17, 18, 20, 25, 26, 27, 30, 31, 32, 34, 36, 37, 38, 40, 41, 42, 44, 45, 46, 48, 58, 59, 60, 62, 64, 65, 66, 68, 69, 70, 72, 73, 74, 76, 104, 105, 106]) Aq IY [none] Tryz.f181 (shO (shV ZC) [.mu Zx]) n (AP.encL [.mu Zx, .ro Zk] x)
def Oc : Con := apS [.mu Zx, .ro Zk] true (shO (shV ZC) [.mu Zx]) (Ob big)
theorem Zak : ZJ Tryz.prog 181 Oc := YU ⟨Tryz.f181, by kernel_rfl, rfl, by decide⟩ fun _ _ h => Zw Zaj (f := Tryz.f181) (by kernel_rfl) rfl (by kernel_rfl) (by kernel_rfl) big h
def Ef (n : Nat) (a0 : Zp) (a1 : Int) : Option (Bool × Zp × Unit) := Ob n (a0, a1, ())
def Zal (n : Nat) (x : KD UF.1) (y : BD UF.2) := Z6 (env (true, true, [5, 17, 18, 20, 25, 26, 27, 30, 31, 32, 34, 36, 37, 38, 40, 41, 42, 44, 45, 46, 48, 58, 59, 60, 62, 64, 65, 66, 68, 69, 70, 72, 73, 74, 76, 104, 105, 106]) Aq) IY (body Tryz.f181) (Vn (true, true, [5, 17, 18, 20, 25, 26, 27, 30, 31, 32, 34, 36, 37, 38, 40, 41, 42, 44, 45, 46, 48, 58, 59, 60, 62, 64, 65, 66, 68, 69, 70, 72, 73, 74, 76, 104, 105, 106]) Aq [none] Tryz.f181 (shO (shV ZC) [.mu Zx]) [AP.enc (.mu Zx) (ZR Zx), AP.enc (.ro Zk) (ZR Zk)]) n 11 UF x y
def YI (n : Nat) (s8 b5_0 : Int) (b5_1 : Bool) (b5_2 : Int) (b5_3 : (List Zr)) (b5_4 : (List ZK)) (b5_5 : (List Zc)) (b5_6 : (List Zg)) (b5_7 : (List ZG)) (b25 : (List Zc)) : Option (Bool × Zp × Unit) := Zal n (s8, ()) ((b5_0, b5_1, b5_2, b5_3, b5_4, b5_5, b5_6, b5_7, ()), b25, ())
theorem Zam (n : Nat) (a0 : Zp) (a1 : Int) : Ef n a0 a1 = (Fr big a0 a1).bind fun y => bif !y.1.2.1 then some (false, y.2) else (Wn big y.2.1 y.1.1.2.2.1).bind fun y_1 => bif !y_1 then some (true, y.2) else bif y.2.1.2.1 then if 0 ≤ y.1.1.2.2.1 then if y.1.1.2.2.1 < (↑(List.length y.2.1.2.2.2.2.1) : Int) then (nth y.2.1.2.2.2.2.1 (Int.toNat y.1.1.2.2.1)).bind fun y_2 => (KR big y.2.1.2.2.2.1 y.2.1.1 y_2 y.1.1).bind fun y_3 => (Dv y.2.1.2.2.2.2.1 (Int.toNat y.1.1.2.2.1) y_2).bind fun y_4 => if 0 ≤ y.1.1.2.2.1 then if y.1.1.2.2.1 < (↑y_4.length : Int) then (nth y_4 (Int.toNat y.1.1.2.2.1)).bind fun y_5 => (Dv y_4 (Int.toNat y.1.1.2.2.1) y_3.1).bind fun y_6 => YI n 0 y.2.1.1 y.2.1.2.1 y.2.1.2.2.1 y.2.1.2.2.2.1 y_6 y.2.1.2.2.2.2.2.1 y.2.1.2.2.2.2.2.2.1 y.2.1.2.2.2.2.2.2.2.1 y_3.2.1 else none else none else none else none else if 0 ≤ y.1.1.2.2.1 then if y.1.1.2.2.1 < (↑(List.length y.2.1.2.2.2.2.1) : Int) then (nth y.2.1.2.2.2.2.1 (Int.toNat y.1.1.2.2.1)).bind fun y_2 => (Cu big y.2.1.2.2.2.1 y.2.1.1 y_2 y.1.1).bind fun y_3 => (Dv y.2.1.2.2.2.2.1 (Int.toNat y.1.1.2.2.1) y_2).bind fun y_4 => if 0 ≤ y.1.1.2.2.1 then if y.1.1.2.2.1 < (↑y_4.length : Int) then (nth y_4 (Int.toNat y.1.1.2.2.1)).bind fun y_5 => (Dv y_4 (Int.toNat y.1.1.2.2.1) y_3.1).bind fun y_6 => YI n 0 y.2.1.1 y.2.1.2.1 y.2.1.2.2.1 y.2.1.2.2.2.1 y_6 y.2.1.2.2.2.2.2.1 y.2.1.2.2.2.2.2.2.1 y.2.1.2.2.2.2.2.2.2.1 y_3.2.1 else none else none else none else none := by kernel_rfl
theorem Ar (n : Nat) (s8 b5_0 : Int) (b5_1 : Bool) (b5_2 : Int) (b5_3 : (List Zr)) (b5_4 : (List ZK)) (b5_5 : (List Zc)) (b5_6 : (List Zg)) (b5_7 : (List ZG)) (b25 : (List Zc)) : YI (n + 1) s8 b5_0 b5_1 b5_2 b5_3 b5_4 b5_5 b5_6 b5_7 b25 = bif decide (s8 < (↑b25.length : Int)) then if 0 ≤ s8 then if s8 < (↑b25.length : Int) then (nth b25 s8.toNat).bind fun y => bif decide (y.1 = 2) then if 0 ≤ s8 then if s8 < (↑b25.length : Int) then (nth b25 s8.toNat).bind fun y => (Hk big (b5_0, b5_1, b5_2, b5_3, b5_4, b5_5, b5_6, b5_7, ()) y.2.2.2.2.2.2.1).bind fun y => bif decide ((↑(List.length y.2.1.2.2.2.2.2.1) : Int) < 60) then if 0 ≤ IntKind.i64.wrap (s8 + 1) then if IntKind.i64.wrap (s8 + 1) ≤ (↑b25.length : Int) then if 0 ≤ s8 then if s8 ≤ IntKind.i64.wrap (s8 + 1) then (VO big y.2.1 (List.take ((IntKind.i64.wrap (s8 + 1)).toNat - s8.toNat) (List.drop s8.toNat b25))).bind fun y => YI n (IntKind.i64.wrap (s8 + 1)) y.2.1.1 y.2.1.2.1 y.2.1.2.2.1 y.2.1.2.2.2.1 y.2.1.2.2.2.2.1 y.2.1.2.2.2.2.2.1 y.2.1.2.2.2.2.2.2.1 y.2.1.2.2.2.2.2.2.2.1 b25 else none else none else none else none else YI n (IntKind.i64.wrap (s8 + 1)) y.2.1.1 y.2.1.2.1 y.2.1.2.2.1 y.2.1.2.2.2.1 y.2.1.2.2.2.2.1 y.2.1.2.2.2.2.2.1 y.2.1.2.2.2.2.2.2.1 y.2.1.2.2.2.2.2.2.2.1 b25 else none else none else bif decide ((↑b5_5.length : Int) < 60) then if 0 ≤ IntKind.i64.wrap (s8 + 1) then if IntKind.i64.wrap (s8 + 1) ≤ (↑b25.length : Int) then if 0 ≤ s8 then if s8 ≤ IntKind.i64.wrap (s8 + 1) then (VO big (b5_0, b5_1, b5_2, b5_3, b5_4, b5_5, b5_6, b5_7, ()) (List.take ((IntKind.i64.wrap (s8 + 1)).toNat - s8.toNat) (List.drop s8.toNat b25))).bind fun y => YI n (IntKind.i64.wrap (s8 + 1)) y.2.1.1 y.2.1.2.1 y.2.1.2.2.1 y.2.1.2.2.2.1 y.2.1.2.2.2.2.1 y.2.1.2.2.2.2.2.1 y.2.1.2.2.2.2.2.2.1 y.2.1.2.2.2.2.2.2.2.1 b25 else none else none else none else none else YI n (IntKind.i64.wrap (s8 + 1)) b5_0 b5_1 b5_2 b5_3 b5_4 b5_5 b5_6 b5_7 b25 else none else none else some (true, (b5_0, b5_1, b5_2, b5_3, b5_4, b5_5, b5_6, b5_7, ()), ()) := by kernel_rfl
def Zan : Yq := [(106, W9), (18, NS), (214, JG)]
theorem ZdN : Yr Zan := cons_cons Wt (cons_cons Tq (cons_cons QF (Zh)))
def Zlb : KP := []
def Zao (n : Nat) (x : AP.denL [.mu Zx, .ro Zk]) := evX (true, true, [5, 6, 8, 9, 15, 16, 17, 22, 23, 24, 32, 33, 34, 999999]) Zan Zlb [none] Tryz.f184 (shO (shV ZC) [.mu Zx]) n (AP.encL [.mu Zx, .ro Zk] x)
def Zap : Con := apS [.mu Zx, .ro Zk] true (shO (shV ZC) [.mu Zx]) (Zao big)
theorem ZdO : ZJ Tryz.prog 184 Zap := YU ⟨Tryz.f184, by kernel_rfl, rfl, by decide⟩ fun _ _ h => Zw ZdN (f := Tryz.f184) (by kernel_rfl) rfl (by kernel_rfl) (by kernel_rfl) big h
def Hl (n : Nat) (a0 : Zp) (a1 : Int) : Option (Bool × Zp × Unit) := Zao n (a0, a1, ())
theorem ZdP (n : Nat) (a0 : Zp) (a1 : Int) : Hl n a0 a1 = (Wn big a0 a1).bind fun y => bif !y then some (false, a0, ()) else if 0 ≤ a1 then if a1 < (↑(List.length a0.2.2.2.2.1) : Int) then (nth a0.2.2.2.2.1 a1.toNat).bind fun y => (D6 big y a0.1).bind fun y_1 => (Dv a0.2.2.2.2.1 a1.toNat y).bind fun y => (fun zB => X4 zB zB) (bif !y_1.2.2.1 then some (false, (a0.1, a0.2.1, a0.2.2.1, a0.2.2.2.1, y, a0.2.2.2.2.2), ()) else if 0 ≤ a1 then if a1 < (↑y.length : Int) then (nth y a1.toNat).bind fun y_2 => (Dv y a1.toNat y_1.1).bind fun y => (VO big (a0.1, a0.2.1, a0.2.2.1, a0.2.2.2.1, y, a0.2.2.2.2.2) [y_1.2.1]).bind fun y => some (true, y.2) else none else none) else none else none := by kernel_rfl
def shI : Sh Res := ⟨id, some, fun r x h => by cases h; exact Zti.of_eq rfl⟩
def Zh7 (n : Nat) (args : List SV) : Option Res := bif G1 args [] then evX (false, false, []) [] [] [none] Tryz.f214 shI n args else none
def ZuI (v3 v4 v5 v6 v7 : Value) (x : Zp) : SV := .mr [.val Zk x.1, .val ZC x.2.1, .val Zk x.2.2.1, .vl v3 Ze x.2.2.2.1, .vl v4 XN x.2.2.2.2.1, .vl v5 ZN x.2.2.2.2.2.1, .vl v6 ZS x.2.2.2.2.2.2.1, .vl v7 Yg x.2.2.2.2.2.2.2.1]
abbrev cX (v3 v4 v6 v7 : Value) (e : SV) (x : Zp) : List SV := [.val Zk x.1, .val ZC x.2.1, .val Zk x.2.2.1, .vl v3 Ze x.2.2.2.1, .vl v4 XN x.2.2.2.2.1, e, .vl v6 ZS x.2.2.2.2.2.2.1, .vl v7 Yg x.2.2.2.2.2.2.2.1]
theorem Zqr (v3 v4 v5 v6 v7 : Value) (x : Zp) (l : ZX) (n : Nat) : Zh7 n [ZuI v3 v4 v5 v6 v7 x, .val ZN l] =
  bif decide ((60 : Int) < IntKind.i64.wrap ((↑(List.length x.2.2.2.2.2.1) : Int) + (↑(List.length l) : Int))) then some (.val .bool false, [cX v3 v4 v6 v7 (.vl v5 ZN x.2.2.2.2.2.1) x])
  else if 0 + List.length x.2.2.2.2.2.1 ≤ lim then if List.length x.2.2.2.2.2.1 + List.length l ≤ lim then some (.val .bool true, [cX v3 v4 v6 v7 (.fr ZP (List.append x.2.2.2.2.2.1 l)) x]) else none else none := by kernel_rfl
def unV (t : Ty) (l : List SV) : Option (t.den × List SV) := match l with
 | .val s x :: r => (match toS s t x with | some y => some (y, r) | none => none)
 | _ => none
def unX (t : Ty) (l : List SV) : Option (Value × t.den × List SV) := match l with
 | .vl c s x :: r => (match toS s t x with | some y => some (c, y, r) | none => none)
 | _ => none
theorem Zsh {t : Ty} {l : List SV} {x : t.den} {r : List SV} (h : unV t l = some (x, r)) : l = .val t x :: r := by
 unfold unV at h
 split at h
 ·split at h
  ·rename_i hy
   cases h
   obtain ⟨e, h2⟩ := FT hy
   subst e; subst h2
   rfl
  ·cases h
 ·cases h
theorem Zlc {t : Ty} {l : List SV} {c : Value} {x : t.den} {r : List SV} (h : unX t l = some (c, x, r)) : l = .vl c t x :: r := by
 unfold unX at h
 split at h
 ·split at h
  ·rename_i hy
   cases h
   obtain ⟨e, h2⟩ := FT hy
   subst e; subst h2
   rfl
  ·cases h
 ·cases h
abbrev XD : Type := (Value × Value × Value × Value × Value) × Zp × ZX
def Zx1 (l0 : List SV) : Option ((Value × Value × Value × Value × Value) × Zp) :=
 (unV Zk l0).bind fun q1 => (unV ZC q1.2).bind fun q2 => (unV Zk q2.2).bind fun q3 => (unX Ze q3.2).bind fun q4 => (unX XN q4.2.2).bind fun q5 => (unX ZN q5.2.2).bind fun q6 =>
  (unX ZS q6.2.2).bind fun q7 => (unX Yg q7.2.2).bind fun q8 => match q8.2.2 with
  | [] => some ((q4.1, q5.1, q6.1, q7.1, q8.1), (q1.1, q2.1, q3.1, q4.2.1, q5.2.1, q6.2.1, q7.2.1, q8.2.1, ()))
  | _ :: _ => none
def Zx2 (args : List SV) : Option XD := match args with
 | [.mr l0, .val t9 l] => (Zx1 l0).bind fun q => (toS t9 ZN l).bind fun y => some (q.1, q.2, y)
 | _ => none
theorem Zvr {l0 : List SV} {q : (Value × Value × Value × Value × Value) × Zp} (h : Zx1 l0 = some q) : SV.mr l0 = ZuI q.1.1 q.1.2.1 q.1.2.2.1 q.1.2.2.2.1 q.1.2.2.2.2 q.2 := by
 unfold Zx1 at h
 obtain ⟨q1, h1, h⟩ := Option.bind_eq_some_iff.1 h
 obtain ⟨q2, h2, h⟩ := Option.bind_eq_some_iff.1 h
 obtain ⟨q3, h3, h⟩ := Option.bind_eq_some_iff.1 h
 obtain ⟨q4, h4, h⟩ := Option.bind_eq_some_iff.1 h
 obtain ⟨q5, h5, h⟩ := Option.bind_eq_some_iff.1 h
 obtain ⟨q6, h6, h⟩ := Option.bind_eq_some_iff.1 h
 obtain ⟨q7, h7, h⟩ := Option.bind_eq_some_iff.1 h
 obtain ⟨q8, h8, h⟩ := Option.bind_eq_some_iff.1 h
 split at h
 ·rename_i h9
  simp only [Option.some.injEq] at h
  subst h
  have e8 := Zlc h8
  rw [h9] at e8
  rw [Zsh h1, Zsh h2, Zsh h3, Zlc h4, Zlc h5, Zlc h6, Zlc h7, e8]
  rfl
 ·cases h
theorem Zvs {args : List SV} {q : XD} (h : Zx2 args = some q) : args = [ZuI q.1.1 q.1.2.1 q.1.2.2.1 q.1.2.2.2.1 q.1.2.2.2.2 q.2.1, .val ZN q.2.2] := by
 unfold Zx2 at h
 split at h
 ·obtain ⟨q1, h1, h⟩ := Option.bind_eq_some_iff.1 h
  obtain ⟨y, h2, h⟩ := Option.bind_eq_some_iff.1 h
  simp only [Option.some.injEq] at h
  subst h
  obtain ⟨e, h3⟩ := FT h2
  subst e; subst h3
  rw [Zvr h1]
 ·cases h
def Zx3 {R : Type} (q : XD) (K : SV → List (List SV) → Option R) : Option R :=
 bif decide ((60 : Int) < IntKind.i64.wrap ((↑(List.length q.2.1.2.2.2.2.2.1) : Int) + (↑(List.length q.2.2) : Int))) then K (.val .bool false) [cX q.1.1 q.1.2.1 q.1.2.2.2.1 q.1.2.2.2.2 (.vl q.1.2.2.1 ZN q.2.1.2.2.2.2.2.1) q.2.1]
 else if 0 + List.length q.2.1.2.2.2.2.2.1 ≤ lim then if List.length q.2.1.2.2.2.2.2.1 + List.length q.2.2 ≤ lim then K (.val .bool true) [cX q.1.1 q.1.2.1 q.1.2.2.2.1 q.1.2.2.2.2 (.fr ZP (List.append q.2.1.2.2.2.2.2.1 q.2.2)) q.2.1] else none else none
def Zaq : Con := ⟨[.mref, .ro ZN], fun _ args K => (Zx2 args).bind fun q => Zx3 q K, false⟩
theorem Zsi (n : Nat) (args : List SV) (r0 : Res) (hb : G1 args [] = true) (h1 : evX (false, false, []) [] [] [none] Tryz.f214 shI n args = some r0) : CallOk Tryz.prog 214 args (shI.sh r0).1 (shI.sh r0).2 :=
 Zw Zh (by kernel_rfl) rfl (by kernel_rfl) hb n h1
theorem Zqs (args : List SV) (r0 : Res) (h1 : Zh7 big args = some r0) : CallOk Tryz.prog 214 args r0.1 r0.2 := by
 unfold Zh7 at h1
 cases hb : G1 args [] with
 | false => rw [hb] at h1; cases h1
 | true =>
  rw [hb, cond_true] at h1
  exact Zsi big args r0 hb h1
theorem Zqt {R : Type} {P : SV → List (List SV) → Prop} {o : Option Res} (fin : ∀ r0 : Res, o = some r0 → P r0.1 r0.2) {c1 : Bool} {c2 c3 : Prop} [Decidable c2] [Decidable c3] {a b : SV} {x y : List (List SV)}
  (hp : o = bif c1 then some (a, x) else if c2 then if c3 then some (b, y) else none else none) {K : SV → List (List SV) → Option R} {r : R} (h : (bif c1 then K a x else if c2 then if c3 then K b y else none else none) = some r) : ∃ sv outs, P sv outs ∧ K sv outs = some r := by
 cases c1 with
 | true => exact ⟨a, x, fin (a, x) hp, h⟩
 | false =>
  simp only [cond_false] at h hp
  split at h
  ·rename_i g1
   rw [if_pos g1] at hp
   split at h
   ·rename_i g2
    rw [if_pos g2] at hp
    exact ⟨b, y, fin (b, y) hp, h⟩
   ·cases h
  ·cases h
theorem Zsj {R : Type} {c1 : Bool} {c2 c3 : Prop} [Decidable c2] [Decidable c3] {a b : SV} {x y : List (List SV)} {K K' : SV → List (List SV) → Option R} {r : R} (hk : ∀ sv outs, K sv outs = some r → K' sv outs = some r)
  (h : (bif c1 then K a x else if c2 then if c3 then K b y else none else none) = some r) : (bif c1 then K' a x else if c2 then if c3 then K' b y else none else none) = some r := by
 cases c1 with
 | true => exact hk _ _ h
 | false =>
  simp only [cond_false] at h ⊢
  split at h
  ·split at h
   ·rename_i g1 g2; rw [if_pos g1, if_pos g2]; exact hk _ _ h
   ·cases h
  ·cases h
theorem Zld : ZJ Tryz.prog 214 Zaq := by
 refine ⟨⟨Tryz.f214, by kernel_rfl, rfl, by decide⟩, fun R args K r he => ?_, fun R args K K' r hk he => ?_⟩
 ·obtain ⟨q, h1, h2⟩ := Option.bind_eq_some_iff.1 he
  have hp := Zqr q.1.1 q.1.2.1 q.1.2.2.1 q.1.2.2.2.1 q.1.2.2.2.2 q.2.1 q.2.2 big
  rw [← Zvs h1] at hp
  have fin := fun r0 => Zqs args r0
  generalize Zh7 big args = o at hp fin
  exact Zqt fin hp h2
 ·obtain ⟨q, h1, h2⟩ := Option.bind_eq_some_iff.1 he
  exact Option.bind_eq_some_iff.2 ⟨q, h1, Zsj hk h2⟩
def Zh8 (n : Nat) (v3 v4 v5 v6 v7 : Value) (x : Zp) (k : Int) : Option Res := evX (false, false, []) [(67, Yx), (214, Zaq)] [] [none] Tryz.f183 shI n [ZuI v3 v4 v5 v6 v7 x, .val Zk k]
abbrev twL (x : Zp) (k : Int) : List Zy := List.take ((IntKind.i64.wrap (k + 1)).toNat - k.toNat) (List.drop k.toNat x.2.2.2.2.2.1)
theorem ZnK (v3 v4 v5 v6 v7 : Value) (x : Zp) (k : Int) (n : Nat) : Zh8 n v3 v4 v5 v6 v7 x k =
  (ZT big k 0 (IntKind.i64.wrap ((↑(List.length x.2.2.2.2.2.1) : Int) - 1))).bind fun y => bif !y then some (.val .bool false, [cX v3 v4 v6 v7 (.vl v5 ZN x.2.2.2.2.2.1) x]) else
  if 0 ≤ IntKind.i64.wrap (k + 1) then if IntKind.i64.wrap (k + 1) ≤ (↑(List.length x.2.2.2.2.2.1) : Int) then if 0 ≤ k then if k ≤ IntKind.i64.wrap (k + 1) then
  bif decide ((60 : Int) < IntKind.i64.wrap ((↑(List.length x.2.2.2.2.2.1) : Int) + (↑(List.length (twL x k)) : Int))) then some (.val .bool false, [cX v3 v4 v6 v7 (.vl v5 ZN x.2.2.2.2.2.1) x])
  else if 0 + List.length x.2.2.2.2.2.1 ≤ lim then if List.length x.2.2.2.2.2.1 + List.length (twL x k) ≤ lim then some (.val .bool true, [cX v3 v4 v6 v7 (.fr ZP (List.append x.2.2.2.2.2.1 (twL x k))) x]) else none else none
  else none else none else none else none := by kernel_rfl
theorem X3 {im : Nat → Prop} {w : World} {x : SV} {l : List SV} {cs : List Value} {S : List Nat} (h : CVL im w (x :: l) cs S []) : ∃ c r S1 S2, cs = c :: r ∧ S = S1 ++ S2 ∧ CV im w x c S1 [] ∧ CVL im w l r S2 [] := by
 simp only [CVL] at h
 obtain ⟨c, r, S1, S2, B1, B2, h1, h2, h3, h4, h5⟩ := h
 obtain ⟨rfl, rfl⟩ := List.append_eq_nil_iff.1 h3.symm
 exact ⟨c, r, S1, S2, h1, h2, h4, h5⟩
theorem Zsk {im : Nat → Prop} {w : World} {cs : List Value} {S : List Nat} (h : CVL im w [] cs S []) : cs = [] ∧ S = [] := by
 simp only [CVL] at h; exact ⟨h.1, h.2.1⟩
theorem Kk {im : Nat → Prop} {w : World} {x : SV} {l : List SV} {c : Value} {r : List Value} {S1 S2 : List Nat} (h4 : CV im w x c S1 []) (h5 : CVL im w l r S2 []) : CVL im w (x :: l) (c :: r) (S1 ++ S2) [] := by
 simp only [CVL]; exact ⟨c, r, S1, S2, [], [], rfl, rfl, rfl, h4, h5⟩
theorem Zsl {im : Nat → Prop} {w : World} : CVL im w [] [] [] [] := by simp [CVL]
theorem Zle {im : Nat → Prop} {w : World} {n : Int} {c : Value} {S : List Nat} {B : List LC} (h : CV im w (.val Zk n) c S B) : S = [] ∧ B = [] ∧ ∀ (im' : Nat → Prop) (w' : World), CV im' w' (.val Zk n) c [] [] := by
 simp only [CV] at h
 obtain ⟨rfl, rfl, cs, h1, rfl⟩ := h
 exact ⟨rfl, rfl, fun im' w' => by simp only [CV]; exact ⟨trivial, trivial, cs, h1, rfl⟩⟩
theorem ZnL {im : Nat → Prop} {w : World} {n : Bool} {c : Value} {S : List Nat} {B : List LC} (h : CV im w (.val ZC n) c S B) : S = [] ∧ B = [] ∧ ∀ (im' : Nat → Prop) (w' : World), CV im' w' (.val ZC n) c [] [] := by
 simp only [CV] at h
 obtain ⟨rfl, rfl, cs, h1, rfl⟩ := h
 exact ⟨rfl, rfl, fun im' w' => by simp only [CV]; exact ⟨trivial, trivial, cs, h1, rfl⟩⟩
theorem Zqu {im : Nat → Prop} {w : World} {t : Ty} {y : List t.den} {c : Value} {S : List Nat} (h : CV im w (.fr t y) c S []) : 0 < t.size ∧ TR im w true (.sl true t) y [c] S := by
 simp only [CV] at h; exact h.2
theorem Zsm {im : Nat → Prop} {w : World} {t : Ty} {y : t.den} {c c0 : Value} {S : List Nat} (h : CV im w (.vl c0 t y) c S []) : S = [] ∧ c = c0 := by
 simp only [CV] at h; exact ⟨h.1, h.2.2.1⟩
theorem vlB {p p2 : Nat → Prop} {w : World} {S : List Nat} {c : Value} {y : List Zv} (h1 : ∀ k, p k → p2 k) (h2 : ∀ k ∈ S, p2 k) (h : TR p w true (.sl true Xb) y [c] S) : CV p2 w (.vl c Ze y) c [] [] := by
 simp only [CV]
 exact ⟨trivial, trivial, trivial, [c], TR.weak h1 (.sl true Xb) y [c] S true h2 h, rfl⟩
theorem vlP {p p2 : Nat → Prop} {w : World} {S : List Nat} {c : Value} {y : List Zn} (h1 : ∀ k, p k → p2 k) (h2 : ∀ k ∈ S, p2 k) (h : TR p w true (.sl true ZI) y [c] S) : CV p2 w (.vl c XN y) c [] [] := by
 simp only [CV]
 exact ⟨trivial, trivial, trivial, [c], TR.weak h1 (.sl true ZI) y [c] S true h2 h, rfl⟩
theorem vlL {p p2 : Nat → Prop} {w : World} {S : List Nat} {c : Value} {y : List Zy} (h1 : ∀ k, p k → p2 k) (h2 : ∀ k ∈ S, p2 k) (h : TR p w true (.sl true ZP) y [c] S) : CV p2 w (.vl c ZN y) c [] [] := by
 simp only [CV]
 exact ⟨trivial, trivial, trivial, [c], TR.weak h1 (.sl true ZP) y [c] S true h2 h, rfl⟩
theorem vlV {p p2 : Nat → Prop} {w : World} {S : List Nat} {c : Value} {y : List Z3} (h1 : ∀ k, p k → p2 k) (h2 : ∀ k ∈ S, p2 k) (h : TR p w true (.sl true Z4) y [c] S) : CV p2 w (.vl c ZS y) c [] [] := by
 simp only [CV]
 exact ⟨trivial, trivial, trivial, [c], TR.weak h1 (.sl true Z4) y [c] S true h2 h, rfl⟩
theorem vlC {p p2 : Nat → Prop} {w : World} {S : List Nat} {c : Value} {y : List Xd} (h1 : ∀ k, p k → p2 k) (h2 : ∀ k ∈ S, p2 k) (h : TR p w true (.sl true W6) y [c] S) : CV p2 w (.vl c Yg y) c [] [] := by
 simp only [CV]
 exact ⟨trivial, trivial, trivial, [c], TR.weak h1 (.sl true W6) y [c] S true h2 h, rfl⟩
abbrev muC (x : Zp) (l : List Zy) : List SV := [.val Zk x.1, .val ZC x.2.1, .val Zk x.2.2.1, .fr Xb x.2.2.2.1, .fr ZI x.2.2.2.2.1, .fr ZP l, .fr Z4 x.2.2.2.2.2.2.1, .fr W6 x.2.2.2.2.2.2.2.1]
def Zx4 (v5 : Value) (x : Zp) : Option (List Zy) → SV
 | none => .vl v5 ZN x.2.2.2.2.2.1
 | some y => .fr ZP y
set_option maxHeartbeats 4000000 in
theorem Zvt (x : Zp) (k : Int) (b : Bool) (o : Option (List Zy))
  (h : ∀ v3 v4 v5 v6 v7, CallOk Tryz.prog 183 [ZuI v3 v4 v5 v6 v7 x, .val Zk k] (.val .bool b) [cX v3 v4 v6 v7 (Zx4 v5 x o) x]) :
  CallOk Tryz.prog 183 [.mr (muC x x.2.2.2.2.2.1), .val Zk k] (.val .bool b) [muC x (o.getD x.2.2.2.2.2.1)] := by
 intro p w cargs S B hcv hnd hS hp hnt
 simp only [CVL] at hcv
 obtain ⟨c, r, S0, S9, B0, B9, rfl, rfl, rfl, hc, c9, r9, Sa, Sb, Ba, Bb, rfl, rfl, rfl, hk, rfl, rfl, rfl⟩ := hcv
 simp only [CV] at hc
 obtain ⟨blk, cs, e, S', rfl, rfl, rfl, hheap, hcells⟩ := hc
 obtain ⟨rfl, rfl, hk'⟩ := Zle hk
 obtain ⟨c0, r0, T0, U0, rfl, rfl, h0, hcells⟩ := X3 hcells
 obtain ⟨c1, r1, T1, U1, rfl, rfl, h1, hcells⟩ := X3 hcells
 obtain ⟨c2, r2, T2, U2, rfl, rfl, h2, hcells⟩ := X3 hcells
 obtain ⟨c3, r3, S3, U3, rfl, rfl, h3, hcells⟩ := X3 hcells
 obtain ⟨c4, r4, S4, U4, rfl, rfl, h4, hcells⟩ := X3 hcells
 obtain ⟨c5, r5, S5, U5, rfl, rfl, h5, hcells⟩ := X3 hcells
 obtain ⟨c6, r6, S6, U6, rfl, rfl, h6, hcells⟩ := X3 hcells
 obtain ⟨c7, r7, S7, U7, rfl, rfl, h7, hcells⟩ := X3 hcells
 obtain ⟨rfl, rfl⟩ := Zsk hcells
 obtain ⟨rfl, _, k0⟩ := Zle h0
 obtain ⟨rfl, _, k1⟩ := ZnL h1
 obtain ⟨rfl, _, k2⟩ := Zle h2
 obtain ⟨p3, t3⟩ := Zqu h3
 obtain ⟨p4, t4⟩ := Zqu h4
 obtain ⟨p5, t5⟩ := Zqu h5
 obtain ⟨p6, t6⟩ := Zqu h6
 obtain ⟨p7, t7⟩ := Zqu h7
 simp only [List.nil_append, List.append_nil] at hnd hS ⊢
 -- what the lists are read from
 let p2 : Nat → Prop := fun k => p k ∨ k ∈ S3 ++ (S4 ++ (S5 ++ (S6 ++ S7)))
 obtain ⟨hnb, hnl⟩ := List.nodup_cons.1 hnd
 have lt : ∀ k ∈ S3 ++ (S4 ++ (S5 ++ (S6 ++ S7))), ¬ p k ∧ k < w.heap.size := fun k hk => hS k (List.mem_cons_of_mem _ hk)
 have hb := hS blk (List.mem_cons_self ..)
 have q1 : ∀ k, p k → p2 k := fun k hk => .inl hk
 have q3 : ∀ k ∈ S3, p2 k := fun k hk => .inr (by simp [hk])
 have q4 : ∀ k ∈ S4, p2 k := fun k hk => .inr (by simp [hk])
 have q5 : ∀ k ∈ S5, p2 k := fun k hk => .inr (by simp [hk])
 have q6 : ∀ k ∈ S6, p2 k := fun k hk => .inr (by simp [hk])
 have q7 : ∀ k ∈ S7, p2 k := fun k hk => .inr (by simp [hk])
 have hX : CVL p2 w [ZuI c3 c4 c5 c6 c7 x, .val Zk k] [.pointer (some ⟨blk, 0, none⟩), c9] [blk] [.box blk] := by
  simp only [CVL]
  refine ⟨_, _, [blk], [], [.box blk], [], rfl, rfl, rfl, ?_, _, _, [], [], [], [], rfl, rfl, rfl, hk' p2 w, rfl, rfl, rfl⟩
  unfold ZuI
  simp only [CV]
  refine ⟨blk, _, e, [], rfl, rfl, rfl, hheap, ?_⟩
  exact Kk (S1 := []) (k0 p2 w) (Kk (S1 := []) (k1 p2 w) (Kk (S1 := []) (k2 p2 w) (Kk (S1 := []) (vlB q1 q3 t3) (Kk (S1 := []) (vlP q1 q4 t4) (Kk (S1 := []) (vlL q1 q5 t5) (Kk (S1 := []) (vlV q1 q6 t6) (Kk (S1 := []) (vlC q1 q7 t7) Zsl)))))))
 refine (h c3 c4 c5 c6 c7 p2 w _ [blk] [.box blk] hX (by simp) (fun k hk => ?_) (fun k hk => ?_) (fun t ht => by cases ht)).mono ?_
 ·simp only [List.mem_singleton] at hk
  subst hk
  exact ⟨fun hc => hc.elim hb.1 hnb, hb.2⟩
 ·rcases hk with hk | hk
  ·exact hp k hk
  ·exact (lt k hk).2
 rintro e' w' ⟨cr, S1, S2, he, hnd2, hrg, hkept, hcr, houts⟩
 obtain ⟨rfl, _, kb⟩ := ZnL hcr
 simp only [Outs] at houts
 obtain ⟨cells, e2, V1, V2, rfl, hheap', hc', rfl⟩ := houts
 simp only [List.nil_append, List.append_nil] at hnd2 hrg hc'
 obtain ⟨d0, r0, T0, U0, rfl, rfl, g0, hc'⟩ := X3 hc'
 obtain ⟨d1, r1, T1, U1, rfl, rfl, g1, hc'⟩ := X3 hc'
 obtain ⟨d2, r2, T2, U2, rfl, rfl, g2, hc'⟩ := X3 hc'
 obtain ⟨d3, r3, T3, U3, rfl, rfl, g3, hc'⟩ := X3 hc'
 obtain ⟨d4, r4, T4, U4, rfl, rfl, g4, hc'⟩ := X3 hc'
 obtain ⟨d5, r5, T5, U5, rfl, rfl, g5, hc'⟩ := X3 hc'
 obtain ⟨d6, r6, T6, U6, rfl, rfl, g6, hc'⟩ := X3 hc'
 obtain ⟨d7, r7, T7, U7, rfl, rfl, g7, hc'⟩ := X3 hc'
 obtain ⟨rfl, rfl⟩ := Zsk hc'
 obtain ⟨rfl, _, k0⟩ := Zle g0
 obtain ⟨rfl, _, k1⟩ := ZnL g1
 obtain ⟨rfl, _, k2⟩ := Zle g2
 obtain ⟨rfl, rfl⟩ := Zsm g3
 obtain ⟨rfl, rfl⟩ := Zsm g4
 obtain ⟨rfl, rfl⟩ := Zsm g6
 obtain ⟨rfl, rfl⟩ := Zsm g7
 simp only [List.nil_append, List.append_nil] at hnd2 hrg
 obtain ⟨hn5, hnd5⟩ := List.nodup_cons.1 hnd2
 -- the letters' blocks behind the call
 have hT5 : ∀ k ∈ T5, w.heap.size ≤ k := fun k hk => by
  rcases (hrg k (List.mem_cons_of_mem _ hk)).1 with e | e
  ·simp only [List.mem_singleton] at e; subst e; exact absurd hk hn5
  ·exact e
 have same : ∀ k, k < w.heap.size → k ≠ blk → w'.heap[k]? = w.heap[k]? := fun k hk hne => hkept.same k hk (by simpa using hne)
 obtain ⟨S5', hS5, h5'⟩ : ∃ S5' : List Nat, (S5' = S5 ∨ S5' = T5) ∧ ∀ im' : Nat → Prop, (∀ b, p b → im' b) → CV im' w' (.fr ZP (o.getD x.2.2.2.2.2.1)) d5 S5' [] := by
  cases o with
  | none =>
   obtain ⟨rfl, rfl⟩ := Zsm (show CV _ w' (.vl c5 ZN x.2.2.2.2.2.1) d5 T5 [] from g5)
   refine ⟨S5, .inl rfl, fun im' hi => ?_⟩
   simp only [CV, Option.getD]
   refine ⟨trivial, p5, t5.mono (fun b hb2 => ⟨hi b hb2, same b (hp b hb2) (fun e => hb.1 (e ▸ hb2))⟩) _ _ _ _ _ (fun b hb2 => same b (lt b (by simp [hb2])).2 (fun e => hnb (e ▸ by simp [hb2])))⟩
  | some y =>
   obtain ⟨q, tq⟩ := Zqu (show CV _ w' (.fr ZP y) d5 T5 [] from g5)
   refine ⟨T5, .inr rfl, fun im' _ => ?_⟩
   simp only [CV, Option.getD]
   exact ⟨trivial, q, tq.noRo rfl⟩
 have m5 : ∀ k ∈ S5', (k ∈ S5 ∨ w.heap.size ≤ k) ∧ k < w'.heap.size ∧ k ≠ blk := fun k hk => by
  rcases hS5 with e | e
  ·subst e
   have := (lt k (by simp [hk])).2
   exact ⟨.inl hk, by have := hkept.size; omega, fun e => hnb (e ▸ by simp [hk])⟩
  ·subst e
   exact ⟨.inr (hT5 k hk), (hrg k (List.mem_cons_of_mem _ hk)).2, fun e => hn5 (e ▸ hk)⟩
 have n5 : S5'.Nodup := by
  rcases hS5 with e | e
  ·subst e
   exact (List.nodup_append.1 (List.nodup_append.1 (List.nodup_append.1 hnl).2.1).2.1).1
  ·subst e; exact hnd5
 obtain ⟨a3, ar3, ad3⟩ := List.nodup_append.1 hnl
 obtain ⟨a4, ar4, ad4⟩ := List.nodup_append.1 ar3
 obtain ⟨a5, ar5, ad5⟩ := List.nodup_append.1 ar4
 have d5 : ∀ a ∈ S5', ∀ b ∈ S6 ++ S7, a ≠ b := fun a ha b hb2 => by
  rcases (m5 a ha).1 with q | q
  ·exact ad5 a q b hb2
  ·have := (lt b (List.mem_append.2 (.inr (List.mem_append.2 (.inr (List.mem_append.2 (.inr hb2))))))).2
   omega
 have d4 : ∀ a ∈ S4, ∀ b ∈ S5' ++ (S6 ++ S7), a ≠ b := fun a ha b hb2 => by
  rcases List.mem_append.1 hb2 with hb2 | hb2
  ·rcases (m5 b hb2).1 with q | q
   ·exact ad4 a ha b (List.mem_append.2 (.inl q))
   ·have := (lt a (by simp [ha])).2
    omega
  ·exact ad4 a ha b (List.mem_append.2 (.inr hb2))
 have d3 : ∀ a ∈ S3, ∀ b ∈ S4 ++ (S5' ++ (S6 ++ S7)), a ≠ b := fun a ha b hb2 => by
  rcases List.mem_append.1 hb2 with hb2 | hb2
  ·exact ad3 a ha b (List.mem_append.2 (.inl hb2))
  ·rcases List.mem_append.1 hb2 with hb2 | hb2
   ·rcases (m5 b hb2).1 with q | q
    ·exact ad3 a ha b (List.mem_append.2 (.inr (List.mem_append.2 (.inl q))))
    ·have := (lt a (by simp [ha])).2
     omega
   ·exact ad3 a ha b (List.mem_append.2 (.inr (List.mem_append.2 (.inr hb2))))
 have old : ∀ k, (k ∈ S3 ∨ k ∈ S4 ∨ k ∈ S6 ∨ k ∈ S7) → k ∈ S3 ++ (S4 ++ (S5 ++ (S6 ++ S7))) := fun k hk => by
  simp only [List.mem_append]
  rcases hk with q | q | q | q
  ·exact .inl q
  ·exact .inr (.inl q)
  ·exact .inr (.inr (.inr (.inl q)))
  ·exact .inr (.inr (.inr (.inr q)))
 have split : ∀ k, k ∈ S3 ++ (S4 ++ (S5' ++ (S6 ++ S7))) → k ∈ S5' ∨ (k ∈ S3 ∨ k ∈ S4 ∨ k ∈ S6 ∨ k ∈ S7) := fun k hk => by
  simp only [List.mem_append] at hk
  rcases hk with q | q | q | q | q
  ·exact .inr (.inl q)
  ·exact .inr (.inr (.inl q))
  ·exact .inl q
  ·exact .inr (.inr (.inr (.inl q)))
  ·exact .inr (.inr (.inr (.inr q)))
 have hnb' : blk ∉ S3 ++ (S4 ++ (S5' ++ (S6 ++ S7))) := fun hm => by
  rcases split blk hm with q | q
  ·exact (m5 blk q).2.2 rfl
  ·exact hnb (old blk q)
 have hsz := hkept.size
 have hi : ∀ b, p b → after p (blk :: (S3 ++ (S4 ++ (S5 ++ (S6 ++ S7))))) ([] ++ blk :: (S3 ++ (S4 ++ (S5' ++ (S6 ++ S7))))) w w' b := fun b hb2 => by
  have hlt := hp b hb2
  refine ⟨.inl hb2, by omega, fun hm => ?_⟩
  rcases List.mem_cons.1 hm with q | q
  ·exact hb.1 (q ▸ hb2)
  ·rcases split b q with q | q
   ·rcases (m5 b q).1 with q | q
    ·exact (lt b (by simp [q])).1 hb2
    ·omega
   ·exact (lt b (old b q)).1 hb2
 have keep : ∀ {t : Ty} {y : List t.den} {c : Value} {S : List Nat}, 0 < t.size → (∀ k ∈ S, k ∈ S3 ++ (S4 ++ (S5 ++ (S6 ++ S7)))) → TR p w true (.sl true t) y [c] S →
   CV (after p (blk :: (S3 ++ (S4 ++ (S5 ++ (S6 ++ S7))))) ([] ++ blk :: (S3 ++ (S4 ++ (S5' ++ (S6 ++ S7))))) w w') w' (.fr t y) c S [] := by
  intro t y c S hq hs ht
  simp only [CV]
  exact ⟨trivial, hq, ht.mono (fun b hb2 => ⟨hi b hb2, same b (hp b hb2) (fun e => hb.1 (e ▸ hb2))⟩) _ _ _ _ _ (fun b hb2 => same b (lt b (hs b hb2)).2 (fun e => hnb (e ▸ hs b hb2)))⟩
 refine ⟨cr, [], blk :: (S3 ++ (S4 ++ (S5' ++ (S6 ++ S7)))), he, ?_, fun k hk => ?_, ⟨hsz, fun k hk hn => hkept.same k hk (fun hm => hn (by simp only [List.mem_singleton] at hm; simp [hm])), hkept.frz⟩, kb _ _, ?_⟩
 ·exact List.nodup_cons.2 ⟨hnb', List.nodup_append.2 ⟨a3, List.nodup_append.2 ⟨a4, List.nodup_append.2 ⟨n5, ar5, d5⟩, d4⟩, d3⟩⟩
 ·rcases List.mem_cons.1 (show k ∈ blk :: (S3 ++ (S4 ++ (S5' ++ (S6 ++ S7)))) from hk) with q | q
  ·subst q
   exact ⟨.inl (List.mem_cons_self ..), by have := hb.2; omega⟩
  ·rcases split k q with q | q
   ·refine ⟨?_, (m5 k q).2.1⟩
    rcases (m5 k q).1 with q | q
    ·exact .inl (List.mem_cons_of_mem _ (by simp [q]))
    ·exact .inr q
   ·exact ⟨.inl (List.mem_cons_of_mem _ (old k q)), by have := (lt k (old k q)).2; omega⟩
 ·simp only [Outs]
  refine ⟨_, e2, S3 ++ (S4 ++ (S5' ++ (S6 ++ S7))), [], by simp, hheap', ?_, rfl⟩
  have hc := Kk (S1 := []) (k0 (after p (blk :: (S3 ++ (S4 ++ (S5 ++ (S6 ++ S7))))) ([] ++ blk :: (S3 ++ (S4 ++ (S5' ++ (S6 ++ S7))))) w w') w') (Kk (S1 := []) (k1 _ w') (Kk (S1 := []) (k2 _ w')
   (Kk (keep p3 (fun k hk => old k (.inl hk)) t3) (Kk (keep p4 (fun k hk => old k (.inr (.inl hk))) t4) (Kk (h5' _ hi)
   (Kk (keep p6 (fun k hk => old k (.inr (.inr (.inl hk)))) t6) (Kk (keep p7 (fun k hk => old k (.inr (.inr (.inr hk)))) t7) Zsl)))))))
  simp only [List.nil_append, List.append_nil] at hc
  simpa only [List.nil_append] using hc
def twF (x : Zp) (k : Int) : Option (Bool × Option (List Zy)) :=
 (ZT big k 0 (IntKind.i64.wrap ((↑(List.length x.2.2.2.2.2.1) : Int) - 1))).bind fun y => bif !y then some (false, none) else
  if 0 ≤ IntKind.i64.wrap (k + 1) then if IntKind.i64.wrap (k + 1) ≤ (↑(List.length x.2.2.2.2.2.1) : Int) then if 0 ≤ k then if k ≤ IntKind.i64.wrap (k + 1) then
  bif decide ((60 : Int) < IntKind.i64.wrap ((↑(List.length x.2.2.2.2.2.1) : Int) + (↑(List.length (twL x k)) : Int))) then some (false, none)
  else if 0 + List.length x.2.2.2.2.2.1 ≤ lim then if List.length x.2.2.2.2.2.1 + List.length (twL x k) ≤ lim then some (true, some (List.append x.2.2.2.2.2.1 (twL x k))) else none else none
  else none else none else none else none
theorem Zvu {α β : Type} {g : α → β} (c : Bool) (a : α) (y : Option α) : (bif c then some (g a) else y.map g) = (bif c then some a else y).map g := by cases c <;> rfl
theorem ZwO {α β : Type} {g : α → β} (c : Prop) [Decidable c] (y : Option α) : (if c then y.map g else none) = (if c then y else none).map g := by split <;> rfl
theorem ZwP (v3 v4 v5 v6 v7 : Value) (x : Zp) (k : Int) : Zh8 big v3 v4 v5 v6 v7 x k = (twF x k).map fun r => (SV.val .bool r.1, [cX v3 v4 v6 v7 (Zx4 v5 x r.2) x]) := by
 rw [ZnK]
 unfold twF
 cases ZT big k 0 (IntKind.i64.wrap ((↑(List.length x.2.2.2.2.2.1) : Int) - 1)) with
 | none => rfl
 | some y =>
  simp only [Option.bind_some]
  cases y with
  | false => rfl
  | true =>
   simp only [Bool.not_true, cond_false, ← ZwO, ← Zvu]
   rfl
theorem Zvv (n : Nat) (args : List SV) (r0 : Res) (hb : G1 args [] = true) (h1 : evX (false, false, []) [(67, Yx), (214, Zaq)] [] [none] Tryz.f183 shI n args = some r0) : CallOk Tryz.prog 183 args (shI.sh r0).1 (shI.sh r0).2 :=
 Zw (cons_cons Z5 (cons_cons Zld Zh)) (by kernel_rfl) rfl (by kernel_rfl) hb n h1
theorem Zvw {x : Zp} {k : Int} {r : Bool × Option (List Zy)} (h : twF x k = some r) (v3 v4 v5 v6 v7 : Value) : CallOk Tryz.prog 183 [ZuI v3 v4 v5 v6 v7 x, .val Zk k] (.val .bool r.1) [cX v3 v4 v6 v7 (Zx4 v5 x r.2) x] := by
 have h1 := ZwP v3 v4 v5 v6 v7 x k
 rw [h, Option.map_some] at h1
 unfold Zh8 at h1
 exact Zvv big _ _ (by kernel_rfl) h1
def Q1 (_n : Nat) (x : AP.denL [.mu Zx, .ro Zk]) : Option (Bool × Zp × Unit) :=
 (twF x.1 x.2.1).bind fun r => some (r.1, (x.1.1, x.1.2.1, x.1.2.2.1, x.1.2.2.2.1, x.1.2.2.2.2.1, r.2.getD x.1.2.2.2.2.2.1, x.1.2.2.2.2.2.2.1, x.1.2.2.2.2.2.2.2.1, ()), ())
def Od : Con := apS [.mu Zx, .ro Zk] true (shO (shV ZC) [.mu Zx]) (Q1 big)
theorem Zar : ZJ Tryz.prog 183 Od := YU ⟨Tryz.f183, by kernel_rfl, rfl, by decide⟩ fun xs v h => by
 obtain ⟨x, k, u⟩ := xs
 cases u
 unfold Q1 at h
 obtain ⟨r, h1, h2⟩ := Option.bind_eq_some_iff.1 h
 cases h2
 have h3 := Zvt x k r.1 r.2 (Zvw h1)
 exact h3
def Oe (n : Nat) (a0 : Zp) (a1 : Int) : Option (Bool × Zp × Unit) := Q1 n (a0, a1, ())
def Fs : Yq := []
theorem Zh9 : Yr Fs := Zh
abbrev As : Vz := (.ro Zb :: dp 2 (.own Zka :: dp 18 []), [])
def Zas : KP := [(2, As)]
def ZfN (n : Nat) (x : YG [Zk]) := evX (false, false, []) Fs Zas [none] Tryz.f245 (shV Zu) n (YP [Zk] x)
def Ft : Con := roS [Zk] true (shV Zu) (ZfN big)
theorem Cw : ZJ Tryz.prog 245 Ft := ZD ⟨Tryz.f245, by kernel_rfl, rfl, by decide⟩ fun _ _ h => Zw Zh9 (f := Tryz.f245) (by kernel_rfl) rfl (by kernel_rfl) (by kernel_rfl) big h
def BG (n : Nat) (a0 : Int) : Option ByteArray := ZfN n (a0, ())
def Zlf (n : Nat) (x : KD As.1) (y : BD As.2) := Z6 (env (false, false, []) Fs) Zas (body Tryz.f245) (Vn (false, false, []) Fs [none] Tryz.f245 (shV Zu) [.val Zk (ZR Zk)]) n 2 As x y
def Au (n : Nat) (s0 : Int) (s3 : (List Int)) : Option ByteArray := Zlf n (s0, s3, ()) ()
theorem Zia (n : Nat) (a0 : Int) : BG n a0 = Au n a0 [] := by kernel_rfl
theorem JH (n : Nat) (s0 : Int) (s3 : (List Int)) : Au (n + 1) s0 s3 = bif decide (127 < s0) then if s3.length + [IntKind.u8.wrap (IntKind.i64.wrap (s0.tmod 128 + 128))].length ≤ lim then Au n (IntKind.i64.wrap (s0.tdiv 128)) (s3.append [IntKind.u8.wrap (IntKind.i64.wrap (s0.tmod 128 + 128))]) else none else if s3.length + [IntKind.u8.wrap s0].length ≤ lim then some (ByteArray.mk (List.map (fun n => UInt8.ofNat n.toNat) (s3.append [IntKind.u8.wrap s0])).toArray) else none := by kernel_rfl
def ZfO : Yq := [(245, Ft)]
theorem Zib : Yr ZfO := cons_cons Cw (Zh)
def ZnM : KP := []
def ZfP (n : Nat) (x : YG [Zk]) := evX (false, false, []) ZfO ZnM [none] Tryz.f242 (shV Zu) n (YP [Zk] x)
def Fu : Con := roS [Zk] true (shV Zu) (ZfP big)
theorem Cx : ZJ Tryz.prog 242 Fu := ZD ⟨Tryz.f242, by kernel_rfl, rfl, by decide⟩ fun _ _ h => Zw Zib (f := Tryz.f242) (by kernel_rfl) rfl (by kernel_rfl) (by kernel_rfl) big h
def XB (n : Nat) (a0 : Int) : Option ByteArray := ZfP n (a0, ())
theorem Zic (n : Nat) (a0 : Int) : XB n a0 = bif decide (a0 < 0) then some (ByteArray.mk (List.map (fun n => UInt8.ofNat n.toNat) [IntKind.u8.wrap 0]).toArray) else (BG big a0).bind fun y => some y := by kernel_rfl
def ZfQ : Yq := [(242, Fu)]
theorem Zid : Yr ZfQ := cons_cons Cx (Zh)
def ZnN : KP := []
def ZfR (n : Nat) (x : YG [Wl]) := evX (false, false, [1, 3, 6, 10, 14]) ZfQ ZnN [none] Tryz.f243 (shV Zu) n (YP [Wl] x)
def ZfS : Con := roS [Wl] true (shV Zu) (ZfR big)
theorem Zie : ZJ Tryz.prog 243 ZfS := ZD ⟨Tryz.f243, by kernel_rfl, rfl, by decide⟩ fun _ _ h => Zw Zid (f := Tryz.f243) (by kernel_rfl) rfl (by kernel_rfl) (by kernel_rfl) big h
def Fv (n : Nat) (a0 : Bw) : Option ByteArray := ZfR n (a0, ())
theorem Zif (n : Nat) (a0 : Bw) : Fv n a0 = (XB big a0.1).bind fun y => (XB big a0.2.1).bind fun y_1 => if ByteArray.size y + ByteArray.size y_1 ≤ lim then (XB big a0.2.2.1).bind fun y_2 => if (y ++ y_1).size + ByteArray.size y_2 ≤ lim then (XB big a0.2.2.2.1).bind fun y_3 => if (y ++ y_1 ++ y_2).size + ByteArray.size y_3 ≤ lim then some (y ++ y_1 ++ y_2 ++ y_3) else none else none else none := by kernel_rfl
def Of : Yq := [(242, Fu)]
theorem Zat : Yr Of := cons_cons Cx (Zh)
def Zig : KP := []
def Og (n : Nat) (x : YG [Z4]) := evX (false, false, [1, 3, 6, 10, 14]) Of Zig [none] Tryz.f244 (shV Zu) n (YP [Z4] x)
def Oh : Con := roS [Z4] true (shV Zu) (Og big)
theorem Zau : ZJ Tryz.prog 244 Oh := ZD ⟨Tryz.f244, by kernel_rfl, rfl, by decide⟩ fun _ _ h => Zw Zat (f := Tryz.f244) (by kernel_rfl) rfl (by kernel_rfl) (by kernel_rfl) big h
def Eg (n : Nat) (a0 : Z3) : Option ByteArray := Og n (a0, ())
theorem Zav (n : Nat) (a0 : Z3) : Eg n a0 = (XB big a0.1).bind fun y => (XB big a0.2.1).bind fun y_1 => if ByteArray.size y + ByteArray.size y_1 ≤ lim then (XB big a0.2.2.1).bind fun y_2 => if (y ++ y_1).size + ByteArray.size y_2 ≤ lim then (XB big a0.2.2.2.1).bind fun y_3 => if (y ++ y_1 ++ y_2).size + ByteArray.size y_3 ≤ lim then some (y ++ y_1 ++ y_2 ++ y_3) else none else none else none := by kernel_rfl
def Qq : Yq := []
theorem ZdQ : Yr Qq := Zh
abbrev KU : Vz := (.ro X6 :: .ro Zu :: dp 3 (.ro Zb :: dp 27 []), [])
abbrev KV : Vz := (.ro X6 :: .ro Zu :: dp 3 (.ro Zb :: .ro Zb :: dp 26 []), [])
def Eh : KP := [(2, KU), (6, KV)]
def Zaw (n : Nat) (x : YG [X6, Zu]) := evX (false, false, []) Qq Eh [none] Tryz.f259 (shV X6) n (YP [X6, Zu] x)
def Zax : Con := roS [X6, Zu] true (shV X6) (Zaw big)
theorem ZdR : ZJ Tryz.prog 259 Zax := ZD ⟨Tryz.f259, by kernel_rfl, rfl, by decide⟩ fun _ _ h => Zw ZdQ (f := Tryz.f259) (by kernel_rfl) rfl (by kernel_rfl) (by kernel_rfl) big h
def Zay (n : Nat) (a0 : Int) (a1 : ByteArray) : Option Int := Zaw n (a0, a1, ())
def Zih (n : Nat) (x : KD KU.1) (y : BD KU.2) := Z6 (env (false, false, []) Qq) Eh (body Tryz.f259) (Vn (false, false, []) Qq [none] Tryz.f259 (shV X6) [.val X6 (ZR X6), .val Zu (ZR Zu)]) n 2 KU x y
def UG (n : Nat) (s0 : Int) (s1 : ByteArray) (s5 : Int) : Option Int := Zih n (s0, s1, s5, ()) ()
def Zii (n : Nat) (x : KD KV.1) (y : BD KV.2) := Z6 (env (false, false, []) Qq) Eh (body Tryz.f259) (Vn (false, false, []) Qq [none] Tryz.f259 (shV X6) [.val X6 (ZR X6), .val Zu (ZR Zu)]) n 6 KV x y
def UH (n : Nat) (s0 : Int) (s1 : ByteArray) (s5 s6 : Int) : Option Int := Zii n (s0, s1, s5, s6, ()) ()
theorem ZdS (n : Nat) (a0 : Int) (a1 : ByteArray) : Zay n a0 a1 = UG n a0 a1 0 := by kernel_rfl
theorem C5 (n : Nat) (s0 : Int) (s1 : ByteArray) (s5 : Int) : UG (n + 1) s0 s1 s5 = bif decide (s5 < (↑s1.size : Int)) then if 0 ≤ s5 then (nth s1.data.toList s5.toNat).bind fun y => UH n (IntKind.u32.wrap (↑(BitVec.ofInt IntKind.u32.bits s0 ^^^ BitVec.ofInt IntKind.u32.bits (IntKind.u32.wrap (↑y.toNat : Int))).toNat : Int)) s1 s5 0 else none else some s0 := by kernel_rfl
theorem C6 (n : Nat) (s0 : Int) (s1 : ByteArray) (s5 s6 : Int) : UH (n + 1) s0 s1 s5 s6 = bif decide (s6 < 8) then bif decide (s0.tmod 2 = 1) then UH n (IntKind.u32.wrap (↑(BitVec.ofInt IntKind.u32.bits (IntKind.u32.wrap (s0.tdiv 2)) ^^^ BitVec.ofInt IntKind.u32.bits 3558460437).toNat : Int)) s1 s5 (IntKind.i64.wrap (s6 + 1)) else UH n (IntKind.u32.wrap (s0.tdiv 2)) s1 s5 (IntKind.i64.wrap (s6 + 1)) else UG n s0 s1 (IntKind.i64.wrap (s5 + 1)) := by kernel_rfl
def Zlg : Yq := [(259, Zax)]
theorem Zlh : Yr Zlg := cons_cons ZdR (Zh)
def Zqv : KP := []
def Zli (n : Nat) (x : YG [Zu]) := evX (false, false, []) Zlg Zqv [none] Tryz.f255 (shV X6) n (YP [Zu] x)
def Zaz : Con := roS [Zu] true (shV X6) (Zli big)
theorem Oi : ZJ Tryz.prog 255 Zaz := ZD ⟨Tryz.f255, by kernel_rfl, rfl, by decide⟩ fun _ _ h => Zw Zlh (f := Tryz.f255) (by kernel_rfl) rfl (by kernel_rfl) (by kernel_rfl) big h
def I0 (n : Nat) (a0 : ByteArray) : Option Int := Zli n (a0, ())
theorem Zlj (n : Nat) (a0 : ByteArray) : I0 n a0 = (Zay big 4294967295 a0).bind fun y => some y := by kernel_rfl
def ZaA : Yq := []
theorem ZdT : Yr ZaA := Zh
def Zlk : KP := []
def ZnO (n : Nat) (x : YG [X6]) := evX (false, false, []) ZaA Zlk [none] Tryz.f254 (shV Zu) n (YP [X6] x)
def Hm : Con := roS [X6] true (shV Zu) (ZnO big)
theorem Gl : ZJ Tryz.prog 254 Hm := ZD ⟨Tryz.f254, by kernel_rfl, rfl, by decide⟩ fun _ _ h => Zw ZdT (f := Tryz.f254) (by kernel_rfl) rfl (by kernel_rfl) (by kernel_rfl) big h
def ZfT : Yq := [(255, Zaz), (254, Hm)]
theorem Zij : Yr ZfT := cons_cons Oi (cons_cons Gl (Zh))
def ZnP : KP := []
def ZfU (n : Nat) (x : YG [Zu]) := evX (false, false, []) ZfT ZnP [none, none] Tryz.f246 (shT [(false, Zu), (false, ZC)]) n (YP [Zu] x)
def ZfV : Con := roS [Zu] true (shT [(false, Zu), (false, ZC)]) (ZfU big)
theorem Zik : ZJ Tryz.prog 246 ZfV := ZD ⟨Tryz.f246, by kernel_rfl, rfl, by decide⟩ fun _ _ h => Zw Zij (f := Tryz.f246) (by kernel_rfl) rfl (by kernel_rfl) (by kernel_rfl) big h
def MI (n : Nat) (a0 : ByteArray) : Option (ByteArray × Bool × Unit) := ZfU n (a0, ())
theorem Zil (n : Nat) (a0 : ByteArray) : MI n a0 = bif decide (20000 < (↑a0.size : Int)) then some (ByteArray.mk #[], false, ()) else (I0 big a0).bind fun y => if a0.size + (ByteArray.mk (List.map (fun n => UInt8.ofNat n.toNat) [IntKind.u8.wrap (Int.fdiv y (2 ^ min (Int.toNat 24) IntKind.u32.bits)), IntKind.u8.wrap (Int.fdiv y (2 ^ min (Int.toNat 16) IntKind.u32.bits)), IntKind.u8.wrap (Int.fdiv y (2 ^ min (Int.toNat 8) IntKind.u32.bits)), IntKind.u8.wrap y]).toArray).size ≤ lim then some (a0 ++ ByteArray.mk (List.map (fun n => UInt8.ofNat n.toNat) [IntKind.u8.wrap (Int.fdiv y (2 ^ min (Int.toNat 24) IntKind.u32.bits)), IntKind.u8.wrap (Int.fdiv y (2 ^ min (Int.toNat 16) IntKind.u32.bits)), IntKind.u8.wrap (Int.fdiv y (2 ^ min (Int.toNat 8) IntKind.u32.bits)), IntKind.u8.wrap y]).toArray, true, ()) else none := by kernel_rfl
def Oj : Yq := [(255, Zaz), (254, Hm)]
theorem ZaB : Yr Oj := cons_cons Oi (cons_cons Gl (Zh))
def Zim : KP := []
def Ol (n : Nat) (x : YG [Zu]) := evX (false, false, []) Oj Zim [none, none] Tryz.f238 (shT [(false, Zu), (false, ZC)]) n (YP [Zu] x)
def Om : Con := roS [Zu] true (shT [(false, Zu), (false, ZC)]) (Ol big)
theorem ZaC : ZJ Tryz.prog 238 Om := ZD ⟨Tryz.f238, by kernel_rfl, rfl, by decide⟩ fun _ _ h => Zw ZaB (f := Tryz.f238) (by kernel_rfl) rfl (by kernel_rfl) (by kernel_rfl) big h
def Ei (n : Nat) (a0 : ByteArray) : Option (ByteArray × Bool × Unit) := Ol n (a0, ())
theorem ZaD (n : Nat) (a0 : ByteArray) : Ei n a0 = bif decide (IntKind.i64.wrap ((↑a0.size : Int) - 4) < 0) then some (ByteArray.mk #[], false, ()) else bif decide (20000 < IntKind.i64.wrap ((↑a0.size : Int) - 4)) then some (ByteArray.mk #[], false, ()) else if 0 ≤ IntKind.i64.wrap ((↑a0.size : Int) - 4) then if IntKind.i64.wrap ((↑a0.size : Int) - 4) ≤ (↑a0.size : Int) then if 0 ≤ IntKind.i64.wrap ((↑a0.size : Int) - 4) then if IntKind.i64.wrap ((↑a0.size : Int) - 4) ≤ (↑a0.size : Int) then (I0 big (a0.extract (0 : Nat) (IntKind.i64.wrap ((↑a0.size : Int) - 4)).toNat)).bind fun y => bif !decide (a0.extract (IntKind.i64.wrap ((↑a0.size : Int) - 4)).toNat a0.size = ByteArray.mk (List.map (fun n => UInt8.ofNat n.toNat) [IntKind.u8.wrap (Int.fdiv y (2 ^ min (Int.toNat 24) IntKind.u32.bits)), IntKind.u8.wrap (Int.fdiv y (2 ^ min (Int.toNat 16) IntKind.u32.bits)), IntKind.u8.wrap (Int.fdiv y (2 ^ min (Int.toNat 8) IntKind.u32.bits)), IntKind.u8.wrap y]).toArray) then some (ByteArray.mk #[], false, ()) else if 0 ≤ IntKind.i64.wrap ((↑a0.size : Int) - 4) then if IntKind.i64.wrap ((↑a0.size : Int) - 4) ≤ (↑a0.size : Int) then some (a0.extract (0 : Nat) (IntKind.i64.wrap ((↑a0.size : Int) - 4)).toNat, true, ()) else none else none else none else none else none else none := by kernel_rfl
def Av : Yq := [(242, Fu), (243, ZfS), (244, Oh), (245, Ft), (246, ZfV)]
theorem ZaE : Yr Av := cons_cons Cx (cons_cons Zie (cons_cons Zau (cons_cons Cw (cons_cons Zik (Zh)))))
abbrev QG : Vz := (.drop :: .is (.ptr 0 0) :: .drop :: .ro Zu :: .ro Zb :: dp 47 [], [.vars [.ro Zb, .ro Zb, .ro Zb, .ro Zb, .ro Zb, .ro Zb, .ro Zb, .ro Zb, .ro Zb, .ro Zb, .ro Zb, .ro Zb, .ro Zb, .ro Zb, .ro Yu, .ro Zm, .ro Yu, .ro Yi, .ro ZS, .ro ZN, .ro Zb]])
def I1 : KP := [(3, QG)]
def On (n : Nat) (x : YG [ZQ]) := evX (false, false, [1, 7, 10, 14, 18, 22, 26, 32, 39]) Av I1 [none] Tryz.f220 (shV Zu) n (YP [ZQ] x)
def Ej : Con := roS [ZQ] true (shV Zu) (On big)
theorem Ek : ZJ Tryz.prog 220 Ej := ZD ⟨Tryz.f220, by kernel_rfl, rfl, by decide⟩ fun _ _ h => Zw ZaE (f := Tryz.f220) (by kernel_rfl) rfl (by kernel_rfl) (by kernel_rfl) big h
def Q2 (n : Nat) (a0 : Zn) : Option ByteArray := On n (a0, ())
def ZdU (n : Nat) (x : KD QG.1) (y : BD QG.2) := Z6 (env (false, false, [1, 7, 10, 14, 18, 22, 26, 32, 39]) Av) I1 (body Tryz.f220) (Vn (false, false, [1, 7, 10, 14, 18, 22, 26, 32, 39]) Av [none] Tryz.f220 (shV Zu) [.val ZQ (ZR ZQ)]) n 3 QG x y
def QH (n : Nat) (s3 : ByteArray) (s4 b0_0 : Int) (b0_1 b0_2 : Int) (b0_3 b0_4 : Int) (b0_5 b0_6 : Int) (b0_7 b0_8 : Int) (b0_9 b0_10 : Int) (b0_11 b0_12 b0_13 : Int) (b0_14 : Yp) (b0_15 : Zq) (b0_16 : Yp) (b0_17 : YA) (b0_18 : Yn) (b0_19 : ZX) (b0_20 : Int) : Option ByteArray := ZdU n (s3, s4, ()) ((b0_0, b0_1, b0_2, b0_3, b0_4, b0_5, b0_6, b0_7, b0_8, b0_9, b0_10, b0_11, b0_12, b0_13, b0_14, b0_15, b0_16, b0_17, b0_18, b0_19, b0_20, ()), ())
theorem ZaF (n : Nat) (a0 : Zn) : Q2 n a0 = (XB big a0.1).bind fun y => (XB big a0.2.1).bind fun y_1 => if ByteArray.size y + ByteArray.size y_1 ≤ lim then (Fv big a0.2.2.1).bind fun y_2 => if (y ++ y_1).size + ByteArray.size y_2 ≤ lim then (Fv big a0.2.2.2.1).bind fun y_3 => if (y ++ y_1 ++ y_2).size + ByteArray.size y_3 ≤ lim then (Eg big a0.2.2.2.2.1).bind fun y_4 => if (y ++ y_1 ++ y_2 ++ y_3).size + ByteArray.size y_4 ≤ lim then (BG big (↑(List.length a0.2.2.2.2.2.1) : Int)).bind fun y_5 => if (y ++ y_1 ++ y_2 ++ y_3 ++ y_4).size + ByteArray.size y_5 ≤ lim then QH n (y ++ y_1 ++ y_2 ++ y_3 ++ y_4 ++ y_5) 0 a0.1 a0.2.1 a0.2.2.1.1 a0.2.2.1.2.1 a0.2.2.1.2.2.1 a0.2.2.1.2.2.2.1 a0.2.2.2.1.1 a0.2.2.2.1.2.1 a0.2.2.2.1.2.2.1 a0.2.2.2.1.2.2.2.1 a0.2.2.2.2.1.1 a0.2.2.2.2.1.2.1 a0.2.2.2.2.1.2.2.1 a0.2.2.2.2.1.2.2.2.1 a0.2.2.2.2.2.1 a0.2.2.2.2.2.2.1 a0.2.2.2.2.2.2.2.1 a0.2.2.2.2.2.2.2.2.1 a0.2.2.2.2.2.2.2.2.2.1 a0.2.2.2.2.2.2.2.2.2.2.1 a0.2.2.2.2.2.2.2.2.2.2.2.1 else none else none else none else none else none := by kernel_rfl
theorem BH (n : Nat) (s3 : ByteArray) (s4 b0_0 : Int) (b0_1 b0_2 : Int) (b0_3 b0_4 : Int) (b0_5 b0_6 : Int) (b0_7 b0_8 : Int) (b0_9 b0_10 : Int) (b0_11 b0_12 b0_13 : Int) (b0_14 : Yp) (b0_15 : Zq) (b0_16 : Yp) (b0_17 : YA) (b0_18 : Yn) (b0_19 : ZX) (b0_20 : Int) : QH (n + 1) s3 s4 b0_0 b0_1 b0_2 b0_3 b0_4 b0_5 b0_6 b0_7 b0_8 b0_9 b0_10 b0_11 b0_12 b0_13 b0_14 b0_15 b0_16 b0_17 b0_18 b0_19 b0_20 = bif decide (s4 < (↑(List.length b0_14) : Int)) then if 0 ≤ s4 then (nth b0_14 s4.toNat).bind fun y => (XB big y).bind fun y => if s3.size + ByteArray.size y ≤ lim then QH n (s3 ++ y) (IntKind.i64.wrap (s4 + 1)) b0_0 b0_1 b0_2 b0_3 b0_4 b0_5 b0_6 b0_7 b0_8 b0_9 b0_10 b0_11 b0_12 b0_13 b0_14 b0_15 b0_16 b0_17 b0_18 b0_19 b0_20 else none else none else (MI big s3).bind fun y => some y.1 := by kernel_rfl
end
end Go.Sx.Tryz
