/- The functions of the seat: what each comes to. -/
import Derived.Test.YtocddfdkknhgcaaGreatTypes
set_option linter.unusedVariables false
set_option linter.unusedSimpArgs false
set_option maxRecDepth 100000
namespace Go.Sx.Tryz
open Go Go.Sx Go.Proofs
noncomputable section
def Fo : Ys := []
theorem Zhw : Yu Fo := Zh
abbrev J7 : Vl := (.ro Z8 :: dp 2 (.ro Zb :: .ro Zb :: dp 27 []), [])
def SE : KP := [(3, J7)]
def ZfB (n : Nat) (x : YH [Z8]) := evX (false, false, []) Fo SE [none] Tryz.f57 (shP Zv) n (YR [Z8] x)
def Fp : Con := roS [Z8] false (shP Zv) (ZfB big)
theorem Cl : ZH Tryz.prog 57 Fp := ZC ⟨Tryz.f57, by kernel_rfl, rfl, by decide⟩ fun _ _ h => Zw Zhw (f := Tryz.f57) (by kernel_rfl) rfl (by kernel_rfl) (by kernel_rfl) big h
def BA (n : Nat) (a0 : Y2) : Option ZL := ZfB n (a0, ())
def Zku (n : Nat) (x : KD J7.1) (y : BD J7.2) := Z9 (env (false, false, []) Fo) SE (body Tryz.f57) (Vm (false, false, []) Fo [none] Tryz.f57 (shP Zv) [.val Z8 (ZR Z8)]) n 3 J7 x y
def J8 (n : Nat) (s0 : Y2) (s3 s4 : Int) : Option ZL := Zku n (s0, s3, s4, ()) ()
theorem Zhx (n : Nat) (a0 : Y2) : BA n a0 = J8 n a0 (IntKind.i64.wrap (78001 + (↑(List.length a0) : Int))) 0 := by kernel_rfl
theorem SF (n : Nat) (s0 : Y2) (s3 s4 : Int) : J8 (n + 1) s0 s3 s4 = bif decide (s4 < (↑(List.length s0) : Int)) then bif decide (s4 < 4000) then if 0 ≤ s4 then (nth s0 s4.toNat).bind fun y => J8 n s0 (IntKind.i64.wrap (↑(BitVec.ofInt IntKind.i64.bits (IntKind.i64.wrap (IntKind.i64.wrap (IntKind.i64.wrap (s3 * 131) + IntKind.i64.wrap y) + 7)) &&& BitVec.ofInt IntKind.i64.bits 1073741823).toNat : Int)) (IntKind.i64.wrap (s4 + 1)) else none else some (s0, 0, s3, ()) else some (s0, 0, s3, ()) := by kernel_rfl
def SG : Ys := []
theorem Zc7 : Yu SG := Zh
def Zkv : KP := []
def SH (n : Nat) (x : AP.denL [.mr Zv]) := evX (false, false, [4, 5, 6, 7, 11, 13, 14, 15, 18, 19, 20, 25, 26, 27, 29, 30, 31, 36, 37, 38, 40, 41, 42, 49, 50, 51, 52, 55]) SG Zkv [none] Tryz.f58 (shO (shV Zl) [.mr Zv]) n (AP.encL [.mr Zv] x)
def SI : Con := apS [.mr Zv] false (shO (shV Zl) [.mr Zv]) (SH big)
theorem Zc8 : ZH Tryz.prog 58 SI := YK ⟨Tryz.f58, by kernel_rfl, rfl, by decide⟩ fun _ _ h => Zw Zc7 (f := Tryz.f58) (by kernel_rfl) rfl (by kernel_rfl) (by kernel_rfl) big h
def VG (n : Nat) (a0 : ZL) : Option (Int × ZL × Unit) := SH n (a0, ())
theorem Zc9 (n : Nat) (a0 : ZL) : VG n a0 = (fun zC1 => (fun zC0 => bif decide (a0.2.1 < (↑(List.length a0.1) : Int)) then if 0 ≤ a0.2.1 then (nth a0.1 (Int.toNat a0.2.1)).bind fun y => some (IntKind.i64.wrap (↑(BitVec.ofInt IntKind.i64.bits (IntKind.i64.wrap (IntKind.i64.wrap zC0 + IntKind.i64.wrap y)) &&& BitVec.ofInt IntKind.i64.bits 255).toNat : Int), (a0.1, IntKind.i64.wrap (a0.2.1 + 1), IntKind.i64.wrap zC1, ()), ()) else none else some (IntKind.i64.wrap zC0, (a0.1, a0.2.1, IntKind.i64.wrap zC1, ()), ())) (↑(BitVec.ofInt IntKind.i64.bits (IntKind.i64.wrap (↑(BitVec.ofInt IntKind.i64.bits ((IntKind.i64.wrap zC1).fdiv (2 ^ min (Int.toNat 33) IntKind.i64.bits)) ^^^ BitVec.ofInt IntKind.i64.bits ((IntKind.i64.wrap zC1).fdiv (2 ^ min (Int.toNat 45) IntKind.i64.bits))).toNat : Int)) &&& BitVec.ofInt IntKind.i64.bits 255).toNat : Int)) (IntKind.i64.wrap (a0.2.2.1 * 6364136223846793005) + 1442695040888963407) := by kernel_rfl
def NS : Ys := [(58, SI)]
theorem SJ : Yu NS := cons_cons Zc8 (Zh)
def Zhy : KP := []
def NT (n : Nat) (x : AP.denL [.mr Zv, .ro Zl]) := evX (false, false, []) NS Zhy [none] Tryz.f59 (shO (shV Zl) [.mr Zv]) n (AP.encL [.mr Zv, .ro Zl] x)
def Yv : Con := apS [.mr Zv, .ro Zl] false (shO (shV Zl) [.mr Zv]) (NT big)
theorem Z6 : ZH Tryz.prog 59 Yv := YK ⟨Tryz.f59, by kernel_rfl, rfl, by decide⟩ fun _ _ h => Zw SJ (f := Tryz.f59) (by kernel_rfl) rfl (by kernel_rfl) (by kernel_rfl) big h
def ZY (n : Nat) (a0 : ZL) (a1 : Int) : Option (Int × ZL × Unit) := NT n (a0, a1, ())
theorem SK (n : Nat) (a0 : ZL) (a1 : Int) : ZY n a0 a1 = bif decide (a1 ≤ 0) then some (0, a0, ()) else bif decide (a1 ≤ 256) then (VG big a0).bind fun y => if a1 = 0 then none else some (Int.tmod y.1 a1, y.2) else (VG big a0).bind fun y => (VG big y.2.1).bind fun y_1 => (VG big y_1.2.1).bind fun y_2 => (VG big y_2.2.1).bind fun y_3 => if a1 = 0 then none else some ((IntKind.i64.wrap (IntKind.i64.wrap (IntKind.i64.wrap (IntKind.i64.wrap (y.1 * 16777216) + IntKind.i64.wrap (y_1.1 * 65536)) + IntKind.i64.wrap (y_2.1 * 256)) + y_3.1)).tmod a1, y_3.2) := by kernel_rfl
def SL : Ys := [(59, Yv)]
theorem Zda : Yu SL := cons_cons Z6 (Zh)
def Zkw : KP := []
def SM (n : Nat) (x : AP.denL [.mr Zv, .ro Zl]) := evX (false, false, []) SL Zkw [none] Tryz.f63 (shO (shV ZD) [.mr Zv]) n (AP.encL [.mr Zv, .ro Zl] x)
def Ju : Con := apS [.mr Zv, .ro Zl] false (shO (shV ZD) [.mr Zv]) (SM big)
theorem Qr : ZH Tryz.prog 63 Ju := YK ⟨Tryz.f63, by kernel_rfl, rfl, by decide⟩ fun _ _ h => Zw Zda (f := Tryz.f63) (by kernel_rfl) rfl (by kernel_rfl) (by kernel_rfl) big h
def Jv (n : Nat) (a0 : ZL) (a1 : Int) : Option (Bool × ZL × Unit) := SM n (a0, a1, ())
theorem Zdb (n : Nat) (a0 : ZL) (a1 : Int) : Jv n a0 a1 = (ZY big a0 a1).bind fun y => some (decide (y.1 = 0), y.2) := by kernel_rfl
def F7 : Ys := [(59, Yv)]
theorem MQ : Yu F7 := cons_cons Z6 (Zh)
def SN : KP := []
def F8 (n : Nat) (x : AP.denL [.mr Zv, .ro Yx]) := evX (false, false, []) F7 SN [none] Tryz.f62 (shO (shV Zl) [.mr Zv]) n (AP.encL [.mr Zv, .ro Yx] x)
def Xx : Con := apS [.mr Zv, .ro Yx] false (shO (shV Zl) [.mr Zv]) (F8 big)
theorem Xg : ZH Tryz.prog 62 Xx := YK ⟨Tryz.f62, by kernel_rfl, rfl, by decide⟩ fun _ _ h => Zw MQ (f := Tryz.f62) (by kernel_rfl) rfl (by kernel_rfl) (by kernel_rfl) big h
def Xy (n : Nat) (a0 : ZL) (a1 : Yt) : Option (Int × ZL × Unit) := F8 n (a0, a1, ())
theorem MR (n : Nat) (a0 : ZL) (a1 : Yt) : Xy n a0 a1 = (ZY big a0 (↑(List.length a1) : Int)).bind fun y => if 0 ≤ y.1 then (nth a1 (Int.toNat y.1)).bind fun y_1 => some (y_1, y.2) else none := by kernel_rfl
def SO : Ys := [(59, Yv)]
theorem Zdc : Yu SO := cons_cons Z6 (Zh)
def Zkx : KP := []
def SP (n : Nat) (x : AP.denL [.mr Zv, .ro DW]) := evX (false, false, []) SO Zkx [none] Tryz.f199 (shO (shV Zu) [.mr Zv]) n (AP.encL [.mr Zv, .ro DW] x)
def Hh : Con := apS [.mr Zv, .ro DW] false (shO (shV Zu) [.mr Zv]) (SP big)
theorem F9 : ZH Tryz.prog 199 Hh := YK ⟨Tryz.f199, by kernel_rfl, rfl, by decide⟩ fun _ _ h => Zw Zdc (f := Tryz.f199) (by kernel_rfl) rfl (by kernel_rfl) (by kernel_rfl) big h
def Hi (n : Nat) (a0 : ZL) (a1 : Zkt) : Option (ByteArray × ZL × Unit) := SP n (a0, a1, ())
theorem Zdd (n : Nat) (a0 : ZL) (a1 : Zkt) : Hi n a0 a1 = (ZY big a0 (↑(List.length a1) : Int)).bind fun y => if 0 ≤ y.1 then (nth a1 (Int.toNat y.1)).bind fun y_1 => some (y_1, y.2) else none := by kernel_rfl
def Zky : Ys := []
theorem Zkz : Yu Zky := Zh
def ZqD : KP := []
def ZkA (n : Nat) (x : YH [Zl, Zl, Zl]) := evX (false, false, []) Zky ZqD [none] Tryz.f67 (shV ZD) n (YR [Zl, Zl, Zl] x)
def Yy : Con := roS [Zl, Zl, Zl] true (shV ZD) (ZkA big)
theorem Z7 : ZH Tryz.prog 67 Yy := ZC ⟨Tryz.f67, by kernel_rfl, rfl, by decide⟩ fun _ _ h => Zw Zkz (f := Tryz.f67) (by kernel_rfl) rfl (by kernel_rfl) (by kernel_rfl) big h
def ZT (n : Nat) (a0 a1 a2 : Int) : Option Bool := ZkA n (a0, a1, a2, ())
theorem NU (n : Nat) (a0 a1 a2 : Int) : ZT n a0 a1 a2 = bif decide (a1 ≤ a0) then some (decide (a0 ≤ a2)) else some false := by kernel_rfl
def ZfC : Ys := [(199, Hh)]
theorem Zhz : Yu ZfC := cons_cons F9 (Zh)
def ZnP : KP := []
def ZfD (n : Nat) (x : AP.denL [.mr Zv]) := evX (false, false, []) ZfC ZnP [none] Tryz.f226 (shO (shV Zu) [.mr Zv]) n (AP.encL [.mr Zv] x)
def ZfE : Con := apS [.mr Zv] false (shO (shV Zu) [.mr Zv]) (ZfD big)
theorem ZhA : ZH Tryz.prog 226 ZfE := YK ⟨Tryz.f226, by kernel_rfl, rfl, by decide⟩ fun _ _ h => Zw Zhz (f := Tryz.f226) (by kernel_rfl) rfl (by kernel_rfl) (by kernel_rfl) big h
def ZfF (n : Nat) (a0 : ZL) : Option (ByteArray × ZL × Unit) := ZfD n (a0, ())
theorem ZhB (n : Nat) (a0 : ZL) : ZfF n a0 = (Hi big a0 [ByteArray.mk #[(97 : UInt8)], ByteArray.mk #[(98 : UInt8)], ByteArray.mk #[(99 : UInt8)], ByteArray.mk #[(97 : UInt8), (98 : UInt8), (99 : UInt8)]]).bind fun y => some y := by kernel_rfl
def ZfG : Ys := [(59, Yv), (226, ZfE), (62, Xx)]
theorem ZhC : Yu ZfG := cons_cons Z6 (cons_cons ZhA (cons_cons Xg (Zh)))
def ZnQ : KP := []
def ZfH (n : Nat) (x : AP.denL [.mr Zv]) := evX (false, false, []) ZfG ZnQ [none] Tryz.f187 (shO (shV Wn) [.mr Zv]) n (AP.encL [.mr Zv] x)
def Fq : Con := apS [.mr Zv] false (shO (shV Wn) [.mr Zv]) (ZfH big)
theorem Cm : ZH Tryz.prog 187 Fq := YK ⟨Tryz.f187, by kernel_rfl, rfl, by decide⟩ fun _ _ h => Zw ZhC (f := Tryz.f187) (by kernel_rfl) rfl (by kernel_rfl) (by kernel_rfl) big h
def Fr (n : Nat) (a0 : ZL) : Option (Xf × ZL × Unit) := ZfH n (a0, ())
theorem ZhD (n : Nat) (a0 : ZL) : Fr n a0 = (ZY big a0 3).bind fun y => (ZfF big y.2.1).bind fun y_1 => (Xy big y_1.2.1 [(0 : Int), 1, 7, 500, 999999999]).bind fun y_2 => some ((IntKind.i64.wrap (1 + y.1), y_1.1, y_2.1, ()), y_2.2) := by kernel_rfl
def Cn : Ys := []
theorem Zde : Yu Cn := Zh
abbrev Ks : Vl := (.ro Zb :: dp 2 (.ro Zb :: .ro Zb :: dp 16 []), [])
def NV : KP := [(3, Ks)]
def SQ (n : Nat) (x : YH [Zl]) := evX (false, false, []) Cn NV [none] Tryz.f174 (shV Zl) n (YR [Zl] x)
def Jw : Con := roS [Zl] true (shV Zl) (SQ big)
theorem Qs : ZH Tryz.prog 174 Jw := ZC ⟨Tryz.f174, by kernel_rfl, rfl, by decide⟩ fun _ _ h => Zw Zde (f := Tryz.f174) (by kernel_rfl) rfl (by kernel_rfl) (by kernel_rfl) big h
def XF (n : Nat) (a0 : Int) : Option Int := SQ n (a0, ())
def ZhE (n : Nat) (x : KD Ks.1) (y : BD Ks.2) := Z9 (env (false, false, []) Cn) NV (body Tryz.f174) (Vm (false, false, []) Cn [none] Tryz.f174 (shV Zl) [.val Zl (ZR Zl)]) n 3 Ks x y
def Kt (n : Nat) (s0 s3 s4 : Int) : Option Int := ZhE n (s0, s3, s4, ()) ()
theorem Vq (n : Nat) (a0 : Int) : XF n a0 = Kt n a0 0 0 := by kernel_rfl
theorem XL (n : Nat) (s0 s3 s4 : Int) : Kt (n + 1) s0 s3 s4 = bif decide (s4 < 7) then bif decide (0 ≤ s0) then if IntKind.u64.wrap s4 < 0 then none else Kt n s0 (IntKind.i64.wrap (s3 + (s0.fdiv (2 ^ min (IntKind.u64.wrap s4).toNat IntKind.i64.bits)).tmod 2)) (IntKind.i64.wrap (s4 + 1)) else some s3 else some s3 := by kernel_rfl
def ZfI : Ys := []
theorem ZhF : Yu ZfI := Zh
def ZnR : KP := []
def ZfJ (n : Nat) (x : YH [Zl]) := evX (false, false, []) ZfI ZnR [none] Tryz.f177 (shV Zl) n (YR [Zl] x)
def MS : Con := roS [Zl] true (shV Zl) (ZfJ big)
theorem IK : ZH Tryz.prog 177 MS := ZC ⟨Tryz.f177, by kernel_rfl, rfl, by decide⟩ fun _ _ h => Zw ZhF (f := Tryz.f177) (by kernel_rfl) rfl (by kernel_rfl) (by kernel_rfl) big h
def BB (n : Nat) (a0 : Int) : Option Int := ZfJ n (a0, ())
theorem IL (n : Nat) (a0 : Int) : BB n a0 = bif decide (a0 < 1) then some 0 else some (IntKind.i64.wrap ((IntKind.i64.wrap (a0 - 1)).tdiv 3)) := by kernel_rfl
def ZfK : Ys := [(177, MS)]
theorem ZhG : Yu ZfK := cons_cons IK (Zh)
def ZnS : KP := []
def ZfL (n : Nat) (x : YH [Zl]) := evX (false, false, []) ZfK ZnS [none] Tryz.f175 (shV Zl) n (YR [Zl] x)
def BC : Con := roS [Zl] true (shV Zl) (ZfL big)
theorem Ku : ZH Tryz.prog 175 BC := ZC ⟨Tryz.f175, by kernel_rfl, rfl, by decide⟩ fun _ _ h => Zw ZhG (f := Tryz.f175) (by kernel_rfl) rfl (by kernel_rfl) (by kernel_rfl) big h
def Jf (n : Nat) (a0 : Int) : Option Int := ZfL n (a0, ())
theorem ZhH (n : Nat) (a0 : Int) : Jf n a0 = (BB big a0).bind fun y => some (IntKind.i64.wrap (a0 - y)) := by kernel_rfl
def NW : Ys := []
theorem SR : Yu NW := Zh
def ZhI : KP := []
def NX (n : Nat) (x : YH [Zl, Zl]) := evX (false, false, []) NW ZhI [none] Tryz.f22 (shV Zl) n (YR [Zl, Zl] x)
def Wg : Con := roS [Zl, Zl] true (shV Zl) (NX big)
theorem XG : ZH Tryz.prog 22 Wg := ZC ⟨Tryz.f22, by kernel_rfl, rfl, by decide⟩ fun _ _ h => Zw SR (f := Tryz.f22) (by kernel_rfl) rfl (by kernel_rfl) (by kernel_rfl) big h
def Xl (n : Nat) (a0 a1 : Int) : Option Int := NX n (a0, a1, ())
theorem SS (n : Nat) (a0 a1 : Int) : Xl n a0 a1 = bif decide (a1 < 1) then some 0 else bif decide (a0 < 0) then some 0 else if a1 = 0 then none else some ((IntKind.i64.wrap (a0.tdiv 4)).tmod a1) := by kernel_rfl
def Zpi : Ys := [(67, Yy)]
theorem ZnT : Yu Zpi := cons_cons Z7 (Zh)
def Zsv : KP := []
def Zpj (n : Nat) (x : YH [YP, Zl]) := evX (false, false, [2, 5, 10, 20]) Zpi Zsv [none] Tryz.f114 (shV ZD) n (YR [YP, Zl] x)
def Co : Con := roS [YP, Zl] true (shV ZD) (Zpj big)
theorem Qf : ZH Tryz.prog 114 Co := ZC ⟨Tryz.f114, by kernel_rfl, rfl, by decide⟩ fun _ _ h => Zw ZnT (f := Tryz.f114) (by kernel_rfl) rfl (by kernel_rfl) (by kernel_rfl) big h
def W7 (n : Nat) (a0 : Zp) (a1 : Int) : Option Bool := Zpj n (a0, a1, ())
theorem ZnU (n : Nat) (a0 : Zp) (a1 : Int) : W7 n a0 a1 = bif decide (0 < a0.1) then (ZT big a1 0 (IntKind.i64.wrap (a0.1 - 1))).bind fun y => bif y then bif decide (a1 < 7) then if IntKind.u64.wrap a1 < 0 then none else some !decide ((Int.fdiv a0.2.2.1 (2 ^ min (IntKind.u64.wrap a1).toNat IntKind.i64.bits)).tmod 2 = 0) else some false else some false else some false := by kernel_rfl
def IM : Ys := [(67, Yy), (114, Co)]
theorem PC : Yu IM := cons_cons Z7 (cons_cons Qf (Zh))
def Zdf : KP := []
def IN (n : Nat) (x : YH [YP, Zl]) := evX (false, false, [2, 6, 13]) IM Zdf [none] Tryz.f106 (shV ZD) n (YR [YP, Zl] x)
def W8 : Con := roS [YP, Zl] true (shV ZD) (IN big)
theorem Ww : ZH Tryz.prog 106 W8 := ZC ⟨Tryz.f106, by kernel_rfl, rfl, by decide⟩ fun _ _ h => Zw PC (f := Tryz.f106) (by kernel_rfl) rfl (by kernel_rfl) (by kernel_rfl) big h
def Wp (n : Nat) (a0 : Zp) (a1 : Int) : Option Bool := IN n (a0, a1, ())
theorem PD (n : Nat) (a0 : Zp) (a1 : Int) : Wp n a0 a1 = (ZT big a1 0 (IntKind.i64.wrap ((↑(List.length a0.2.2.2.2.1) : Int) - 1))).bind fun y => bif y then (ZT big a1 0 (IntKind.i64.wrap (a0.1 - 1))).bind fun y => bif y then (W7 big a0 a1).bind fun y => some !y else some false else some false := by kernel_rfl
def NY : Ys := []
theorem ST : Yu NY := Zh
def ZhJ : KP := []
def NZ (n : Nat) (x : YH [Wy, Wy]) := evX (false, false, [2, 3, 5, 7]) NY ZhJ [none] Tryz.f96 (shV Wy) n (YR [Wy, Wy] x)
def VW : Con := roS [Wy, Wy] true (shV Wy) (NZ big)
theorem WP : ZH Tryz.prog 96 VW := ZC ⟨Tryz.f96, by kernel_rfl, rfl, by decide⟩ fun _ _ h => Zw ST (f := Tryz.f96) (by kernel_rfl) rfl (by kernel_rfl) (by kernel_rfl) big h
def Xz (n : Nat) (a0 a1 : B6) : Option B6 := NZ n (a0, a1, ())
theorem SU (n : Nat) (a0 a1 : B6) : Xz n a0 a1 = bif decide (a0.2.1 < a1.2.1) then some a1 else some a0 := by kernel_rfl
def Fs : Ys := [(96, VW)]
theorem ZhK : Yu Fs := cons_cons WP (Zh)
abbrev J9 : Vl := (.drop :: .is (.ptr 0 0) :: .is (.ptr 1 0) :: .is (.ptr 2 0) :: .ro Zb :: dp 18 [], [.vars [.ro Zb, .ro Zb, .ro Zb, .ro Zb, .ro Zb, .ro Zb, .ro Zb, .ro Zb, .ro Zb, .ro Zb, .ro Zb, .ro Zb, .ro Zb, .ro Zb, .ro Yx, .ro Zm, .ro Yx, .ro Yl, .ro ZS, .ro ZN, .ro Zb], .vars [.ro Zb, .ro Zb, .ro Zb, .ro Zb], .vars [.ro Zb, .ro Zb, .ro Zb, .ro Zb]])
def SW : KP := [(3, J9)]
def ZfM (n : Nat) (x : YH [ZQ]) := evX (false, false, [1, 3, 5, 8, 15]) Fs SW [none] Tryz.f233 (shV Wy) n (YR [ZQ] x)
def ZfN : Con := roS [ZQ] true (shV Wy) (ZfM big)
theorem ZhL : ZH Tryz.prog 233 ZfN := ZC ⟨Tryz.f233, by kernel_rfl, rfl, by decide⟩ fun _ _ h => Zw ZhK (f := Tryz.f233) (by kernel_rfl) rfl (by kernel_rfl) (by kernel_rfl) big h
def MT (n : Nat) (a0 : Zo) : Option B6 := ZfM n (a0, ())
def ZkB (n : Nat) (x : KD J9.1) (y : BD J9.2) := Z9 (env (false, false, [1, 3, 5, 8, 15]) Fs) SW (body Tryz.f233) (Vm (false, false, [1, 3, 5, 8, 15]) Fs [none] Tryz.f233 (shV Wy) [.val ZQ (ZR ZQ)]) n 3 J9 x y
def Aa (n : Nat) (s4 b0_0 : Int) (b0_1 b0_2 : Int) (b0_3 b0_4 : Int) (b0_5 b0_6 : Int) (b0_7 b0_8 : Int) (b0_9 b0_10 : Int) (b0_11 b0_12 b0_13 : Int) (b0_14 : Yt) (b0_15 : Zq) (b0_16 : Yt) (b0_17 : YB) (b0_18 : Yq) (b0_19 : ZX) (b0_20 b1_0 : Int) (b1_1 b1_2 : Int) (b1_3 b2_0 : Int) (b2_1 b2_2 b2_3 : Int) : Option B6 := ZkB n (s4, ()) ((b0_0, b0_1, b0_2, b0_3, b0_4, b0_5, b0_6, b0_7, b0_8, b0_9, b0_10, b0_11, b0_12, b0_13, b0_14, b0_15, b0_16, b0_17, b0_18, b0_19, b0_20, ()), (b1_0, b1_1, b1_2, b1_3, ()), (b2_0, b2_1, b2_2, b2_3, ()), ())
theorem ZhM (n : Nat) (a0 : Zo) : MT n a0 = Aa n 0 a0.1 a0.2.1 a0.2.2.1.1 a0.2.2.1.2.1 a0.2.2.1.2.2.1 a0.2.2.1.2.2.2.1 a0.2.2.2.1.1 a0.2.2.2.1.2.1 a0.2.2.2.1.2.2.1 a0.2.2.2.1.2.2.2.1 a0.2.2.2.2.1.1 a0.2.2.2.2.1.2.1 a0.2.2.2.2.1.2.2.1 a0.2.2.2.2.1.2.2.2.1 a0.2.2.2.2.2.1 a0.2.2.2.2.2.2.1 a0.2.2.2.2.2.2.2.1 a0.2.2.2.2.2.2.2.2.1 a0.2.2.2.2.2.2.2.2.2.1 a0.2.2.2.2.2.2.2.2.2.2.1 a0.2.2.2.2.2.2.2.2.2.2.2.1 0 0 0 0 a0.2.2.1.1 a0.2.2.1.2.1 a0.2.2.1.2.2.1 a0.2.2.1.2.2.2.1 := by kernel_rfl
theorem DX (n : Nat) (s4 b0_0 : Int) (b0_1 b0_2 : Int) (b0_3 b0_4 : Int) (b0_5 b0_6 : Int) (b0_7 b0_8 : Int) (b0_9 b0_10 : Int) (b0_11 b0_12 b0_13 : Int) (b0_14 : Yt) (b0_15 : Zq) (b0_16 : Yt) (b0_17 : YB) (b0_18 : Yq) (b0_19 : ZX) (b0_20 b1_0 : Int) (b1_1 b1_2 : Int) (b1_3 b2_0 : Int) (b2_1 b2_2 b2_3 : Int) : Aa (n + 1) s4 b0_0 b0_1 b0_2 b0_3 b0_4 b0_5 b0_6 b0_7 b0_8 b0_9 b0_10 b0_11 b0_12 b0_13 b0_14 b0_15 b0_16 b0_17 b0_18 b0_19 b0_20 b1_0 b1_1 b1_2 b1_3 b2_0 b2_1 b2_2 b2_3 = bif decide (s4 < (↑(List.length b0_19) : Int)) then if 0 ≤ s4 then (nth b0_19 s4.toNat).bind fun y => (Xz big (b2_0, b2_1, b2_2, b2_3, ()) y.2.2.2.2.2.1).bind fun y => Aa n (IntKind.i64.wrap (s4 + 1)) b0_0 b0_1 b0_2 b0_3 b0_4 b0_5 b0_6 b0_7 b0_8 b0_9 b0_10 b0_11 b0_12 b0_13 b0_14 b0_15 b0_16 b0_17 b0_18 b0_19 b0_20 b1_0 b1_1 b1_2 b1_3 y.1 y.2.1 y.2.2.1 y.2.2.2.1 else none else some (b2_0, b2_1, b2_2, b2_3, ()) := by kernel_rfl
def N0 : Ys := []
theorem SX : Yu N0 := Zh
def ZhN : KP := []
def N1 (n : Nat) (x : YH [YW]) := evX (false, false, [1, 3, 6]) N0 ZhN [some YX] Tryz.f149 (shF YX) n (YR [YW] x)
def Ab : Con := roS [YW] true (shF YX) (N1 big)
theorem Jx : ZH Tryz.prog 149 Ab := ZC ⟨Tryz.f149, by kernel_rfl, rfl, by decide⟩ fun _ _ h => Zw SX (f := Tryz.f149) (by kernel_rfl) rfl (by kernel_rfl) (by kernel_rfl) big h
def Ac (n : Nat) (a0 : Zy) : Option Zy := N1 n (a0, ())
theorem SY (n : Nat) (a0 : Zy) : Ac n a0 = if (0 : Nat) + List.length a0.2.2.1 ≤ lim then some a0 else none := by kernel_rfl
def Cp : Ys := [(149, Ab)]
theorem Zdg : Yu Cp := cons_cons Jx (Zh)
abbrev Kv : Vl := (.ro Zf :: dp 2 (.own ZJ :: .ro Zb :: dp 16 []), [])
def N2 : KP := [(3, Kv)]
def SZ (n : Nat) (x : YH [Zf]) := evX (true, false, []) Cp N2 [some ZZ] Tryz.f146 (shF ZZ) n (YR [Zf] x)
def Hj : Con := roS [Zf] true (shF ZZ) (SZ big)
theorem Ga : ZH Tryz.prog 146 Hj := ZC ⟨Tryz.f146, by kernel_rfl, rfl, by decide⟩ fun _ _ h => Zw Zdg (f := Tryz.f146) (by kernel_rfl) rfl (by kernel_rfl) (by kernel_rfl) big h
def Hk (n : Nat) (a0 : Zi) : Option Zi := SZ n (a0, ())
def ZhO (n : Nat) (x : KD Kv.1) (y : BD Kv.2) := Z9 (env (true, false, []) Cp) N2 (body Tryz.f146) (Vm (true, false, []) Cp [some ZZ] Tryz.f146 (shF ZZ) [.val Zf (ZR Zf)]) n 3 Kv x y
def Kw (n : Nat) (s0 : Zi) (s3 : (List Zr)) (s4 : Int) : Option Zi := ZhO n (s0, s3, s4, ()) ()
theorem Zdh (n : Nat) (a0 : Zi) : Hk n a0 = Kw n a0 [] 0 := by kernel_rfl
theorem Q4 (n : Nat) (s0 : Zi) (s3 : (List Zr)) (s4 : Int) : Kw (n + 1) s0 s3 s4 = bif decide (s4 < (↑(List.length s0) : Int)) then if 0 ≤ s4 then (nth s0 s4.toNat).bind fun y => (Ac big y).bind fun y_1 => if s3.length + [y_1].length ≤ lim then Kw n s0 (s3.append [y_1]) (IntKind.i64.wrap (s4 + 1)) else none else none else some s3 := by kernel_rfl
def Kx : Ys := []
theorem PE : Yu Kx := Zh
abbrev Um : Vl := (dp 2 (.is (.ptr 0 0) :: .is (.ptr 1 0) :: .drop :: .ro Zb :: dp 46 []), [.vars [.ro Zb, .ro Zb, .ro Yj, .ro Zb, .ro Zb, .ro Zb, .ro Zb], .vars [.ro Zb, .ro Zb, .ro Yj, .ro Zb, .ro Zb, .ro Zb, .ro Zb]])
def Gb : KP := [(4, Um)]
def IP (n : Nat) (x : YH [YW, YW]) := evX (false, false, [2, 3, 6, 8, 12, 14, 19, 21, 26, 29, 35, 41, 46]) Kx Gb [none] Tryz.f159 (shV ZD) n (YR [YW, YW] x)
def IQ : Con := roS [YW, YW] true (shV ZD) (IP big)
theorem PF : ZH Tryz.prog 159 IQ := ZC ⟨Tryz.f159, by kernel_rfl, rfl, by decide⟩ fun _ _ h => Zw PE (f := Tryz.f159) (by kernel_rfl) rfl (by kernel_rfl) (by kernel_rfl) big h
def Cq (n : Nat) (a0 a1 : Zy) : Option Bool := IP n (a0, a1, ())
def S8 (n : Nat) (x : KD Um.1) (y : BD Um.2) := Z9 (env (false, false, [2, 3, 6, 8, 12, 14, 19, 21, 26, 29, 35, 41, 46]) Kx) Gb (body Tryz.f159) (Vm (false, false, [2, 3, 6, 8, 12, 14, 19, 21, 26, 29, 35, 41, 46]) Kx [none] Tryz.f159 (shV ZD) [.val YW (ZR YW), .val YW (ZR YW)]) n 4 Um x y
def Un (n : Nat) (s5 b0_0 b0_1 : Int) (b0_2 : YU) (b0_3 b0_4 : Int) (b0_5 b0_6 : Int) (b1_0 b1_1 : Int) (b1_2 : YU) (b1_3 b1_4 : Int) (b1_5 b1_6 : Int) : Option Bool := S8 n (s5, ()) ((b0_0, b0_1, b0_2, b0_3, b0_4, b0_5, b0_6, ()), (b1_0, b1_1, b1_2, b1_3, b1_4, b1_5, b1_6, ()), ())
theorem PG (n : Nat) (a0 a1 : Zy) : Cq n a0 a1 = bif !decide (a0.1 = a1.1) then some false else bif !decide (a0.2.1 = a1.2.1) then some false else bif !eqD Wy a0.2.2.2.1 a1.2.2.2.1 then some false else bif !decide ((↑(List.length a0.2.2.1) : Int) = (↑(List.length a1.2.2.1) : Int)) then some false else Un n 0 a0.1 a0.2.1 a0.2.2.1 a0.2.2.2.1.1 a0.2.2.2.1.2.1 a0.2.2.2.1.2.2.1 a0.2.2.2.1.2.2.2.1 a1.1 a1.2.1 a1.2.2.1 a1.2.2.2.1.1 a1.2.2.2.1.2.1 a1.2.2.2.1.2.2.1 a1.2.2.2.1.2.2.2.1 := by kernel_rfl
theorem Ad (n : Nat) (s5 b0_0 b0_1 : Int) (b0_2 : YU) (b0_3 b0_4 : Int) (b0_5 b0_6 : Int) (b1_0 b1_1 : Int) (b1_2 : YU) (b1_3 b1_4 : Int) (b1_5 b1_6 : Int) : Un (n + 1) s5 b0_0 b0_1 b0_2 b0_3 b0_4 b0_5 b0_6 b1_0 b1_1 b1_2 b1_3 b1_4 b1_5 b1_6 = bif decide (s5 < (↑(List.length b0_2) : Int)) then if 0 ≤ s5 then (nth b0_2 s5.toNat).bind fun y => if 0 ≤ s5 then (nth b1_2 s5.toNat).bind fun y_1 => bif !eqD Wn y y_1 then some false else Un n (IntKind.i64.wrap (s5 + 1)) b0_0 b0_1 b0_2 b0_3 b0_4 b0_5 b0_6 b1_0 b1_1 b1_2 b1_3 b1_4 b1_5 b1_6 else none else none else some true := by kernel_rfl
def Cr : Ys := [(159, IQ)]
theorem Zdi : Yu Cr := cons_cons PF (Zh)
abbrev Ky : Vl := (.ro Zf :: dp 2 (.is (.ptr 0 0) :: .drop :: .ro Zb :: dp 13 []), [.vars [.ro Zb, .ro Zb, .ro Yj, .ro Zb, .ro Zb, .ro Zb, .ro Zb]])
def N3 : KP := [(2, Ky)]
def Ta (n : Nat) (x : YH [Zf, YW]) := evX (false, false, [3]) Cr N3 [none] Tryz.f162 (shV Zl) n (YR [Zf, YW] x)
def Tb : Con := roS [Zf, YW] true (shV Zl) (Ta big)
theorem Zdj : ZH Tryz.prog 162 Tb := ZC ⟨Tryz.f162, by kernel_rfl, rfl, by decide⟩ fun _ _ h => Zw Zdi (f := Tryz.f162) (by kernel_rfl) rfl (by kernel_rfl) (by kernel_rfl) big h
def Hl (n : Nat) (a0 : Zi) (a1 : Zy) : Option Int := Ta n (a0, a1, ())
def ZhP (n : Nat) (x : KD Ky.1) (y : BD Ky.2) := Z9 (env (false, false, [3]) Cr) N3 (body Tryz.f162) (Vm (false, false, [3]) Cr [none] Tryz.f162 (shV Zl) [.val Zf (ZR Zf), .val YW (ZR YW)]) n 2 Ky x y
def Kz (n : Nat) (s0 : Zi) (s5 b0_0 b0_1 : Int) (b0_2 : YU) (b0_3 b0_4 : Int) (b0_5 b0_6 : Int) : Option Int := ZhP n (s0, s5, ()) ((b0_0, b0_1, b0_2, b0_3, b0_4, b0_5, b0_6, ()), ())
theorem Zdk (n : Nat) (a0 : Zi) (a1 : Zy) : Hl n a0 a1 = Kz n a0 0 a1.1 a1.2.1 a1.2.2.1 a1.2.2.2.1.1 a1.2.2.2.1.2.1 a1.2.2.2.1.2.2.1 a1.2.2.2.1.2.2.2.1 := by kernel_rfl
theorem C8 (n : Nat) (s0 : Zi) (s5 b0_0 b0_1 : Int) (b0_2 : YU) (b0_3 b0_4 : Int) (b0_5 b0_6 : Int) : Kz (n + 1) s0 s5 b0_0 b0_1 b0_2 b0_3 b0_4 b0_5 b0_6 = bif decide (s5 < (↑(List.length s0) : Int)) then if 0 ≤ s5 then (nth s0 s5.toNat).bind fun y => (Cq big y (b0_0, b0_1, b0_2, (b0_3, b0_4, b0_5, b0_6, ()), ())).bind fun y => bif y then some s5 else Kz n s0 (IntKind.i64.wrap (s5 + 1)) b0_0 b0_1 b0_2 b0_3 b0_4 b0_5 b0_6 else none else some (-1) := by kernel_rfl
def IR : Ys := [(67, Yy)]
theorem ZkC : Yu IR := cons_cons Z7 (Zh)
abbrev Cs : Vl := (.ro Zu :: dp 2 (.ro Zb :: dp 19 []), [])
def ZfO : KP := [(2, Cs)]
def ZkD (n : Nat) (x : YH [Zu]) := evX (false, false, []) IR ZfO [none] Tryz.f143 (shV ZD) n (YR [Zu] x)
def IS : Con := roS [Zu] true (shV ZD) (ZkD big)
theorem DY : ZH Tryz.prog 143 IS := ZC ⟨Tryz.f143, by kernel_rfl, rfl, by decide⟩ fun _ _ h => Zw ZkC (f := Tryz.f143) (by kernel_rfl) rfl (by kernel_rfl) (by kernel_rfl) big h
def BE (n : Nat) (a0 : ByteArray) : Option Bool := ZkD n (a0, ())
def ZnV (n : Nat) (x : KD Cs.1) (y : BD Cs.2) := Z9 (env (false, false, []) IR) ZfO (body Tryz.f143) (Vm (false, false, []) IR [none] Tryz.f143 (shV ZD) [.val Zu (ZR Zu)]) n 2 Cs x y
def Jy (n : Nat) (s0 : ByteArray) (s3 : Int) : Option Bool := ZnV n (s0, s3, ()) ()
theorem N4 (n : Nat) (a0 : ByteArray) : BE n a0 = Jy n a0 0 := by kernel_rfl
theorem Qt (n : Nat) (s0 : ByteArray) (s3 : Int) : Jy (n + 1) s0 s3 = bif decide (s3 < (↑s0.size : Int)) then if 0 ≤ s3 then (nth s0.data.toList s3.toNat).bind fun y => bif decide ((↑y.toNat : Int) < 97) then some false else if 0 ≤ s3 then (nth s0.data.toList s3.toNat).bind fun y => bif decide (122 < (↑y.toNat : Int)) then some false else Jy n s0 (IntKind.i64.wrap (s3 + 1)) else none else none else (ZT big (↑s0.size : Int) 1 3).bind fun y => some y := by kernel_rfl
def ZkE : Ys := [(67, Yy), (143, IS)]
theorem ZkF : Yu ZkE := cons_cons Z7 (cons_cons DY (Zh))
def ZqE : KP := []
def ZkG (n : Nat) (x : YH [Wn]) := evX (false, false, [1, 3, 7, 12]) ZkE ZqE [none] Tryz.f194 (shV ZD) n (YR [Wn] x)
def Tc : Con := roS [Wn] true (shV ZD) (ZkG big)
theorem N5 : ZH Tryz.prog 194 Tc := ZC ⟨Tryz.f194, by kernel_rfl, rfl, by decide⟩ fun _ _ h => Zw ZkF (f := Tryz.f194) (by kernel_rfl) rfl (by kernel_rfl) (by kernel_rfl) big h
def DZ (n : Nat) (a0 : Xf) : Option Bool := ZkG n (a0, ())
theorem N6 (n : Nat) (a0 : Xf) : DZ n a0 = (ZT big a0.1 1 3).bind fun y => bif y then (BE big a0.2.1).bind fun y => bif y then (ZT big a0.2.2.1 0 1000000000).bind fun y => some y else some false else some false := by kernel_rfl
def Ct : Ys := [(67, Yy), (194, Tc)]
theorem Zdl : Yu Ct := cons_cons Z7 (cons_cons N5 (Zh))
abbrev KA : Vl := (.ro Zf :: dp 2 (.is (.ptr 0 0) :: .drop :: .ro Zb :: dp 61 []), [.vars [.ro Zb, .ro Zb, .ro Yj, .ro Zb, .ro Zb, .ro Zb, .ro Zb]])
def N7 : KP := [(4, KA)]
def Td (n : Nat) (x : YH [Zf, YW]) := evX (false, false, [3, 6, 14, 17, 25, 30, 36, 42, 49, 50, 52, 56, 57, 60]) Ct N7 [none] Tryz.f161 (shV ZD) n (YR [Zf, YW] x)
def Te : Con := roS [Zf, YW] true (shV ZD) (Td big)
theorem Zdm : ZH Tryz.prog 161 Te := ZC ⟨Tryz.f161, by kernel_rfl, rfl, by decide⟩ fun _ _ h => Zw Zdl (f := Tryz.f161) (by kernel_rfl) rfl (by kernel_rfl) (by kernel_rfl) big h
def Hm (n : Nat) (a0 : Zi) (a1 : Zy) : Option Bool := Td n (a0, a1, ())
def ZhQ (n : Nat) (x : KD KA.1) (y : BD KA.2) := Z9 (env (false, false, [3, 6, 14, 17, 25, 30, 36, 42, 49, 50, 52, 56, 57, 60]) Ct) N7 (body Tryz.f161) (Vm (false, false, [3, 6, 14, 17, 25, 30, 36, 42, 49, 50, 52, 56, 57, 60]) Ct [none] Tryz.f161 (shV ZD) [.val Zf (ZR Zf), .val YW (ZR YW)]) n 4 KA x y
def KB (n : Nat) (s0 : Zi) (s5 b0_0 b0_1 : Int) (b0_2 : YU) (b0_3 b0_4 : Int) (b0_5 b0_6 : Int) : Option Bool := ZhQ n (s0, s5, ()) ((b0_0, b0_1, b0_2, b0_3, b0_4, b0_5, b0_6, ()), ())
theorem Zdn (n : Nat) (a0 : Zi) (a1 : Zy) : Hm n a0 a1 = (ZT big a1.1 0 (IntKind.i64.wrap ((↑(List.length a0) : Int) - 1))).bind fun y => bif !y then some false else if 0 ≤ a1.1 then (nth a0 (Int.toNat a1.1)).bind fun y => bif decide (a1.2.1 ≤ y.2.1) then some false else bif decide (900 < a1.2.1) then some false else bif decide (4 < (↑(List.length a1.2.2.1) : Int)) then some false else KB n a0 0 a1.1 a1.2.1 a1.2.2.1 a1.2.2.2.1.1 a1.2.2.2.1.2.1 a1.2.2.2.1.2.2.1 a1.2.2.2.1.2.2.2.1 else none := by kernel_rfl
theorem C9 (n : Nat) (s0 : Zi) (s5 b0_0 b0_1 : Int) (b0_2 : YU) (b0_3 b0_4 : Int) (b0_5 b0_6 : Int) : KB (n + 1) s0 s5 b0_0 b0_1 b0_2 b0_3 b0_4 b0_5 b0_6 = bif decide (s5 < (↑(List.length b0_2) : Int)) then if 0 ≤ s5 then (nth b0_2 s5.toNat).bind fun y => (DZ big y).bind fun y => bif !y then some false else KB n s0 (IntKind.i64.wrap (s5 + 1)) b0_0 b0_1 b0_2 b0_3 b0_4 b0_5 b0_6 else none else bif decide (b0_5 = b0_0) then if 0 ≤ b0_0 then (nth s0 b0_0.toNat).bind fun y => some (decide (b0_4 = y.2.1)) else none else some false := by kernel_rfl
def N8 : Ys := [(146, Hj), (162, Tb), (161, Te), (149, Ab)]
theorem Tf : Yu N8 := cons_cons Ga (cons_cons Zdj (cons_cons Zdm (cons_cons Jx (Zh))))
def ZhR : KP := []
def N9 (n : Nat) (x : YH [Zf, YW]) := evX (true, false, [3]) N8 ZhR [some ZZ, none] Tryz.f197 (shT [(true, ZZ), (false, Zl)]) n (YR [Zf, YW] x)
def Ae : Con := roS [Zf, YW] true (shT [(true, ZZ), (false, Zl)]) (N9 big)
theorem Jz : ZH Tryz.prog 197 Ae := ZC ⟨Tryz.f197, by kernel_rfl, rfl, by decide⟩ fun _ _ h => Zw Tf (f := Tryz.f197) (by kernel_rfl) rfl (by kernel_rfl) (by kernel_rfl) big h
def Wh (n : Nat) (a0 : Zi) (a1 : Zy) : Option (Zi × Int × Unit) := N9 n (a0, a1, ())
theorem Tg (n : Nat) (a0 : Zi) (a1 : Zy) : Wh n a0 a1 = (Hk big a0).bind fun y => (Hl big a0 a1).bind fun y_1 => bif decide (0 ≤ y_1) then some (y, y_1, ()) else (Hm big a0 a1).bind fun y_2 => bif !y_2 then some (y, (-1), ()) else bif decide (60 ≤ (↑(List.length a0) : Int)) then some (y, (-1), ()) else (Ac big a1).bind fun y_3 => if List.length y + [y_3].length ≤ lim then some (List.append y [y_3], (↑(List.length a0) : Int), ()) else none := by kernel_rfl
def Th : Ys := []
theorem Zdo : Yu Th := Zh
def ZkH : KP := []
def Ti (n : Nat) (x : YH [ZQ]) := evX (false, false, [1, 3, 6, 11, 16, 21, 26, 31]) Th ZkH [some ZB] Tryz.f68 (shF ZB) n (YR [ZQ] x)
def Xs : Con := roS [ZQ] true (shF ZB) (Ti big)
theorem YV : ZH Tryz.prog 68 Xs := ZC ⟨Tryz.f68, by kernel_rfl, rfl, by decide⟩ fun _ _ h => Zw Zdo (f := Tryz.f68) (by kernel_rfl) rfl (by kernel_rfl) (by kernel_rfl) big h
def YY (n : Nat) (a0 : Zo) : Option Zo := Ti n (a0, ())
theorem Gc (n : Nat) (a0 : Zo) : YY n a0 = if (0 : Nat) + List.length a0.2.2.2.2.2.1 ≤ lim then if (0 : Nat) + List.length a0.2.2.2.2.2.2.1 ≤ lim then if (0 : Nat) + List.length a0.2.2.2.2.2.2.2.1 ≤ lim then if (0 : Nat) + List.length a0.2.2.2.2.2.2.2.2.1 ≤ lim then if (0 : Nat) + List.length a0.2.2.2.2.2.2.2.2.2.1 ≤ lim then if (0 : Nat) + List.length a0.2.2.2.2.2.2.2.2.2.2.1 ≤ lim then some a0 else none else none else none else none else none else none := by kernel_rfl
def ZfP : Ys := [(67, Yy)]
theorem ZhS : Yu ZfP := cons_cons Z7 (Zh)
def ZnW : KP := []
def ZfQ (n : Nat) (x : YH [Zf, Zl, Z5]) := evX (false, false, [5, 10, 15, 20, 29, 34, 39]) ZfP ZnW [none] Tryz.f113 (shV ZD) n (YR [Zf, Zl, Z5] x)
def MU : Con := roS [Zf, Zl, Z5] true (shV ZD) (ZfQ big)
theorem IT : ZH Tryz.prog 113 MU := ZC ⟨Tryz.f113, by kernel_rfl, rfl, by decide⟩ fun _ _ h => Zw ZhS (f := Tryz.f113) (by kernel_rfl) rfl (by kernel_rfl) (by kernel_rfl) big h
def Ft (n : Nat) (a0 : Zi) (a1 : Int) (a2 : Z4) : Option Bool := ZfQ n (a0, a1, a2, ())
theorem ZhT (n : Nat) (a0 : Zi) (a1 : Int) (a2 : Z4) : Ft n a0 a1 a2 = (ZT big a1 1 7).bind fun y => bif y then (ZT big a2.1 1 4).bind fun y => bif y then (ZT big a2.2.1 1 900).bind fun y => bif y then (ZT big a2.2.2.1 1 (IntKind.i64.wrap ((↑(List.length a0) : Int) - 1))).bind fun y => bif y then if 0 ≤ a2.2.2.1 then (nth a0 (Int.toNat a2.2.2.1)).bind fun y => bif decide (y.2.1 = a2.2.1) then (ZT big a2.2.2.2.1 0 (IntKind.i64.wrap (a1 - 1))).bind fun y => some y else some false else none else some false else some false else some false else some false := by kernel_rfl
def Tj : Ys := [(113, MU), (67, Yy), (174, Jw), (175, BC)]
theorem Zdp : Yu Tj := cons_cons IT (cons_cons Z7 (cons_cons Qs (cons_cons Ku (Zh))))
def ZkI : KP := []
def Tk (n : Nat) (x : YH [Zf, Zl, Wy]) := evX (false, false, [5, 12, 14, 16, 21, 29]) Tj ZkI [none] Tryz.f125 (shV ZD) n (YR [Zf, Zl, Wy] x)
def Hn : Con := roS [Zf, Zl, Wy] true (shV ZD) (Tk big)
theorem Gd : ZH Tryz.prog 125 Hn := ZC ⟨Tryz.f125, by kernel_rfl, rfl, by decide⟩ fun _ _ h => Zw Zdp (f := Tryz.f125) (by kernel_rfl) rfl (by kernel_rfl) (by kernel_rfl) big h
def XV (n : Nat) (a0 : Zi) (a1 : Int) (a2 : B6) : Option Bool := Tk n (a0, a1, a2, ())
theorem Zdq (n : Nat) (a0 : Zi) (a1 : Int) (a2 : B6) : XV n a0 a1 a2 = bif eqD Wy a2 (0, 0, 0, 0, ()) then some true else (Ft big a0 a1 (a2.1, a2.2.1, a2.2.2.1, 0, ())).bind fun y => bif !y then some false else if IntKind.u64.wrap a1 < 0 then none else (ZT big a2.2.2.2.1 0 (IntKind.i64.wrap (IntKind.i64.wrap (1 * 2 ^ min (IntKind.u64.wrap a1).toNat IntKind.i64.bits) - 1))).bind fun y => bif y then (XF big a2.2.2.2.1).bind fun y => (Jf big a1).bind fun y_1 => some (decide (y_1 ≤ y)) else some false := by kernel_rfl
def Tl : Ys := [(68, Xs)]
theorem Zdr : Yu Tl := cons_cons YV (Zh)
def ZkJ : KP := []
def Tm (n : Nat) (x : YH [ZQ, Zl]) := evX (false, false, [2, 5, 9]) Tl ZkJ [some ZB] Tryz.f39 (shF ZB) n (YR [ZQ, Zl] x)
def WQ : Con := roS [ZQ, Zl] true (shF ZB) (Tm big)
theorem XW : ZH Tryz.prog 39 WQ := ZC ⟨Tryz.f39, by kernel_rfl, rfl, by decide⟩ fun _ _ h => Zw Zdr (f := Tryz.f39) (by kernel_rfl) rfl (by kernel_rfl) (by kernel_rfl) big h
def XH (n : Nat) (a0 : Zo) (a1 : Int) : Option Zo := Tm n (a0, a1, ())
theorem Ge (n : Nat) (a0 : Zo) (a1 : Int) : XH n a0 a1 = (YY big a0).bind fun y => bif decide (a0.2.1 < a1) then bif decide (a1 ≤ 900) then some (y.1, a1, y.2.2.1, y.2.2.2.1, y.2.2.2.2.1, y.2.2.2.2.2.1, y.2.2.2.2.2.2.1, y.2.2.2.2.2.2.2.1, y.2.2.2.2.2.2.2.2.1, [], [], y.2.2.2.2.2.2.2.2.2.2.2) else some y else some y := by kernel_rfl
def Fu : Ys := []
theorem ZhU : Yu Fu := Zh
abbrev Af : Vl := (.ro ZS :: dp 2 (.is (.ptr 0 0) :: .drop :: .ro Zb :: dp 34 []), [.vars [.ro Zb, .ro Zb, .ro Zb, .ro Zb]])
def Tn : KP := [(2, Af)]
def ZfR (n : Nat) (x : YH [ZS, Z5]) := evX (false, false, [3, 17, 26, 36]) Fu Tn [none] Tryz.f261 (shV ZD) n (YR [ZS, Z5] x)
def ZfS : Con := roS [ZS, Z5] true (shV ZD) (ZfR big)
theorem ZhV : ZH Tryz.prog 261 ZfS := ZC ⟨Tryz.f261, by kernel_rfl, rfl, by decide⟩ fun _ _ h => Zw ZhU (f := Tryz.f261) (by kernel_rfl) rfl (by kernel_rfl) (by kernel_rfl) big h
def MV (n : Nat) (a0 : Yq) (a1 : Z4) : Option Bool := ZfR n (a0, a1, ())
def ZkK (n : Nat) (x : KD Af.1) (y : BD Af.2) := Z9 (env (false, false, [3, 17, 26, 36]) Fu) Tn (body Tryz.f261) (Vm (false, false, [3, 17, 26, 36]) Fu [none] Tryz.f261 (shV ZD) [.val ZS (ZR ZS), .val Z5 (ZR Z5)]) n 2 Af x y
def VX (n : Nat) (s0 : Yq) (s5 b0_0 : Int) (b0_1 b0_2 b0_3 : Int) : Option Bool := ZkK n (s0, s5, ()) ((b0_0, b0_1, b0_2, b0_3, ()), ())
theorem ZhW (n : Nat) (a0 : Yq) (a1 : Z4) : MV n a0 a1 = VX n a0 0 a1.1 a1.2.1 a1.2.2.1 a1.2.2.2.1 := by kernel_rfl
theorem D0 (n : Nat) (s0 : Yq) (s5 b0_0 : Int) (b0_1 b0_2 b0_3 : Int) : VX (n + 1) s0 s5 b0_0 b0_1 b0_2 b0_3 = bif decide (s5 < (↑(List.length s0) : Int)) then if 0 ≤ s5 then (nth s0 s5.toNat).bind fun y => bif decide (y.2.2.2.1 = b0_3) then if 0 ≤ s5 then (nth s0 s5.toNat).bind fun y => bif decide (y.1 = b0_0) then if 0 ≤ s5 then (nth s0 s5.toNat).bind fun y => bif decide (y.2.1 = b0_1) then some true else VX n s0 (IntKind.i64.wrap (s5 + 1)) b0_0 b0_1 b0_2 b0_3 else none else VX n s0 (IntKind.i64.wrap (s5 + 1)) b0_0 b0_1 b0_2 b0_3 else none else VX n s0 (IntKind.i64.wrap (s5 + 1)) b0_0 b0_1 b0_2 b0_3 else none else some false := by kernel_rfl
def W9 : Ys := []
theorem PH : Yu W9 := Zh
abbrev Uo : Vl := (.ro ZS :: .ro Zb :: .ro Zb :: .ro Zb :: dp 5 (.ro Zb :: .ro Zb :: dp 44 []), [])
abbrev Uq : Vl := (.ro ZS :: .ro Zb :: .ro Zb :: .ro Zb :: dp 5 (.ro Zb :: .ro Zb :: .ro Zb :: dp 43 []), [])
def A7 : KP := [(3, Uo), (6, Uq)]
def IU (n : Nat) (x : YH [ZS, Zl, Zl, Zl]) := evX (false, false, [12, 27, 32, 38, 44]) W9 A7 [none] Tryz.f176 (shV Zl) n (YR [ZS, Zl, Zl, Zl] x)
def KC : Con := roS [ZS, Zl, Zl, Zl] true (shV Zl) (IU big)
theorem Q5 : ZH Tryz.prog 176 KC := ZC ⟨Tryz.f176, by kernel_rfl, rfl, by decide⟩ fun _ _ h => Zw PH (f := Tryz.f176) (by kernel_rfl) rfl (by kernel_rfl) (by kernel_rfl) big h
def Ur (n : Nat) (a0 : Yq) (a1 a2 a3 : Int) : Option Int := IU n (a0, a1, a2, a3, ())
def To (n : Nat) (x : KD Uo.1) (y : BD Uo.2) := Z9 (env (false, false, [12, 27, 32, 38, 44]) W9) A7 (body Tryz.f176) (Vm (false, false, [12, 27, 32, 38, 44]) W9 [none] Tryz.f176 (shV Zl) [.val ZS (ZR ZS), .val Zl (ZR Zl), .val Zl (ZR Zl), .val Zl (ZR Zl)]) n 3 Uo x y
def WR (n : Nat) (s0 : Yq) (s1 s2 : Int) (s3 s9 s10 : Int) : Option Int := To n (s0, s1, s2, s3, s9, s10, ()) ()
def Tp (n : Nat) (x : KD Uq.1) (y : BD Uq.2) := Z9 (env (false, false, [12, 27, 32, 38, 44]) W9) A7 (body Tryz.f176) (Vm (false, false, [12, 27, 32, 38, 44]) W9 [none] Tryz.f176 (shV Zl) [.val ZS (ZR ZS), .val Zl (ZR Zl), .val Zl (ZR Zl), .val Zl (ZR Zl)]) n 6 Uq x y
def WS (n : Nat) (s0 : Yq) (s1 s2 : Int) (s3 s9 : Int) (s10 s11 : Int) : Option Int := Tp n (s0, s1, s2, s3, s9, s10, s11, ()) ()
theorem PI (n : Nat) (a0 : Yq) (a1 a2 a3 : Int) : Ur n a0 a1 a2 a3 = WR n a0 a1 a2 a3 0 0 := by kernel_rfl
theorem Ag (n : Nat) (s0 : Yq) (s1 s2 : Int) (s3 s9 s10 : Int) : WR (n + 1) s0 s1 s2 s3 s9 s10 = bif decide (s10 < 7) then WS n s0 s1 s2 s3 s9 s10 0 else some s9 := by kernel_rfl
theorem Ah (n : Nat) (s0 : Yq) (s1 s2 : Int) (s3 s9 : Int) (s10 s11 : Int) : WS (n + 1) s0 s1 s2 s3 s9 s10 s11 = bif decide (s11 < (↑(List.length s0) : Int)) then if 0 ≤ s11 then (nth s0 s11.toNat).bind fun y => (fun zC0 => bif decide (y.2.2.2.1 = s10) then bif decide (y.1 = s1) then bif decide (y.2.1 = s2) then bif decide (y.2.2.1 = s3) then if IntKind.u64.wrap s10 < 0 then none else WR n s0 s1 s2 s3 (IntKind.i64.wrap (s9 + IntKind.i64.wrap (1 * 2 ^ min (IntKind.u64.wrap s10).toNat IntKind.i64.bits))) (IntKind.i64.wrap (s10 + 1)) else zC0 else zC0 else zC0 else zC0) (WS n s0 s1 s2 s3 s9 s10 (IntKind.i64.wrap (s11 + 1))) else none else WR n s0 s1 s2 s3 s9 (IntKind.i64.wrap (s10 + 1)) := by kernel_rfl
def Zpk : Ys := [(176, KC), (174, Jw), (175, BC)]
theorem ZnX : Yu Zpk := cons_cons Q5 (cons_cons Qs (cons_cons Ku (Zh)))
def Zsw : KP := []
def Zpl (n : Nat) (x : YH [ZS, Zl, Zl, Zl, Zl]) := evX (false, false, [12, 22]) Zpk Zsw [none, none] Tryz.f248 (shT [(false, Wy), (false, ZD)]) n (YR [ZS, Zl, Zl, Zl, Zl] x)
def ZhX : Con := roS [ZS, Zl, Zl, Zl, Zl] true (shT [(false, Wy), (false, ZD)]) (Zpl big)
theorem Tq : ZH Tryz.prog 248 ZhX := ZC ⟨Tryz.f248, by kernel_rfl, rfl, by decide⟩ fun _ _ h => Zw ZnX (f := Tryz.f248) (by kernel_rfl) rfl (by kernel_rfl) (by kernel_rfl) big h
def IV (n : Nat) (a0 : Yq) (a1 a2 : Int) (a3 a4 : Int) : Option (B6 × Bool × Unit) := Zpl n (a0, a1, a2, a3, a4, ())
theorem ZnY (n : Nat) (a0 : Yq) (a1 a2 : Int) (a3 a4 : Int) : IV n a0 a1 a2 a3 a4 = (Ur big a0 a1 a2 a3).bind fun y => (XF big y).bind fun y_1 => (Jf big a4).bind fun y_2 => bif decide (y_1 < y_2) then some ((0, 0, 0, 0, ()), false, ()) else some ((a1, a2, a3, y, ()), true, ()) := by kernel_rfl
def Oa : Ys := []
theorem Tr : Yu Oa := Zh
def ZhY : KP := []
def ZkL (n : Nat) (x : YH [ZQ, Zl, Zl, Wy, Z5]) := evX (false, false, [5, 8, 9, 11, 13, 16, 23]) Oa ZhY [none] Tryz.f69 (shV ZO) n (YR [ZQ, Zl, Zl, Wy, Z5] x)
def QS : Con := roS [ZQ, Zl, Zl, Wy, Z5] true (shV ZO) (ZkL big)
theorem Us : ZH Tryz.prog 69 QS := ZC ⟨Tryz.f69, by kernel_rfl, rfl, by decide⟩ fun _ _ h => Zw Tr (f := Tryz.f69) (by kernel_rfl) rfl (by kernel_rfl) (by kernel_rfl) big h
def Ts : Ys := []
theorem Zds : Yu Ts := Zh
def ZkM : KP := []
def Tt (n : Nat) (x : YH [ZQ, Zl, Zl]) := evX (false, false, [3, 7, 8, 13, 14, 19, 20]) Ts ZkM [none] Tryz.f15 (shV ZD) n (YR [ZQ, Zl, Zl] x)
def Cu : Con := roS [ZQ, Zl, Zl] true (shV ZD) (Tt big)
theorem A8 : ZH Tryz.prog 15 Cu := ZC ⟨Tryz.f15, by kernel_rfl, rfl, by decide⟩ fun _ _ h => Zw Zds (f := Tryz.f15) (by kernel_rfl) rfl (by kernel_rfl) (by kernel_rfl) big h
def Qg (n : Nat) (a0 : Zo) (a1 a2 : Int) : Option Bool := Tt n (a0, a1, a2, ())
theorem Zdt (n : Nat) (a0 : Zo) (a1 a2 : Int) : Qg n a0 a1 a2 = bif decide (a0.2.2.2.2.1.2.1 < a2) then some true else bif decide (a0.2.2.2.2.1.2.1 = a2) then some (decide (a0.2.2.2.2.1.1 < a1)) else some false := by kernel_rfl
def Ai : Ys := [(67, Yy)]
theorem Tu : Yu Ai := cons_cons Z7 (Zh)
abbrev Qu : Vl := (.ro Zf :: .ro Zb :: dp 3 (.ro Zb :: dp 30 []), [])
def IW : KP := [(2, Qu)]
def Ob (n : Nat) (x : YH [Zf, Zl]) := evX (false, false, []) Ai IW [none] Tryz.f84 (shV Zl) n (YR [Zf, Zl] x)
def Aj : Con := roS [Zf, Zl] true (shV Zl) (Ob big)
theorem JA : ZH Tryz.prog 84 Aj := ZC ⟨Tryz.f84, by kernel_rfl, rfl, by decide⟩ fun _ _ h => Zw Tu (f := Tryz.f84) (by kernel_rfl) rfl (by kernel_rfl) (by kernel_rfl) big h
def VY (n : Nat) (a0 : Zi) (a1 : Int) : Option Int := Ob n (a0, a1, ())
def Zdu (n : Nat) (x : KD Qu.1) (y : BD Qu.2) := Z9 (env (false, false, []) Ai) IW (body Tryz.f84) (Vm (false, false, []) Ai [none] Tryz.f84 (shV Zl) [.val Zf (ZR Zf), .val Zl (ZR Zl)]) n 2 Qu x y
def Vr (n : Nat) (s0 : Zi) (s1 s5 : Int) : Option Int := Zdu n (s0, s1, s5, ()) ()
theorem D4 (n : Nat) (a0 : Zi) (a1 : Int) : VY n a0 a1 = Vr n a0 a1 0 := by kernel_rfl
theorem XC (n : Nat) (s0 : Zi) (s1 s5 : Int) : Vr (n + 1) s0 s1 s5 = bif !decide (s1 = 0) then (ZT big s1 0 (IntKind.i64.wrap ((↑(List.length s0) : Int) - 1))).bind fun y => bif !y then some (-1) else if 0 ≤ s1 then (nth s0 s1.toNat).bind fun y => (ZT big y.1 0 (IntKind.i64.wrap (s1 - 1))).bind fun y => bif !y then some (-1) else if 0 ≤ s1 then (nth s0 s1.toNat).bind fun y => Vr n s0 y.1 (IntKind.i64.wrap (s5 + 1)) else none else none else bif decide ((↑(List.length s0) : Int) = 0) then some (-1) else some s5 := by kernel_rfl
def Cv : Ys := [(84, Aj)]
theorem Zdv : Yu Cv := cons_cons JA (Zh)
abbrev KE : Vl := (.ro Zf :: .ro Zb :: .ro Zb :: dp 23 [], [])
def Oc : KP := [(3, KE)]
def Tv (n : Nat) (x : YH [Zf, Zl, Zl]) := evX (false, false, []) Cv Oc [none] Tryz.f31 (shV ZD) n (YR [Zf, Zl, Zl] x)
def Cw : Con := roS [Zf, Zl, Zl] true (shV ZD) (Tv big)
theorem A9 : ZH Tryz.prog 31 Cw := ZC ⟨Tryz.f31, by kernel_rfl, rfl, by decide⟩ fun _ _ h => Zw Zdv (f := Tryz.f31) (by kernel_rfl) rfl (by kernel_rfl) (by kernel_rfl) big h
def Qh (n : Nat) (a0 : Zi) (a1 a2 : Int) : Option Bool := Tv n (a0, a1, a2, ())
def ZhZ (n : Nat) (x : KD KE.1) (y : BD KE.2) := Z9 (env (false, false, []) Cv) Oc (body Tryz.f31) (Vm (false, false, []) Cv [none] Tryz.f31 (shV ZD) [.val Zf (ZR Zf), .val Zl (ZR Zl), .val Zl (ZR Zl)]) n 3 KE x y
def Ut (n : Nat) (s0 : Zi) (s1 s2 : Int) : Option Bool := ZhZ n (s0, s1, s2, ()) ()
theorem Gf (n : Nat) (a0 : Zi) (a1 a2 : Int) : Qh n a0 a1 a2 = (VY big a0 a1).bind fun y => bif decide (y < 0) then some false else Ut n a0 a1 a2 := by kernel_rfl
theorem Q6 (n : Nat) (s0 : Zi) (s1 s2 : Int) : Ut (n + 1) s0 s1 s2 = bif decide (0 < s1) then bif !decide (s1 = s2) then if 0 ≤ s1 then (nth s0 s1.toNat).bind fun y => Ut n s0 y.1 s2 else none else some (decide (s1 = s2)) else some (decide (s1 = s2)) := by kernel_rfl
def IX : Ys := [(67, Yy), (31, Cw)]
theorem PJ : Yu IX := cons_cons Z7 (cons_cons A9 (Zh))
def Zdw : KP := []
def IY (n : Nat) (x : YH [Zf, Wy, Zl]) := evX (false, false, [4, 15, 25]) IX Zdw [none] Tryz.f38 (shV ZD) n (YR [Zf, Wy, Zl] x)
def KF : Con := roS [Zf, Wy, Zl] true (shV ZD) (IY big)
theorem Q7 : ZH Tryz.prog 38 KF := ZC ⟨Tryz.f38, by kernel_rfl, rfl, by decide⟩ fun _ _ h => Zw PJ (f := Tryz.f38) (by kernel_rfl) rfl (by kernel_rfl) (by kernel_rfl) big h
def Wq (n : Nat) (a0 : Zi) (a1 : B6) (a2 : Int) : Option Bool := IY n (a0, a1, a2, ())
theorem Da (n : Nat) (a0 : Zi) (a1 : B6) (a2 : Int) : Wq n a0 a1 a2 = (ZT big a2 0 (IntKind.i64.wrap ((↑(List.length a0) : Int) - 1))).bind fun y => bif !y then some false else (Qh big a0 a2 a1.2.2.1).bind fun y => bif y then some true else if 0 ≤ a2 then (nth a0 a2.toNat).bind fun y => some (decide (a1.2.1 < y.2.2.2.1.2.1)) else none := by kernel_rfl
def Od : Ys := [(84, Aj), (67, Yy)]
theorem Tw : Yu Od := cons_cons JA (cons_cons Z7 (Zh))
def Zh0 : KP := []
def Oe (n : Nat) (x : YH [Zf, Zl]) := evX (false, false, []) Od Zh0 [none, none, none, none] Tryz.f95 (shT [(false, Zl), (false, Zl), (false, Zl), (false, ZD)]) n (YR [Zf, Zl] x)
def D5 : Con := roS [Zf, Zl] true (shT [(false, Zl), (false, Zl), (false, Zl), (false, ZD)]) (Oe big)
theorem D6 : ZH Tryz.prog 95 D5 := ZC ⟨Tryz.f95, by kernel_rfl, rfl, by decide⟩ fun _ _ h => Zw Tw (f := Tryz.f95) (by kernel_rfl) rfl (by kernel_rfl) (by kernel_rfl) big h
def Ak (n : Nat) (a0 : Zi) (a1 : Int) : Option (Int × Int × Int × Bool × Unit) := Oe n (a0, a1, ())
theorem Tx (n : Nat) (a0 : Zi) (a1 : Int) : Ak n a0 a1 = (VY big a0 a1).bind fun y => bif decide (y < 1) then some (0, 0, 0, false, ()) else if 0 ≤ a1 then (nth a0 a1.toNat).bind fun y => (ZT big y.2.2.2.1.2.2.1 0 (IntKind.i64.wrap (a1 - 1))).bind fun y_1 => bif !y_1 then some (0, 0, 0, false, ()) else if 0 ≤ y.2.2.2.1.2.2.1 then (nth a0 (Int.toNat y.2.2.2.1.2.2.1)).bind fun y_2 => (ZT big y_2.2.2.2.1.2.2.1 0 (IntKind.i64.wrap ((↑(List.length a0) : Int) - 1))).bind fun y_3 => bif !y_3 then some (0, 0, 0, false, ()) else if 0 ≤ y_2.2.2.2.1.2.2.1 then (nth a0 (Int.toNat y_2.2.2.2.1.2.2.1)).bind fun y_4 => (ZT big y_4.2.2.2.1.2.2.1 0 (IntKind.i64.wrap ((↑(List.length a0) : Int) - 1))).bind fun y_5 => bif !y_5 then some (0, 0, 0, false, ()) else some (y.2.2.2.1.2.2.1, y_2.2.2.2.1.2.2.1, y_4.2.2.2.1.2.2.1, true, ()) else none else none else none := by kernel_rfl
def Tz : Ys := []
theorem Zdx : Yu Tz := Zh
def ZkN : KP := []
def TA (n : Nat) (x : YH [Zf, Zl, Zl]) := evX (false, false, []) Tz ZkN [none] Tryz.f98 (shV ZD) n (YR [Zf, Zl, Zl] x)
def Ho : Con := roS [Zf, Zl, Zl] true (shV ZD) (TA big)
theorem Gg : ZH Tryz.prog 98 Ho := ZC ⟨Tryz.f98, by kernel_rfl, rfl, by decide⟩ fun _ _ h => Zw Zdx (f := Tryz.f98) (by kernel_rfl) rfl (by kernel_rfl) (by kernel_rfl) big h
def JB (n : Nat) (a0 : Zi) (a1 a2 : Int) : Option Bool := TA n (a0, a1, a2, ())
theorem Zdy (n : Nat) (a0 : Zi) (a1 a2 : Int) : JB n a0 a1 a2 = bif !decide (a1 = 0) then bif !decide (a2 = 0) then if 0 ≤ a1 then (nth a0 a1.toNat).bind fun y => if 0 ≤ a2 then (nth a0 a2.toNat).bind fun y_1 => some (decide (y.2.1 = IntKind.i64.wrap (y_1.2.1 + 1))) else none else none else some false else some false := by kernel_rfl
def Of : Ys := [(95, D5), (98, Ho)]
theorem TB : Yu Of := cons_cons D6 (cons_cons Gg (Zh))
def Zh1 : KP := []
def Og (n : Nat) (x : YH [Zf, Zl]) := evX (false, false, []) Of Zh1 [none, none] Tryz.f97 (shT [(false, Zl), (false, ZD)]) n (YR [Zf, Zl] x)
def Oh : Con := roS [Zf, Zl] true (shT [(false, Zl), (false, ZD)]) (Og big)
theorem TC : ZH Tryz.prog 97 Oh := ZC ⟨Tryz.f97, by kernel_rfl, rfl, by decide⟩ fun _ _ h => Zw TB (f := Tryz.f97) (by kernel_rfl) rfl (by kernel_rfl) (by kernel_rfl) big h
def D7 (n : Nat) (a0 : Zi) (a1 : Int) : Option (Int × Bool × Unit) := Og n (a0, a1, ())
theorem TD (n : Nat) (a0 : Zi) (a1 : Int) : D7 n a0 a1 = (Ak big a0 a1).bind fun y => bif !y.2.2.2.1 then some (0, false, ()) else (JB big a0 y.1 y.2.1).bind fun y_1 => bif !y_1 then some (0, false, ()) else if 0 ≤ y.2.1 then (nth a0 (Int.toNat y.2.1)).bind fun y_2 => if 0 ≤ y.2.2.1 then (nth a0 (Int.toNat y.2.2.1)).bind fun y_3 => bif !decide (y_2.2.1 = IntKind.i64.wrap (y_3.2.1 + 1)) then some (0, false, ()) else some (y.2.2.1, true, ()) else none else none := by kernel_rfl
def ZkO : Ys := [(22, Wg), (175, BC)]
theorem ZkP : Yu ZkO := cons_cons XG (cons_cons Ku (Zh))
def ZqF : KP := []
def ZkQ (n : Nat) (x : YH [ZQ, Zl, ZD]) := evX (false, false, [3, 7, 11, 15, 17, 21, 28, 35, 36, 38]) ZkO ZqF [none] Tryz.f188 (shV ZD) n (YR [ZQ, Zl, ZD] x)
def TE : Con := roS [ZQ, Zl, ZD] true (shV ZD) (ZkQ big)
theorem Oi : ZH Tryz.prog 188 TE := ZC ⟨Tryz.f188, by kernel_rfl, rfl, by decide⟩ fun _ _ h => Zw ZkP (f := Tryz.f188) (by kernel_rfl) rfl (by kernel_rfl) (by kernel_rfl) big h
def I0 (n : Nat) (a0 : Zo) (a1 : Int) (a2 : Bool) : Option Bool := ZkQ n (a0, a1, a2, ())
theorem ZkR (n : Nat) (a0 : Zo) (a1 : Int) (a2 : Bool) : I0 n a0 a1 a2 = (Xl big a0.2.1 a1).bind fun y => bif !decide (y = a0.1) then some false else bif decide (a0.2.1 ≤ a0.2.2.2.2.2.2.2.2.2.2.2.1) then some false else (Jf big a1).bind fun y => bif decide (y ≤ (↑(List.length a0.2.2.2.2.2.2.2.2.2.2.1) : Int)) then some true else bif decide (a0.2.1 = 1) then some true else bif a2 then some (decide (a0.2.2.1.2.1 = IntKind.i64.wrap (a0.2.1 - 1))) else some false := by kernel_rfl
def Gh : Ys := []
theorem MW : Yu Gh := Zh
def TF : KP := []
def Zdz (n : Nat) (x : YH []) := evX (false, false, []) Gh TF [some YX] Tryz.f160 (shF YX) n (YR [] x)
def Gi : Con := roS [] true (shF YX) (Zdz big)
theorem MX : ZH Tryz.prog 160 Gi := ZC ⟨Tryz.f160, by kernel_rfl, rfl, by decide⟩ fun _ _ h => Zw MW (f := Tryz.f160) (by kernel_rfl) rfl (by kernel_rfl) (by kernel_rfl) big h
def TG : Ys := [(160, Gi)]
theorem ZdA : Yu TG := cons_cons MX (Zh)
def ZkS : KP := []
def ZnZ (n : Nat) (x : YH []) := evX (true, false, []) TG ZkS [some ZZ] Tryz.f178 (shF ZZ) n (YR [] x)
def Hp : Con := roS [] true (shF ZZ) (ZnZ big)
theorem Gj : ZH Tryz.prog 178 Hp := ZC ⟨Tryz.f178, by kernel_rfl, rfl, by decide⟩ fun _ _ h => Zw ZdA (f := Tryz.f178) (by kernel_rfl) rfl (by kernel_rfl) (by kernel_rfl) big h
def TH : Ys := []
theorem ZdB : Yu TH := Zh
def ZkT : KP := []
def Zn0 (n : Nat) (x : YH [Zl]) := evX (false, false, []) TH ZkT [some ZB] Tryz.f179 (shF ZB) n (YR [Zl] x)
def Hq : Con := roS [Zl] true (shF ZB) (Zn0 big)
theorem Gk : ZH Tryz.prog 179 Hq := ZC ⟨Tryz.f179, by kernel_rfl, rfl, by decide⟩ fun _ _ h => Zw ZdB (f := Tryz.f179) (by kernel_rfl) rfl (by kernel_rfl) (by kernel_rfl) big h
def Qv : Ys := [(67, Yy), (174, Jw), (177, MS), (178, Hp), (179, Hq)]
theorem MY : Yu Qv := cons_cons Z7 (cons_cons Qs (cons_cons IK (cons_cons Gj (cons_cons Gk (Zh)))))
abbrev Vx : Vl := (.ro Zb :: dp 5 (.is (.ptr 0 0) :: .drop :: .is (.ptr 2 0) :: .ro Zb :: dp 38 []), [.vars [.ro Zb, .ro ZD, .ro Zb, .own YX, .own ZB, .own ZO, .own Z5, .own Wn], .drop, .vars [.ro Zb, .ro ZD, .ro Zb, .own ZJ, .own ZB, .own ZO, .own Z5, .own Wn]])
def D8 : KP := [(5, Vx)]
def Gl (n : Nat) (x : YH [Zl, ZD, Zl]) := evX (true, false, [8, 40]) Qv D8 [some Zx, none] Tryz.f133 (shT [(true, Zx), (false, ZD)]) n (YR [Zl, ZD, Zl] x)
def Gm : Con := roS [Zl, ZD, Zl] true (shT [(true, Zx), (false, ZD)]) (Gl big)
theorem MZ : ZH Tryz.prog 133 Gm := ZC ⟨Tryz.f133, by kernel_rfl, rfl, by decide⟩ fun _ _ h => Zw MY (f := Tryz.f133) (by kernel_rfl) rfl (by kernel_rfl) (by kernel_rfl) big h
def Bc (n : Nat) (a0 : Int) (a1 : Bool) (a2 : Int) : Option (Zp × Bool × Unit) := Gl n (a0, a1, a2, ())
def PK (n : Nat) (x : KD Vx.1) (y : BD Vx.2) := Z9 (env (true, false, [8, 40]) Qv) D8 (body Tryz.f133) (Vm (true, false, [8, 40]) Qv [some Zx, none] Tryz.f133 (shT [(true, Zx), (false, ZD)]) [.val Zl (ZR Zl), .val ZD (ZR ZD), .val Zl (ZR Zl)]) n 5 Vx x y
def Vy (n : Nat) (s0 s9 b0_0 : Int) (b0_1 : Bool) (b0_2 : Int) (b0_3 : (List Zy)) (b0_4 : (List Zo)) (b0_5 : (List Zz)) (b0_6 : (List Z4)) (b0_7 : (List Xf)) (b2_0 : Int) (b2_1 : Bool) (b2_2 : Int) (b2_3 : (List Zr)) (b2_4 : (List Zo)) (b2_5 : (List Zz)) (b2_6 : (List Z4)) (b2_7 : (List Xf)) : Option (Zp × Bool × Unit) := PK n (s0, s9, ()) ((b0_0, b0_1, b0_2, b0_3, b0_4, b0_5, b0_6, b0_7, ()), (b2_0, b2_1, b2_2, b2_3, b2_4, b2_5, b2_6, b2_7, ()), ())
theorem M0 (n : Nat) (a0 : Int) (a1 : Bool) (a2 : Int) : Bc n a0 a1 a2 = (ZT big a0 1 7).bind fun y => bif !y then some ((0, false, 0, [], [], [], [], [], ()), false, ()) else if IntKind.u64.wrap a0 < 0 then none else (ZT big a2 0 (IntKind.i64.wrap (IntKind.i64.wrap (1 * 2 ^ min (IntKind.u64.wrap a0).toNat IntKind.i64.bits) - 1))).bind fun y => bif !y then some ((0, false, 0, [], [], [], [], [], ()), false, ()) else (XF big a2).bind fun y => (BB big a0).bind fun y_1 => bif decide (y_1 < y) then some ((0, false, 0, [], [], [], [], [], ()), false, ()) else Vy n a0 0 0 false 0 [] [] [] [] [] a0 a1 a2 [((-1), 0, [], (0, 0, 0, 0, ()), ())] [] [] [] [] := by kernel_rfl
theorem JC (n : Nat) (s0 s9 b0_0 : Int) (b0_1 : Bool) (b0_2 : Int) (b0_3 : (List Zy)) (b0_4 : (List Zo)) (b0_5 : (List Zz)) (b0_6 : (List Z4)) (b0_7 : (List Xf)) (b2_0 : Int) (b2_1 : Bool) (b2_2 : Int) (b2_3 : (List Zr)) (b2_4 : (List Zo)) (b2_5 : (List Zz)) (b2_6 : (List Z4)) (b2_7 : (List Xf)) : Vy (n + 1) s0 s9 b0_0 b0_1 b0_2 b0_3 b0_4 b0_5 b0_6 b0_7 b2_0 b2_1 b2_2 b2_3 b2_4 b2_5 b2_6 b2_7 = bif decide (s9 < s0) then if b2_4.length + (1 : Nat) ≤ lim then Vy n s0 (IntKind.i64.wrap (s9 + 1)) b0_0 b0_1 b0_2 b0_3 b0_4 b0_5 b0_6 b0_7 b2_0 b2_1 b2_2 b2_3 (b2_4.append [(s9, 1, (0, 0, 0, 0, ()), (0, 0, 0, 0, ()), (0, 0, 0, 0, ()), [], [], [], [], [], [], 0, ())]) b2_5 b2_6 b2_7 else none else some ((b2_0, b2_1, b2_2, b2_3, b2_4, b2_5, b2_6, b2_7, ()), true, ()) := by kernel_rfl
def I1 : Ys := [(84, Aj)]
theorem ZkU : Yu I1 := cons_cons JA (Zh)
abbrev Cx : Vl := (.ro Zf :: .ro Zb :: dp 3 (.own Zb :: dp 18 []), [])
def ZfT : KP := [(4, Cx)]
def ZkV (n : Nat) (x : YH [Zf, Zl]) := evX (false, false, []) I1 ZfT [some Y9] Tryz.f83 (shF Y9) n (YR [Zf, Zl] x)
def ZkW : Con := roS [Zf, Zl] true (shF Y9) (ZkV big)
theorem ZkX : ZH Tryz.prog 83 ZkW := ZC ⟨Tryz.f83, by kernel_rfl, rfl, by decide⟩ fun _ _ h => Zw ZkU (f := Tryz.f83) (by kernel_rfl) rfl (by kernel_rfl) (by kernel_rfl) big h
def I2 (n : Nat) (a0 : Zi) (a1 : Int) : Option Yt := ZkV n (a0, a1, ())
def Zn1 (n : Nat) (x : KD Cx.1) (y : BD Cx.2) := Z9 (env (false, false, []) I1) ZfT (body Tryz.f83) (Vm (false, false, []) I1 [some Y9] Tryz.f83 (shF Y9) [.val Zf (ZR Zf), .val Zl (ZR Zl)]) n 4 Cx x y
def JD (n : Nat) (s0 : Zi) (s1 : Int) (s5 : (List Int)) : Option Yt := Zn1 n (s0, s1, s5, ()) ()
theorem Oj (n : Nat) (a0 : Zi) (a1 : Int) : I2 n a0 a1 = (VY big a0 a1).bind fun y => bif decide (y < 0) then some [] else JD n a0 a1 [] := by kernel_rfl
theorem Bd (n : Nat) (s0 : Zi) (s1 : Int) (s5 : (List Int)) : JD (n + 1) s0 s1 s5 = bif decide (0 < s1) then if [s1].length + s5.length ≤ lim then if 0 ≤ s1 then (nth s0 s1.toNat).bind fun y => JD n s0 y.1 (s1 :: s5) else none else none else some s5 := by kernel_rfl
def Al : Ys := [(31, Cw), (83, ZkW)]
theorem TJ : Yu Al := cons_cons A9 (cons_cons ZkX (Zh))
abbrev Qw : Vl := (dp 2 (.ro Zb :: dp 4 (.is (.own 0 0) :: .own Zb :: .ro Zb :: dp 30 [])), [.arr Zb])
def I3 : KP := [(6, Qw)]
def Ol (n : Nat) (x : YH [Zf, Zl, Zl]) := evX (false, false, []) Al I3 [some Y9] Tryz.f30 (shF Y9) n (YR [Zf, Zl, Zl] x)
def D9 : Con := roS [Zf, Zl, Zl] true (shF Y9) (Ol big)
theorem Ea : ZH Tryz.prog 30 D9 := ZC ⟨Tryz.f30, by kernel_rfl, rfl, by decide⟩ fun _ _ h => Zw TJ (f := Tryz.f30) (by kernel_rfl) rfl (by kernel_rfl) (by kernel_rfl) big h
def QT (n : Nat) (a0 : Zi) (a1 a2 : Int) : Option Yt := Ol n (a0, a1, a2, ())
def ZdC (n : Nat) (x : KD Qw.1) (y : BD Qw.2) := Z9 (env (false, false, []) Al) I3 (body Tryz.f30) (Vm (false, false, []) Al [some Y9] Tryz.f30 (shF Y9) [.val Zf (ZR Zf), .val Zl (ZR Zl), .val Zl (ZR Zl)]) n 6 Qw x y
def Wz (n : Nat) (s2 : Int) (s8 : (List Int)) (s9 : Int) (b0 : (List Int)) : Option Yt := ZdC n (s2, s8, s9, ()) (b0, ())
theorem Eb (n : Nat) (a0 : Zi) (a1 a2 : Int) : QT n a0 a1 a2 = (Qh big a0 a1 a2).bind fun y => bif !y then some [] else (I2 big a0 a1).bind fun y => Wz n a2 [] 0 y := by kernel_rfl
theorem Va (n : Nat) (s2 : Int) (s8 : (List Int)) (s9 : Int) (b0 : (List Int)) : Wz (n + 1) s2 s8 s9 b0 = bif decide (s9 < (↑b0.length : Int)) then if 0 ≤ s9 then if s9 < (↑b0.length : Int) then (nth b0 s9.toNat).bind fun y => bif decide (s2 < y) then if 0 ≤ s9 then if s9 < (↑b0.length : Int) then (nth b0 s9.toNat).bind fun y => if s8.length + [y].length ≤ lim then Wz n s2 (s8.append [y]) (IntKind.i64.wrap (s9 + 1)) b0 else none else none else none else Wz n s2 s8 (IntKind.i64.wrap (s9 + 1)) b0 else none else none else some s8 := by kernel_rfl
def TL : Ys := []
theorem ZdD : Yu TL := Zh
def ZkY : KP := []
def TM (n : Nat) (x : YH [ZQ]) := evX (false, false, [1, 3, 7, 9]) TL ZkY [none] Tryz.f88 (shV Zl) n (YR [ZQ] x)
def Hr : Con := roS [ZQ] true (shV Zl) (TM big)
theorem Gn : ZH Tryz.prog 88 Hr := ZC ⟨Tryz.f88, by kernel_rfl, rfl, by decide⟩ fun _ _ h => Zw ZdD (f := Tryz.f88) (by kernel_rfl) rfl (by kernel_rfl) (by kernel_rfl) big h
def Qi (n : Nat) (a0 : Zo) : Option Int := TM n (a0, ())
theorem Gp (n : Nat) (a0 : Zo) : Qi n a0 = bif decide ((↑(List.length a0.2.2.2.2.2.1) : Int) = 0) then some 0 else if 0 ≤ IntKind.i64.wrap ((↑(List.length a0.2.2.2.2.2.1) : Int) - 1) then (nth a0.2.2.2.2.2.1 (IntKind.i64.wrap ((↑(List.length a0.2.2.2.2.2.1) : Int) - 1)).toNat).bind fun y => some y else none := by kernel_rfl
def Fv : Ys := [(176, KC)]
theorem Zh2 : Yu Fv := cons_cons Q5 (Zh)
abbrev Am : Vl := (dp 2 (.ro Zb :: .drop :: .is (.ptr 0 0) :: dp 2 (.ro Zb :: .ro Zb :: dp 46 [])), [.vars [.ro Zb, .ro Zb, .ro Zb, .ro Zb]])
def TN : KP := [(5, Am)]
def ZfU (n : Nat) (x : YH [ZS, Wy, Zl]) := evX (false, false, [4, 9, 13, 15, 17, 24, 47, 51]) Fv TN [none] Tryz.f126 (shV ZD) n (YR [ZS, Wy, Zl] x)
def M1 : Con := roS [ZS, Wy, Zl] true (shV ZD) (ZfU big)
theorem I4 : ZH Tryz.prog 126 M1 := ZC ⟨Tryz.f126, by kernel_rfl, rfl, by decide⟩ fun _ _ h => Zw Zh2 (f := Tryz.f126) (by kernel_rfl) rfl (by kernel_rfl) (by kernel_rfl) big h
def VZ (n : Nat) (a0 : Yq) (a1 : B6) (a2 : Int) : Option Bool := ZfU n (a0, a1, a2, ())
def ZkZ (n : Nat) (x : KD Am.1) (y : BD Am.2) := Z9 (env (false, false, [4, 9, 13, 15, 17, 24, 47, 51]) Fv) TN (body Tryz.f126) (Vm (false, false, [4, 9, 13, 15, 17, 24, 47, 51]) Fv [none] Tryz.f126 (shV ZD) [.val ZS (ZR ZS), .val Wy (ZR Wy), .val Zl (ZR Zl)]) n 5 Am x y
def V0 (n : Nat) (s2 s7 : Int) (s8 b0_0 : Int) (b0_1 b0_2 b0_3 : Int) : Option Bool := ZkZ n (s2, s7, s8, ()) ((b0_0, b0_1, b0_2, b0_3, ()), ())
theorem Zh3 (n : Nat) (a0 : Yq) (a1 : B6) (a2 : Int) : VZ n a0 a1 a2 = bif decide (a1.2.1 = 0) then some true else (Ur big a0 a1.1 a1.2.1 a1.2.2.1).bind fun y => V0 n a2 y 0 a1.1 a1.2.1 a1.2.2.1 a1.2.2.2.1 := by kernel_rfl
theorem Ec (n : Nat) (s2 s7 : Int) (s8 b0_0 : Int) (b0_1 b0_2 b0_3 : Int) : V0 (n + 1) s2 s7 s8 b0_0 b0_1 b0_2 b0_3 = bif decide (s8 < 7) then if IntKind.u64.wrap s8 < 0 then none else bif !decide ((b0_3.fdiv (2 ^ min (IntKind.u64.wrap s8).toNat IntKind.i64.bits)).tmod 2 = 0) then if IntKind.u64.wrap s8 < 0 then none else bif decide ((s2.fdiv (2 ^ min (IntKind.u64.wrap s8).toNat IntKind.i64.bits)).tmod 2 = 0) then if IntKind.u64.wrap s8 < 0 then none else bif decide ((s7.fdiv (2 ^ min (IntKind.u64.wrap s8).toNat IntKind.i64.bits)).tmod 2 = 0) then some false else V0 n s2 s7 (IntKind.i64.wrap (s8 + 1)) b0_0 b0_1 b0_2 b0_3 else V0 n s2 s7 (IntKind.i64.wrap (s8 + 1)) b0_0 b0_1 b0_2 b0_3 else V0 n s2 s7 (IntKind.i64.wrap (s8 + 1)) b0_0 b0_1 b0_2 b0_3 else bif decide (0 ≤ b0_3) then some (decide (b0_3 < 128)) else some false := by kernel_rfl
def Zk0 : Ys := [(68, Xs)]
theorem Zk1 : Yu Zk0 := cons_cons YV (Zh)
def ZqG : KP := []
def Zk2 (n : Nat) (x : YH [ZQ, Zl, Zl, Zl]) := evX (false, false, [4, 10, 11, 17]) Zk0 ZqG [some ZB, none] Tryz.f253 (shT [(true, ZB), (false, Z5)]) n (YR [ZQ, Zl, Zl, Zl] x)
def Zk3 : Con := roS [ZQ, Zl, Zl, Zl] true (shT [(true, ZB), (false, Z5)]) (Zk2 big)
theorem Zk4 : ZH Tryz.prog 253 Zk3 := ZC ⟨Tryz.f253, by kernel_rfl, rfl, by decide⟩ fun _ _ h => Zw Zk1 (f := Tryz.f253) (by kernel_rfl) rfl (by kernel_rfl) (by kernel_rfl) big h
def TO (n : Nat) (a0 : Zo) (a1 a2 a3 : Int) : Option (Zo × Z4 × Unit) := Zk2 n (a0, a1, a2, a3, ())
theorem Zk5 (n : Nat) (a0 : Zo) (a1 a2 a3 : Int) : TO n a0 a1 a2 a3 = (YY big a0).bind fun y => (fun zB => X7 zB zB) (some ((y.1, y.2.1, y.2.2.1, y.2.2.2.1, (a1, a2, a3, a0.1, ()), y.2.2.2.2.2), (a1, a2, a3, a0.1, ()), ())) := by kernel_rfl
def TP : Ys := [(253, Zk3), (69, QS)]
theorem ZdE : Yu TP := cons_cons Zk4 (cons_cons Us (Zh))
def Zk6 : KP := []
def TQ (n : Nat) (x : AP.denL [.mu ZB, .ro Zl, .ro Zl, .ro Zl, .ro Zl]) := evX (false, false, [11, 12, 14, 15, 23, 26, 27]) TP Zk6 [some ZV] Tryz.f236 (shO (shF ZV) [.mu ZB]) n (AP.encL [.mu ZB, .ro Zl, .ro Zl, .ro Zl, .ro Zl] x)
def Cy : Con := apS [.mu ZB, .ro Zl, .ro Zl, .ro Zl, .ro Zl] true (shO (shF ZV) [.mu ZB]) (TQ big)
theorem Be : ZH Tryz.prog 236 Cy := YK ⟨Tryz.f236, by kernel_rfl, rfl, by decide⟩ fun _ _ h => Zw ZdE (f := Tryz.f236) (by kernel_rfl) rfl (by kernel_rfl) (by kernel_rfl) big h
def Qj (n : Nat) (a0 : Zo) (a1 a2 : Int) (a3 a4 : Int) : Option (ZX × Zo × Unit) := TQ n (a0, a1, a2, a3, a4, ())
theorem ZdF (n : Nat) (a0 : Zo) (a1 a2 : Int) (a3 a4 : Int) : Qj n a0 a1 a2 a3 a4 = (TO big a0 a1 a2 a3).bind fun y => some ([(2, y.1.1, a4, y.2.1.2.1, 0, (0, 0, 0, 0, ()), y.2)], y.1, ()) := by kernel_rfl
def Om : Ys := [(67, Yy), (68, Xs), (39, WQ), (22, Wg), (69, QS)]
theorem TS : Yu Om := cons_cons Z7 (cons_cons YV (cons_cons XW (cons_cons XG (cons_cons Us (Zh)))))
def Zh4 : KP := []
def On (n : Nat) (x : YH [ZQ, Zl]) := evX (false, false, [2, 7, 8, 20, 26, 30]) Om Zh4 [some ZB, none, none] Tryz.f18 (shT [(true, ZB), (false, ZO), (false, ZD)]) n (YR [ZQ, Zl] x)
def Oo : Con := roS [ZQ, Zl] true (shT [(true, ZB), (false, ZO), (false, ZD)]) (On big)
theorem TT : ZH Tryz.prog 18 Oo := ZC ⟨Tryz.f18, by kernel_rfl, rfl, by decide⟩ fun _ _ h => Zw TS (f := Tryz.f18) (by kernel_rfl) rfl (by kernel_rfl) (by kernel_rfl) big h
def Ed (n : Nat) (a0 : Zo) (a1 : Int) : Option (Zo × Zz × Bool × Unit) := On n (a0, a1, ())
theorem TU (n : Nat) (a0 : Zo) (a1 : Int) : Ed n a0 a1 = bif decide (900 ≤ a0.2.1) then (YY big a0).bind fun y => some (y, (0, 0, 0, 0, 0, (0, 0, 0, 0, ()), (0, 0, 0, 0, ()), ()), false, ()) else (ZT big a1 1 7).bind fun y => bif !y then (YY big a0).bind fun y => some (y, (0, 0, 0, 0, 0, (0, 0, 0, 0, ()), (0, 0, 0, 0, ()), ()), false, ()) else (XH big a0 (IntKind.i64.wrap (a0.2.1 + 1))).bind fun y => (Xl big y.2.1 a1).bind fun y_1 => some (y, (4, y.1, y_1, y.2.1, 0, y.2.2.1, (0, 0, 0, 0, ()), ()), true, ()) := by kernel_rfl
def Zk7 : Ys := [(233, ZfN), (197, Ae), (68, Xs)]
theorem Zk8 : Yu Zk7 := cons_cons ZhL (cons_cons Jz (cons_cons YV (Zh)))
def ZqH : KP := []
def Zk9 (n : Nat) (x : YH [Zf, ZQ, Yj]) := evX (false, false, [4, 9, 12, 17, 19, 33]) Zk7 ZqH [some ZZ, some ZB, none] Tryz.f213 (shT [(true, ZZ), (true, ZB), (false, Zl)]) n (YR [Zf, ZQ, Yj] x)
def Zla : Con := roS [Zf, ZQ, Yj] true (shT [(true, ZZ), (true, ZB), (false, Zl)]) (Zk9 big)
theorem Zlb : ZH Tryz.prog 213 Zla := ZC ⟨Tryz.f213, by kernel_rfl, rfl, by decide⟩ fun _ _ h => Zw Zk8 (f := Tryz.f213) (by kernel_rfl) rfl (by kernel_rfl) (by kernel_rfl) big h
def WT (n : Nat) (a0 : Zi) (a1 : Zo) (a2 : YU) : Option (Zi × Zo × Int × Unit) := Zk9 n (a0, a1, a2, ())
theorem Zlc (n : Nat) (a0 : Zi) (a1 : Zo) (a2 : YU) : WT n a0 a1 a2 = (MT big a1).bind fun y => (Wh big a0 (y.2.2.1, a1.2.1, a2, y, ())).bind fun y_1 => (YY big a1).bind fun y_2 => bif decide (y_1.2.1 < 0) then some (y_1.1, y_2, (-1), ()) else some (y_1.1, (y_2.1, y_2.2.1, y, y_2.2.2.2.1, y_2.2.2.2.2.1, y_2.2.2.2.2.2.1, y_2.2.2.2.2.2.2.1, y_2.2.2.2.2.2.2.2.1, y_2.2.2.2.2.2.2.2.2.1, y_2.2.2.2.2.2.2.2.2.2.1, y_2.2.2.2.2.2.2.2.2.2.2.1, a1.2.1, ()), y_1.2) := by kernel_rfl
def Cz : Ys := [(67, Yy)]
theorem ZdG : Yu Cz := cons_cons Z7 (Zh)
abbrev KG : Vl := (dp 2 (.ro Zb :: .ro Zb :: .drop :: .is (.ptr 0 0) :: dp 3 (.own Zj :: .is (.ptr 2 0) :: .ro Zb :: dp 33 [])), [.vars [.ro Zb, .ro Zb, .ro Zb, .ro Zb, .ro Zb, .ro Zb, .ro Zb, .ro Zb, .ro Zb, .ro Zb, .ro Zb, .ro Zb, .ro Zb, .ro Zb, .ro Yx, .ro Zm, .ro Yx, .ro Yl, .ro ZS, .ro ZN, .ro Zb], .drop, .vars [.ro Zb, .ro Zb, .ro Zb, .ro Zb]])
def Oq : KP := [(6, KG)]
def TV (n : Nat) (x : YH [Zf, ZQ, Zl, Zl]) := evX (false, false, [5, 10, 34, 37]) Cz Oq [some ZV] Tryz.f215 (shF ZV) n (YR [Zf, ZQ, Zl, Zl] x)
def TW : Con := roS [Zf, ZQ, Zl, Zl] true (shF ZV) (TV big)
theorem ZdH : ZH Tryz.prog 215 TW := ZC ⟨Tryz.f215, by kernel_rfl, rfl, by decide⟩ fun _ _ h => Zw ZdG (f := Tryz.f215) (by kernel_rfl) rfl (by kernel_rfl) (by kernel_rfl) big h
def Hs (n : Nat) (a0 : Zi) (a1 : Zo) (a2 a3 : Int) : Option ZX := TV n (a0, a1, a2, a3, ())
def Zh5 (n : Nat) (x : KD KG.1) (y : BD KG.2) := Z9 (env (false, false, [5, 10, 34, 37]) Cz) Oq (body Tryz.f215) (Vm (false, false, [5, 10, 34, 37]) Cz [some ZV] Tryz.f215 (shF ZV) [.val Zf (ZR Zf), .val ZQ (ZR ZQ), .val Zl (ZR Zl), .val Zl (ZR Zl)]) n 6 KG x y
def Uu (n : Nat) (s2 s3 : Int) (s9 : (List Zd)) (s11 b0_0 : Int) (b0_1 b0_2 : Int) (b0_3 b0_4 : Int) (b0_5 b0_6 : Int) (b0_7 b0_8 : Int) (b0_9 b0_10 : Int) (b0_11 b0_12 b0_13 : Int) (b0_14 : Yt) (b0_15 : Zq) (b0_16 : Yt) (b0_17 : YB) (b0_18 : Yq) (b0_19 : ZX) (b0_20 b2_0 : Int) (b2_1 b2_2 b2_3 : Int) : Option ZX := Zh5 n (s2, s3, s9, s11, ()) ((b0_0, b0_1, b0_2, b0_3, b0_4, b0_5, b0_6, b0_7, b0_8, b0_9, b0_10, b0_11, b0_12, b0_13, b0_14, b0_15, b0_16, b0_17, b0_18, b0_19, b0_20, ()), (b2_0, b2_1, b2_2, b2_3, ()), ())
theorem ZdI (n : Nat) (a0 : Zi) (a1 : Zo) (a2 a3 : Int) : Hs n a0 a1 a2 a3 = (ZT big a2 0 (IntKind.i64.wrap ((↑(List.length a0) : Int) - 1))).bind fun y => bif y then if 0 ≤ a2 then (nth a0 a2.toNat).bind fun y => Uu n a2 a3 [] 0 a1.1 a1.2.1 a1.2.2.1.1 a1.2.2.1.2.1 a1.2.2.1.2.2.1 a1.2.2.1.2.2.2.1 a1.2.2.2.1.1 a1.2.2.2.1.2.1 a1.2.2.2.1.2.2.1 a1.2.2.2.1.2.2.2.1 a1.2.2.2.2.1.1 a1.2.2.2.2.1.2.1 a1.2.2.2.2.1.2.2.1 a1.2.2.2.2.1.2.2.2.1 a1.2.2.2.2.2.1 a1.2.2.2.2.2.2.1 a1.2.2.2.2.2.2.2.1 a1.2.2.2.2.2.2.2.2.1 a1.2.2.2.2.2.2.2.2.2.1 a1.2.2.2.2.2.2.2.2.2.2.1 a1.2.2.2.2.2.2.2.2.2.2.2.1 y.2.2.2.1.1 y.2.2.2.1.2.1 y.2.2.2.1.2.2.1 y.2.2.2.1.2.2.2.1 else none else Uu n a2 a3 [] 0 a1.1 a1.2.1 a1.2.2.1.1 a1.2.2.1.2.1 a1.2.2.1.2.2.1 a1.2.2.1.2.2.2.1 a1.2.2.2.1.1 a1.2.2.2.1.2.1 a1.2.2.2.1.2.2.1 a1.2.2.2.1.2.2.2.1 a1.2.2.2.2.1.1 a1.2.2.2.2.1.2.1 a1.2.2.2.2.1.2.2.1 a1.2.2.2.2.1.2.2.2.1 a1.2.2.2.2.2.1 a1.2.2.2.2.2.2.1 a1.2.2.2.2.2.2.2.1 a1.2.2.2.2.2.2.2.2.1 a1.2.2.2.2.2.2.2.2.2.1 a1.2.2.2.2.2.2.2.2.2.2.1 a1.2.2.2.2.2.2.2.2.2.2.2.1 0 0 0 0 := by kernel_rfl
theorem Db (n : Nat) (s2 s3 : Int) (s9 : (List Zd)) (s11 b0_0 : Int) (b0_1 b0_2 : Int) (b0_3 b0_4 : Int) (b0_5 b0_6 : Int) (b0_7 b0_8 : Int) (b0_9 b0_10 : Int) (b0_11 b0_12 b0_13 : Int) (b0_14 : Yt) (b0_15 : Zq) (b0_16 : Yt) (b0_17 : YB) (b0_18 : Yq) (b0_19 : ZX) (b0_20 b2_0 : Int) (b2_1 b2_2 b2_3 : Int) : Uu (n + 1) s2 s3 s9 s11 b0_0 b0_1 b0_2 b0_3 b0_4 b0_5 b0_6 b0_7 b0_8 b0_9 b0_10 b0_11 b0_12 b0_13 b0_14 b0_15 b0_16 b0_17 b0_18 b0_19 b0_20 b2_0 b2_1 b2_2 b2_3 = bif decide (s11 < s3) then bif decide (s11 < 7) then if s9.length + [(1, b0_0, s11, b0_1, s2, (b2_0, b2_1, b2_2, b2_3, ()), (0, 0, 0, 0, ()), ())].length ≤ lim then Uu n s2 s3 (s9.append [(1, b0_0, s11, b0_1, s2, (b2_0, b2_1, b2_2, b2_3, ()), (0, 0, 0, 0, ()), ())]) (IntKind.i64.wrap (s11 + 1)) b0_0 b0_1 b0_2 b0_3 b0_4 b0_5 b0_6 b0_7 b0_8 b0_9 b0_10 b0_11 b0_12 b0_13 b0_14 b0_15 b0_16 b0_17 b0_18 b0_19 b0_20 b2_0 b2_1 b2_2 b2_3 else none else some s9 else some s9 := by kernel_rfl
def TX : Ys := [(67, Yy)]
theorem ZdJ : Yu TX := cons_cons Z7 (Zh)
def Zld : KP := []
def TY (n : Nat) (x : YH [YP, Zl, Zl, Zl, Zl]) := evX (false, false, [5, 12, 14, 19]) TX Zld [none] Tryz.f222 (shV ZO) n (YR [YP, Zl, Zl, Zl, Zl] x)
def TZ : Con := roS [YP, Zl, Zl, Zl, Zl] true (shV ZO) (TY big)
theorem ZdK : ZH Tryz.prog 222 TZ := ZC ⟨Tryz.f222, by kernel_rfl, rfl, by decide⟩ fun _ _ h => Zw ZdJ (f := Tryz.f222) (by kernel_rfl) rfl (by kernel_rfl) (by kernel_rfl) big h
def Ht (n : Nat) (a0 : Zp) (a1 a2 : Int) (a3 a4 : Int) : Option Zz := TY n (a0, a1, a2, a3, a4, ())
theorem ZdL (n : Nat) (a0 : Zp) (a1 a2 : Int) (a3 a4 : Int) : Ht n a0 a1 a2 a3 a4 = (ZT big a4 0 (IntKind.i64.wrap ((↑(List.length a0.2.2.2.1) : Int) - 1))).bind fun y => bif y then if 0 ≤ a4 then (nth a0.2.2.2.1 a4.toNat).bind fun y => some (2, a1, a2, y.2.1, 0, (0, 0, 0, 0, ()), (a3, y.2.1, a4, a1, ()), ()) else none else some (2, a1, a2, 0, 0, (0, 0, 0, 0, ()), (a3, 0, a4, a1, ()), ()) := by kernel_rfl
def CA : Ys := [(143, IS), (67, Yy)]
theorem ZdM : Yu CA := cons_cons DY (cons_cons Z7 (Zh))
abbrev KH : Vl := (.ro Zm :: dp 2 (.ro Zb :: dp 43 []), [])
def Ot : KP := [(2, KH)]
def T8 (n : Nat) (x : YH [Zm]) := evX (false, false, []) CA Ot [none] Tryz.f142 (shV ZD) n (YR [Zm] x)
def Hu : Con := roS [Zm] true (shV ZD) (T8 big)
theorem Gq : ZH Tryz.prog 142 Hu := ZC ⟨Tryz.f142, by kernel_rfl, rfl, by decide⟩ fun _ _ h => Zw ZdM (f := Tryz.f142) (by kernel_rfl) rfl (by kernel_rfl) (by kernel_rfl) big h
def JE (n : Nat) (a0 : Zq) : Option Bool := T8 n (a0, ())
def Zh6 (n : Nat) (x : KD KH.1) (y : BD KH.2) := Z9 (env (false, false, []) CA) Ot (body Tryz.f142) (Vm (false, false, []) CA [none] Tryz.f142 (shV ZD) [.val Zm (ZR Zm)]) n 2 KH x y
def Vb (n : Nat) (s0 : Zq) (s3 : Int) : Option Bool := Zh6 n (s0, s3, ()) ()
theorem Gr (n : Nat) (a0 : Zq) : JE n a0 = Vb n a0 0 := by kernel_rfl
theorem Vz (n : Nat) (s0 : Zq) (s3 : Int) : Vb (n + 1) s0 s3 = bif decide (s3 < (↑(List.length s0) : Int)) then if 0 ≤ s3 then (nth s0 s3.toNat).bind fun y => (BE big y.1).bind fun y => bif !y then some false else if 0 ≤ s3 then (nth s0 s3.toNat).bind fun y => (ZT big y.2.1 0 1000000000).bind fun y => bif !y then some false else bif decide (0 < s3) then if 0 ≤ IntKind.i64.wrap (s3 - 1) then (nth s0 (IntKind.i64.wrap (s3 - 1)).toNat).bind fun y => if 0 ≤ s3 then (nth s0 s3.toNat).bind fun y_1 => bif !Op.bytesLess (ByteArray.toList y.1) (ByteArray.toList y_1.1) then some false else Vb n s0 (IntKind.i64.wrap (s3 + 1)) else none else none else Vb n s0 (IntKind.i64.wrap (s3 + 1)) else none else none else some (decide ((↑(List.length s0) : Int) ≤ 12)) := by kernel_rfl
def Jg : Ys := []
theorem Zh7 : Yu Jg := Zh
abbrev An : Vl := (.ro Zm :: dp 2 (.is (.ptr 0 0) :: .drop :: .own Zn :: .ro Zb :: dp 49 []), [.vars [.ro Zu, .ro Zb]])
abbrev Ao : Vl := (.ro Zm :: dp 2 (.is (.ptr 0 0) :: .drop :: .own Zn :: .drop :: .ro Zb :: dp 48 []), [.vars [.ro Zu, .ro Zb]])
def Hv : KP := [(3, An), (9, Ao)]
def ZfV (n : Nat) (x : YH [Zm, Yc]) := evX (false, false, [3, 20, 45]) Jg Hv [some ZE] Tryz.f144 (shF ZE) n (YR [Zm, Yc] x)
def M2 : Con := roS [Zm, Yc] true (shF ZE) (ZfV big)
theorem I5 : ZH Tryz.prog 144 M2 := ZC ⟨Tryz.f144, by kernel_rfl, rfl, by decide⟩ fun _ _ h => Zw Zh7 (f := Tryz.f144) (by kernel_rfl) rfl (by kernel_rfl) (by kernel_rfl) big h
def Xh (n : Nat) (a0 : Zq) (a1 : ZM) : Option Zq := ZfV n (a0, a1, ())
def Zle (n : Nat) (x : KD An.1) (y : BD An.2) := Z9 (env (false, false, [3, 20, 45]) Jg) Hv (body Tryz.f144) (Vm (false, false, [3, 20, 45]) Jg [some ZE] Tryz.f144 (shF ZE) [.val Zm (ZR Zm), .val Yc (ZR Yc)]) n 3 An x y
def V3 (n : Nat) (s0 : Zq) (s5 : (List Ze)) (s6 : Int) (b0_0 : ByteArray) (b0_1 : Int) : Option Zq := Zle n (s0, s5, s6, ()) ((b0_0, b0_1, ()), ())
def Zlf (n : Nat) (x : KD Ao.1) (y : BD Ao.2) := Z9 (env (false, false, [3, 20, 45]) Jg) Hv (body Tryz.f144) (Vm (false, false, [3, 20, 45]) Jg [some ZE] Tryz.f144 (shF ZE) [.val Zm (ZR Zm), .val Yc (ZR Yc)]) n 9 Ao x y
def V4 (n : Nat) (s0 : Zq) (s5 : (List Ze)) (s7 : Int) (b0_0 : ByteArray) (b0_1 : Int) : Option Zq := Zlf n (s0, s5, s7, ()) ((b0_0, b0_1, ()), ())
theorem I6 (n : Nat) (a0 : Zq) (a1 : ZM) : Xh n a0 a1 = V3 n a0 [] 0 a1.1 a1.2.1 := by kernel_rfl
theorem Uv (n : Nat) (s0 : Zq) (s5 : (List Ze)) (s6 : Int) (b0_0 : ByteArray) (b0_1 : Int) : V3 (n + 1) s0 s5 s6 b0_0 b0_1 = bif decide (s6 < (↑(List.length s0) : Int)) then if 0 ≤ s6 then (nth s0 s6.toNat).bind fun y => bif Op.bytesLess (ByteArray.toList y.1) b0_0.toList then if 0 ≤ s6 then (nth s0 s6.toNat).bind fun y => if s5.length + [y].length ≤ lim then V3 n s0 (s5.append [y]) (IntKind.i64.wrap (s6 + 1)) b0_0 b0_1 else none else none else V3 n s0 s5 (IntKind.i64.wrap (s6 + 1)) b0_0 b0_1 else none else if s5.length + [(b0_0, b0_1, ())].length ≤ lim then V4 n s0 (s5.append [(b0_0, b0_1, ())]) 0 b0_0 b0_1 else none := by kernel_rfl
theorem Uw (n : Nat) (s0 : Zq) (s5 : (List Ze)) (s7 : Int) (b0_0 : ByteArray) (b0_1 : Int) : V4 (n + 1) s0 s5 s7 b0_0 b0_1 = bif decide (s7 < (↑(List.length s0) : Int)) then if 0 ≤ s7 then (nth s0 s7.toNat).bind fun y => bif !(Op.bytesLess (ByteArray.toList y.1) b0_0.toList || decide (y.1 = b0_0)) then if 0 ≤ s7 then (nth s0 s7.toNat).bind fun y => if s5.length + [y].length ≤ lim then V4 n s0 (s5.append [y]) (IntKind.i64.wrap (s7 + 1)) b0_0 b0_1 else none else none else V4 n s0 s5 (IntKind.i64.wrap (s7 + 1)) b0_0 b0_1 else none else some s5 := by kernel_rfl
def Fw : Ys := []
theorem Zh8 : Yu Fw := Zh
abbrev Ap : Vl := (.ro Zm :: .ro Zu :: dp 3 (.ro Zb :: dp 14 []), [])
def T9 : KP := [(2, Ap)]
def ZfW (n : Nat) (x : YH [Zm, Zu]) := evX (false, false, []) Fw T9 [none] Tryz.f195 (shV Zl) n (YR [Zm, Zu] x)
def M3 : Con := roS [Zm, Zu] true (shV Zl) (ZfW big)
theorem I7 : ZH Tryz.prog 195 M3 := ZC ⟨Tryz.f195, by kernel_rfl, rfl, by decide⟩ fun _ _ h => Zw Zh8 (f := Tryz.f195) (by kernel_rfl) rfl (by kernel_rfl) (by kernel_rfl) big h
def BF (n : Nat) (a0 : Zq) (a1 : ByteArray) : Option Int := ZfW n (a0, a1, ())
def Zlg (n : Nat) (x : KD Ap.1) (y : BD Ap.2) := Z9 (env (false, false, []) Fw) T9 (body Tryz.f195) (Vm (false, false, []) Fw [none] Tryz.f195 (shV Zl) [.val Zm (ZR Zm), .val Zu (ZR Zu)]) n 2 Ap x y
def QU (n : Nat) (s0 : Zq) (s1 : ByteArray) (s5 : Int) : Option Int := Zlg n (s0, s1, s5, ()) ()
theorem I8 (n : Nat) (a0 : Zq) (a1 : ByteArray) : BF n a0 a1 = QU n a0 a1 0 := by kernel_rfl
theorem Ux (n : Nat) (s0 : Zq) (s1 : ByteArray) (s5 : Int) : QU (n + 1) s0 s1 s5 = bif decide (s5 < (↑(List.length s0) : Int)) then if 0 ≤ s5 then (nth s0 s5.toNat).bind fun y => bif decide (y.1 = s1) then some s5 else QU n s0 s1 (IntKind.i64.wrap (s5 + 1)) else none else some (-1) := by kernel_rfl
def Zpm : Ys := [(142, Hu), (194, Tc), (195, M3), (67, Yy), (144, M2)]
theorem Zn2 : Yu Zpm := cons_cons Gq (cons_cons N5 (cons_cons I7 (cons_cons Z7 (cons_cons I5 (Zh)))))
def Zsx : KP := []
def Zpn (n : Nat) (x : YH [Zm, Wn]) := evX (false, false, [3, 22, 25, 27, 38, 41, 49, 66]) Zpm Zsx [some ZE, none] Tryz.f145 (shT [(true, ZE), (false, Zl)]) n (YR [Zm, Wn] x)
def Zh9 : Con := roS [Zm, Wn] true (shT [(true, ZE), (false, Zl)]) (Zpn big)
theorem Zaa : ZH Tryz.prog 145 Zh9 := ZC ⟨Tryz.f145, by kernel_rfl, rfl, by decide⟩ fun _ _ h => Zw Zn2 (f := Tryz.f145) (by kernel_rfl) rfl (by kernel_rfl) (by kernel_rfl) big h
def I9 (n : Nat) (a0 : Zq) (a1 : Xf) : Option (Zq × Int × Unit) := Zpn n (a0, a1, ())
theorem Zab (n : Nat) (a0 : Zq) (a1 : Xf) : I9 n a0 a1 = if (0 : Nat) + List.length a0 ≤ lim then (JE big a0).bind fun y => bif !y then some (a0, 2, ()) else (DZ big a1).bind fun y => bif !y then some (a0, 2, ()) else (BF big a0 a1.2.1).bind fun y => bif !decide (a1.1 = 1) then bif decide (y < 0) then some (a0, 1, ()) else if 0 ≤ y then (nth a0 (Int.toNat y)).bind fun y_1 => bif decide (a1.1 = 3) then if 0 ≤ y then (nth a0 (Int.toNat y)).bind fun y_2 => (ZT big (IntKind.i64.wrap (y_2.2.1 - a1.2.2.1)) 0 1000000000).bind fun y_3 => bif !y_3 then some (a0, 2, ()) else bif decide (y < 0) then bif decide (12 ≤ (↑(List.length a0) : Int)) then some (a0, 2, ()) else (Xh big a0 (a1.2.1, IntKind.i64.wrap (y_2.2.1 - a1.2.2.1), ())).bind fun y => some (y, 0, ()) else (Xh big a0 (a1.2.1, IntKind.i64.wrap (y_2.2.1 - a1.2.2.1), ())).bind fun y => some (y, 0, ()) else none else (ZT big (IntKind.i64.wrap (y_1.2.1 + a1.2.2.1)) 0 1000000000).bind fun y_2 => bif !y_2 then some (a0, 2, ()) else bif decide (y < 0) then bif decide (12 ≤ (↑(List.length a0) : Int)) then some (a0, 2, ()) else (Xh big a0 (a1.2.1, IntKind.i64.wrap (y_1.2.1 + a1.2.2.1), ())).bind fun y => some (y, 0, ()) else (Xh big a0 (a1.2.1, IntKind.i64.wrap (y_1.2.1 + a1.2.2.1), ())).bind fun y => some (y, 0, ()) else none else (ZT big a1.2.2.1 0 1000000000).bind fun y_1 => bif !y_1 then some (a0, 2, ()) else bif decide (y < 0) then bif decide (12 ≤ (↑(List.length a0) : Int)) then some (a0, 2, ()) else (Xh big a0 a1.2).bind fun y => some (y, 0, ()) else (Xh big a0 a1.2).bind fun y => some (y, 0, ()) else none := by kernel_rfl
def CB : Ys := [(145, Zh9)]
theorem ZdN : Yu CB := cons_cons Zaa (Zh)
abbrev KI : Vl := (.drop :: .ro Yj :: dp 4 (.own Zn :: .own Zb :: .ro Zb :: dp 28 []), [])
def Ou : KP := [(4, KI)]
def Zac (n : Nat) (x : YH [Zm, Yj]) := evX (false, false, []) CB Ou [some ZE, some Y9] Tryz.f82 (shT [(true, ZE), (true, Y9)]) n (YR [Zm, Yj] x)
def Hw : Con := roS [Zm, Yj] true (shT [(true, ZE), (true, Y9)]) (Zac big)
theorem Gs : ZH Tryz.prog 82 Hw := ZC ⟨Tryz.f82, by kernel_rfl, rfl, by decide⟩ fun _ _ h => Zw ZdN (f := Tryz.f82) (by kernel_rfl) rfl (by kernel_rfl) (by kernel_rfl) big h
def JF (n : Nat) (a0 : Zq) (a1 : YU) : Option (Zq × Yt × Unit) := Zac n (a0, a1, ())
def Zia (n : Nat) (x : KD KI.1) (y : BD KI.2) := Z9 (env (false, false, []) CB) Ou (body Tryz.f82) (Vm (false, false, []) CB [some ZE, some Y9] Tryz.f82 (shT [(true, ZE), (true, Y9)]) [.val Zm (ZR Zm), .val Yj (ZR Yj)]) n 4 KI x y
def Uy (n : Nat) (s1 : YU) (s6 : (List Ze)) (s7 : (List Int)) (s8 : Int) : Option (Zq × Yt × Unit) := Zia n (s1, s6, s7, s8, ()) ()
theorem Gu (n : Nat) (a0 : Zq) (a1 : YU) : JF n a0 a1 = if (0 : Nat) + List.length a0 ≤ lim then Uy n a1 a0 [] 0 else none := by kernel_rfl
theorem VA (n : Nat) (s1 : YU) (s6 : (List Ze)) (s7 : (List Int)) (s8 : Int) : Uy (n + 1) s1 s6 s7 s8 = bif decide (s8 < (↑(List.length s1) : Int)) then if 0 ≤ s8 then (nth s1 s8.toNat).bind fun y => (I9 big s6 y).bind fun y => if s7.length + (1 : Nat) ≤ lim then Uy n s1 y.1 (s7.append [y.2.1]) (IntKind.i64.wrap (s8 + 1)) else none else none else some (s6, s7, ()) := by kernel_rfl
def ZfX : Ys := [(195, M3)]
theorem Zib : Yu ZfX := cons_cons I7 (Zh)
def Zn3 : KP := []
def ZfY (n : Nat) (x : YH [Zm, Zu]) := evX (false, false, []) ZfX Zn3 [none] Tryz.f151 (shV YL) n (YR [Zm, Zu] x)
def ZfZ : Con := roS [Zm, Zu] true (shV YL) (ZfY big)
theorem Zic : ZH Tryz.prog 151 ZfZ := ZC ⟨Tryz.f151, by kernel_rfl, rfl, by decide⟩ fun _ _ h => Zw Zib (f := Tryz.f151) (by kernel_rfl) rfl (by kernel_rfl) (by kernel_rfl) big h
def Fx (n : Nat) (a0 : Zq) (a1 : ByteArray) : Option Yg := ZfY n (a0, a1, ())
theorem La (n : Nat) (a0 : Zq) (a1 : ByteArray) : Fx n a0 a1 = (BF big a0 a1).bind fun y => bif decide (y < 0) then some (a1, false, 0, ()) else if 0 ≤ y then (nth a0 (Int.toNat y)).bind fun y => some (a1, true, y.2) else none := by kernel_rfl
def Fy : Ys := [(142, Hu), (143, IS), (67, Yy), (144, M2)]
theorem Zid : Yu Fy := cons_cons Gq (cons_cons DY (cons_cons Z7 (cons_cons I5 (Zh))))
abbrev Aq : Vl := (.ro Zm :: dp 2 (.is (.ptr 0 0) :: .drop :: .own Zn :: .ro Zb :: dp 50 []), [.vars [.ro Zu, .ro ZD, .ro Zb]])
def Zad : KP := [(7, Aq)]
def Zf0 (n : Nat) (x : YH [Zm, YL]) := evX (false, false, [3, 11, 17, 25, 28, 30, 46]) Fy Zad [some ZE] Tryz.f81 (shF ZE) n (YR [Zm, YL] x)
def Zf1 : Con := roS [Zm, YL] true (shF ZE) (Zf0 big)
theorem Zie : ZH Tryz.prog 81 Zf1 := ZC ⟨Tryz.f81, by kernel_rfl, rfl, by decide⟩ fun _ _ h => Zw Zid (f := Tryz.f81) (by kernel_rfl) rfl (by kernel_rfl) (by kernel_rfl) big h
def Fz (n : Nat) (a0 : Zq) (a1 : Yg) : Option Zq := Zf0 n (a0, a1, ())
def Zlh (n : Nat) (x : KD Aq.1) (y : BD Aq.2) := Z9 (env (false, false, [3, 11, 17, 25, 28, 30, 46]) Fy) Zad (body Tryz.f81) (Vm (false, false, [3, 11, 17, 25, 28, 30, 46]) Fy [some ZE] Tryz.f81 (shF ZE) [.val Zm (ZR Zm), .val YL (ZR YL)]) n 7 Aq x y
def V5 (n : Nat) (s0 : Zq) (s5 : (List Ze)) (s6 : Int) (b0_0 : ByteArray) (b0_1 : Bool) (b0_2 : Int) : Option Zq := Zlh n (s0, s5, s6, ()) ((b0_0, b0_1, b0_2, ()), ())
theorem Lb (n : Nat) (a0 : Zq) (a1 : Yg) : Fz n a0 a1 = (JE big a0).bind fun y => bif !y then if (0 : Nat) + List.length a0 ≤ lim then some a0 else none else (BE big a1.1).bind fun y => bif !y then if (0 : Nat) + List.length a0 ≤ lim then some a0 else none else (ZT big a1.2.2.1 0 1000000000).bind fun y => bif !y then if (0 : Nat) + List.length a0 ≤ lim then some a0 else none else bif a1.2.1 then (Xh big a0 (a1.1, a1.2.2)).bind fun y => some y else V5 n a0 [] 0 a1.1 a1.2.1 a1.2.2.1 := by kernel_rfl
theorem Uz (n : Nat) (s0 : Zq) (s5 : (List Ze)) (s6 : Int) (b0_0 : ByteArray) (b0_1 : Bool) (b0_2 : Int) : V5 (n + 1) s0 s5 s6 b0_0 b0_1 b0_2 = bif decide (s6 < (↑(List.length s0) : Int)) then if 0 ≤ s6 then (nth s0 s6.toNat).bind fun y => bif !decide (y.1 = b0_0) then if 0 ≤ s6 then (nth s0 s6.toNat).bind fun y => if s5.length + [y].length ≤ lim then V5 n s0 (s5.append [y]) (IntKind.i64.wrap (s6 + 1)) b0_0 b0_1 b0_2 else none else none else V5 n s0 s5 (IntKind.i64.wrap (s6 + 1)) b0_0 b0_1 b0_2 else none else some s5 := by kernel_rfl
def KJ : Ys := [(81, Zf1)]
theorem PL : Yu KJ := cons_cons Zie (Zh)
abbrev UA : Vl := (.drop :: .ro Yl :: dp 3 (.own Zn :: .ro Zb :: dp 17 []), [])
def Gv : KP := [(3, UA)]
def Lc (n : Nat) (x : YH [Zm, Yl]) := evX (false, false, []) KJ Gv [some ZE] Tryz.f27 (shF ZE) n (YR [Zm, Yl] x)
def Ld : Con := roS [Zm, Yl] true (shF ZE) (Lc big)
theorem PM : ZH Tryz.prog 27 Ld := ZC ⟨Tryz.f27, by kernel_rfl, rfl, by decide⟩ fun _ _ h => Zw PL (f := Tryz.f27) (by kernel_rfl) rfl (by kernel_rfl) (by kernel_rfl) big h
def KK (n : Nat) (a0 : Zq) (a1 : YB) : Option Zq := Lc n (a0, a1, ())
def Zae (n : Nat) (x : KD UA.1) (y : BD UA.2) := Z9 (env (false, false, []) KJ) Gv (body Tryz.f27) (Vm (false, false, []) KJ [some ZE] Tryz.f27 (shF ZE) [.val Zm (ZR Zm), .val Yl (ZR Yl)]) n 3 UA x y
def WU (n : Nat) (s1 : YB) (s5 : (List Ze)) (s6 : Int) : Option Zq := Zae n (s1, s5, s6, ()) ()
theorem Dc (n : Nat) (a0 : Zq) (a1 : YB) : KK n a0 a1 = if (0 : Nat) + List.length a0 ≤ lim then WU n a1 a0 (IntKind.i64.wrap ((↑(List.length a1) : Int) - 1)) else none := by kernel_rfl
theorem WG (n : Nat) (s1 : YB) (s5 : (List Ze)) (s6 : Int) : WU (n + 1) s1 s5 s6 = bif decide (0 ≤ s6) then if 0 ≤ s6 then (nth s1 s6.toNat).bind fun y => (Fz big s5 y).bind fun y => WU n s1 y (IntKind.i64.wrap (s6 - 1)) else none else some s5 := by kernel_rfl
end
end Go.Sx.Tryz
