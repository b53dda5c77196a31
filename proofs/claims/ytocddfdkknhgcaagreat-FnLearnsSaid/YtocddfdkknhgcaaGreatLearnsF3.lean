/- The functions of the seat: what each comes to. -/
import Derived.Test.YtocddfdkknhgcaaGreatTypes
import Derived.Test.YtocddfdkknhgcaaGreatLearnsF1
import Derived.Test.YtocddfdkknhgcaaGreatLearnsF2
set_option linter.unusedVariables false
set_option linter.unusedSimpArgs false
set_option maxRecDepth 100000
namespace Go.Sx.Tryz
open Go Go.Sx Go.Proofs
noncomputable section
def Cy : Yq := [(67, Yx), (245, Ft)]
theorem ZdV : Yr Cy := cons_cons Z5 (cons_cons Cw (Zh))
abbrev KW : Vz := (.ro Zu :: .ro Zb :: dp 5 (.ro Zb :: .ro Zb :: .ro Zb :: dp 48 []), [])
def Oo : KP := [(6, KW)]
def ZaG (n : Nat) (x : YG [Zu, Zk]) := evX (false, false, []) Cy Oo [none, none, none] Tryz.f256 (shT [(false, Zk), (false, Zk), (false, ZC)]) n (YP [Zu, Zk] x)
def ZaH : Con := roS [Zu, Zk] true (shT [(false, Zk), (false, Zk), (false, ZC)]) (ZaG big)
theorem ZdW : ZJ Tryz.prog 256 ZaH := ZD ⟨Tryz.f256, by kernel_rfl, rfl, by decide⟩ fun _ _ h => Zw ZdV (f := Tryz.f256) (by kernel_rfl) rfl (by kernel_rfl) (by kernel_rfl) big h
def Hn (n : Nat) (a0 : ByteArray) (a1 : Int) : Option (Int × Int × Bool × Unit) := ZaG n (a0, a1, ())
def Zin (n : Nat) (x : KD KW.1) (y : BD KW.2) := Z6 (env (false, false, []) Cy) Oo (body Tryz.f256) (Vn (false, false, []) Cy [none, none, none] Tryz.f256 (shT [(false, Zk), (false, Zk), (false, ZC)]) [.val Zu (ZR Zu), .val Zk (ZR Zk)]) n 6 KW x y
def KX (n : Nat) (s0 : ByteArray) (s1 s7 : Int) (s8 s9 : Int) : Option (Int × Int × Bool × Unit) := Zin n (s0, s1, s7, s8, s9, ()) ()
theorem ZdX (n : Nat) (a0 : ByteArray) (a1 : Int) : Hn n a0 a1 = (ZT big a1 0 (↑a0.size : Int)).bind fun y => bif !y then some (0, 0, false, ()) else KX n a0 a1 0 1 a1 := by kernel_rfl
theorem C7 (n : Nat) (s0 : ByteArray) (s1 s7 : Int) (s8 s9 : Int) : KX (n + 1) s0 s1 s7 s8 s9 = bif decide (s9 < (↑s0.size : Int)) then bif decide (s9 < IntKind.i64.wrap (s1 + 5)) then if 0 ≤ s9 then (nth s0.data.toList s9.toNat).bind fun y => if 0 ≤ s9 then (nth s0.data.toList s9.toNat).bind fun y_1 => (fun zC0 => bif decide ((↑y_1.toNat : Int) < 128) then bif decide (1000000000 < IntKind.i64.wrap zC0) then some (0, 0, false, ()) else if 0 ≤ IntKind.i64.wrap (s9 + 1) then if IntKind.i64.wrap (s9 + 1) ≤ (↑s0.size : Int) then if 0 ≤ s1 then if s1 ≤ IntKind.i64.wrap (s9 + 1) then (BG big (IntKind.i64.wrap zC0)).bind fun y_2 => bif !decide (y_2 = s0.extract s1.toNat (IntKind.i64.wrap (s9 + 1)).toNat) then some (0, 0, false, ()) else some (IntKind.i64.wrap zC0, IntKind.i64.wrap (s9 + 1), true, ()) else none else none else none else none else KX n s0 s1 (IntKind.i64.wrap zC0) (IntKind.i64.wrap (s8 * 128)) (IntKind.i64.wrap (s9 + 1))) (s7 + IntKind.i64.wrap ((IntKind.i64.wrap (↑y.toNat : Int)).tmod 128 * s8)) else none else none else some (0, 0, false, ()) else some (0, 0, false, ()) := by kernel_rfl
def ZfW : Yq := [(256, ZaH)]
theorem Zio : Yr ZfW := cons_cons ZdW (Zh)
def ZnQ : KP := []
def ZfX (n : Nat) (x : AP.denL [.mu XO]) := evX (false, false, [7, 8, 9, 11, 12, 13, 19, 20, 21, 27, 28, 30, 32]) ZfW ZnQ [none] Tryz.f239 (shO (shV Zk) [.mu XO]) n (AP.encL [.mu XO] x)
def Fw : Con := apS [.mu XO] true (shO (shV Zk) [.mu XO]) (ZfX big)
theorem Cz : ZJ Tryz.prog 239 Fw := YU ⟨Tryz.f239, by kernel_rfl, rfl, by decide⟩ fun _ _ h => Zw Zio (f := Tryz.f239) (by kernel_rfl) rfl (by kernel_rfl) (by kernel_rfl) big h
def Xp (n : Nat) (a0 : XQ) : Option (Int × XQ × Unit) := ZfX n (a0, ())
theorem Zip (n : Nat) (a0 : XQ) : Xp n a0 = (Hn big a0.1 a0.2.1).bind fun y => bif a0.2.2.1 then some (0, (a0.1, a0.2.1, true, ()), ()) else bif !y.2.2.1 then some (0, (a0.1, a0.2.1, true, ()), ()) else some (y.1, (a0.1, y.2.1, a0.2.2), ()) := by kernel_rfl
def Zll : Yq := [(239, Fw)]
theorem Zlm : Yr Zll := cons_cons Cz (Zh)
def Zqw : KP := []
def Zln (n : Nat) (x : AP.denL [.mu XO]) := evX (false, false, [3]) Zll Zqw [none] Tryz.f240 (shO (shV Wl) [.mu XO]) n (AP.encL [.mu XO] x)
def Zlo : Con := apS [.mu XO] true (shO (shV Wl) [.mu XO]) (Zln big)
theorem Zlp : ZJ Tryz.prog 240 Zlo := YU ⟨Tryz.f240, by kernel_rfl, rfl, by decide⟩ fun _ _ h => Zw Zlm (f := Tryz.f240) (by kernel_rfl) rfl (by kernel_rfl) (by kernel_rfl) big h
def I2 (n : Nat) (a0 : XQ) : Option (Bw × XQ × Unit) := Zln n (a0, ())
theorem Zlq (n : Nat) (a0 : XQ) : I2 n a0 = (Xp big a0).bind fun y => (Xp big y.2.1).bind fun y_1 => (Xp big y_1.2.1).bind fun y_2 => (Xp big y_2.2.1).bind fun y_3 => some ((y.1, y_1.1, y_2.1, y_3.1, ()), y_3.2) := by kernel_rfl
def ZaI : Yq := [(239, Fw)]
theorem ZdY : Yr ZaI := cons_cons Cz (Zh)
def Zlr : KP := []
def ZaJ (n : Nat) (x : AP.denL [.mu XO]) := evX (false, false, [3]) ZaI Zlr [none] Tryz.f241 (shO (shV Z4) [.mu XO]) n (AP.encL [.mu XO] x)
def ZaK : Con := apS [.mu XO] true (shO (shV Z4) [.mu XO]) (ZaJ big)
theorem ZdZ : ZJ Tryz.prog 241 ZaK := YU ⟨Tryz.f241, by kernel_rfl, rfl, by decide⟩ fun _ _ h => Zw ZdY (f := Tryz.f241) (by kernel_rfl) rfl (by kernel_rfl) (by kernel_rfl) big h
def Ho (n : Nat) (a0 : XQ) : Option (Z3 × XQ × Unit) := ZaJ n (a0, ())
theorem Zd0 (n : Nat) (a0 : XQ) : Ho n a0 = (Xp big a0).bind fun y => (Xp big y.2.1).bind fun y_1 => (Xp big y_1.2.1).bind fun y_2 => (Xp big y_2.2.1).bind fun y_3 => some ((y.1, y_1.1, y_2.1, y_3.1, ()), y_3.2) := by kernel_rfl
def Aw : Yq := [(238, Om), (239, Fw), (240, Zlo), (241, ZaK), (220, Ej)]
theorem ZaL : Yr Aw := cons_cons ZaC (cons_cons Cz (cons_cons Zlp (cons_cons ZdZ (cons_cons Ek (Zh)))))
abbrev UI : Vz := (.ro Zu :: .drop :: .is (.ptr 0 0) :: dp 3 (.is (.ptr 1 0) :: .is (.ptr 2 0) :: .ro Zb :: .ro Zb :: dp 58 []), [.vars [.ro Zb, .ro Zb, .ro Zb, .ro Zb, .ro Zb, .ro Zb, .ro Zb, .ro Zb, .ro Zb, .ro Zb, .ro Zb, .ro Zb, .ro Zb, .ro Zb, .own Zk, .own Z9, .own Zk, .own YJ, .own Z4, .own ZP, .ro Zb], .vars [.ro Zu, .ro Zb, .ro ZC], .vars [.ro Zb, .ro Zb, .ro Zb, .ro Zb, .ro Zb, .ro Zb, .ro Zb, .ro Zb, .ro Zb, .ro Zb, .ro Zb, .ro Zb, .ro Zb, .ro Zb, .own Zk, .own Z9, .own Zk, .own YJ, .own Z4, .own ZP, .ro Zb]])
def I3 : KP := [(10, UI)]
def Oq (n : Nat) (x : YG [Zu]) := evX (false, false, [7, 41, 42, 43, 49, 56, 57, 58]) Aw I3 [some ZI, none] Tryz.f219 (shT [(true, ZI), (false, ZC)]) n (YP [Zu] x)
def Ot : Con := roS [Zu] true (shT [(true, ZI), (false, ZC)]) (Oq big)
theorem ZaM : ZJ Tryz.prog 219 Ot := ZD ⟨Tryz.f219, by kernel_rfl, rfl, by decide⟩ fun _ _ h => Zw ZaL (f := Tryz.f219) (by kernel_rfl) rfl (by kernel_rfl) (by kernel_rfl) big h
def El (n : Nat) (a0 : ByteArray) : Option (Zn × Bool × Unit) := Oq n (a0, ())
def ZaN (n : Nat) (x : KD UI.1) (y : BD UI.2) := Z6 (env (false, false, [7, 41, 42, 43, 49, 56, 57, 58]) Aw) I3 (body Tryz.f219) (Vn (false, false, [7, 41, 42, 43, 49, 56, 57, 58]) Aw [some ZI, none] Tryz.f219 (shT [(true, ZI), (false, ZC)]) [.val Zu (ZR Zu)]) n 10 UI x y
def UJ (n : Nat) (s0 : ByteArray) (s8 s9 : Int) (b0_0 b0_1 : Int) (b0_2 b0_3 : Int) (b0_4 b0_5 : Int) (b0_6 b0_7 : Int) (b0_8 b0_9 : Int) (b0_10 b0_11 : Int) (b0_12 b0_13 : Int) (b0_14 : (List Int)) (b0_15 : (List ZL)) (b0_16 : (List Int)) (b0_17 : (List Yd)) (b0_18 : (List Z3)) (b0_19 : (List Zy)) (b0_20 : Int) (b1_0 : ByteArray) (b1_1 : Int) (b1_2 : Bool) (b2_0 b2_1 : Int) (b2_2 b2_3 : Int) (b2_4 b2_5 : Int) (b2_6 b2_7 : Int) (b2_8 b2_9 : Int) (b2_10 b2_11 : Int) (b2_12 b2_13 : Int) (b2_14 : (List Int)) (b2_15 : (List ZL)) (b2_16 : (List Int)) (b2_17 : (List Yd)) (b2_18 : (List Z3)) (b2_19 : (List Zy)) (b2_20 : Int) : Option (Zn × Bool × Unit) := ZaN n (s0, s8, s9, ()) ((b0_0, b0_1, b0_2, b0_3, b0_4, b0_5, b0_6, b0_7, b0_8, b0_9, b0_10, b0_11, b0_12, b0_13, b0_14, b0_15, b0_16, b0_17, b0_18, b0_19, b0_20, ()), (b1_0, b1_1, b1_2, ()), (b2_0, b2_1, b2_2, b2_3, b2_4, b2_5, b2_6, b2_7, b2_8, b2_9, b2_10, b2_11, b2_12, b2_13, b2_14, b2_15, b2_16, b2_17, b2_18, b2_19, b2_20, ()), ())
theorem ZaO (n : Nat) (a0 : ByteArray) : El n a0 = (Ei big a0).bind fun y => (Xp big (y.1, 0, !y.2.1, ())).bind fun y => (Xp big y.2.1).bind fun y_1 => (I2 big y_1.2.1).bind fun y_2 => (I2 big y_2.2.1).bind fun y_3 => (Ho big y_3.2.1).bind fun y_4 => (Xp big y_4.2.1).bind fun y_5 => UJ n a0 y_5.1 0 0 0 0 0 0 0 0 0 0 0 0 0 0 0 [] [] [] [] [] [] 0 y_5.2.1.1 y_5.2.1.2.1 y_5.2.1.2.2.1 y.1 y_1.1 y_2.1.1 y_2.1.2.1 y_2.1.2.2.1 y_2.1.2.2.2.1 y_3.1.1 y_3.1.2.1 y_3.1.2.2.1 y_3.1.2.2.2.1 y_4.1.1 y_4.1.2.1 y_4.1.2.2.1 y_4.1.2.2.2.1 [] [] [] [] [] [] 0 := by kernel_rfl
theorem Ay (n : Nat) (s0 : ByteArray) (s8 s9 : Int) (b0_0 b0_1 : Int) (b0_2 b0_3 : Int) (b0_4 b0_5 : Int) (b0_6 b0_7 : Int) (b0_8 b0_9 : Int) (b0_10 b0_11 : Int) (b0_12 b0_13 : Int) (b0_14 : (List Int)) (b0_15 : (List ZL)) (b0_16 : (List Int)) (b0_17 : (List Yd)) (b0_18 : (List Z3)) (b0_19 : (List Zy)) (b0_20 : Int) (b1_0 : ByteArray) (b1_1 : Int) (b1_2 : Bool) (b2_0 b2_1 : Int) (b2_2 b2_3 : Int) (b2_4 b2_5 : Int) (b2_6 b2_7 : Int) (b2_8 b2_9 : Int) (b2_10 b2_11 : Int) (b2_12 b2_13 : Int) (b2_14 : (List Int)) (b2_15 : (List ZL)) (b2_16 : (List Int)) (b2_17 : (List Yd)) (b2_18 : (List Z3)) (b2_19 : (List Zy)) (b2_20 : Int) : UJ (n + 1) s0 s8 s9 b0_0 b0_1 b0_2 b0_3 b0_4 b0_5 b0_6 b0_7 b0_8 b0_9 b0_10 b0_11 b0_12 b0_13 b0_14 b0_15 b0_16 b0_17 b0_18 b0_19 b0_20 b1_0 b1_1 b1_2 b2_0 b2_1 b2_2 b2_3 b2_4 b2_5 b2_6 b2_7 b2_8 b2_9 b2_10 b2_11 b2_12 b2_13 b2_14 b2_15 b2_16 b2_17 b2_18 b2_19 b2_20 = (fun zC0 => (fun zC0 => bif decide (s9 < s8) then bif !b1_2 then (fun zB => (fun zB => X4 (X4 zB zB) zB) (zB)) ((Xp big (b1_0, b1_1, b1_2, ())).bind fun y => if b2_14.length + (1 : Nat) ≤ lim then UJ n s0 s8 (IntKind.i64.wrap (s9 + 1)) b0_0 b0_1 b0_2 b0_3 b0_4 b0_5 b0_6 b0_7 b0_8 b0_9 b0_10 b0_11 b0_12 b0_13 b0_14 b0_15 b0_16 b0_17 b0_18 b0_19 b0_20 y.2.1.1 y.2.1.2.1 y.2.1.2.2.1 b2_0 b2_1 b2_2 b2_3 b2_4 b2_5 b2_6 b2_7 b2_8 b2_9 b2_10 b2_11 b2_12 b2_13 (b2_14.append [y.1]) b2_15 b2_16 b2_17 b2_18 b2_19 b2_20 else none) else zC0 else zC0) (bif b1_2 then zC0 else (Q2 big (b2_0, b2_1, (b2_2, b2_3, b2_4, b2_5, ()), (b2_6, b2_7, b2_8, b2_9, ()), (b2_10, b2_11, b2_12, b2_13, ()), b2_14, b2_15, b2_16, b2_17, b2_18, b2_19, b2_20, ())).bind fun y => bif !decide (y = s0) then zC0 else some ((b2_0, b2_1, (b2_2, b2_3, b2_4, b2_5, ()), (b2_6, b2_7, b2_8, b2_9, ()), (b2_10, b2_11, b2_12, b2_13, ()), b2_14, b2_15, b2_16, b2_17, b2_18, b2_19, b2_20, ()), true, ()))) (some ((0, 0, (0, 0, 0, 0, ()), (0, 0, 0, 0, ()), (0, 0, 0, 0, ()), [], [], [], [], [], [], 0, ()), false, ())) := by kernel_rfl
def ZfY : Yq := [(220, Ej), (219, Ot), (179, G9), (28, N2)]
theorem Ziq : Yr ZfY := cons_cons Ek (cons_cons ZaM (cons_cons F5 (cons_cons TQ (Zh))))
def ZnR : KP := []
def ZfZ (n : Nat) (x : YG [Ze, ZQ]) := evX (false, false, [3, 5, 15, 19]) ZfY ZnR [some ZI] Tryz.f185 (shF ZI) n (YP [Ze, ZQ] x)
def Zf0 : Con := roS [Ze, ZQ] true (shF ZI) (ZfZ big)
theorem Zir : ZJ Tryz.prog 185 Zf0 := ZD ⟨Tryz.f185, by kernel_rfl, rfl, by decide⟩ fun _ _ h => Zw Ziq (f := Tryz.f185) (by kernel_rfl) rfl (by kernel_rfl) (by kernel_rfl) big h
def MJ (n : Nat) (a0 : Zi) (a1 : Zn) : Option Zn := ZfZ n (a0, a1, ())
theorem Zis (n : Nat) (a0 : Zi) (a1 : Zn) : MJ n a0 a1 = (Q2 big a1).bind fun y => (El big y).bind fun y => bif !y.2.1 then some (a1.1, 1, (0, 0, 0, 0, ()), (0, 0, 0, 0, ()), (0, 0, 0, 0, ()), [], [], [], [], [], [], 0, ()) else (D9 big a0 y.1.2.2.2.2.2.1).bind fun y_1 => some (y.1.1, y.1.2.1, y.1.2.2.1, y.1.2.2.2.1, y.1.2.2.2.2.1, y.1.2.2.2.2.2.1, y_1, y.1.2.2.2.2.2.2.2) := by kernel_rfl
def I4 : Yq := [(67, Yx), (114, Ce), (248, ZhF)]
theorem Zls : Yr I4 := cons_cons Z5 (cons_cons Qj (cons_cons SS (Zh)))
abbrev CA : Vz := (.drop :: .ro Zb :: .ro Zb :: .is (.ptr 0 0) :: dp 2 (.is (.ptr 1 0) :: .drop :: .ro Zb :: .own Zt :: .ro Zb :: dp 48 []), [.vars [.ro Zb, .ro ZC, .ro Zb, .ro Ze, .ro XN, .ro ZN, .ro ZS, .ro Yg], .vars [.ro Zb, .ro Zb, .ro Zb, .ro Zb]])
def Zf1 : KP := [(6, CA)]
def Zlt (n : Nat) (x : YG [YN, Zk, Zk]) := evX (false, false, [3, 12, 19, 26, 30, 54]) I4 Zf1 [none, none] Tryz.f224 (shT [(false, Wl), (false, ZC)]) n (YP [YN, Zk, Zk] x)
def ZaP : Con := roS [YN, Zk, Zk] true (shT [(false, Wl), (false, ZC)]) (Zlt big)
theorem Ou : ZJ Tryz.prog 224 ZaP := ZD ⟨Tryz.f224, by kernel_rfl, rfl, by decide⟩ fun _ _ h => Zw Zls (f := Tryz.f224) (by kernel_rfl) rfl (by kernel_rfl) (by kernel_rfl) big h
def JI (n : Nat) (a0 : Zp) (a1 a2 : Int) : Option (Bw × Bool × Unit) := Zlt n (a0, a1, a2, ())
def ZnS (n : Nat) (x : KD CA.1) (y : BD CA.2) := Z6 (env (false, false, [3, 12, 19, 26, 30, 54]) I4) Zf1 (body Tryz.f224) (Vn (false, false, [3, 12, 19, 26, 30, 54]) I4 [none, none] Tryz.f224 (shT [(false, Wl), (false, ZC)]) [.val YN (ZR YN), .val Zk (ZR Zk), .val Zk (ZR Zk)]) n 6 CA x y
def JJ (n : Nat) (s1 s2 s8 : Int) (s9 : (List Zg)) (s10 b0_0 : Int) (b0_1 : Bool) (b0_2 : Int) (b0_3 : Zi) (b0_4 : Cb) (b0_5 : ZX) (b0_6 : Yn) (b0_7 : YS) (b1_0 b1_1 : Int) (b1_2 b1_3 : Int) : Option (Bw × Bool × Unit) := ZnS n (s1, s2, s8, s9, s10, ()) ((b0_0, b0_1, b0_2, b0_3, b0_4, b0_5, b0_6, b0_7, ()), (b1_0, b1_1, b1_2, b1_3, ()), ())
theorem Zlu (n : Nat) (a0 : Zp) (a1 a2 : Int) : JI n a0 a1 a2 = (ZT big a2 1 (IntKind.i64.wrap ((↑(List.length a0.2.2.2.1) : Int) - 1))).bind fun y => bif !y then some ((0, 0, 0, 0, ()), false, ()) else if 0 ≤ a2 then (nth a0.2.2.2.1 a2.toNat).bind fun y => if (0 : Nat) + List.length a0.2.2.2.2.2.2.1 ≤ lim then JJ n a1 a2 y.2.1 a0.2.2.2.2.2.2.1 0 a0.1 a0.2.1 a0.2.2.1 a0.2.2.2.1 a0.2.2.2.2.1 a0.2.2.2.2.2.1 a0.2.2.2.2.2.2.1 a0.2.2.2.2.2.2.2.1 0 0 0 0 else none else none := by kernel_rfl
theorem Gm (n : Nat) (s1 s2 s8 : Int) (s9 : (List Zg)) (s10 b0_0 : Int) (b0_1 : Bool) (b0_2 : Int) (b0_3 : Zi) (b0_4 : Cb) (b0_5 : ZX) (b0_6 : Yn) (b0_7 : YS) (b1_0 b1_1 : Int) (b1_2 b1_3 : Int) : JJ (n + 1) s1 s2 s8 s9 s10 b0_0 b0_1 b0_2 b0_3 b0_4 b0_5 b0_6 b0_7 b1_0 b1_1 b1_2 b1_3 = bif decide (s10 < b0_0) then bif decide (s10 < 7) then (W8 big (b0_0, b0_1, b0_2, b0_3, b0_4, b0_5, b0_6, b0_7, ()) s10).bind fun y => bif y then if s9.length + [(s1, s8, s2, s10, ())].length ≤ lim then JJ n s1 s2 s8 (s9.append [(s1, s8, s2, s10, ())]) (IntKind.i64.wrap (s10 + 1)) b0_0 b0_1 b0_2 b0_3 b0_4 b0_5 b0_6 b0_7 b1_0 b1_1 b1_2 b1_3 else none else JJ n s1 s2 s8 s9 (IntKind.i64.wrap (s10 + 1)) b0_0 b0_1 b0_2 b0_3 b0_4 b0_5 b0_6 b0_7 b1_0 b1_1 b1_2 b1_3 else (Iy big s9 s1 s8 s2 b0_0).bind fun y => some y else (Iy big s9 s1 s8 s2 b0_0).bind fun y => some y := by kernel_rfl
def ZaQ : Yq := [(234, Q0), (114, Ce), (126, MC)]
theorem Zd1 : Yr ZaQ := cons_cons UE (cons_cons Qj (cons_cons IG (Zh)))
def Zlv : KP := []
def ZaR (n : Nat) (x : YG [YN, ZP]) := evX (false, false, [2, 3, 5, 7, 14, 20, 22, 24, 29, 34, 35]) ZaQ Zlv [none] Tryz.f247 (shV ZC) n (YP [YN, ZP] x)
def ZaS : Con := roS [YN, ZP] true (shV ZC) (ZaR big)
theorem Zd2 : ZJ Tryz.prog 247 ZaS := ZD ⟨Tryz.f247, by kernel_rfl, rfl, by decide⟩ fun _ _ h => Zw Zd1 (f := Tryz.f247) (by kernel_rfl) rfl (by kernel_rfl) (by kernel_rfl) big h
def Hp (n : Nat) (a0 : Zp) (a1 : Zy) : Option Bool := ZaR n (a0, a1, ())
theorem Zd3 (n : Nat) (a0 : Zp) (a1 : Zy) : Hp n a0 a1 = (Ua big a0.2.2.2.1 a0.1 a1).bind fun y => bif !y then some false else (W8 big a0 a1.2.1).bind fun y => bif !y then some false else (V5 big a0.2.2.2.2.2.2.1 a1.2.2.2.2.2.1 a0.2.2.1).bind fun y => bif !y then some false else bif !decide (a1.1 = 2) then some true else (W8 big a0 a1.2.2.2.2.2.2.1.2.2.2.1).bind fun y => some y := by kernel_rfl
def ZaT : Yq := [(247, ZaS), (214, JG)]
theorem Zd4 : Yr ZaT := cons_cons Zd2 (cons_cons QF (Zh))
def Zlw : KP := []
def ZaU (n : Nat) (x : AP.denL [.mu Zx, .ro ZP]) := evX (false, false, [3, 5, 6]) ZaT Zlw [none] Tryz.f221 (shO (shV ZC) [.mu Zx]) n (AP.encL [.mu Zx, .ro ZP] x)
def Hq : Con := apS [.mu Zx, .ro ZP] true (shO (shV ZC) [.mu Zx]) (ZaU big)
theorem Gn : ZJ Tryz.prog 221 Hq := YU ⟨Tryz.f221, by kernel_rfl, rfl, by decide⟩ fun _ _ h => Zw Zd4 (f := Tryz.f221) (by kernel_rfl) rfl (by kernel_rfl) (by kernel_rfl) big h
def XV (n : Nat) (a0 : Zp) (a1 : Zy) : Option (Bool × Zp × Unit) := ZaU n (a0, a1, ())
theorem Zd5 (n : Nat) (a0 : Zp) (a1 : Zy) : XV n a0 a1 = (Hp big a0 a1).bind fun y => bif !y then some (false, a0, ()) else (VO big a0 [a1]).bind fun y => some y := by kernel_rfl
def Ov : Yq := []
theorem ZaV : Yr Ov := Zh
def Zit : KP := []
def Ow (n : Nat) (x : YG [YN, Zk]) := evX (false, false, [2, 5]) Ov Zit [none] Tryz.f223 (shV Zk) n (YP [YN, Zk] x)
def Ox : Con := roS [YN, Zk] true (shV Zk) (Ow big)
theorem ZaW : ZJ Tryz.prog 223 Ox := ZD ⟨Tryz.f223, by kernel_rfl, rfl, by decide⟩ fun _ _ h => Zw ZaV (f := Tryz.f223) (by kernel_rfl) rfl (by kernel_rfl) (by kernel_rfl) big h
def Az (n : Nat) (a0 : Zp) (a1 : Int) : Option Int := Ow n (a0, a1, ())
theorem ZaX (n : Nat) (a0 : Zp) (a1 : Int) : Az n a0 a1 = bif a0.2.1 then some 4 else some (IntKind.i64.wrap (1 + a1.tmod 3)) := by kernel_rfl
def VF : Yq := []
theorem Hr : Yr VF := Zh
abbrev WF : Vz := (.ro XN :: dp 2 (.ro Zb :: .ro Zb :: dp 19 []), [])
def BI : KP := [(3, WF)]
def C8 (n : Nat) (x : YG [XN]) := evX (false, false, []) VF BI [none] Tryz.f23 (shV Zk) n (YP [XN] x)
def C9 : Con := roS [XN] true (shV Zk) (C8 big)
theorem Hs : ZJ Tryz.prog 23 C9 := ZD ⟨Tryz.f23, by kernel_rfl, rfl, by decide⟩ fun _ _ h => Zw Hr (f := Tryz.f23) (by kernel_rfl) rfl (by kernel_rfl) (by kernel_rfl) big h
def Kc (n : Nat) (a0 : Cb) : Option Int := C8 n (a0, ())
def I5 (n : Nat) (x : KD WF.1) (y : BD WF.2) := Z6 (env (false, false, []) VF) BI (body Tryz.f23) (Vn (false, false, []) VF [none] Tryz.f23 (shV Zk) [.val XN (ZR XN)]) n 3 WF x y
def XR (n : Nat) (s0 : Cb) (s3 s4 : Int) : Option Int := I5 n (s0, s3, s4, ()) ()
theorem Ht (n : Nat) (a0 : Cb) : Kc n a0 = XR n a0 0 0 := by kernel_rfl
theorem Q3 (n : Nat) (s0 : Cb) (s3 s4 : Int) : XR (n + 1) s0 s3 s4 = bif decide (s4 < (↑(List.length s0) : Int)) then if 0 ≤ s4 then (nth s0 s4.toNat).bind fun y => bif decide (s3 < y.2.1) then if 0 ≤ s4 then (nth s0 s4.toNat).bind fun y => XR n s0 y.2.1 (IntKind.i64.wrap (s4 + 1)) else none else XR n s0 s3 (IntKind.i64.wrap (s4 + 1)) else none else some s3 := by kernel_rfl
def Oy : Yq := [(23, C9), (224, ZaP), (114, Ce), (125, G7), (126, MC), (197, DR), (221, Hq)]
theorem ZaY : Yr Oy := cons_cons Hs (cons_cons Ou (cons_cons Qj (cons_cons FZ (cons_cons IG (cons_cons DS (cons_cons Gn (Zh)))))))
def Ziu : KP := []
def Oz (n : Nat) (x : AP.denL [.mu Zx, .ro WN]) := evX (false, false, [3, 8, 10, 14, 16, 17, 18, 22, 23, 24, 28, 32, 33, 34, 41, 42, 43, 46, 47, 62, 67, 68, 70, 75, 76, 77, 79, 80, 81, 83, 89, 90, 91, 93, 95, 96, 97, 103, 104, 105, 113, 114, 115, 117, 119, 122, 124, 132, 134]) Oy Ziu [none] Tryz.f225 (shO (shV ZC) [.mu Zx]) n (AP.encL [.mu Zx, .ro WN] x)
def OA : Con := apS [.mu Zx, .ro WN] true (shO (shV ZC) [.mu Zx]) (Oz big)
theorem ZaZ : ZJ Tryz.prog 225 OA := YU ⟨Tryz.f225, by kernel_rfl, rfl, by decide⟩ fun _ _ h => Zw ZaY (f := Tryz.f225) (by kernel_rfl) rfl (by kernel_rfl) (by kernel_rfl) big h
def Em (n : Nat) (a0 : Zp) (a1 : VJ) : Option (Bool × Zp × Unit) := Oz n (a0, a1, ())
theorem Za0 (n : Nat) (a0 : Zp) (a1 : VJ) : Em n a0 a1 = if (↑(List.length a0.2.2.2.1) : Int) = 0 then none else (Kc big a0.2.2.2.2.1).bind fun y => bif decide (Int.tmod a1.2.2.2.1 2 = 1) then if 0 ≤ Int.tmod a1.2.2.2.1 (↑(List.length a0.2.2.2.1) : Int) then if Int.tmod a1.2.2.2.1 (↑(List.length a0.2.2.2.1) : Int) < (↑(List.length a0.2.2.2.1) : Int) then (nth a0.2.2.2.1 (Int.tmod a1.2.2.2.1 (↑(List.length a0.2.2.2.1) : Int)).toNat).bind fun y => bif a0.2.1 then (JI big a0 4 (Int.tmod a1.2.2.2.1 (↑(List.length a0.2.2.2.1) : Int))).bind fun y_1 => (fun zC0 => bif !y_1.2.1 then bif !decide (Int.tmod a1.2.2.2.1 (↑(List.length a0.2.2.2.1) : Int) = 0) then some (false, a0, ()) else zC0 else zC0) ((W8 big a0 a1.2.1).bind fun y_2 => bif !y_2 then some (false, a0, ()) else (XU big a0.2.2.2.1 a0.1 y_1.1).bind fun y_3 => bif !y_3 then some (false, a0, ()) else (V5 big a0.2.2.2.2.2.2.1 y_1.1 a0.2.2.1).bind fun y_4 => bif !y_4 then some (false, a0, ()) else (We big a0.2.2.2.1 (Int.tmod a1.2.2.2.1 (↑(List.length a0.2.2.2.1) : Int), IntKind.i64.wrap (y.2.1 + 1), [a1.2.2.2.2.1], y_1.1, ())).bind fun y_5 => bif decide (y_5.2.1 < 0) then some (false, a0, ()) else (XV big (a0.1, a0.2.1, a0.2.2.1, y_5.1, a0.2.2.2.2) (1, a1.2.1, a1.2.2.1, IntKind.i64.wrap (y.2.1 + 1), y_5.2.1, y_1.1, (0, 0, 0, 0, ()), ())).bind fun y => bif !y.1 then some (false, (y.2.1.1, y.2.1.2.1, y.2.1.2.2.1, a0.2.2.2.1, y.2.1.2.2.2.2), ()) else some (true, y.2)) else (JI big a0 1 (Int.tmod a1.2.2.2.1 (↑(List.length a0.2.2.2.1) : Int))).bind fun y_1 => (fun zC1 => bif !y_1.2.1 then bif !decide (Int.tmod a1.2.2.2.1 (↑(List.length a0.2.2.2.1) : Int) = 0) then some (false, a0, ()) else zC1 else zC1) ((W8 big a0 a1.2.1).bind fun y_2 => bif !y_2 then some (false, a0, ()) else (XU big a0.2.2.2.1 a0.1 y_1.1).bind fun y_3 => bif !y_3 then some (false, a0, ()) else (V5 big a0.2.2.2.2.2.2.1 y_1.1 a0.2.2.1).bind fun y_4 => bif !y_4 then some (false, a0, ()) else (We big a0.2.2.2.1 (Int.tmod a1.2.2.2.1 (↑(List.length a0.2.2.2.1) : Int), IntKind.i64.wrap (y.2.1 + 1), [a1.2.2.2.2.1], y_1.1, ())).bind fun y_5 => bif decide (y_5.2.1 < 0) then some (false, a0, ()) else (XV big (a0.1, a0.2.1, a0.2.2.1, y_5.1, a0.2.2.2.2) (1, a1.2.1, a1.2.2.1, IntKind.i64.wrap (y.2.1 + 1), y_5.2.1, y_1.1, (0, 0, 0, 0, ()), ())).bind fun y => bif !y.1 then some (false, (y.2.1.1, y.2.1.2.1, y.2.1.2.2.1, a0.2.2.2.1, y.2.1.2.2.2.2), ()) else some (true, y.2)) else none else none else bif a0.2.1 then (JI big a0 4 (Int.tmod a1.2.2.2.1 (↑(List.length a0.2.2.2.1) : Int))).bind fun y_1 => (fun zC2 => bif !y_1.2.1 then bif !decide (Int.tmod a1.2.2.2.1 (↑(List.length a0.2.2.2.1) : Int) = 0) then some (false, a0, ()) else zC2 else zC2) ((W8 big a0 a1.2.1).bind fun y_2 => bif !y_2 then some (false, a0, ()) else (XU big a0.2.2.2.1 a0.1 y_1.1).bind fun y_3 => bif !y_3 then some (false, a0, ()) else (V5 big a0.2.2.2.2.2.2.1 y_1.1 a0.2.2.1).bind fun y_4 => bif !y_4 then some (false, a0, ()) else (We big a0.2.2.2.1 (Int.tmod a1.2.2.2.1 (↑(List.length a0.2.2.2.1) : Int), IntKind.i64.wrap (y + 1), [a1.2.2.2.2.1], y_1.1, ())).bind fun y_5 => bif decide (y_5.2.1 < 0) then some (false, a0, ()) else (XV big (a0.1, a0.2.1, a0.2.2.1, y_5.1, a0.2.2.2.2) (1, a1.2.1, a1.2.2.1, IntKind.i64.wrap (y + 1), y_5.2.1, y_1.1, (0, 0, 0, 0, ()), ())).bind fun y => bif !y.1 then some (false, (y.2.1.1, y.2.1.2.1, y.2.1.2.2.1, a0.2.2.2.1, y.2.1.2.2.2.2), ()) else some (true, y.2)) else (JI big a0 1 (Int.tmod a1.2.2.2.1 (↑(List.length a0.2.2.2.1) : Int))).bind fun y_1 => (fun zC3 => bif !y_1.2.1 then bif !decide (Int.tmod a1.2.2.2.1 (↑(List.length a0.2.2.2.1) : Int) = 0) then some (false, a0, ()) else zC3 else zC3) ((W8 big a0 a1.2.1).bind fun y_2 => bif !y_2 then some (false, a0, ()) else (XU big a0.2.2.2.1 a0.1 y_1.1).bind fun y_3 => bif !y_3 then some (false, a0, ()) else (V5 big a0.2.2.2.2.2.2.1 y_1.1 a0.2.2.1).bind fun y_4 => bif !y_4 then some (false, a0, ()) else (We big a0.2.2.2.1 (Int.tmod a1.2.2.2.1 (↑(List.length a0.2.2.2.1) : Int), IntKind.i64.wrap (y + 1), [a1.2.2.2.2.1], y_1.1, ())).bind fun y_5 => bif decide (y_5.2.1 < 0) then some (false, a0, ()) else (XV big (a0.1, a0.2.1, a0.2.2.1, y_5.1, a0.2.2.2.2) (1, a1.2.1, a1.2.2.1, IntKind.i64.wrap (y + 1), y_5.2.1, y_1.1, (0, 0, 0, 0, ()), ())).bind fun y => bif !y.1 then some (false, (y.2.1.1, y.2.1.2.1, y.2.1.2.2.1, a0.2.2.2.1, y.2.1.2.2.2.2), ()) else some (true, y.2)) := by kernel_rfl
def Zf2 : Yq := [(114, Ce), (223, Ox), (222, Tw), (221, Hq), (224, ZaP), (225, OA)]
theorem Ziv : Yr Zf2 := cons_cons Qj (cons_cons ZaW (cons_cons Zdr (cons_cons Gn (cons_cons Ou (cons_cons ZaZ (Zh))))))
def ZnT : KP := []
def Zf3 (n : Nat) (x : AP.denL [.mu Zx, .ro WN]) := evX (false, false, [3, 6, 8, 9, 10, 15, 16, 18, 23, 25, 26, 27, 31, 36, 37, 39, 41, 43, 44, 46, 55, 56, 58, 59, 61, 71, 73, 75, 86, 88, 90, 999999]) Zf2 ZnT [none] Tryz.f186 (shO (shV ZC) [.mu Zx]) n (AP.encL [.mu Zx, .ro WN] x)
def Zf4 : Con := apS [.mu Zx, .ro WN] true (shO (shV ZC) [.mu Zx]) (Zf3 big)
theorem Ziw : ZJ Tryz.prog 186 Zf4 := YU ⟨Tryz.f186, by kernel_rfl, rfl, by decide⟩ fun _ _ h => Zw Ziv (f := Tryz.f186) (by kernel_rfl) rfl (by kernel_rfl) (by kernel_rfl) big h
def MK (n : Nat) (a0 : Zp) (a1 : VJ) : Option (Bool × Zp × Unit) := Zf3 n (a0, a1, ())
theorem Zix (n : Nat) (a0 : Zp) (a1 : VJ) : MK n a0 a1 =
  bif decide ((↑(List.length a0.snd.snd.snd.fst) : Int) = (0 : Int)) then some (false, a0, PUnit.unit)
 else
 (W8 big a0 a1.snd.fst).bind fun y =>
 bif !y then some (false, a0, PUnit.unit)
 else
 if (↑(List.length a0.snd.snd.snd.fst) : Int) = (0 : Int) then none
 else
 bif decide (a1.fst = (8 : Int)) then
 (Az big a0 a1.snd.snd.snd.fst).bind fun y =>
 (Hc big a0 a1.snd.fst a1.snd.snd.fst y
 (Int.tmod a1.snd.snd.snd.fst (↑(List.length a0.snd.snd.snd.fst) : Int))).bind
 fun y => (XV big a0 y).bind fun y => some y
 else
 bif decide (a1.fst = (9 : Int)) then
 (Az big a0 a1.snd.snd.snd.fst).bind fun y =>
 (JI big a0 y (Int.tmod a1.snd.snd.snd.fst (↑(List.length a0.snd.snd.snd.fst) : Int))).bind
 fun y =>
 bif !y.snd.fst then some (false, a0, PUnit.unit)
 else
 (XV big a0
 ((3 : Int), a1.snd.fst, a1.snd.snd.fst, y.fst.snd.fst, (0 : Int), y.fst,
 ((0 : Int), (0 : Int), (0 : Int), (0 : Int), ()), ())).bind
 fun y => some y
 else
 bif decide (a1.fst = (10 : Int)) then (Em big a0 a1).bind fun y => some y
 else
 (XV big a0
 ((4 : Int), a1.snd.fst, a1.snd.snd.fst,
 IntKind.i64.wrap (Int.tmod a1.snd.snd.snd.fst (900 : Int) + (1 : Int)), (0 : Int),
 ((0 : Int), (0 : Int), (0 : Int), (0 : Int), ()),
 ((0 : Int), (0 : Int), (0 : Int), (0 : Int), ()), ())).bind
 fun y => some y := by kernel_rfl
def Ub : Yq := [(59, YY), (114, Ce), (187, Zfo), (106, W9), (188, Td), (63, Cc), (62, Vr)]
theorem Za1 : Yr Ub := cons_cons Yw (cons_cons Qj (cons_cons Zhk (cons_cons Wt (cons_cons NN (cons_cons A4 (cons_cons W7 (Zh)))))))
abbrev QI : Vz := (.is (.ptr 0 0) :: dp 2 (.is (.ptr 6 0) :: .is (.ptr 7 0) :: .ro Zb :: .ro Zb :: .ro Zb :: dp 108 []), [.vars [.ro Yv, .ro Zb, .ro Zb], .arr Xb, .arr ZI, .arr ZP, .arr Z4, .arr W6, .vars [.ro Zb, .ro ZC, .ro Zb, .is (.own 1 0), .is (.own 2 0), .is (.own 3 0), .is (.own 4 0), .is (.own 5 0)], .vars [.ro Zb, .ro Zb, .ro Zb, .ro Zb, .ro Zb, .ro Zu, .ro Zb]])
abbrev UK : Vz := (dp 3 (.is (.ptr 6 0) :: .is (.ptr 7 0) :: dp 3 (.ro Zb :: dp 107 [])), [.vars [.ro Yv, .ro Zb, .ro Zb], .arr Xb, .arr ZI, .arr ZP, .arr Z4, .arr W6, .vars [.ro Zb, .ro ZC, .ro Zb, .is (.own 1 0), .is (.own 2 0), .is (.own 3 0), .is (.own 4 0), .is (.own 5 0)], .vars [.ro Zb, .ro Zb, .ro Zb, .ro Zb, .ro Zb, .ro Zu, .ro Zb]])
def CB : KP := [(4, QI), (12, UK)]
def OB (n : Nat) (x : AP.denL [.mr Zz, .mo Zx]) := evX (false, true, [3, 15, 34, 44, 49, 51, 61, 70]) Ub CB [none] Tryz.f135 (shO (shV WN) [.mr Zz, .mo Zx]) n (AP.encL [.mr Zz, .mo Zx] x)
def OC : Con := apS [.mr Zz, .mo Zx] false (shO (shV WN) [.mr Zz, .mo Zx]) (OB big)
theorem Za2 : ZJ Tryz.prog 135 OC := YU ⟨Tryz.f135, by kernel_rfl, rfl, by decide⟩ fun _ _ h => Zw Za1 (f := Tryz.f135) (by kernel_rfl) rfl (by kernel_rfl) (by kernel_rfl) big h
def En (n : Nat) (a0 : ZM) (a1 : Zp) : Option (VJ × ZM × (Unit × Unit × Unit × (List Zv) × (List Zn) × (List Zy) × (List Z3) × (List Xd) × Unit) × Unit) := OB n (a0, a1, ())
def Zd6 (n : Nat) (x : KD QI.1) (y : BD QI.2) := Z6 (env (false, true, [3, 15, 34, 44, 49, 51, 61, 70]) Ub) CB (body Tryz.f135) (Vn (false, true, [3, 15, 34, 44, 49, 51, 61, 70]) Ub [none] Tryz.f135 (shO (shV WN) [.mr Zz, .mo Zx]) [AP.enc (.mr Zz) (ZR Zz), AP.enc (.mo Zx) (ZR Zx)]) n 4 QI x y
def Vx (n : Nat) (s5 s6 s7 : Int) (b0_0 : XP) (b0_1 b0_2 : Int) (b1 : (List Zv)) (b2 : (List Zn)) (b3 : (List Zy)) (b4 : (List Z3)) (b5 : (List Xd)) (b6_0 : Int) (b6_1 : Bool) (b6_2 b7_0 : Int) (b7_1 b7_2 : Int) (b7_3 b7_4 : Int) (b7_5 : ByteArray) (b7_6 : Int) : Option (VJ × ZM × (Unit × Unit × Unit × (List Zv) × (List Zn) × (List Zy) × (List Z3) × (List Xd) × Unit) × Unit) := Zd6 n (s5, s6, s7, ()) ((b0_0, b0_1, b0_2, ()), b1, b2, b3, b4, b5, (b6_0, b6_1, b6_2, ()), (b7_0, b7_1, b7_2, b7_3, b7_4, b7_5, b7_6, ()), ())
def Za3 (n : Nat) (x : KD UK.1) (y : BD UK.2) := Z6 (env (false, true, [3, 15, 34, 44, 49, 51, 61, 70]) Ub) CB (body Tryz.f135) (Vn (false, true, [3, 15, 34, 44, 49, 51, 61, 70]) Ub [none] Tryz.f135 (shO (shV WN) [.mr Zz, .mo Zx]) [AP.enc (.mr Zz) (ZR Zz), AP.enc (.mo Zx) (ZR Zx)]) n 12 UK x y
def WV (n : Nat) (s8 : Int) (b0_0 : XP) (b0_1 b0_2 : Int) (b1 : (List Zv)) (b2 : (List Zn)) (b3 : (List Zy)) (b4 : (List Z3)) (b5 : (List Xd)) (b6_0 : Int) (b6_1 : Bool) (b6_2 b7_0 : Int) (b7_1 b7_2 : Int) (b7_3 b7_4 : Int) (b7_5 : ByteArray) (b7_6 : Int) : Option (VJ × ZM × (Unit × Unit × Unit × (List Zv) × (List Zn) × (List Zy) × (List Z3) × (List Xd) × Unit) × Unit) := Za3 n (s8, ()) ((b0_0, b0_1, b0_2, ()), b1, b2, b3, b4, b5, (b6_0, b6_1, b6_2, ()), (b7_0, b7_1, b7_2, b7_3, b7_4, b7_5, b7_6, ()), ())
theorem Za4 (n : Nat) (a0 : ZM) (a1 : Zp) : En n a0 a1 = (ZA big a0 20).bind fun y => Vx n y.1 0 0 y.2.1.1 y.2.1.2.1 y.2.1.2.2.1 a1.2.2.2.1 a1.2.2.2.2.1 a1.2.2.2.2.2.1 a1.2.2.2.2.2.2.1 a1.2.2.2.2.2.2.2.1 a1.1 a1.2.1 a1.2.2.1 0 0 0 0 0 ByteArray.empty 0 := by kernel_rfl
theorem BJ (n : Nat) (s5 s6 s7 : Int) (b0_0 : XP) (b0_1 b0_2 : Int) (b1 : (List Zv)) (b2 : (List Zn)) (b3 : (List Zy)) (b4 : (List Z3)) (b5 : (List Xd)) (b6_0 : Int) (b6_1 : Bool) (b6_2 b7_0 : Int) (b7_1 b7_2 : Int) (b7_3 b7_4 : Int) (b7_5 : ByteArray) (b7_6 : Int) : Vx (n + 1) s5 s6 s7 b0_0 b0_1 b0_2 b1 b2 b3 b4 b5 b6_0 b6_1 b6_2 b7_0 b7_1 b7_2 b7_3 b7_4 b7_5 b7_6 = (fun zC0 => bif decide (s7 < b6_0) then (W8 big (b6_0, b6_1, b6_2, b1, b2, b3, b4, b5, ()) s7).bind fun y => bif y then Vx n s5 s7 (IntKind.i64.wrap (s7 + 1)) b0_0 b0_1 b0_2 b1 b2 b3 b4 b5 b6_0 b6_1 b6_2 b7_0 b7_1 b7_2 b7_3 b7_4 b7_5 b7_6 else Vx n s5 s6 (IntKind.i64.wrap (s7 + 1)) b0_0 b0_1 b0_2 b1 b2 b3 b4 b5 b6_0 b6_1 b6_2 b7_0 b7_1 b7_2 b7_3 b7_4 b7_5 b7_6 else bif decide (s5 = 0) then (Fg big (b0_0, b0_1, b0_2, ())).bind fun y => some ((1, 0, 0, 0, y.1, ()), y.2.1, zC0, ()) else bif decide (s5 < 4) then WV n 0 b0_0 b0_1 b0_2 b1 b2 b3 b4 b5 b6_0 b6_1 b6_2 b7_0 b7_1 b7_2 b7_3 b7_4 b7_5 b7_6 else bif decide (s5 < 14) then bif decide (0 < (↑b3.length : Int)) then (Jv big (b0_0, b0_1, b0_2, ()) 3).bind fun y => bif y.1 then (ZA big y.2.1 (↑b3.length : Int)).bind fun y => some ((3, y.1, 0, 0, (0, ByteArray.empty, 0, ()), ()), y.2.1, zC0, ()) else some ((3, 0, 0, 0, (0, ByteArray.empty, 0, ()), ()), y.2.1, zC0, ()) else some ((3, 0, 0, 0, (0, ByteArray.empty, 0, ()), ()), (b0_0, b0_1, b0_2, ()), zC0, ()) else bif decide (s5 = 14) then (XT big (b0_0, b0_1, b0_2, ()) [(4 : Int), 5]).bind fun y => (ZA big y.2.1 4).bind fun y_1 => some ((y.1, y_1.1, 0, 0, (0, ByteArray.empty, 0, ()), ()), y_1.2.1, zC0, ()) else bif decide (s5 = 15) then (ZA big (b0_0, b0_1, b0_2, ()) 4).bind fun y => some ((6, y.1, 0, 0, (0, ByteArray.empty, 0, ()), ()), y.2.1, zC0, ()) else bif decide (s5 = 16) then (ZA big (b0_0, b0_1, b0_2, ()) 4).bind fun y => some ((7, y.1, 0, 0, (0, ByteArray.empty, 0, ()), ()), y.2.1, zC0, ()) else (ZA big (b0_0, b0_1, b0_2, ()) 30).bind fun y => (ZA big y.2.1 4).bind fun y_1 => bif decide (s5 = 17) then (Fg big y_1.2.1).bind fun y_2 => some ((10, s6, y_1.1, y.1, y_2.1, ()), y_2.2.1, zC0, ()) else (XT big y_1.2.1 [(8 : Int), 9, 11, 8]).bind fun y_2 => some ((y_2.1, s6, y_1.1, y.1, (0, ByteArray.empty, 0, ()), ()), y_2.2.1, zC0, ())) ((), (), (), b1, b2, b3, b4, b5, ()) := by kernel_rfl
theorem AA (n : Nat) (s8 : Int) (b0_0 : XP) (b0_1 b0_2 : Int) (b1 : (List Zv)) (b2 : (List Zn)) (b3 : (List Zy)) (b4 : (List Z3)) (b5 : (List Xd)) (b6_0 : Int) (b6_1 : Bool) (b6_2 b7_0 : Int) (b7_1 b7_2 : Int) (b7_3 b7_4 : Int) (b7_5 : ByteArray) (b7_6 : Int) : WV (n + 1) s8 b0_0 b0_1 b0_2 b1 b2 b3 b4 b5 b6_0 b6_1 b6_2 b7_0 b7_1 b7_2 b7_3 b7_4 b7_5 b7_6 = bif decide (s8 < (↑b2.length : Int)) then (Wn big (b6_0, b6_1, b6_2, b1, b2, b3, b4, b5, ()) s8).bind fun y => bif y then if 0 ≤ s8 then if s8 < (↑b2.length : Int) then (nth b2 s8.toNat).bind fun y => (IC big y b6_0 b6_1).bind fun y_1 => (Dv b2 s8.toNat y).bind fun y => bif y_1 then some ((2, s8, 0, 0, (0, ByteArray.empty, 0, ()), ()), (b0_0, b0_1, b0_2, ()), ((), (), (), b1, y, b3, b4, b5, ()), ()) else WV n (IntKind.i64.wrap (s8 + 1)) b0_0 b0_1 b0_2 b1 y b3 b4 b5 b6_0 b6_1 b6_2 b7_0 b7_1 b7_2 b7_3 b7_4 b7_5 b7_6 else none else none else WV n (IntKind.i64.wrap (s8 + 1)) b0_0 b0_1 b0_2 b1 b2 b3 b4 b5 b6_0 b6_1 b6_2 b7_0 b7_1 b7_2 b7_3 b7_4 b7_5 b7_6 else some ((3, 0, 0, 0, (0, ByteArray.empty, 0, ()), ()), (b0_0, b0_1, b0_2, ()), ((), (), (), b1, b2, b3, b4, b5, ()), ()) := by kernel_rfl
def CC : Yq := [(106, W9), (188, Td), (213, ZkT), (215, Tt), (214, JG)]
theorem Zd7 : Yr CC := cons_cons Wt (cons_cons NN (cons_cons ZkU (cons_cons Zdo (cons_cons QF (Zh)))))
abbrev Wq : Vz := (.is (.ptr 5 0) :: .ro Zb :: dp 3 (.ro Zb :: .own ZO :: .is (.ptr 26 0) :: .ro Zb :: dp 103 []), [.drop, .drop, .drop, .drop, .drop, .vars [.ro Zb, .ro ZC, .ro Zb, .own ZO, .own Ya, .own Zj, .own Zt, .own ZV], .drop, .drop, .drop, .drop, .drop, .drop, .drop, .drop, .drop, .drop, .drop, .drop, .drop, .drop, .drop, .drop, .drop, .drop, .drop, .drop, .vars [.ro Zb, .ro Zb, .ro Zb, .ro Zb, .ro Zb, .ro Zb, .ro Zb, .ro Zb, .ro Zb, .ro Zb, .ro Zb, .ro Zb, .ro Zb, .ro Zb, .own Zb, .own Zo, .own Zb, .own ZF, .own Zt, .own Zj, .ro Zb]])
def OD : KP := [(5000007, Wq)]
def Za5 (n : Nat) (x : AP.denL [.mu Zx, .ro Zk]) := evX (true, true, [7, 9, 10, 16, 17, 18, 23, 24, 25, 27, 28, 29, 35, 36, 37, 40, 41, 42, 47, 48, 49, 55, 56, 57, 59, 60, 61, 67, 68, 69, 80, 82, 84, 85, 86, 91, 93, 94, 95, 100, 106, 107, 108, 999999, 999995]) CC OD [none] Tryz.f180 (shO (shV ZC) [.mu Zx]) n (AP.encL [.mu Zx, .ro Zk] x)
def Za6 : Con := apS [.mu Zx, .ro Zk] true (shO (shV ZC) [.mu Zx]) (Za5 big)
theorem Zd8 : ZJ Tryz.prog 180 Za6 := YU ⟨Tryz.f180, by kernel_rfl, rfl, by decide⟩ fun _ _ h => Zw Zd7 (f := Tryz.f180) (by kernel_rfl) rfl (by kernel_rfl) (by kernel_rfl) big h
def Hu (n : Nat) (a0 : Zp) (a1 : Int) : Option (Bool × Zp × Unit) := Za5 n (a0, a1, ())
def Hv (n : Nat) (x : KD Wq.1) (y : BD Wq.2) := Z6 (env (true, true, [7, 9, 10, 16, 17, 18, 23, 24, 25, 27, 28, 29, 35, 36, 37, 40, 41, 42, 47, 48, 49, 55, 56, 57, 59, 60, 61, 67, 68, 69, 80, 82, 84, 85, 86, 91, 93, 94, 95, 100, 106, 107, 108, 999999, 999995]) CC) OD (body Tryz.f180) (Vn (true, true, [7, 9, 10, 16, 17, 18, 23, 24, 25, 27, 28, 29, 35, 36, 37, 40, 41, 42, 47, 48, 49, 55, 56, 57, 59, 60, 61, 67, 68, 69, 80, 82, 84, 85, 86, 91, 93, 94, 95, 100, 106, 107, 108, 999999, 999995]) CC [none] Tryz.f180 (shO (shV ZC) [.mu Zx]) [AP.enc (.mu Zx) (ZR Zx), AP.enc (.ro Zk) (ZR Zk)]) n 5000007 Wq x y
def Ye (n : Nat) (s1 s5 : Int) (s6 : (List Zr)) (s8 b5_0 : Int) (b5_1 : Bool) (b5_2 : Int) (b5_3 : (List Zr)) (b5_4 : (List ZK)) (b5_5 : (List Zc)) (b5_6 : (List Zg)) (b5_7 : (List ZG)) (b26_0 b26_1 : Int) (b26_2 b26_3 : Int) (b26_4 b26_5 : Int) (b26_6 b26_7 : Int) (b26_8 b26_9 : Int) (b26_10 b26_11 : Int) (b26_12 b26_13 : Int) (b26_14 : (List Int)) (b26_15 : (List Zf)) (b26_16 : (List Int)) (b26_17 : (List Zs)) (b26_18 : (List Zg)) (b26_19 : (List Zc)) (b26_20 : Int) : Option (Bool × Zp × Unit) := Hv n (s1, s5, s6, s8, ()) ((b5_0, b5_1, b5_2, b5_3, b5_4, b5_5, b5_6, b5_7, ()), (b26_0, b26_1, b26_2, b26_3, b26_4, b26_5, b26_6, b26_7, b26_8, b26_9, b26_10, b26_11, b26_12, b26_13, b26_14, b26_15, b26_16, b26_17, b26_18, b26_19, b26_20, ()), ())
theorem Zd9 (n : Nat) (a0 : Zp) (a1 : Int) : Hu n a0 a1 = (Wn big a0 a1).bind fun y => bif !y then some (false, a0, ()) else if 0 ≤ a1 then if a1 < (↑(List.length a0.2.2.2.2.1) : Int) then (nth a0.2.2.2.2.1 a1.toNat).bind fun y => (IC big y a0.1 a0.2.1).bind fun y_1 => (Dv a0.2.2.2.2.1 a1.toNat y).bind fun y => (fun zC8 => (fun zC2 => (fun zC4 => (fun zC0 => (fun zC3 => (fun zC5 => (fun zC1 => (fun zC6 => (fun zC7 => bif !y_1 then some (false, (a0.1, a0.2.1, a0.2.2.1, a0.2.2.2.1, y, a0.2.2.2.2.2), ()) else bif decide (60 < IntKind.i64.wrap ((↑(List.length a0.2.2.2.2.2.1) : Int) + a0.1)) then some (false, (a0.1, a0.2.1, a0.2.2.1, a0.2.2.2.1, y, a0.2.2.2.2.2), ()) else bif decide (4 < (↑(List.length a0.2.2.2.2.2.2.2.1) : Int)) then X4 (if 0 ≤ a1 then if a1 < (↑y.length : Int) then X4 ((nth y a1.toNat).bind fun y_2 => (fun zB => X4 zB zB) (if 4 ≤ (↑(List.length a0.2.2.2.2.2.2.2.1) : Int) then if (0 : Nat) + (List.take (Int.toNat 4 - (0 : Nat)) (List.drop (0 : Nat) a0.2.2.2.2.2.2.2.1)).length ≤ lim then (WR big a0.2.2.2.1 y_2 (List.take (Int.toNat 4 - (0 : Nat)) (List.drop (0 : Nat) a0.2.2.2.2.2.2.2.1))).bind fun y_3 => (Dv y a1.toNat y_2).bind fun y => Ye n a1 4 y_3.1 y_3.2.2.1 a0.1 a0.2.1 a0.2.2.1 a0.2.2.2.1 y a0.2.2.2.2.2.1 a0.2.2.2.2.2.2.1 a0.2.2.2.2.2.2.2.1 y_3.2.1.1 y_3.2.1.2.1 y_3.2.1.2.2.1.1 y_3.2.1.2.2.1.2.1 y_3.2.1.2.2.1.2.2.1 y_3.2.1.2.2.1.2.2.2.1 y_3.2.1.2.2.2.1.1 y_3.2.1.2.2.2.1.2.1 y_3.2.1.2.2.2.1.2.2.1 y_3.2.1.2.2.2.1.2.2.2.1 y_3.2.1.2.2.2.2.1.1 y_3.2.1.2.2.2.2.1.2.1 y_3.2.1.2.2.2.2.1.2.2.1 y_3.2.1.2.2.2.2.1.2.2.2.1 y_3.2.1.2.2.2.2.2.1 y_3.2.1.2.2.2.2.2.2.1 y_3.2.1.2.2.2.2.2.2.2.1 y_3.2.1.2.2.2.2.2.2.2.2.1 y_3.2.1.2.2.2.2.2.2.2.2.2.1 y_3.2.1.2.2.2.2.2.2.2.2.2.2.1 y_3.2.1.2.2.2.2.2.2.2.2.2.2.2.1 else none else none)) (X4 (X4 zC7 (if 4 ≤ (↑(List.length a0.2.2.2.2.2.2.2.1) : Int) then zC1 else none)) (if 4 ≤ (↑(List.length a0.2.2.2.2.2.2.2.1) : Int) then (fun zB0 zB1 => X4 zB0 (X4 zB0 zB1)) zC5 (if (0 : Nat) + (List.take (Int.toNat 4 - (0 : Nat)) (List.drop (0 : Nat) a0.2.2.2.2.2.2.2.1)).length ≤ lim then zC3 else none) else none)) else none else none) (X4 (X4 (if 0 ≤ a1 then if a1 < (↑y.length : Int) then X4 zC7 (if 4 ≤ (↑(List.length a0.2.2.2.2.2.2.2.1) : Int) then zC1 else none) else none else none) (if 4 ≤ (↑(List.length a0.2.2.2.2.2.2.2.1) : Int) then X4 (if 0 ≤ a1 then if a1 < (↑y.length : Int) then zC1 else none else none) (if (0 : Nat) + (List.take (Int.toNat 4 - (0 : Nat)) (List.drop (0 : Nat) a0.2.2.2.2.2.2.2.1)).length ≤ lim then if 0 ≤ a1 then if a1 < (↑y.length : Int) then zC3 else none else none else none) else none)) (if 4 ≤ (↑(List.length a0.2.2.2.2.2.2.2.1) : Int) then X4 (if 0 ≤ a1 then if a1 < (↑y.length : Int) then (fun zB0 zB1 => X4 zB0 (X4 zB0 zB1)) zC5 (if (0 : Nat) + (List.take (Int.toNat 4 - (0 : Nat)) (List.drop (0 : Nat) a0.2.2.2.2.2.2.2.1)).length ≤ lim then zC3 else none) else none else none) (X4 (if 0 ≤ a1 then if a1 < (↑y.length : Int) then zC1 else none else none) (if (0 : Nat) + (List.take (Int.toNat 4 - (0 : Nat)) (List.drop (0 : Nat) a0.2.2.2.2.2.2.2.1)).length ≤ lim then if 0 ≤ a1 then if a1 < (↑y.length : Int) then zC3 else none else none else none)) else none)) else X4 (if 0 ≤ a1 then if a1 < (↑y.length : Int) then X4 ((nth y a1.toNat).bind fun y_2 => (fun zB => X4 zB zB) (if (↑(List.length a0.2.2.2.2.2.2.2.1) : Int) ≤ (↑(List.length a0.2.2.2.2.2.2.2.1) : Int) then if (0 : Nat) + (List.take zC8 (List.drop (0 : Nat) a0.2.2.2.2.2.2.2.1)).length ≤ lim then (WR big a0.2.2.2.1 y_2 (List.take zC8 (List.drop (0 : Nat) a0.2.2.2.2.2.2.2.1))).bind fun y_3 => (Dv y a1.toNat y_2).bind fun y => Ye n a1 (↑(List.length a0.2.2.2.2.2.2.2.1) : Int) y_3.1 y_3.2.2.1 a0.1 a0.2.1 a0.2.2.1 a0.2.2.2.1 y a0.2.2.2.2.2.1 a0.2.2.2.2.2.2.1 a0.2.2.2.2.2.2.2.1 y_3.2.1.1 y_3.2.1.2.1 y_3.2.1.2.2.1.1 y_3.2.1.2.2.1.2.1 y_3.2.1.2.2.1.2.2.1 y_3.2.1.2.2.1.2.2.2.1 y_3.2.1.2.2.2.1.1 y_3.2.1.2.2.2.1.2.1 y_3.2.1.2.2.2.1.2.2.1 y_3.2.1.2.2.2.1.2.2.2.1 y_3.2.1.2.2.2.2.1.1 y_3.2.1.2.2.2.2.1.2.1 y_3.2.1.2.2.2.2.1.2.2.1 y_3.2.1.2.2.2.2.1.2.2.2.1 y_3.2.1.2.2.2.2.2.1 y_3.2.1.2.2.2.2.2.2.1 y_3.2.1.2.2.2.2.2.2.2.1 y_3.2.1.2.2.2.2.2.2.2.2.1 y_3.2.1.2.2.2.2.2.2.2.2.2.1 y_3.2.1.2.2.2.2.2.2.2.2.2.2.1 y_3.2.1.2.2.2.2.2.2.2.2.2.2.2.1 else none else none)) (X4 (X4 zC6 (if (↑(List.length a0.2.2.2.2.2.2.2.1) : Int) ≤ (↑(List.length a0.2.2.2.2.2.2.2.1) : Int) then zC0 else none)) (if (↑(List.length a0.2.2.2.2.2.2.2.1) : Int) ≤ (↑(List.length a0.2.2.2.2.2.2.2.1) : Int) then (fun zB0 zB1 => X4 zB0 (X4 zB0 zB1)) zC4 (if (0 : Nat) + (List.take zC8 (List.drop (0 : Nat) a0.2.2.2.2.2.2.2.1)).length ≤ lim then zC2 else none) else none)) else none else none) (X4 (X4 (if 0 ≤ a1 then if a1 < (↑y.length : Int) then X4 zC6 (if (↑(List.length a0.2.2.2.2.2.2.2.1) : Int) ≤ (↑(List.length a0.2.2.2.2.2.2.2.1) : Int) then zC0 else none) else none else none) (if (↑(List.length a0.2.2.2.2.2.2.2.1) : Int) ≤ (↑(List.length a0.2.2.2.2.2.2.2.1) : Int) then X4 (if 0 ≤ a1 then if a1 < (↑y.length : Int) then zC0 else none else none) (if (0 : Nat) + (List.take zC8 (List.drop (0 : Nat) a0.2.2.2.2.2.2.2.1)).length ≤ lim then if 0 ≤ a1 then if a1 < (↑y.length : Int) then zC2 else none else none else none) else none)) (if (↑(List.length a0.2.2.2.2.2.2.2.1) : Int) ≤ (↑(List.length a0.2.2.2.2.2.2.2.1) : Int) then X4 (if 0 ≤ a1 then if a1 < (↑y.length : Int) then (fun zB0 zB1 => X4 zB0 (X4 zB0 zB1)) zC4 (if (0 : Nat) + (List.take zC8 (List.drop (0 : Nat) a0.2.2.2.2.2.2.2.1)).length ≤ lim then zC2 else none) else none else none) (X4 (if 0 ≤ a1 then if a1 < (↑y.length : Int) then zC0 else none else none) (if (0 : Nat) + (List.take zC8 (List.drop (0 : Nat) a0.2.2.2.2.2.2.2.1)).length ≤ lim then if 0 ≤ a1 then if a1 < (↑y.length : Int) then zC2 else none else none else none)) else none))) ((nth y a1.toNat).bind fun y_2 => if 4 ≤ (↑(List.length a0.2.2.2.2.2.2.2.1) : Int) then if (0 : Nat) + (List.take (Int.toNat 4 - (0 : Nat)) (List.drop (0 : Nat) a0.2.2.2.2.2.2.2.1)).length ≤ lim then (WR big a0.2.2.2.1 y_2 (List.take (Int.toNat 4 - (0 : Nat)) (List.drop (0 : Nat) a0.2.2.2.2.2.2.2.1))).bind fun y_3 => (Dv y a1.toNat y_2).bind fun y => Ye n a1 4 y_3.1 y_3.2.2.1 a0.1 a0.2.1 a0.2.2.1 a0.2.2.2.1 y a0.2.2.2.2.2.1 a0.2.2.2.2.2.2.1 a0.2.2.2.2.2.2.2.1 y_3.2.1.1 y_3.2.1.2.1 y_3.2.1.2.2.1.1 y_3.2.1.2.2.1.2.1 y_3.2.1.2.2.1.2.2.1 y_3.2.1.2.2.1.2.2.2.1 y_3.2.1.2.2.2.1.1 y_3.2.1.2.2.2.1.2.1 y_3.2.1.2.2.2.1.2.2.1 y_3.2.1.2.2.2.1.2.2.2.1 y_3.2.1.2.2.2.2.1.1 y_3.2.1.2.2.2.2.1.2.1 y_3.2.1.2.2.2.2.1.2.2.1 y_3.2.1.2.2.2.2.1.2.2.2.1 y_3.2.1.2.2.2.2.2.1 y_3.2.1.2.2.2.2.2.2.1 y_3.2.1.2.2.2.2.2.2.2.1 y_3.2.1.2.2.2.2.2.2.2.2.1 y_3.2.1.2.2.2.2.2.2.2.2.2.1 y_3.2.1.2.2.2.2.2.2.2.2.2.2.1 y_3.2.1.2.2.2.2.2.2.2.2.2.2.2.1 else none else none)) ((nth y a1.toNat).bind fun y_2 => if (↑(List.length a0.2.2.2.2.2.2.2.1) : Int) ≤ (↑(List.length a0.2.2.2.2.2.2.2.1) : Int) then if (0 : Nat) + (List.take zC8 (List.drop (0 : Nat) a0.2.2.2.2.2.2.2.1)).length ≤ lim then (WR big a0.2.2.2.1 y_2 (List.take zC8 (List.drop (0 : Nat) a0.2.2.2.2.2.2.2.1))).bind fun y_3 => (Dv y a1.toNat y_2).bind fun y => Ye n a1 (↑(List.length a0.2.2.2.2.2.2.2.1) : Int) y_3.1 y_3.2.2.1 a0.1 a0.2.1 a0.2.2.1 a0.2.2.2.1 y a0.2.2.2.2.2.1 a0.2.2.2.2.2.2.1 a0.2.2.2.2.2.2.2.1 y_3.2.1.1 y_3.2.1.2.1 y_3.2.1.2.2.1.1 y_3.2.1.2.2.1.2.1 y_3.2.1.2.2.1.2.2.1 y_3.2.1.2.2.1.2.2.2.1 y_3.2.1.2.2.2.1.1 y_3.2.1.2.2.2.1.2.1 y_3.2.1.2.2.2.1.2.2.1 y_3.2.1.2.2.2.1.2.2.2.1 y_3.2.1.2.2.2.2.1.1 y_3.2.1.2.2.2.2.1.2.1 y_3.2.1.2.2.2.2.1.2.2.1 y_3.2.1.2.2.2.2.1.2.2.2.1 y_3.2.1.2.2.2.2.2.1 y_3.2.1.2.2.2.2.2.2.1 y_3.2.1.2.2.2.2.2.2.2.1 y_3.2.1.2.2.2.2.2.2.2.2.1 y_3.2.1.2.2.2.2.2.2.2.2.2.1 y_3.2.1.2.2.2.2.2.2.2.2.2.2.1 y_3.2.1.2.2.2.2.2.2.2.2.2.2.2.1 else none else none)) (X4 zC5 (if (0 : Nat) + (List.take (Int.toNat 4 - (0 : Nat)) (List.drop (0 : Nat) a0.2.2.2.2.2.2.2.1)).length ≤ lim then zC3 else none))) ((nth y a1.toNat).bind fun y_2 => if (0 : Nat) + (List.take (Int.toNat 4 - (0 : Nat)) (List.drop (0 : Nat) a0.2.2.2.2.2.2.2.1)).length ≤ lim then (WR big a0.2.2.2.1 y_2 (List.take (Int.toNat 4 - (0 : Nat)) (List.drop (0 : Nat) a0.2.2.2.2.2.2.2.1))).bind fun y_3 => (Dv y a1.toNat y_2).bind fun y => Ye n a1 4 y_3.1 y_3.2.2.1 a0.1 a0.2.1 a0.2.2.1 a0.2.2.2.1 y a0.2.2.2.2.2.1 a0.2.2.2.2.2.2.1 a0.2.2.2.2.2.2.2.1 y_3.2.1.1 y_3.2.1.2.1 y_3.2.1.2.2.1.1 y_3.2.1.2.2.1.2.1 y_3.2.1.2.2.1.2.2.1 y_3.2.1.2.2.1.2.2.2.1 y_3.2.1.2.2.2.1.1 y_3.2.1.2.2.2.1.2.1 y_3.2.1.2.2.2.1.2.2.1 y_3.2.1.2.2.2.1.2.2.2.1 y_3.2.1.2.2.2.2.1.1 y_3.2.1.2.2.2.2.1.2.1 y_3.2.1.2.2.2.2.1.2.2.1 y_3.2.1.2.2.2.2.1.2.2.2.1 y_3.2.1.2.2.2.2.2.1 y_3.2.1.2.2.2.2.2.2.1 y_3.2.1.2.2.2.2.2.2.2.1 y_3.2.1.2.2.2.2.2.2.2.2.1 y_3.2.1.2.2.2.2.2.2.2.2.2.1 y_3.2.1.2.2.2.2.2.2.2.2.2.2.1 y_3.2.1.2.2.2.2.2.2.2.2.2.2.2.1 else none)) ((nth y a1.toNat).bind fun y_2 => (WR big a0.2.2.2.1 y_2 (List.take (Int.toNat 4 - (0 : Nat)) (List.drop (0 : Nat) a0.2.2.2.2.2.2.2.1))).bind fun y_3 => (Dv y a1.toNat y_2).bind fun y => Ye n a1 4 y_3.1 y_3.2.2.1 a0.1 a0.2.1 a0.2.2.1 a0.2.2.2.1 y a0.2.2.2.2.2.1 a0.2.2.2.2.2.2.1 a0.2.2.2.2.2.2.2.1 y_3.2.1.1 y_3.2.1.2.1 y_3.2.1.2.2.1.1 y_3.2.1.2.2.1.2.1 y_3.2.1.2.2.1.2.2.1 y_3.2.1.2.2.1.2.2.2.1 y_3.2.1.2.2.2.1.1 y_3.2.1.2.2.2.1.2.1 y_3.2.1.2.2.2.1.2.2.1 y_3.2.1.2.2.2.1.2.2.2.1 y_3.2.1.2.2.2.2.1.1 y_3.2.1.2.2.2.2.1.2.1 y_3.2.1.2.2.2.2.1.2.2.1 y_3.2.1.2.2.2.2.1.2.2.2.1 y_3.2.1.2.2.2.2.2.1 y_3.2.1.2.2.2.2.2.2.1 y_3.2.1.2.2.2.2.2.2.2.1 y_3.2.1.2.2.2.2.2.2.2.2.1 y_3.2.1.2.2.2.2.2.2.2.2.2.1 y_3.2.1.2.2.2.2.2.2.2.2.2.2.1 y_3.2.1.2.2.2.2.2.2.2.2.2.2.2.1)) (X4 zC4 (if (0 : Nat) + (List.take zC8 (List.drop (0 : Nat) a0.2.2.2.2.2.2.2.1)).length ≤ lim then zC2 else none))) ((nth y a1.toNat).bind fun y_2 => if (0 : Nat) + (List.take zC8 (List.drop (0 : Nat) a0.2.2.2.2.2.2.2.1)).length ≤ lim then (WR big a0.2.2.2.1 y_2 (List.take zC8 (List.drop (0 : Nat) a0.2.2.2.2.2.2.2.1))).bind fun y_3 => (Dv y a1.toNat y_2).bind fun y => Ye n a1 (↑(List.length a0.2.2.2.2.2.2.2.1) : Int) y_3.1 y_3.2.2.1 a0.1 a0.2.1 a0.2.2.1 a0.2.2.2.1 y a0.2.2.2.2.2.1 a0.2.2.2.2.2.2.1 a0.2.2.2.2.2.2.2.1 y_3.2.1.1 y_3.2.1.2.1 y_3.2.1.2.2.1.1 y_3.2.1.2.2.1.2.1 y_3.2.1.2.2.1.2.2.1 y_3.2.1.2.2.1.2.2.2.1 y_3.2.1.2.2.2.1.1 y_3.2.1.2.2.2.1.2.1 y_3.2.1.2.2.2.1.2.2.1 y_3.2.1.2.2.2.1.2.2.2.1 y_3.2.1.2.2.2.2.1.1 y_3.2.1.2.2.2.2.1.2.1 y_3.2.1.2.2.2.2.1.2.2.1 y_3.2.1.2.2.2.2.1.2.2.2.1 y_3.2.1.2.2.2.2.2.1 y_3.2.1.2.2.2.2.2.2.1 y_3.2.1.2.2.2.2.2.2.2.1 y_3.2.1.2.2.2.2.2.2.2.2.1 y_3.2.1.2.2.2.2.2.2.2.2.2.1 y_3.2.1.2.2.2.2.2.2.2.2.2.2.1 y_3.2.1.2.2.2.2.2.2.2.2.2.2.2.1 else none)) ((nth y a1.toNat).bind fun y_2 => (WR big a0.2.2.2.1 y_2 (List.take zC8 (List.drop (0 : Nat) a0.2.2.2.2.2.2.2.1))).bind fun y_3 => (Dv y a1.toNat y_2).bind fun y => Ye n a1 (↑(List.length a0.2.2.2.2.2.2.2.1) : Int) y_3.1 y_3.2.2.1 a0.1 a0.2.1 a0.2.2.1 a0.2.2.2.1 y a0.2.2.2.2.2.1 a0.2.2.2.2.2.2.1 a0.2.2.2.2.2.2.2.1 y_3.2.1.1 y_3.2.1.2.1 y_3.2.1.2.2.1.1 y_3.2.1.2.2.1.2.1 y_3.2.1.2.2.1.2.2.1 y_3.2.1.2.2.1.2.2.2.1 y_3.2.1.2.2.2.1.1 y_3.2.1.2.2.2.1.2.1 y_3.2.1.2.2.2.1.2.2.1 y_3.2.1.2.2.2.1.2.2.2.1 y_3.2.1.2.2.2.2.1.1 y_3.2.1.2.2.2.2.1.2.1 y_3.2.1.2.2.2.2.1.2.2.1 y_3.2.1.2.2.2.2.1.2.2.2.1 y_3.2.1.2.2.2.2.2.1 y_3.2.1.2.2.2.2.2.2.1 y_3.2.1.2.2.2.2.2.2.2.1 y_3.2.1.2.2.2.2.2.2.2.2.1 y_3.2.1.2.2.2.2.2.2.2.2.2.1 y_3.2.1.2.2.2.2.2.2.2.2.2.2.1 y_3.2.1.2.2.2.2.2.2.2.2.2.2.2.1)) ((↑(List.length a0.2.2.2.2.2.2.2.1) : Int).toNat - (0 : Nat)) else none else none := by kernel_rfl
theorem Dt (n : Nat) (s1 s5 : Int) (s6 : (List Zr)) (s8 b5_0 : Int) (b5_1 : Bool) (b5_2 : Int) (b5_3 : (List Zr)) (b5_4 : (List ZK)) (b5_5 : (List Zc)) (b5_6 : (List Zg)) (b5_7 : (List ZG)) (b26_0 b26_1 : Int) (b26_2 b26_3 : Int) (b26_4 b26_5 : Int) (b26_6 b26_7 : Int) (b26_8 b26_9 : Int) (b26_10 b26_11 : Int) (b26_12 b26_13 : Int) (b26_14 : (List Int)) (b26_15 : (List Zf)) (b26_16 : (List Int)) (b26_17 : (List Zs)) (b26_18 : (List Zg)) (b26_19 : (List Zc)) (b26_20 : Int) : Ye (n + 1) s1 s5 s6 s8 b5_0 b5_1 b5_2 b5_3 b5_4 b5_5 b5_6 b5_7 b26_0 b26_1 b26_2 b26_3 b26_4 b26_5 b26_6 b26_7 b26_8 b26_9 b26_10 b26_11 b26_12 b26_13 b26_14 b26_15 b26_16 b26_17 b26_18 b26_19 b26_20 = bif decide (s8 < 0) then some (false, (b5_0, b5_1, b5_2, b5_3, b5_4, b5_5, b5_6, b5_7, ()), ()) else if 0 ≤ s1 then if s1 < (↑b5_4.length : Int) then (nth b5_4 s1.toNat).bind fun y => if 0 ≤ s5 then if s5 ≤ (↑b5_7.length : Int) then if (0 : Nat) + (List.take (b5_7.length - s5.toNat) (List.drop s5.toNat b5_7)).length ≤ lim then (Hb big s6 (b26_0, b26_1, (b26_2, b26_3, b26_4, b26_5, ()), (b26_6, b26_7, b26_8, b26_9, ()), (b26_10, b26_11, b26_12, b26_13, ()), b26_14, b26_15, b26_16, b26_17, b26_18, b26_19, b26_20, ()) s8 b5_0).bind fun y => (Dv b5_4 s1.toNat (b26_0, b26_1, (b26_2, b26_3, b26_4, b26_5, ()), (b26_6, b26_7, b26_8, b26_9, ()), (b26_10, b26_11, b26_12, b26_13, ()), b26_14, b26_15, b26_16, b26_17, b26_18, b26_19, b26_20, ())).bind fun y_1 => (VO big (b5_0, b5_1, b5_2, s6, y_1, b5_5, b5_6, List.take (b5_7.length - s5.toNat) (List.drop s5.toNat b5_7), ()) y).bind fun y => some (true, y.2) else none else none else none else none else none := by kernel_rfl
def Zlx : Yq := [(180, Za6), (181, Oc), (182, MH), (183, Od), (184, Zap), (106, W9), (185, Zf0), (186, Zf4)]
theorem Zly : Yr Zlx := cons_cons Zd8 (cons_cons Zak (cons_cons IX (cons_cons Zar (cons_cons ZdO (cons_cons Wt (cons_cons Zir (cons_cons Ziw (Zh))))))))
def Zqx : KP := []
def Zlz (n : Nat) (x : AP.denL [.mu Zx, .ro WN]) := evX (true, true, [3, 7, 11, 12, 13, 17, 19, 20, 21, 24, 28, 33, 39, 46, 55, 61, 66, 67, 69, 73, 74, 75, 77, 79, 80, 81, 83, 84, 85, 87]) Zlx Zqx [none] Tryz.f134 (shO (shV ZC) [.mu Zx]) n (AP.encL [.mu Zx, .ro WN] x)
def ZlA : Con := apS [.mu Zx, .ro WN] true (shO (shV ZC) [.mu Zx]) (Zlz big)
theorem ZlB : ZJ Tryz.prog 134 ZlA := YU ⟨Tryz.f134, by kernel_rfl, rfl, by decide⟩ fun _ _ h => Zw Zly (f := Tryz.f134) (by kernel_rfl) rfl (by kernel_rfl) (by kernel_rfl) big h
def Za7 (n : Nat) (a0 : Zp) (a1 : VJ) : Option (Bool × Zp × Unit) := Zlz n (a0, a1, ())
theorem ZlC (n : Nat) (a0 : Zp) (a1 : VJ) : Za7 n a0 a1 =
  bif decide (a1.fst = (1 : Int)) then
 bif decide ((8 : Int) ≤ (↑(List.length a0.snd.snd.snd.snd.snd.snd.snd.fst) : Int)) then some (false, a0, PUnit.unit)
 else
 X4
 (X4
 (if (0 : Nat) + List.length a0.snd.snd.snd.snd.snd.snd.snd.fst ≤ lim then
 if List.length a0.snd.snd.snd.snd.snd.snd.snd.fst + [a1.snd.snd.snd.snd.fst].length ≤ lim then
 some
 (true,
 (a0.fst, a0.snd.fst, a0.snd.snd.fst, a0.snd.snd.snd.fst, a0.snd.snd.snd.snd.fst,
 a0.snd.snd.snd.snd.snd.fst, a0.snd.snd.snd.snd.snd.snd.fst,
 List.append a0.snd.snd.snd.snd.snd.snd.snd.fst [a1.snd.snd.snd.snd.fst], PUnit.unit),
 PUnit.unit)
 else none
 else none)
 (if (0 : Nat) + List.length a0.snd.snd.snd.snd.snd.snd.snd.fst ≤ lim then
 if List.length a0.snd.snd.snd.snd.snd.snd.snd.fst + [a1.snd.snd.snd.snd.fst].length ≤ lim then
 some
 (true,
 (a0.fst, a0.snd.fst, a0.snd.snd.fst, a0.snd.snd.snd.fst, a0.snd.snd.snd.snd.fst,
 a0.snd.snd.snd.snd.snd.fst, a0.snd.snd.snd.snd.snd.snd.fst,
 List.append a0.snd.snd.snd.snd.snd.snd.snd.fst [a1.snd.snd.snd.snd.fst], PUnit.unit),
 PUnit.unit)
 else none
 else none))
 (if (0 : Nat) + List.length a0.snd.snd.snd.snd.snd.snd.snd.fst ≤ lim then
 if List.length a0.snd.snd.snd.snd.snd.snd.snd.fst + [a1.snd.snd.snd.snd.fst].length ≤ lim then
 some
 (true,
 (a0.fst, a0.snd.fst, a0.snd.snd.fst, a0.snd.snd.snd.fst, a0.snd.snd.snd.snd.fst,
 a0.snd.snd.snd.snd.snd.fst, a0.snd.snd.snd.snd.snd.snd.fst,
 List.append a0.snd.snd.snd.snd.snd.snd.snd.fst [a1.snd.snd.snd.snd.fst], PUnit.unit),
 PUnit.unit)
 else none
 else none)
 else
 bif decide (a1.fst = (2 : Int)) then (Hu big a0 a1.snd.fst).bind fun y => some y
 else
 bif decide (a1.fst = (3 : Int)) then (Ef big a0 a1.snd.fst).bind fun y => some y
 else
 bif decide (a1.fst = (4 : Int)) then (Fr big a0 a1.snd.fst).bind fun y => some (y.fst.snd.fst, y.snd)
 else
 bif decide (a1.fst = (5 : Int)) then (Oe big a0 a1.snd.fst).bind fun y => some y
 else
 bif decide (a1.fst = (6 : Int)) then (Hl big a0 a1.snd.fst).bind fun y => some y
 else
 bif decide (a1.fst = (7 : Int)) then
 (Wn big a0 a1.snd.fst).bind fun y =>
 bif !y then some (false, a0, PUnit.unit)
 else
 if (0 : Int) ≤ a1.snd.fst then
 if a1.snd.fst < (↑(List.length a0.snd.snd.snd.snd.fst) : Int) then
 (nth a0.snd.snd.snd.snd.fst (Int.toNat a1.snd.fst)).bind fun y =>
 (MJ big a0.snd.snd.snd.fst y).bind fun y_1 =>
 (Dv a0.snd.snd.snd.snd.fst (Int.toNat a1.snd.fst) y).bind fun y =>
 if (0 : Int) ≤ a1.snd.fst then
 if a1.snd.fst < (↑y.length : Int) then
 (nth y (Int.toNat a1.snd.fst)).bind fun y_2 =>
 (Dv y (Int.toNat a1.snd.fst) y_1).bind fun y =>
 some
 (true,
 (a0.fst, a0.snd.fst, a0.snd.snd.fst, a0.snd.snd.snd.fst, y,
 a0.snd.snd.snd.snd.snd),
 PUnit.unit)
 else none
 else none
 else none
 else none
 else (MK big a0 a1).bind fun y => some y := by kernel_rfl
def Fx : Yq := [(63, Cc), (62, Vr), (133, F7), (59, YY), (135, OC), (134, ZlA)]
theorem Ziy : Yr Fx := cons_cons A4 (cons_cons W7 (cons_cons MA (cons_cons Yw (cons_cons Za2 (cons_cons ZlB (Zh))))))
abbrev AB : Vz := ([.is (.ptr 0 0), .ro Zb, .drop, .drop, .is (.ptr 1 0), .drop, .is (.ptr 8 0), .drop, .ro Zb, .drop, .drop, .drop, .drop, .drop, .drop, .drop, .drop, .drop, .drop, .drop, .drop, .drop, .drop, .drop, .drop, .drop, .drop, .drop, .drop, .drop, .drop, .drop], [.vars [.ro Yv, .ro Zb, .ro Zb], .vars [.ro Zb, .ro ZC, .ro Zb, .own YV, .own ZQ, .own ZP, .own Z4, .own W6], .drop, .drop, .drop, .drop, .drop, .drop, .vars [.ro Zb, .ro ZC, .ro Zb, .own ZO, .own Ya, .own Zj, .own Zt, .own ZV]])
def Za8 : KP := [(4, AB)]
def Zf5 (n : Nat) (x : AP.denL [.mr Zz, .ro Zk]) := evX (false, false, [6]) Fx Za8 [some Zx] Tryz.f70 (shO (shF Zx) [.mr Zz]) n (AP.encL [.mr Zz, .ro Zk] x)
def Zf6 : Con := apS [.mr Zz, .ro Zk] false (shO (shF Zx) [.mr Zz]) (Zf5 big)
theorem Ziz : ZJ Tryz.prog 70 Zf6 := YU ⟨Tryz.f70, by kernel_rfl, rfl, by decide⟩ fun _ _ h => Zw Ziy (f := Tryz.f70) (by kernel_rfl) rfl (by kernel_rfl) (by kernel_rfl) big h
def ML (n : Nat) (a0 : ZM) (a1 : Int) : Option (Zp × ZM × Unit) := Zf5 n (a0, a1, ())
def ZlD (n : Nat) (x : KD AB.1) (y : BD AB.2) := Z6 (env (false, false, [6]) Fx) Za8 (body Tryz.f70) (Vn (false, false, [6]) Fx [some Zx] Tryz.f70 (shO (shF Zx) [.mr Zz]) [AP.enc (.mr Zz) (ZR Zz), AP.enc (.ro Zk) (ZR Zk)]) n 4 AB x y
def AC (n : Nat) (s1 : Int) (s8 : Int) (b0_0 : XP) (b0_1 : Int) (b0_2 : Int) (b1_0 : Int) (b1_1 : Bool) (b1_2 : Int) (b1_3 : (List Zv)) (b1_4 : (List Zn)) (b1_5 : (List Zy)) (b1_6 : (List Z3)) (b1_7 : (List Xd)) (b8_0 : Int) (b8_1 : Bool) (b8_2 : Int) (b8_3 : (List Zr)) (b8_4 : (List ZK)) (b8_5 : (List Zc)) (b8_6 : (List Zg)) (b8_7 : (List ZG)) : Option (Zp × ZM × Unit) := ZlD n (s1, s8, ()) ((b0_0, b0_1, b0_2, ()), (b1_0, b1_1, b1_2, b1_3, b1_4, b1_5, b1_6, b1_7, ()), (b8_0, b8_1, b8_2, b8_3, b8_4, b8_5, b8_6, b8_7, ()), ())
theorem ZiA (n : Nat) (a0 : ZM) (a1 : Int) : ML n a0 a1 =
  (Jv big a0 (2 : Int)).bind fun y =>
 (XT big y.snd.fst [(0 : Int), (8 : Int), (8 : Int), (1 : Int), (2 : Int)]).bind fun y_1 =>
 (A8 big (4 : Int) y.fst y_1.fst).bind fun y =>
 AC n a1 (0 : Int) y_1.snd.fst.fst y_1.snd.fst.snd.fst y_1.snd.fst.snd.snd.fst (0 : Int) false
 (0 : Int) [] [] [] [] [] y.fst.fst y.fst.snd.fst y.fst.snd.snd.fst y.fst.snd.snd.snd.fst
 y.fst.snd.snd.snd.snd.fst y.fst.snd.snd.snd.snd.snd.fst y.fst.snd.snd.snd.snd.snd.snd.fst
 y.fst.snd.snd.snd.snd.snd.snd.snd.fst := by kernel_rfl
theorem Eo (n : Nat) (s1 : Int) (s8 : Int) (b0_0 : XP) (b0_1 : Int) (b0_2 : Int) (b1_0 : Int) (b1_1 : Bool) (b1_2 : Int) (b1_3 : (List Zv)) (b1_4 : (List Zn)) (b1_5 : (List Zy)) (b1_6 : (List Z3)) (b1_7 : (List Xd)) (b8_0 : Int) (b8_1 : Bool) (b8_2 : Int) (b8_3 : (List Zr)) (b8_4 : (List ZK)) (b8_5 : (List Zc)) (b8_6 : (List Zg)) (b8_7 : (List ZG)) : AC (n + 1) s1 s8 b0_0 b0_1 b0_2 b1_0 b1_1 b1_2 b1_3 b1_4 b1_5 b1_6 b1_7 b8_0 b8_1 b8_2 b8_3 b8_4 b8_5 b8_6 b8_7 =
  (ZA big (b0_0, b0_1, b0_2, ()) s1).bind fun y =>
 bif decide (s8 < IntKind.i64.wrap ((4 : Int) + y.fst)) then
 (En big y.snd.fst (b8_0, b8_1, b8_2, b8_3, b8_4, b8_5, b8_6, b8_7, ())).bind fun y =>
 (Za7 big (b8_0, b8_1, b8_2, y.snd.snd.fst.snd.snd.snd) y.fst).bind fun y_1 =>
 AC n s1 (IntKind.i64.wrap (s8 + (1 : Int))) y.snd.fst.fst y.snd.fst.snd.fst y.snd.fst.snd.snd.fst
 b1_0 b1_1 b1_2 b1_3 b1_4 b1_5 b1_6 b1_7 y_1.snd.fst.fst y_1.snd.fst.snd.fst y_1.snd.fst.snd.snd.fst
 y_1.snd.fst.snd.snd.snd.fst y_1.snd.fst.snd.snd.snd.snd.fst y_1.snd.fst.snd.snd.snd.snd.snd.fst
 y_1.snd.fst.snd.snd.snd.snd.snd.snd.fst y_1.snd.fst.snd.snd.snd.snd.snd.snd.snd.fst
 else some ((b8_0, b8_1, b8_2, b8_3, b8_4, b8_5, b8_6, b8_7, PUnit.unit), y.snd) := by kernel_rfl
def Za9 : Yq := [(70, Zf6), (59, YY)]
theorem Zea : Yr Za9 := cons_cons Ziz (cons_cons Yw (Zh))
def ZlE : KP := []
def Zba (n : Nat) (x : AP.denL [.mr Zz]) := evX (false, true, [4, 7, 9, 12]) Za9 ZlE [some Yt, some ZI] Tryz.f56 (shO (shT [(true, Yt), (true, ZI)]) [.mr Zz]) n (AP.encL [.mr Zz] x)
def Zbb : Con := apS [.mr Zz] false (shO (shT [(true, Yt), (true, ZI)]) [.mr Zz]) (Zba big)
theorem Zeb : ZJ Tryz.prog 56 Zbb := YU ⟨Tryz.f56, by kernel_rfl, rfl, by decide⟩ fun _ _ h => Zw Zea (f := Tryz.f56) (by kernel_rfl) rfl (by kernel_rfl) (by kernel_rfl) big h
def Hw (n : Nat) (a0 : ZM) : Option ((Zi × Zn × Unit) × ZM × Unit) := Zba n (a0, ())
theorem Zec (n : Nat) (a0 : ZM) : Hw n a0 =
  (ML big a0 (26 : Int)).bind fun y =>
 X4
 ((ZA big y.snd.fst (↑(List.length y.fst.snd.snd.snd.snd.fst) : Int)).bind fun y_1 =>
 if (0 : Int) ≤ y_1.fst then
 if y_1.fst < (↑(List.length y.fst.snd.snd.snd.snd.fst) : Int) then
 (nth y.fst.snd.snd.snd.snd.fst (Int.toNat y_1.fst)).bind fun y_2 =>
 some ((y.fst.snd.snd.snd.fst, y_2, PUnit.unit), y_1.snd)
 else none
 else none)
 (X4
 (X4
 ((ZA big y.snd.fst (↑(List.length y.fst.snd.snd.snd.snd.fst) : Int)).bind fun y_1 =>
 if (0 : Int) ≤ y_1.fst then
 if y_1.fst < (↑(List.length y.fst.snd.snd.snd.snd.fst) : Int) then
 (nth y.fst.snd.snd.snd.snd.fst (Int.toNat y_1.fst)).bind fun y_2 =>
 some ((y.fst.snd.snd.snd.fst, y_2, PUnit.unit), y_1.snd)
 else none
 else none)
 (X4
 (X4
 (X4
 ((ZA big y.snd.fst (↑(List.length y.fst.snd.snd.snd.snd.fst) : Int)).bind fun y_1 =>
 if (0 : Int) ≤ y_1.fst then
 if y_1.fst < (↑(List.length y.fst.snd.snd.snd.snd.fst) : Int) then
 (nth y.fst.snd.snd.snd.snd.fst (Int.toNat y_1.fst)).bind fun y_2 =>
 some ((y.fst.snd.snd.snd.fst, y_2, PUnit.unit), y_1.snd)
 else none
 else none)
 ((ZA big y.snd.fst (↑(List.length y.fst.snd.snd.snd.snd.fst) : Int)).bind fun y_1 =>
 if (0 : Int) ≤ y_1.fst then
 if y_1.fst < (↑(List.length y.fst.snd.snd.snd.snd.fst) : Int) then
 (nth y.fst.snd.snd.snd.snd.fst (Int.toNat y_1.fst)).bind fun y_2 =>
 some ((y.fst.snd.snd.snd.fst, y_2, PUnit.unit), y_1.snd)
 else none
 else none))
 ((ZA big y.snd.fst (↑(List.length y.fst.snd.snd.snd.snd.fst) : Int)).bind fun y_1 =>
 if (0 : Int) ≤ y_1.fst then
 if y_1.fst < (↑(List.length y.fst.snd.snd.snd.snd.fst) : Int) then
 (nth y.fst.snd.snd.snd.snd.fst (Int.toNat y_1.fst)).bind fun y_2 =>
 some ((y.fst.snd.snd.snd.fst, y_2, PUnit.unit), y_1.snd)
 else none
 else none))
 (X4
 ((ZA big y.snd.fst (↑(List.length y.fst.snd.snd.snd.snd.fst) : Int)).bind fun y_1 =>
 if (0 : Int) ≤ y_1.fst then
 if y_1.fst < (↑(List.length y.fst.snd.snd.snd.snd.fst) : Int) then
 (nth y.fst.snd.snd.snd.snd.fst (Int.toNat y_1.fst)).bind fun y_2 =>
 some ((y.fst.snd.snd.snd.fst, y_2, PUnit.unit), y_1.snd)
 else none
 else none)
 (X4
 (X4
 ((ZA big y.snd.fst (↑(List.length y.fst.snd.snd.snd.snd.fst) : Int)).bind fun y_1 =>
 if (0 : Int) ≤ y_1.fst then
 if y_1.fst < (↑(List.length y.fst.snd.snd.snd.snd.fst) : Int) then
 (nth y.fst.snd.snd.snd.snd.fst (Int.toNat y_1.fst)).bind fun y_2 =>
 some ((y.fst.snd.snd.snd.fst, y_2, PUnit.unit), y_1.snd)
 else none
 else none)
 ((ZA big y.snd.fst (↑(List.length y.fst.snd.snd.snd.snd.fst) : Int)).bind fun y_1 =>
 if (0 : Int) ≤ y_1.fst then
 if y_1.fst < (↑(List.length y.fst.snd.snd.snd.snd.fst) : Int) then
 (nth y.fst.snd.snd.snd.snd.fst (Int.toNat y_1.fst)).bind fun y_2 =>
 some ((y.fst.snd.snd.snd.fst, y_2, PUnit.unit), y_1.snd)
 else none
 else none))
 (X4
 ((ZA big y.snd.fst (↑(List.length y.fst.snd.snd.snd.snd.fst) : Int)).bind fun y_1 =>
 if (0 : Int) ≤ y_1.fst then
 if y_1.fst < (↑(List.length y.fst.snd.snd.snd.snd.fst) : Int) then
 (nth y.fst.snd.snd.snd.snd.fst (Int.toNat y_1.fst)).bind fun y_2 =>
 some ((y.fst.snd.snd.snd.fst, y_2, PUnit.unit), y_1.snd)
 else none
 else none)
 ((ZA big y.snd.fst (↑(List.length y.fst.snd.snd.snd.snd.fst) : Int)).bind fun y_1 =>
 if (0 : Int) ≤ y_1.fst then
 if y_1.fst < (↑(List.length y.fst.snd.snd.snd.snd.fst) : Int) then
 (nth y.fst.snd.snd.snd.snd.fst (Int.toNat y_1.fst)).bind fun y_2 =>
 some ((y.fst.snd.snd.snd.fst, y_2, PUnit.unit), y_1.snd)
 else none
 else none))))))
 (X4
 ((ZA big y.snd.fst (↑(List.length y.fst.snd.snd.snd.snd.fst) : Int)).bind fun y_1 =>
 if (0 : Int) ≤ y_1.fst then
 if y_1.fst < (↑(List.length y.fst.snd.snd.snd.snd.fst) : Int) then
 (nth y.fst.snd.snd.snd.snd.fst (Int.toNat y_1.fst)).bind fun y_2 =>
 some ((y.fst.snd.snd.snd.fst, y_2, PUnit.unit), y_1.snd)
 else none
 else none)
 (X4
 (X4
 ((ZA big y.snd.fst (↑(List.length y.fst.snd.snd.snd.snd.fst) : Int)).bind fun y_1 =>
 if (0 : Int) ≤ y_1.fst then
 if y_1.fst < (↑(List.length y.fst.snd.snd.snd.snd.fst) : Int) then
 (nth y.fst.snd.snd.snd.snd.fst (Int.toNat y_1.fst)).bind fun y_2 =>
 some ((y.fst.snd.snd.snd.fst, y_2, PUnit.unit), y_1.snd)
 else none
 else none)
 (X4
 (X4
 ((ZA big y.snd.fst (↑(List.length y.fst.snd.snd.snd.snd.fst) : Int)).bind fun y_1 =>
 if (0 : Int) ≤ y_1.fst then
 if y_1.fst < (↑(List.length y.fst.snd.snd.snd.snd.fst) : Int) then
 (nth y.fst.snd.snd.snd.snd.fst (Int.toNat y_1.fst)).bind fun y_2 =>
 some ((y.fst.snd.snd.snd.fst, y_2, PUnit.unit), y_1.snd)
 else none
 else none)
 ((ZA big y.snd.fst (↑(List.length y.fst.snd.snd.snd.snd.fst) : Int)).bind fun y_1 =>
 if (0 : Int) ≤ y_1.fst then
 if y_1.fst < (↑(List.length y.fst.snd.snd.snd.snd.fst) : Int) then
 (nth y.fst.snd.snd.snd.snd.fst (Int.toNat y_1.fst)).bind fun y_2 =>
 some ((y.fst.snd.snd.snd.fst, y_2, PUnit.unit), y_1.snd)
 else none
 else none))
 (X4
 ((ZA big y.snd.fst (↑(List.length y.fst.snd.snd.snd.snd.fst) : Int)).bind fun y_1 =>
 if (0 : Int) ≤ y_1.fst then
 if y_1.fst < (↑(List.length y.fst.snd.snd.snd.snd.fst) : Int) then
 (nth y.fst.snd.snd.snd.snd.fst (Int.toNat y_1.fst)).bind fun y_2 =>
 some ((y.fst.snd.snd.snd.fst, y_2, PUnit.unit), y_1.snd)
 else none
 else none)
 ((ZA big y.snd.fst (↑(List.length y.fst.snd.snd.snd.snd.fst) : Int)).bind fun y_1 =>
 if (0 : Int) ≤ y_1.fst then
 if y_1.fst < (↑(List.length y.fst.snd.snd.snd.snd.fst) : Int) then
 (nth y.fst.snd.snd.snd.snd.fst (Int.toNat y_1.fst)).bind fun y_2 =>
 some ((y.fst.snd.snd.snd.fst, y_2, PUnit.unit), y_1.snd)
 else none
 else none))))
 (X4
 (X4
 ((ZA big y.snd.fst (↑(List.length y.fst.snd.snd.snd.snd.fst) : Int)).bind fun y_1 =>
 if (0 : Int) ≤ y_1.fst then
 if y_1.fst < (↑(List.length y.fst.snd.snd.snd.snd.fst) : Int) then
 (nth y.fst.snd.snd.snd.snd.fst (Int.toNat y_1.fst)).bind fun y_2 =>
 some ((y.fst.snd.snd.snd.fst, y_2, PUnit.unit), y_1.snd)
 else none
 else none)
 ((ZA big y.snd.fst (↑(List.length y.fst.snd.snd.snd.snd.fst) : Int)).bind fun y_1 =>
 if (0 : Int) ≤ y_1.fst then
 if y_1.fst < (↑(List.length y.fst.snd.snd.snd.snd.fst) : Int) then
 (nth y.fst.snd.snd.snd.snd.fst (Int.toNat y_1.fst)).bind fun y_2 =>
 some ((y.fst.snd.snd.snd.fst, y_2, PUnit.unit), y_1.snd)
 else none
 else none))
 ((ZA big y.snd.fst (↑(List.length y.fst.snd.snd.snd.snd.fst) : Int)).bind fun y_1 =>
 if (0 : Int) ≤ y_1.fst then
 if y_1.fst < (↑(List.length y.fst.snd.snd.snd.snd.fst) : Int) then
 (nth y.fst.snd.snd.snd.snd.fst (Int.toNat y_1.fst)).bind fun y_2 =>
 some ((y.fst.snd.snd.snd.fst, y_2, PUnit.unit), y_1.snd)
 else none
 else none))))) := by kernel_rfl
def Zbc : Yq := [(59, YY)]
theorem Zed : Yr Zbc := cons_cons Yw (Zh)
def ZlF : KP := []
def Zbd (n : Nat) (x : AP.denL [.mr Zz, .io Xb]) := evX (false, false, []) Zbc ZlF [none] Tryz.f150 (shO (shV Z4) [.mr Zz, .io Xb]) n (AP.encL [.mr Zz, .io Xb] x)
def Hx : Con := apS [.mr Zz, .io Xb] false (shO (shV Z4) [.mr Zz, .io Xb]) (Zbd big)
theorem Gp : ZJ Tryz.prog 150 Hx := YU ⟨Tryz.f150, by kernel_rfl, rfl, by decide⟩ fun _ _ h => Zw Zed (f := Tryz.f150) (by kernel_rfl) rfl (by kernel_rfl) (by kernel_rfl) big h
def CD (n : Nat) (a0 : ZM) (a1 : Zi) : Option (Z3 × ZM × Zi × Unit) := Zbd n (a0, a1, ())
theorem Zee (n : Nat) (a0 : ZM) (a1 : Zi) : CD n a0 a1 = (ZA big a0 4).bind fun y => (ZA big y.2.1 4).bind fun y_1 => (ZA big y_1.2.1 (↑(List.length a1) : Int)).bind fun y_2 => if 0 ≤ y_2.1 then if y_2.1 < (↑(List.length a1) : Int) then (nth a1 (Int.toNat y_2.1)).bind fun y_3 => some ((IntKind.i64.wrap (1 + y.1), y_3.2.1, y_2.1, y_1.1, ()), y_2.2.1, a1, ()) else none else none := by kernel_rfl
def ZlG : Yq := [(59, YY), (150, Hx), (62, Vr)]
theorem ZlH : Yr ZlG := cons_cons Yw (cons_cons Gp (cons_cons W7 (Zh)))
def Zqy : KP := []
def ZlI (n : Nat) (x : AP.denL [.mr Zz, .io Xb]) := evX (false, false, [7, 8, 16, 18, 20, 999999, 999996, 1000007, 1000016, 1000018, 1000020, 3000003]) ZlG Zqy [none] Tryz.f86 (shO (shV Wl) [.mr Zz, .io Xb]) n (AP.encL [.mr Zz, .io Xb] x)
def ZlJ : Con := apS [.mr Zz, .io Xb] false (shO (shV Wl) [.mr Zz, .io Xb]) (ZlI big)
theorem ZlK : ZJ Tryz.prog 86 ZlJ := YU ⟨Tryz.f86, by kernel_rfl, rfl, by decide⟩ fun _ _ h => Zw ZlH (f := Tryz.f86) (by kernel_rfl) rfl (by kernel_rfl) (by kernel_rfl) big h
def I6 (n : Nat) (a0 : ZM) (a1 : Zi) : Option (Bw × ZM × Zi × Unit) := ZlI n (a0, a1, ())
theorem ZlL (n : Nat) (a0 : ZM) (a1 : Zi) : I6 n a0 a1 = (ZA big a0 10).bind fun y => (ZA big y.2.1 60).bind fun y_1 => (CD big y_1.2.1 a1).bind fun y_2 => (XT big y_2.2.1 [(7 : Int), 15, 11, 14]).bind fun y_3 => bif decide (y.1 = 0) then some ((0, 0, 0, 0, ()), y_3.2.1, y_2.2.2) else bif decide (y.1 = 1) then if 0 ≤ Int.tmod y_1.1 5 then if Int.tmod y_1.1 5 < (↑[(3 : Int), (-1), 127, 128, 0].length : Int) then (nth [(3 : Int), (-1), 127, 128, 0] (Int.tmod y_1.1 5).toNat).bind fun y => some ((y_2.1.1, y_2.1.2.1, y_2.1.2.2.1, y, ()), y_3.2.1, y_2.2.2) else none else none else bif decide (y.1 = 2) then some ((y_2.1.1, y_1.1, y_2.1.2.2.1, y_3.1, ()), y_3.2.1, y_2.2.2) else bif decide (y.1 = 3) then some ((y_2.1.1, y_2.1.2.1, IntKind.i64.wrap (Int.tmod y_1.1 70 - 1), y_3.1, ()), y_3.2.1, y_2.2.2) else some ((y_2.1.1, y_2.1.2.1, y_2.1.2.2.1, y_3.1, ()), y_3.2.1, y_2.2.2) := by kernel_rfl
def Zf7 : Yq := [(59, YY), (150, Hx)]
theorem ZiB : Yr Zf7 := cons_cons Yw (cons_cons Gp (Zh))
def ZnU : KP := []
def Zf8 (n : Nat) (x : AP.denL [.mr Zz, .io Xb]) := evX (false, false, [7]) Zf7 ZnU [none] Tryz.f132 (shO (shV Z4) [.mr Zz, .io Xb]) n (AP.encL [.mr Zz, .io Xb] x)
def Zf9 : Con := apS [.mr Zz, .io Xb] false (shO (shV Z4) [.mr Zz, .io Xb]) (Zf8 big)
theorem ZiC : ZJ Tryz.prog 132 Zf9 := YU ⟨Tryz.f132, by kernel_rfl, rfl, by decide⟩ fun _ _ h => Zw ZiB (f := Tryz.f132) (by kernel_rfl) rfl (by kernel_rfl) (by kernel_rfl) big h
def MM (n : Nat) (a0 : ZM) (a1 : Zi) : Option (Z3 × ZM × Zi × Unit) := Zf8 n (a0, a1, ())
theorem ZiD (n : Nat) (a0 : ZM) (a1 : Zi) : MM n a0 a1 = (ZA big a0 10).bind fun y => (ZA big y.2.1 60).bind fun y_1 => (CD big y_1.2.1 a1).bind fun y_2 => bif decide (y.1 = 0) then some ((Int.tmod y_1.1 6, y_2.1.2), y_2.2) else bif decide (y.1 = 1) then some ((y_2.1.1, y_1.1, y_2.1.2.2), y_2.2) else bif decide (y.1 = 2) then some ((y_2.1.1, y_2.1.2.1, IntKind.i64.wrap (Int.tmod y_1.1 70 - 1), y_2.1.2.2.2), y_2.2) else bif decide (y.1 = 3) then some ((y_2.1.1, y_2.1.2.1, y_2.1.2.2.1, IntKind.i64.wrap (Int.tmod y_1.1 9 - 1), ()), y_2.2) else some y_2 := by kernel_rfl
def Zga : Yq := [(59, YY), (56, Zbb), (68, Xr), (86, ZlJ), (132, Zf9)]
theorem ZiE : Yr Zga := cons_cons Yw (cons_cons Zeb (cons_cons YT (cons_cons ZlK (cons_cons ZiC (Zh)))))
def ZnV : KP := []
def Zgb (n : Nat) (x : AP.denL [.mr Zz]) := evX (false, false, [7, 50, 59]) Zga ZnV [some Yt, some ZI] Tryz.f61 (shO (shT [(true, Yt), (true, ZI)]) [.mr Zz]) n (AP.encL [.mr Zz] x)
def Zgc : Con := apS [.mr Zz] false (shO (shT [(true, Yt), (true, ZI)]) [.mr Zz]) (Zgb big)
theorem ZiF : ZJ Tryz.prog 61 Zgc := YU ⟨Tryz.f61, by kernel_rfl, rfl, by decide⟩ fun _ _ h => Zw ZiE (f := Tryz.f61) (by kernel_rfl) rfl (by kernel_rfl) (by kernel_rfl) big h
def MN (n : Nat) (a0 : ZM) : Option ((Zi × Zn × Unit) × ZM × Unit) := Zgb n (a0, ())
theorem ZiG (n : Nat) (a0 : ZM) : MN n a0 =
  (ZA big a0 (14 : Int)).bind fun y =>
 (ZA big y.snd.fst (60 : Int)).bind fun y_1 =>
 (Hw big y_1.snd.fst).bind fun y_2 =>
 (YW big y_2.fst.snd.fst).bind fun y_3 =>
 bif decide (y.fst = (0 : Int)) then
 some
 ((y_2.fst.fst, (IntKind.i64.wrap (Int.tmod y_1.fst (6 : Int) - (1 : Int)), y_3.snd), PUnit.unit), y_2.snd)
 else
 bif decide (y.fst = (1 : Int)) then
 some ((y_2.fst.fst, (y_3.fst, y_1.fst, y_3.snd.snd), PUnit.unit), y_2.snd)
 else
 bif decide (y.fst = (2 : Int)) then
 (I6 big y_2.snd.fst y_2.fst.fst).bind fun y =>
 some
 ((y.snd.snd.fst, (y_3.fst, y_3.snd.fst, y.fst, y_3.snd.snd.snd), PUnit.unit), y.snd.fst, PUnit.unit)
 else
 bif decide (y.fst = (3 : Int)) then
 (I6 big y_2.snd.fst y_2.fst.fst).bind fun y =>
 some
 ((y.snd.snd.fst, (y_3.fst, y_3.snd.fst, y_3.snd.snd.fst, y.fst, y_3.snd.snd.snd.snd), PUnit.unit),
 y.snd.fst, PUnit.unit)
 else
 bif decide (y.fst = (4 : Int)) then
 (MM big y_2.snd.fst y_2.fst.fst).bind fun y =>
 some
 ((y.snd.snd.fst,
 (y_3.fst, y_3.snd.fst, y_3.snd.snd.fst, y_3.snd.snd.snd.fst, y.fst,
 y_3.snd.snd.snd.snd.snd),
 PUnit.unit),
 y.snd.fst, PUnit.unit)
 else
 bif decide (y.fst = (5 : Int)) then
 if List.length y_3.snd.snd.snd.snd.snd.fst + (1 : Nat) ≤ lim then
 some
 ((y_2.fst.fst,
 (y_3.fst, y_3.snd.fst, y_3.snd.snd.fst, y_3.snd.snd.snd.fst, y_3.snd.snd.snd.snd.fst,
 List.append y_3.snd.snd.snd.snd.snd.fst [Int.tmod y_1.fst (9 : Int)],
 y_3.snd.snd.snd.snd.snd.snd),
 PUnit.unit),
 y_2.snd)
 else none
 else
 bif decide (y.fst = (6 : Int)) then
 if List.length y_3.snd.snd.snd.snd.snd.snd.snd.fst + (1 : Nat) ≤ lim then
 some
 ((y_2.fst.fst,
 (y_3.fst, y_3.snd.fst, y_3.snd.snd.fst, y_3.snd.snd.snd.fst, y_3.snd.snd.snd.snd.fst,
 y_3.snd.snd.snd.snd.snd.fst, y_3.snd.snd.snd.snd.snd.snd.fst,
 List.append y_3.snd.snd.snd.snd.snd.snd.snd.fst
 [IntKind.i64.wrap (Int.tmod y_1.fst (9 : Int) - (1 : Int))],
 y_3.snd.snd.snd.snd.snd.snd.snd.snd),
 PUnit.unit),
 y_2.snd)
 else none
 else some ((y_2.fst.fst, y_3, PUnit.unit), y_2.snd) := by kernel_rfl
def I7 : Yq := []
theorem Ps : Yr I7 := Zh
def Zef : KP := []
def I8 (n : Nat) (x : YG [Yu]) := evX (false, false, []) I7 Zef [some Y6] Tryz.f127 (shF Y6) n (YP [Yu] x)
def I9 : Con := roS [Yu] true (shF Y6) (I8 big)
theorem Pt : ZJ Tryz.prog 127 I9 := ZD ⟨Tryz.f127, by kernel_rfl, rfl, by decide⟩ fun _ _ h => Zw Ps (f := Tryz.f127) (by kernel_rfl) rfl (by kernel_rfl) (by kernel_rfl) big h
def KY (n : Nat) (a0 : Yp) : Option Yp := I8 n (a0, ())
theorem Pu (n : Nat) (a0 : Yp) : KY n a0 = Zol a0 fun b => bif b then some [] else if (0 : Nat) + List.length a0 ≤ lim then some a0 else none := by kernel_rfl
def Ep : Yq := []
theorem La : Yr Ep := Zh
def Pv : KP := []
def Er (n : Nat) (x : YG [Zm]) := evX (false, false, []) Ep Pv [some ZE] Tryz.f128 (shF ZE) n (YP [Zm] x)
def Xk : Con := roS [Zm] true (shF ZE) (Er big)
theorem Y0 : ZJ Tryz.prog 128 Xk := ZD ⟨Tryz.f128, by kernel_rfl, rfl, by decide⟩ fun _ _ h => Zw La (f := Tryz.f128) (by kernel_rfl) rfl (by kernel_rfl) (by kernel_rfl) big h
def Y1 (n : Nat) (a0 : Zq) : Option Zq := Er n (a0, ())
theorem Lb (n : Nat) (a0 : Zq) : Y1 n a0 = Zol a0 fun b => bif b then some [] else if (0 : Nat) + List.length a0 ≤ lim then some a0 else none := by kernel_rfl
def Es : Yq := []
theorem Lc : Yr Es := Zh
def Pw : KP := []
def Et (n : Nat) (x : YG [Yi]) := evX (false, false, []) Es Pw [some Wm] Tryz.f129 (shF Wm) n (YP [Yi] x)
def Eu : Con := roS [Yi] true (shF Wm) (Et big)
theorem Ld : ZJ Tryz.prog 129 Eu := ZD ⟨Tryz.f129, by kernel_rfl, rfl, by decide⟩ fun _ _ h => Zw Lc (f := Tryz.f129) (by kernel_rfl) rfl (by kernel_rfl) (by kernel_rfl) big h
def JK (n : Nat) (a0 : YA) : Option YA := Et n (a0, ())
theorem Le (n : Nat) (a0 : YA) : JK n a0 = Zol a0 fun b => bif b then some [] else if (0 : Nat) + List.length a0 ≤ lim then some a0 else none := by kernel_rfl
def Ev : Yq := []
theorem Lf : Yr Ev := Zh
def Px : KP := []
def Ew (n : Nat) (x : YG [ZS]) := evX (false, false, []) Ev Px [some Fe] Tryz.f130 (shF Fe) n (YP [ZS] x)
def Ey : Con := roS [ZS] true (shF Fe) (Ew big)
theorem Lg : ZJ Tryz.prog 130 Ey := ZD ⟨Tryz.f130, by kernel_rfl, rfl, by decide⟩ fun _ _ h => Zw Lf (f := Tryz.f130) (by kernel_rfl) rfl (by kernel_rfl) (by kernel_rfl) big h
def JL (n : Nat) (a0 : Yn) : Option Yn := Ew n (a0, ())
theorem Lh (n : Nat) (a0 : Yn) : JL n a0 = Zol a0 fun b => bif b then some [] else if (0 : Nat) + List.length a0 ≤ lim then some a0 else none := by kernel_rfl
def BL : Yq := []
theorem FI : Yr BL := Zh
def Li : KP := []
def BM (n : Nat) (x : YG [ZN]) := evX (false, false, []) BL Li [some ZW] Tryz.f131 (shF ZW) n (YP [ZN] x)
def BN : Con := roS [ZN] true (shF ZW) (BM big)
theorem FJ : ZJ Tryz.prog 131 BN := ZD ⟨Tryz.f131, by kernel_rfl, rfl, by decide⟩ fun _ _ h => Zw FI (f := Tryz.f131) (by kernel_rfl) rfl (by kernel_rfl) (by kernel_rfl) big h
def Qr (n : Nat) (a0 : ZX) : Option ZX := BM n (a0, ())
theorem FK (n : Nat) (a0 : ZX) : Qr n a0 = Zol a0 fun b => bif b then some [] else if (0 : Nat) + List.length a0 ≤ lim then some a0 else none := by kernel_rfl
def Lj : Yq := [(127, I9), (128, Xk), (129, Eu), (130, Ey), (131, BN)]
theorem Py : Yr Lj := cons_cons Pt (cons_cons Y0 (cons_cons Ld (cons_cons Lg (cons_cons FJ (Zh)))))
def Zeg : KP := []
def Lk (n : Nat) (x : YG [ZQ]) := evX (false, false, [1, 3, 6, 9, 12, 15, 18]) Lj Zeg [some ZI] Tryz.f60 (shF ZI) n (YP [ZQ] x)
def KZ : Con := roS [ZQ] true (shF ZI) (Lk big)
theorem Kd : ZJ Tryz.prog 60 KZ := ZD ⟨Tryz.f60, by kernel_rfl, rfl, by decide⟩ fun _ _ h => Zw Py (f := Tryz.f60) (by kernel_rfl) rfl (by kernel_rfl) (by kernel_rfl) big h
def UL (n : Nat) (a0 : Zn) : Option Zn := Lk n (a0, ())
theorem Pz (n : Nat) (a0 : Zn) : UL n a0 = (KY big a0.2.2.2.2.2.1).bind fun y => (Y1 big a0.2.2.2.2.2.2.1).bind fun y_1 => (KY big a0.2.2.2.2.2.2.2.1).bind fun y_2 => (JK big a0.2.2.2.2.2.2.2.2.1).bind fun y_3 => (JL big a0.2.2.2.2.2.2.2.2.2.1).bind fun y_4 => (Qr big a0.2.2.2.2.2.2.2.2.2.2.1).bind fun y_5 => some (a0.1, a0.2.1, a0.2.2.1, a0.2.2.2.1, a0.2.2.2.2.1, y, y_1, y_2, y_3, y_4, y_5, a0.2.2.2.2.2.2.2.2.2.2.2) := by kernel_rfl
def ZuJ : Yq := []
theorem Zsn : Yr ZuJ := Zh
def Zvx : KP := []
def ZuK (n : Nat) (x : YG [Zk, Zk, Zk]) := evX (false, false, []) ZuJ Zvx [none] Tryz.f64 (shV ZC) n (YP [Zk, Zk, Zk] x)
def OE : Con := roS [Zk, Zk, Zk] true (shV ZC) (ZuK big)
theorem JM : ZJ Tryz.prog 64 OE := ZD ⟨Tryz.f64, by kernel_rfl, rfl, by decide⟩ fun _ _ h => Zw Zsn (f := Tryz.f64) (by kernel_rfl) rfl (by kernel_rfl) (by kernel_rfl) big h
def Da (n : Nat) (a0 a1 a2 : Int) : Option Bool := ZuK n (a0, a1, a2, ())
theorem ZlM (n : Nat) (a0 a1 a2 : Int) : Da n a0 a1 a2 = bif decide (a1 ≤ a0) then some (decide (a0 ≤ a2)) else some false := by kernel_rfl
def Ll : Yq := [(64, OE)]
theorem ZlN : Yr Ll := cons_cons JM (Zh)
abbrev CE : Vz := (.ro Zu :: dp 4 (.ro Zb :: .ro Zb :: dp 16 []), [])
def Zgd : KP := [(2, CE)]
def ZlO (n : Nat) (x : YG [Zu]) := evX (false, false, []) Ll Zgd [none] Tryz.f207 (shV ZC) n (YP [Zu] x)
def Lm : Con := roS [Zu] true (shV ZC) (ZlO big)
theorem Ez : ZJ Tryz.prog 207 Lm := ZD ⟨Tryz.f207, by kernel_rfl, rfl, by decide⟩ fun _ _ h => Zw ZlN (f := Tryz.f207) (by kernel_rfl) rfl (by kernel_rfl) (by kernel_rfl) big h
def EA (n : Nat) (a0 : ByteArray) : Option Bool := ZlO n (a0, ())
def ZnW (n : Nat) (x : KD CE.1) (y : BD CE.2) := Z6 (env (false, false, []) Ll) Zgd (body Tryz.f207) (Vn (false, false, []) Ll [none] Tryz.f207 (shV ZC) [.val Zu (ZR Zu)]) n 2 CE x y
def CF (n : Nat) (s0 : ByteArray) (s5 s6 : Int) : Option Bool := ZnW n (s0, s5, s6, ()) ()
theorem ZlP (n : Nat) (a0 : ByteArray) : EA n a0 = CF n a0 (↑a0.size : Int) 0 := by kernel_rfl
theorem Gq (n : Nat) (s0 : ByteArray) (s5 s6 : Int) : CF (n + 1) s0 s5 s6 = bif decide (s6 < s5) then if 0 ≤ s6 then (nth s0.data.toList s6.toNat).bind fun y => bif decide ((↑y.toNat : Int) < 97) then some false else if 0 ≤ s6 then (nth s0.data.toList s6.toNat).bind fun y => bif decide (122 < (↑y.toNat : Int)) then some false else CF n s0 s5 (IntKind.i64.wrap (s6 + 1)) else none else none else (Da big (↑s0.size : Int) 1 3).bind fun y => some y := by kernel_rfl
def ZlQ : Yq := [(64, OE)]
theorem ZlR : Yr ZlQ := cons_cons JM (Zh)
def Zqz : KP := []
def ZlS (n : Nat) (x : YG [Zk]) := evX (false, false, []) ZlQ Zqz [none] Tryz.f208 (shV ZC) n (YP [Zk] x)
def Lo : Con := roS [Zk] true (shV ZC) (ZlS big)
theorem EB : ZJ Tryz.prog 208 Lo := ZD ⟨Tryz.f208, by kernel_rfl, rfl, by decide⟩ fun _ _ h => Zw ZlR (f := Tryz.f208) (by kernel_rfl) rfl (by kernel_rfl) (by kernel_rfl) big h
def EC (n : Nat) (a0 : Int) : Option Bool := ZlS n (a0, ())
theorem ZlT (n : Nat) (a0 : Int) : EC n a0 = (Da big a0 0 1000000000).bind fun y => some y := by kernel_rfl
def K2 : Yq := [(207, Lm), (208, Lo)]
theorem PA : Yr K2 := cons_cons Ez (cons_cons EB (Zh))
abbrev UM : Vz := (.ro Zm :: dp 4 (.ro Zm :: .ro Zb :: .ro Zb :: dp 30 []), [])
def Gr : KP := [(2, UM)]
def Lq (n : Nat) (x : YG [Zm]) := evX (false, false, [4, 12, 17, 32]) K2 Gr [none] Tryz.f229 (shV ZC) n (YP [Zm] x)
def Lu : Con := roS [Zm] true (shV ZC) (Lq big)
theorem PB : ZJ Tryz.prog 229 Lu := ZD ⟨Tryz.f229, by kernel_rfl, rfl, by decide⟩ fun _ _ h => Zw PA (f := Tryz.f229) (by kernel_rfl) rfl (by kernel_rfl) (by kernel_rfl) big h
def Lw (n : Nat) (a0 : Zq) : Option Bool := Lq n (a0, ())
def Zbe (n : Nat) (x : KD UM.1) (y : BD UM.2) := Z6 (env (false, false, [4, 12, 17, 32]) K2) Gr (body Tryz.f229) (Vn (false, false, [4, 12, 17, 32]) K2 [none] Tryz.f229 (shV ZC) [.val Zm (ZR Zm)]) n 2 UM x y
def WW (n : Nat) (s0 s5 : Zq) (s6 s7 : Int) : Option Bool := Zbe n (s0, s5, s6, s7, ()) ()
theorem PC (n : Nat) (a0 : Zq) : Lw n a0 = WW n a0 a0 (↑(List.length a0) : Int) 0 := by kernel_rfl
theorem AD (n : Nat) (s0 s5 : Zq) (s6 s7 : Int) : WW (n + 1) s0 s5 s6 s7 = bif decide (s7 < s6) then if 0 ≤ s7 then (nth s5 s7.toNat).bind fun y => (EA big y.1).bind fun y_1 => bif !y_1 then some false else (EC big y.2.1).bind fun y_2 => bif !y_2 then some false else bif decide (0 < s7) then if 0 ≤ IntKind.i64.wrap (s7 - 1) then (nth s0 (IntKind.i64.wrap (s7 - 1)).toNat).bind fun y_3 => bif !Op.bytesLess (ByteArray.toList y_3.1) (ByteArray.toList y.1) then some false else WW n s0 s5 s6 (IntKind.i64.wrap (s7 + 1)) else none else WW n s0 s5 s6 (IntKind.i64.wrap (s7 + 1)) else none else some true := by kernel_rfl
def Zbf : Yq := [(229, Lu)]
theorem Zeh : Yr Zbf := cons_cons PB (Zh)
def ZlU : KP := []
def Zbg (n : Nat) (x : YG [Zm]) := evX (false, false, []) Zbf ZlU [none] Tryz.f191 (shV ZC) n (YP [Zm] x)
def Hy : Con := roS [Zm] true (shV ZC) (Zbg big)
theorem Gs : ZJ Tryz.prog 191 Hy := ZD ⟨Tryz.f191, by kernel_rfl, rfl, by decide⟩ fun _ _ h => Zw Zeh (f := Tryz.f191) (by kernel_rfl) rfl (by kernel_rfl) (by kernel_rfl) big h
def WX (n : Nat) (a0 : Zq) : Option Bool := Zbg n (a0, ())
theorem Zei (n : Nat) (a0 : Zq) : WX n a0 = bif decide ((↑(List.length a0) : Int) ≤ 12) then (Lw big a0).bind fun y => some y else some false := by kernel_rfl
def ZlV : Yq := [(64, OE), (207, Lm), (208, Lo)]
theorem ZlW : Yr ZlV := cons_cons JM (cons_cons Ez (cons_cons EB (Zh)))
def ZqA : KP := []
def ZlX (n : Nat) (x : YG [W6]) := evX (false, false, [1, 3, 7, 12]) ZlV ZqA [none] Tryz.f192 (shV ZC) n (YP [W6] x)
def ZlY : Con := roS [W6] true (shV ZC) (ZlX big)
theorem ZlZ : ZJ Tryz.prog 192 ZlY := ZD ⟨Tryz.f192, by kernel_rfl, rfl, by decide⟩ fun _ _ h => Zw ZlW (f := Tryz.f192) (by kernel_rfl) rfl (by kernel_rfl) (by kernel_rfl) big h
def Zbh (n : Nat) (a0 : Xd) : Option Bool := ZlX n (a0, ())
theorem Zl0 (n : Nat) (a0 : Xd) : Zbh n a0 = (Da big a0.1 1 3).bind fun y => bif y then (EA big a0.2.1).bind fun y => bif y then (EC big a0.2.2.1).bind fun y => some y else some false else some false := by kernel_rfl
def OF : Yq := []
theorem Zbi : Yr OF := Zh
def ZiH : KP := []
def Zl1 (n : Nat) (x : AP.denL [.ro Z9, .mr Zu]) := evX (false, false, [1, 2, 4]) OF ZiH [none] Tryz.f228 (shO (shV ZC) [.mr Zu]) n (AP.encL [.ro Z9, .mr Zu] x)
def OG : Con := apS [.ro Z9, .mr Zu] true (shO (shV ZC) [.mr Zu]) (Zl1 big)
theorem Zbj : ZJ Tryz.prog 228 OG := YU ⟨Tryz.f228, by kernel_rfl, rfl, by decide⟩ fun _ _ h => Zw Zbi (f := Tryz.f228) (by kernel_rfl) rfl (by kernel_rfl) (by kernel_rfl) big h
def YK : Yq := [(228, OG)]
theorem Ud : Yr YK := cons_cons Zbj (Zh)
abbrev YB : Vz := (.ro Zm :: .is (.fn 228 [.ptr 0 0]) :: dp 5 (.ro Zb :: .ro Zb :: dp 10 []), [.vars [.ro Zu]])
def XX : KP := [(2, YB)]
def X7 (n : Nat) (x : AP.denL [.ro Zm, .fn 228 [Zu]]) := evX (false, false, []) YK XX [none] Tryz.f227 (shO (shV Zk) [.fn 228 [Zu]]) n (AP.encL [.ro Zm, .fn 228 [Zu]] x)
def X8 : Con := apS [.ro Zm, .fn 228 [Zu]] true (shO (shV Zk) [.fn 228 [Zu]]) (X7 big)
theorem Ue : ZJ Tryz.prog 227 X8 := YU ⟨Tryz.f227, by kernel_rfl, rfl, by decide⟩ fun _ _ h => Zw Ud (f := Tryz.f227) (by kernel_rfl) rfl (by kernel_rfl) (by kernel_rfl) big h
def X9 (n : Nat) (a0 : Zq) (a1 : (ByteArray × Unit)) : Option (Int × (ByteArray × Unit) × Unit) := X7 n (a0, a1, ())
def UN (n : Nat) (x : KD YB.1) (y : BD YB.2) := Z6 (env (false, false, []) YK) XX (body Tryz.f227) (Vn (false, false, []) YK [none] Tryz.f227 (shO (shV Zk) [.fn 228 [Zu]]) [AP.enc (.ro Zm) (ZR Zm), AP.enc (.fn 228 [Zu]) (ZR Zu, ())]) n 2 YB x y
def YC (n : Nat) (s0 : Zq) (s7 s8 : Int) (b0_0 : ByteArray) : Option (Int × (ByteArray × Unit) × Unit) := UN n (s0, s7, s8, ()) ((b0_0, ()), ())
theorem Uf (n : Nat) (a0 : Zq) (a1 : (ByteArray × Unit)) : X9 n a0 a1 = YC n a0 (↑(List.length a0) : Int) 0 a1.1 := by kernel_rfl
theorem Xy (n : Nat) (s0 : Zq) (s7 s8 : Int) (b0_0 : ByteArray) : YC (n + 1) s0 s7 s8 b0_0 = bif decide (s8 < s7) then if 0 ≤ s8 then (nth s0 s8.toNat).bind fun y => bif decide (y.1 = b0_0) then some (s8, (b0_0, ()), ()) else YC n s0 s7 (IntKind.i64.wrap (s8 + 1)) b0_0 else none else some ((-1), (b0_0, ()), ()) := by kernel_rfl
def Zge : Yq := [(227, X8)]
theorem ZiI : Yr Zge := cons_cons Ue (Zh)
def ZnX : KP := []
def Zgf (n : Nat) (x : YG [Zm, Zu]) := evX (false, false, []) Zge ZnX [none] Tryz.f190 (shV Zk) n (YP [Zm, Zu] x)
def Fy : Con := roS [Zm, Zu] true (shV Zk) (Zgf big)
theorem CG : ZJ Tryz.prog 190 Fy := ZD ⟨Tryz.f190, by kernel_rfl, rfl, by decide⟩ fun _ _ h => Zw ZiI (f := Tryz.f190) (by kernel_rfl) rfl (by kernel_rfl) (by kernel_rfl) big h
def BO (n : Nat) (a0 : Zq) (a1 : ByteArray) : Option Int := Zgf n (a0, a1, ())
theorem ZiJ (n : Nat) (a0 : Zq) (a1 : ByteArray) : BO n a0 a1 = (X9 big a0 (a1, ())).bind fun y => some y.1 := by kernel_rfl
end
end Go.Sx.Tryz
