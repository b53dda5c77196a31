/- The functions of the seat: what each comes to. -/
import Derived.Test.YtddbjmambkepkaaGreatDoorTypes
import Derived.Test.YtddbjmambkepkaaGreatDoorScriptRemarksF1
set_option linter.unusedVariables false
set_option linter.unusedSimpArgs false
set_option maxRecDepth 100000
namespace Go.Sx.Tryz
open Go Go.Sx Go.Proofs
open Go.IntKind renaming i64 → K6
noncomputable section
abbrev Iy : W0 := (.drop :: .ro YA :: dp 4 (.own Zn :: .own Zc :: .ro Zc :: dp 28 []), [])
def Gz := FX.mk (false, false, []) ZeF [(4, Iy)] [some Xx, some AY] Tryz.f216 (shT [(true, Xx), (true, AY)])
def Su : Con := cR Gz [ZO, YA] true
theorem Zbq : CO 216 Su := ZI Ss
def Au (n : Nat) (a0 : Z6) (a1 : VY) : Option (Z6 × WO × Unit) := qR Gz [ZO, YA] n (a0, a1, ())
def Qk (n : Nat) (s1 : VY) (s6 : List Zu) (s7 : List Int) (s8 : Int) : Option (Z6 × WO × Unit) := rR Gz (zs [ZO, YA]) 4 Iy n (s1, s6, s7, s8, ()) ()
theorem Zbr (n : Nat) (a0 a1) : Au n a0 a1 = if (0 : Nat) + List.length a0 ≤ lim then Qk n a1 a0 [] 0 else none := by kernel_rfl
theorem Bf (n : Nat) (s1 s6 s7 s8) : Qk (n + 1) s1 s6 s7 s8 = bif decide (s8 < (↑(List.length s1) : Int)) then if 0 ≤ s8 then (nth s1 s8.toNat).bind fun y => (Pj big s6 y).bind fun y => if s7.length + (1 : Nat) ≤ lim then Qk n s1 y.1 (s7.append [y.2.1]) (K6.wrap (s8 + 1)) else none else none else some (s6, s7, ()) := by kernel_rfl
def GA : Yf := (216, Su) :: ZeF
theorem E2 : Yg GA := cons_cons Zbq Ss
def Zc8 := FX.mk (false, false, []) GA [] [none] Tryz.f340 (shV Jz)
def Zc9 : Con := cR Zc8 [ZO, Zf] true
theorem ZeG : CO 340 Zc9 := ZI E2
def Mk (n : Nat) (a0 : Z6) (a1 : ByteArray) : Option Xv := qR Zc8 [ZO, Zf] n (a0, a1, ())
theorem ZeH (n : Nat) (a0 a1) : Mk n a0 a1 = (Ee big a0 a1).bind fun y => bif decide (y < 0) then some (a1, false, 0, ()) else if 0 ≤ y then (nth a0 (Int.toNat y)).bind fun y => some (a1, true, y.2) else none := by kernel_rfl
def Ml : Yf := (340, Zc9) :: GA
theorem Iz : Yg Ml := cons_cons ZeG E2
abbrev NQ : W0 := (.ro ZO :: dp 2 (.is (.ptr 0 0) :: .drop :: .own Zn :: .ro Zc :: dp 50 []), [.vars [.ro Zf, .ro ZA, .ro Zc]])
def Mm := FX.mk (false, false, [3, 11, 17, 25, 28, 30, 46]) Ml [(7, NQ)] [some Xx] Tryz.f345 (shF Xx)
def Zda : Con := cR Mm [ZO, Jz] true
theorem ZeI : CO 345 Zda := ZI Iz
def Mn (n : Nat) (a0 : Z6) (a1 : Xv) : Option Z6 := qR Mm [ZO, Jz] n (a0, a1, ())
def Uu (n : Nat) (s0 : Z6) (s5 : List Zu) (s6 : Int) (aa : ByteArray) (ab : Bool) (ac : Int) : Option Z6 := rR Mm (zs [ZO, Jz]) 7 NQ n (s0, s5, s6, ()) ((aa, ab, ac, ()), ())
theorem ZeJ (n : Nat) (a0 a1) : Mn n a0 a1 = (As big a0).bind fun y => bif !y then if (0 : Nat) + List.length a0 ≤ lim then some a0 else none else (JC big a1.1).bind fun y => bif !y then if (0 : Nat) + List.length a0 ≤ lim then some a0 else none else (ZB big a1.2.2.1 0 1000000000).bind fun y => bif !y then if (0 : Nat) + List.length a0 ≤ lim then some a0 else none else bif a1.2.1 then (XA big a0 (a1.1, a1.2.2)).bind fun y => some y else Uu n a0 [] 0 a1.1 a1.2.1 a1.2.2.1 := by kernel_rfl
theorem CQ (n : Nat) (s0 s5 s6 aa ab ac) : Uu (n + 1) s0 s5 s6 aa ab ac = bif decide (s6 < (↑(List.length s0) : Int)) then if 0 ≤ s6 then (nth s0 s6.toNat).bind fun y => bif !decide (y.1 = aa) then if 0 ≤ s6 then (nth s0 s6.toNat).bind fun y => if s5.length + [y].length ≤ lim then Uu n s0 (s5.append [y]) (K6.wrap (s6 + 1)) aa ab ac else none else none else Uu n s0 s5 (K6.wrap (s6 + 1)) aa ab ac else none else some s5 := by kernel_rfl
def Mo : Yf := (345, Zda) :: Ml
theorem IA : Yg Mo := cons_cons ZeI Iz
abbrev CR : W0 := (.drop :: .ro Wx :: dp 3 (.own Zn :: .ro Zc :: dp 17 []), [])
def Av := FX.mk (false, false, []) Mo [(3, CR)] [some Xx] Tryz.f338 (shF Xx)
def IB : Con := cR Av [ZO, Wx] true
theorem OM : CO 338 IB := ZI IA
def Aw (n : Nat) (a0 : Z6) (a1 : Qd) : Option Z6 := qR Av [ZO, Wx] n (a0, a1, ())
def Vw (n : Nat) (s1 : Qd) (s5 : List Zu) (s6 : Int) : Option Z6 := rR Av (zs [ZO, Wx]) 3 CR n (s1, s5, s6, ()) ()
theorem ON (n : Nat) (a0 a1) : Aw n a0 a1 = if (0 : Nat) + List.length a0 ≤ lim then Vw n a1 a0 (K6.wrap ((↑(List.length a1) : Int) - 1)) else none := by kernel_rfl
theorem Kv (n : Nat) (s1 s5 s6) : Vw (n + 1) s1 s5 s6 = bif decide (0 ≤ s6) then if 0 ≤ s6 then (nth s1 s6.toNat).bind fun y => (Mn big s5 y).bind fun y => Vw n s1 y (K6.wrap (s6 - 1)) else none else some s5 := by kernel_rfl
def Ay : Yf := (338, IB) :: Mo
theorem Bg : Yg Ay := cons_cons OM IA
abbrev E3 : W0 := (.drop :: .ro YA :: dp 4 (.own Zn :: .own Zv :: .ro Zc :: dp 31 []), [])
def CS := FX.mk (false, false, []) Ay [(4, E3)] [some Xx, some Ph] Tryz.f320 (shT [(true, Xx), (true, Ph)])
def NR : Con := cR CS [ZO, YA] true
theorem Sv : CO 320 NR := ZI Bg
def CT (n : Nat) (a0 : Z6) (a1 : VY) : Option (Z6 × Qd × Unit) := qR CS [ZO, YA] n (a0, a1, ())
def Uf (n : Nat) (s1 : VY) (s6 : List Zu) (s7 : List ZC) (s8 : Int) : Option (Z6 × Qd × Unit) := rR CS (zs [ZO, YA]) 4 E3 n (s1, s6, s7, s8, ()) ()
theorem Sw (n : Nat) (a0 a1) : CT n a0 a1 = if (0 : Nat) + List.length a0 ≤ lim then Uf n a1 a0 [] 0 else none := by kernel_rfl
theorem JH (n : Nat) (s1 s6 s7 s8) : Uf (n + 1) s1 s6 s7 s8 = bif decide (s8 < (↑(List.length s1) : Int)) then if 0 ≤ s8 then (nth s1 s8.toNat).bind fun y => (Mk big s6 y.2.1).bind fun y => if s7.length + [y].length ≤ lim then if 0 ≤ s8 then (nth s1 s8.toNat).bind fun a => (Pj big s6 a).bind fun b => Uf n s1 b.1 (s7.append [y]) (K6.wrap (s8 + 1)) else none else none else none else some (s6, s7, ()) := by kernel_rfl
def CU : Yf := (320, NR) :: Ay
theorem CW : Yg CU := cons_cons Sv Bg
def Sz := FX.mk (false, false, [2, 3, 4, 5, 7, 8, 9, 12, 14, 16, 18, 20]) CU [] [] Tryz.f318 (shO shN [.mu ZQ])
def SA : Con := cA Sz [.mu ZQ] true
theorem Zbs : CO 318 SA := Vr CW
def Az (n : Nat) (a0 : Zw) : Option (Unit × Zw × Unit) := qA Sz [.mu ZQ] n (a0, ())
theorem Zbt (n : Nat) (a0) : Az n a0 = (Aw big a0.2.2.2.2.2.2.1 a0.2.2.2.2.2.2.2.2.1).bind fun y => some ((), (a0.1, a0.2.1, a0.2.2.1, a0.2.2.2.1, a0.2.2.2.2.1, a0.2.2.2.2.2.1, y, [], [], a0.2.2.2.2.2.2.2.2.2), ()) := by kernel_rfl
def GB : Yf := (318, SA) :: CU
theorem E4 : Yg GB := cons_cons Zbs CW
abbrev IC : W0 := (.ro Zj :: dp 5 (.is (.ptr 1 0) :: .is (.ptr 8 0) :: .is (.own 15 0) :: .ro Zc :: dp 46 []), [.drop, .vars (rp 14 Zc [.own Zk, .own Jy, .own Zk, .own Jz, .own Z8, .own ZJ, .ro Zc]), .drop, .drop, .drop, .drop, .drop, .drop, .vars (rp 14 Zc [.own Zc, .own Zn, .own Zc, .own Zv, .own Zh, .own Zd, .ro Zc]), .drop, .drop, .drop, .drop, .drop, .drop, .arr Zc])
def GC := FX.mk (false, false, [4, 7, 31, 41]) GB [(7, IC)] [some ZQ] Tryz.f275 (shF ZQ)
def SB : Con := cR GC [Zj, Yo, Zk] true
theorem Zbu : CO 275 SB := ZI E4
def AA (n : Nat) (a0 : ZE) (a1 : Zw) (a2 : Int) : Option Zw := qR GC [Zj, Yo, Zk] n (a0, a1, a2, ())
def Ql (n : Nat) (s0 : ZE) (s9 aa ab ac ad ae af ag ah ai aj ak al am an : Int) (ao : List Int) (ap : List Ys) (aq : List Int) (ar : List Xv) (au : List Z3) (av : List Zo) (aw ax ay az ba bb bc bd be bf bg bh bi bj bk : Int) (bl : List Int) (bm : List Zu) (bn : List Int) (bo : List ZC) (bp : List Zl) (bq : List Zg) (br : Int) (b15 : List Int) : Option Zw := rR GC (zs [Zj, Yo, Zk]) 7 IC n (s0, s9, ()) ((aa, ab, ac, ad, ae, af, ag, ah, ai, aj, ak, al, am, an, ao, ap, aq, ar, au, av, aw, ()), (ax, ay, az, ba, bb, bc, bd, be, bf, bg, bh, bi, bj, bk, bl, bm, bn, bo, bp, bq, br, ()), b15, ())
theorem Zbv (n : Nat) (a0 a1 a2) : AA n a0 a1 a2 = (YS big a1).bind fun y => (QM big a1).bind fun a => (QK big a0 a2 a).bind fun c => bif !c then some y else (Az big y).bind fun y => (QM big a1).bind fun b => (Kt big a0 a2 b).bind fun d => Ql n a0 0 0 0 0 0 0 0 0 0 0 0 0 0 0 0 [] [] [] [] [] [] 0 y.2.1.1 y.2.1.2.1 y.2.1.2.2.1.1 y.2.1.2.2.1.2.1 y.2.1.2.2.1.2.2.1 y.2.1.2.2.1.2.2.2.1 y.2.1.2.2.2.1.1 y.2.1.2.2.2.1.2.1 y.2.1.2.2.2.1.2.2.1 y.2.1.2.2.2.1.2.2.2.1 y.2.1.2.2.2.2.1.1 y.2.1.2.2.2.2.1.2.1 y.2.1.2.2.2.2.1.2.2.1 y.2.1.2.2.2.2.1.2.2.2.1 y.2.1.2.2.2.2.2.1 y.2.1.2.2.2.2.2.2.1 y.2.1.2.2.2.2.2.2.2.1 y.2.1.2.2.2.2.2.2.2.2.1 y.2.1.2.2.2.2.2.2.2.2.2.1 y.2.1.2.2.2.2.2.2.2.2.2.2.1 y.2.1.2.2.2.2.2.2.2.2.2.2.2.1 d := by kernel_rfl
theorem Bh (n : Nat) (s0 s9 aa ab ac ad ae af ag ah ai aj ak al am an ao ap aq ar au av aw ax ay az ba bb bc bd be bf bg bh bi bj bk bl bm bn bo bp bq br b15) : Ql (n + 1) s0 s9 aa ab ac ad ae af ag ah ai aj ak al am an ao ap aq ar au av aw ax ay az ba bb bc bd be bf bg bh bi bj bk bl bm bn bo bp bq br b15 = bif decide (s9 < (↑b15.length : Int)) then if 0 ≤ s9 then if s9 < (↑b15.length : Int) then (nth b15 s9.toNat).bind fun y => if bl.length + [y].length ≤ lim then if 0 ≤ s9 then if s9 < (↑b15.length : Int) then (nth b15 s9.toNat).bind fun a => if 0 ≤ a then (nth s0 (Int.toNat a)).bind fun c => (Au big bm c.2.2.1).bind fun b => Ql n s0 (K6.wrap (s9 + 1)) aa ab ac ad ae af ag ah ai aj ak al am an ao ap aq ar au av aw ax ay az ba bb bc bd be bf bg bh bi bj bk (bl.append [y]) b.1 bn bo bp bq br b15 else none else none else none else none else none else none else some (ax, ay, (az, ba, bb, bc, ()), (bd, be, bf, bg, ()), (bh, bi, bj, bk, ()), bl, bm, bn, bo, bp, bq, br, ()) := by kernel_rfl
def GD : Yf := (275, SB) :: GB
theorem E5 : Yg GD := cons_cons Zbu E4
abbrev E6 : W0 := (.ro Zj :: dp 5 (.is (.ptr 1 0) :: .is (.ptr 8 0) :: .is (.own 15 0) :: .ro Zc :: dp 47 []), [.drop, .vars (rp 14 Zc [.own Zk, .own Jy, .own Zk, .own Jz, .own Z8, .own ZJ, .ro Zc]), .drop, .drop, .drop, .drop, .drop, .drop, .vars (rp 14 Zc [.own Zc, .own Zn, .own Zc, .own Zv, .own Zh, .own Zd, .ro Zc]), .drop, .drop, .drop, .drop, .drop, .drop, .arr Zc])
def CX := FX.mk (false, false, [4, 7, 27, 42, 51]) GD [(5, E6)] [some ZQ] Tryz.f277 (shF ZQ)
def NS : Con := cR CX [Zj, Yo, Zk] true
theorem SC : CO 277 NS := ZI E5
def Kw (n : Nat) (a0 : ZE) (a1 : Zw) (a2 : Int) : Option Zw := qR CX [Zj, Yo, Zk] n (a0, a1, a2, ())
def Ug (n : Nat) (s0 : ZE) (s9 aa ab ac ad ae af ag ah ai aj ak al am an : Int) (ao : List Int) (ap : List Ys) (aq : List Int) (ar : List Xv) (au : List Z3) (av : List Zo) (aw ax ay az ba bb bc bd be bf bg bh bi bj bk : Int) (bl : List Int) (bm : List Zu) (bn : List Int) (bo : List ZC) (bp : List Zl) (bq : List Zg) (br : Int) (b15 : List Int) : Option Zw := rR CX (zs [Zj, Yo, Zk]) 5 E6 n (s0, s9, ()) ((aa, ab, ac, ad, ae, af, ag, ah, ai, aj, ak, al, am, an, ao, ap, aq, ar, au, av, aw, ()), (ax, ay, az, ba, bb, bc, bd, be, bf, bg, bh, bi, bj, bk, bl, bm, bn, bo, bp, bq, br, ()), b15, ())
theorem SD (n : Nat) (a0 a1 a2) : Kw n a0 a1 a2 = (YS big a1).bind fun y => (Az big y).bind fun y => (QM big a1).bind fun a => (Kt big a0 a2 a).bind fun b => Ug n a0 0 0 0 0 0 0 0 0 0 0 0 0 0 0 0 [] [] [] [] [] [] 0 y.2.1.1 y.2.1.2.1 y.2.1.2.2.1.1 y.2.1.2.2.1.2.1 y.2.1.2.2.1.2.2.1 y.2.1.2.2.1.2.2.2.1 y.2.1.2.2.2.1.1 y.2.1.2.2.2.1.2.1 y.2.1.2.2.2.1.2.2.1 y.2.1.2.2.2.1.2.2.2.1 y.2.1.2.2.2.2.1.1 y.2.1.2.2.2.2.1.2.1 y.2.1.2.2.2.2.1.2.2.1 y.2.1.2.2.2.2.1.2.2.2.1 y.2.1.2.2.2.2.2.1 y.2.1.2.2.2.2.2.2.1 y.2.1.2.2.2.2.2.2.2.1 y.2.1.2.2.2.2.2.2.2.2.1 y.2.1.2.2.2.2.2.2.2.2.2.1 y.2.1.2.2.2.2.2.2.2.2.2.2.1 y.2.1.2.2.2.2.2.2.2.2.2.2.2.1 b := by kernel_rfl
theorem JI (n : Nat) (s0 s9 aa ab ac ad ae af ag ah ai aj ak al am an ao ap aq ar au av aw ax ay az ba bb bc bd be bf bg bh bi bj bk bl bm bn bo bp bq br b15) : Ug (n + 1) s0 s9 aa ab ac ad ae af ag ah ai aj ak al am an ao ap aq ar au av aw ax ay az ba bb bc bd be bf bg bh bi bj bk bl bm bn bo bp bq br b15 = bif decide (s9 < (↑b15.length : Int)) then if 0 ≤ s9 then if s9 < (↑b15.length : Int) then (nth b15 s9.toNat).bind fun y => if 0 ≤ y then (nth s0 (Int.toNat y)).bind fun y => (CT big bm y.2.2.1).bind fun y => if 0 ≤ s9 then if s9 < (↑b15.length : Int) then (nth b15 s9.toNat).bind fun a => if bn.length + [a].length ≤ lim then if bo.length + List.length y.2.1 ≤ lim then Ug n s0 (K6.wrap (s9 + 1)) aa ab ac ad ae af ag ah ai aj ak al am an ao ap aq ar au av aw ax ay az ba bb bc bd be bf bg bh bi bj bk bl y.1 (bn.append [a]) (bo.append y.2.1) bp bq br b15 else none else none else none else none else none else none else none else some (ax, ay, (az, ba, bb, bc, ()), (bd, be, bf, bg, ()), (bh, bi, bj, bk, ()), bl, bm, bn, bo, bp, bq, br, ()) := by kernel_rfl
def CY : Yf := (277, NS) :: GD
theorem CZ : Yg CY := cons_cons SC E5
def E7 := FX.mk (false, false, [4, 7, 27, 36]) CY [] [some ZQ] Tryz.f202 (shF ZQ)
def E8 : Con := cR E7 [Zj, Yo, Zk] true
theorem Mp : CO 202 E8 := ZI CZ
def X0 (n : Nat) (a0 : ZE) (a1 : Zw) (a2 : Int) : Option Zw := qR E7 [Zj, Yo, Zk] n (a0, a1, a2, ())
theorem Mq (n : Nat) (a0 a1 a2) : X0 n a0 a1 a2 = (YS big a1).bind fun y => (Ks big a0 a2).bind fun a => bif !a.2.2.2.1 then some y else if 0 ≤ a2 then (nth a0 a2.toNat).bind fun g => (YO big y.2.2.1 g.2.2.2.1).bind fun c => if 0 ≤ a.1 then (nth a0 (Int.toNat a.1)).bind fun f => (YO big y.2.2.2.1 f.2.2.2.1).bind fun b => (CC big a0 a2).bind fun e => bif e.2.1 then (AA big a0 (y.1, y.2.1, c, b, y.2.2.2.2) e.1).bind fun y => (QL big a0 a.1 a.2.1).bind fun d => bif d then (Kw big a0 y a.2.1).bind fun y => some y else some y else (QL big a0 a.1 a.2.1).bind fun d => bif d then (Kw big a0 (y.1, y.2.1, c, b, y.2.2.2.2) a.2.1).bind fun y => some y else some (y.1, y.2.1, c, b, y.2.2.2.2) else none else none := by kernel_rfl
def K4 : Yf := (202, E8) :: CY
theorem JJ : Yg K4 := cons_cons Mp CZ
abbrev E9 : W0 := (.ro Zj :: .ro WE :: dp 3 (.own Zn :: .ro Zc :: dp 29 []), [])
def C0 := FX.mk (false, false, []) K4 [(3, E9)] [some Xx] Tryz.f151 (shF Xx)
def NT : Con := cR C0 [Zj, WE] true
theorem SE : CO 151 NT := ZI JJ
def C1 (n : Nat) (a0 : ZE) (a1 : WO) : Option Z6 := qR C0 [Zj, WE] n (a0, a1, ())
def WQ (n : Nat) (s0 : ZE) (s1 : WO) (s5 : List Zu) (s6 : Int) : Option Z6 := rR C0 (zs [Zj, WE]) 3 E9 n (s0, s1, s5, s6, ()) ()
theorem SF (n : Nat) (a0 a1) : C1 n a0 a1 = WQ n a0 a1 [] 0 := by kernel_rfl
theorem JK (n : Nat) (s0 s1 s5 s6) : WQ (n + 1) s0 s1 s5 s6 = bif decide (s6 < (↑(List.length s1) : Int)) then if 0 ≤ s6 then (nth s1 s6.toNat).bind fun y => (ZB big y 0 (K6.wrap ((↑(List.length s0) : Int) - 1))).bind fun y => bif y then if 0 ≤ s6 then (nth s1 s6.toNat).bind fun y => if 0 ≤ y then (nth s0 (Int.toNat y)).bind fun y => (Au big s5 y.2.2.1).bind fun y => WQ n s0 s1 y.1 (K6.wrap (s6 + 1)) else none else none else WQ n s0 s1 s5 (K6.wrap (s6 + 1)) else none else some s5 := by kernel_rfl
def C2 : Yf := (151, NT) :: K4
theorem C3 : Yg C2 := cons_cons SE JJ
def NU := FX.mk (false, false, [5, 10, 16, 24, 32, 41, 45, 50, 54, 61, 65, 71, 75, 83, 88, 94, 99, 106, 114, 118, 119, 121, 126, 127, 129, 137, 141, 142, 144, 150, 154, 155, 157]) C2 [] [none] Tryz.f197 (shV ZA)
def NV : Con := cR NU [Zj, Zk, ZJ] true
theorem SG : CO 197 NV := ZI C3
def Vh (n : Nat) (a0 : ZE) (a1 : Int) (a2 : Zo) : Option Bool := qR NU [Zj, Zk, ZJ] n (a0, a1, a2, ())
theorem SH (n : Nat) (a0 a1 a2) : Vh n a0 a1 a2 = bif decide (a1 < 1) then some false else (ZB big a2.1 1 4).bind fun y => bif !y then some false else (ZB big a2.2.1 0 (K6.wrap (a1 - 1))).bind fun y => bif !y then some false else (ZB big a2.2.2.1 0 (K6.wrap (a1 - 1))).bind fun y => bif !y then some false else (ZB big a2.2.2.2.1 1 900).bind fun y => (fun zC0 => (fun zC1 => bif !y then some false else bif decide (7 < a1) then some false else bif !decide (a2.1 = 1) then bif !decide (a2.2.2.2.2.1 = 0) then some false else bif !decide (a2.1 = 2) then bif !eqD Z8 a2.2.2.2.2.2.2.1 (0, 0, 0, 0, ()) then some false else zC1 else zC1 else bif !decide (a2.1 = 2) then bif !eqD Z8 a2.2.2.2.2.2.2.1 (0, 0, 0, 0, ()) then some false else zC1 else zC1) (bif decide (a2.1 = 2) then bif !eqD Qc a2.2.2.2.2.2.1 (0, 0, 0, 0, ()) then some false else zC0 else zC0)) (bif decide (a2.1 = 1) then (ZB big a2.2.2.2.2.1 1 (K6.wrap ((↑(List.length a0) : Int) - 1))).bind fun y => bif y then if 0 ≤ a2.2.2.2.2.1 then (nth a0 (Int.toNat a2.2.2.2.2.1)).bind fun y => bif decide (y.2.1 = a2.2.2.2.1) then if 0 ≤ a2.2.2.2.2.1 then (nth a0 (Int.toNat a2.2.2.2.2.1)).bind fun y => bif eqD Qc y.2.2.2.1 a2.2.2.2.2.2.1 then (Xr big a0 a1 a2.2.2.2.2.2.1).bind fun y => some y else some false else none else some false else none else some false else bif decide (a2.1 = 2) then (Ec big a0 a1 a2.2.2.2.2.2.2.1).bind fun y => bif y then bif decide (a2.2.2.2.2.2.2.1.2.2.2.1 = a2.2.1) then some (decide (a2.2.2.2.2.2.2.1.2.1 = a2.2.2.2.1)) else some false else some false else bif decide (a2.1 = 3) then (Xr big a0 a1 a2.2.2.2.2.2.1).bind fun y => bif y then some (decide (a2.2.2.2.2.2.1.2.1 = a2.2.2.2.1)) else some false else (Xr big a0 a1 a2.2.2.2.2.2.1).bind fun y => bif y then some (decide (a2.2.2.2.2.2.1.2.1 < a2.2.2.2.1)) else some false) := by kernel_rfl
def C4 : Yf := (197, NV) :: C2
theorem C5 : Yg C4 := cons_cons SG C3
def Zgv := FX.mk (false, false, [7, 9, 10, 11, 12, 14, 18, 20, 25, 26, 27, 28, 32, 36, 37, 38, 39, 43, 47, 49, 50, 52, 55, 60, 61, 63, 64, 65, 69, 70, 71, 76, 77, 79, 82, 88, 91, 93, 95]) C4 [] [some Yp] Tryz.f205 (shO (shF Yp) [.mu ZQ])
def Zgw : Con := cA Zgv [.ro Zj, .ro Zk, .mu ZQ, .ro ZJ] true
theorem Zgx : CO 205 Zgw := Vr C5
def SI (n : Nat) (a0 : ZE) (a1 : Int) (a2 : Zw) (a3 : Zo) : Option (Yh × Zw × Unit) := qA Zgv [.ro Zj, .ro Zk, .mu ZQ, .ro ZJ] n (a0, a1, a2, a3, ())
theorem Zgy (n : Nat) (a0 a1 a2 a3) : SI n a0 a1 a2 a3 = (XN big a2 a3.2.2.2.1).bind fun y => bif decide (a3.2.2.2.2.2.1.1 = 1) then (YO big y.2.2.1 a3.2.2.2.2.2.1).bind fun a => (VZ big (y.1, y.2.1, a, y.2.2.2) (K6.wrap (a3.2.2.2.2.2.1.1 + 1)) a3.2.2.2.1).bind fun b => bif !b then some ([], (y.1, y.2.1, a, y.2.2.2), ()) else (V3 big (y.1, y.2.1, a, y.2.2.2) (K6.wrap (a3.2.2.2.2.2.1.1 + 1)) a3.2.2.2.1 a3.2.2.2.2.2.1.2.2.1 a3.2.1).bind fun y => some y else bif decide (a3.2.2.2.2.2.1.1 = 2) then (YO big y.2.2.2.1 a3.2.2.2.2.2.1).bind fun a => (VZ big (y.1, y.2.1, y.2.2.1, a, y.2.2.2.2) (K6.wrap (a3.2.2.2.2.2.1.1 + 1)) a3.2.2.2.1).bind fun b => bif !b then some ([], (y.1, y.2.1, y.2.2.1, a, y.2.2.2.2), ()) else (V3 big (y.1, y.2.1, y.2.2.1, a, y.2.2.2.2) (K6.wrap (a3.2.2.2.2.2.1.1 + 1)) a3.2.2.2.1 a3.2.2.2.2.2.1.2.2.1 a3.2.1).bind fun y => some y else bif decide (a3.2.2.2.2.2.1.1 = 3) then (AA big a0 y a3.2.2.2.2.2.1.2.2.1).bind fun y => (XN big y (K6.wrap (a3.2.2.2.1 + 1))).bind fun y => (YW big y.2.1 a1).bind fun a => some ([(4, y.1, a, y.2.1, 0, y.2.2.1, (0, 0, 0, 0, ()), ())], y, ()) else some ([], y, ()) := by kernel_rfl
def SJ : Yf := (205, Zgw) :: C4
theorem NW : Yg SJ := cons_cons Zgx C5
abbrev NX : W0 := (.is (.ptr 6 0) :: dp 4 (.is (.ptr 7 0) :: .ro Zc :: dp 68 []), [.drop, .drop, .drop, .drop, .drop, .drop, .vars (rp 14 Zc [.own Zc, .own Zn, .own Zc, .own Zv, .own Zh, .own Zd, .ro Zc]), .vars (rp 13 Zc [])])
def Mr := FX.mk (false, false, [5, 7, 11, 12, 13, 17, 19, 20, 21, 25, 27, 28, 29, 35, 36, 37, 39, 44, 45, 46, 52, 53, 54, 60, 63, 65, 66, 67, 73]) SJ [(4, NX)] [] Tryz.f271 (shO shN [.mu ZQ])
def Zdb : Con := cA Mr [.mu ZQ, .ro Zk, .ro ZJ] true
theorem ZeK : CO 271 Zdb := Vr NW
def Ms (n : Nat) (a0 : Zw) (a1 : Int) (a2 : Zo) : Option (Unit × Zw × Unit) := qA Mr [.mu ZQ, .ro Zk, .ro ZJ] n (a0, a1, a2, ())
def Wr (n : Nat) (s6 aa ab ac ad ae af ag ah ai aj ak al am an : Int) (ao : List Int) (ap : List Zu) (aq : List Int) (ar : List ZC) (au : List Zl) (av : List Zg) (aw ax ay az ba bb bc bd be bf bg bh bi bj : Int) : Option (Unit × Zw × Unit) := rR Mr [AP.enc (.mu ZQ) (WI ZQ), AP.enc (.ro Zk) (WI Zk), AP.enc (.ro ZJ) (WI ZJ)] 4 NX n (s6, ()) ((aa, ab, ac, ad, ae, af, ag, ah, ai, aj, ak, al, am, an, ao, ap, aq, ar, au, av, aw, ()), (ax, ay, az, ba, bb, bc, bd, be, bf, bg, bh, bi, bj, ()), ())
theorem ZeL (n : Nat) (a0 a1 a2) : Ms n a0 a1 a2 = (YW big a2.2.2.2.1 a1).bind fun y => (fun zC0 => bif !decide (y = a0.1) then some ((), a0, ()) else bif !decide (a2.2.2.2.1 = a0.2.1) then bif !decide (a2.2.2.2.1 = K6.wrap (a0.2.1 + 1)) then some ((), a0, ()) else zC0 else zC0) ((XN big a0 a2.2.2.2.1).bind fun y => Wr n 0 y.1 y.2.1 y.2.2.1.1 y.2.2.1.2.1 y.2.2.1.2.2.1 y.2.2.1.2.2.2.1 y.2.2.2.1.1 y.2.2.2.1.2.1 y.2.2.2.1.2.2.1 y.2.2.2.1.2.2.2.1 y.2.2.2.2.1.1 y.2.2.2.2.1.2.1 y.2.2.2.2.1.2.2.1 y.2.2.2.2.1.2.2.2.1 y.2.2.2.2.2.1 y.2.2.2.2.2.2.1 y.2.2.2.2.2.2.2.1 y.2.2.2.2.2.2.2.2.1 y.2.2.2.2.2.2.2.2.2.1 y.2.2.2.2.2.2.2.2.2.2.1 y.2.2.2.2.2.2.2.2.2.2.2.1 a2.1 a2.2.1 a2.2.2.1 a2.2.2.2.1 a2.2.2.2.2.1 a2.2.2.2.2.2.1.1 a2.2.2.2.2.2.1.2.1 a2.2.2.2.2.2.1.2.2.1 a2.2.2.2.2.2.1.2.2.2.1 a2.2.2.2.2.2.2.1.1 a2.2.2.2.2.2.2.1.2.1 a2.2.2.2.2.2.2.1.2.2.1 a2.2.2.2.2.2.2.1.2.2.2.1) := by kernel_rfl
theorem C6 (n : Nat) (s6 aa ab ac ad ae af ag ah ai aj ak al am an ao ap aq ar au av aw ax ay az ba bb bc bd be bf bg bh bi bj) : Wr (n + 1) s6 aa ab ac ad ae af ag ah ai aj ak al am an ao ap aq ar au av aw ax ay az ba bb bc bd be bf bg bh bi bj = bif decide (s6 < (↑av.length : Int)) then if 0 ≤ s6 then if s6 < (↑av.length : Int) then (nth av s6.toNat).bind fun y => bif decide (y.2.1 = ay) then some ((), (aa, ab, (ac, ad, ae, af, ()), (ag, ah, ai, aj, ()), (ak, al, am, an, ()), ao, ap, aq, ar, au, av, aw, ()), ()) else Wr n (K6.wrap (s6 + 1)) aa ab ac ad ae af ag ah ai aj ak al am an ao ap aq ar au av aw ax ay az ba bb bc bd be bf bg bh bi bj else none else none else (fun zB => (fun zB => Wf (Wf zB zB) zB) (zB)) (if (0 : Nat) + av.length ≤ lim then if av.length + [(ax, ay, az, ba, bb, (bc, bd, be, bf, ()), (bg, bh, bi, bj, ()), ())].length ≤ lim then some ((), (aa, ab, (ac, ad, ae, af, ()), (ag, ah, ai, aj, ()), (ak, al, am, an, ()), ao, ap, aq, ar, au, av.append [(ax, ay, az, ba, bb, (bc, bd, be, bf, ()), (bg, bh, bi, bj, ()), ())], aw, ()), ()) else none else none) := by kernel_rfl
def Mt : Yf := (271, Zdb) :: SJ
theorem ID : Yg Mt := cons_cons ZeK NW
abbrev Fa : W0 := ([.is (.ptr 6 0), .ro Zc, .drop, .drop, .drop, .drop, .drop, .own Zd, .drop, .is (.ptr 17 0), .drop, .ro Zc, .drop, .drop, .drop, .drop, .drop, .drop, .drop, .drop, .drop, .drop, .drop, .drop, .drop, .drop, .drop, .drop, .drop, .drop, .drop, .drop, .drop, .drop, .drop, .drop, .drop, .drop, .drop, .drop, .drop, .drop, .drop, .drop, .drop, .drop, .drop, .drop, .drop, .drop, .drop, .drop, .drop, .drop, .drop, .drop, .drop, .drop, .drop, .drop, .drop, .drop, .drop, .drop, .drop, .drop, .drop, .drop, .drop, .drop, .drop, .drop, .drop, .drop, .drop, .drop, .drop, .drop, .drop, .drop, .drop, .drop, .drop, .drop, .drop, .drop, .drop, .drop, .drop, .drop, .drop, .drop, .drop, .drop, .drop, .drop, .drop, .drop, .drop, .drop, .drop, .drop, .drop, .drop, .drop, .drop, .drop, .drop, .drop, .drop, .drop, .drop, .drop, .drop, .drop, .drop, .drop, .drop, .drop, .drop, .drop, .drop, .drop, .drop, .drop, .drop, .drop, .drop, .drop, .drop, .drop, .drop, .drop, .drop, .drop, .drop, .drop, .drop, .drop, .drop, .drop, .drop], [.drop, .drop, .drop, .drop, .drop, .drop, .vars (rp 14 Zc [.own Zc, .own Zn, .own Zc, .own Zv, .own Zh, .own Zd, .ro Zc]), .drop, .drop, .drop, .drop, .drop, .drop, .drop, .drop, .drop, .drop, .vars (rp 4 Zc [])])
abbrev QN : W0 := ([.is (.ptr 6 0), .ro Zc, .drop, .drop, .drop, .is (.ptr 7 0), .drop, .own Zd, .ro Zc, .drop, .drop, .drop, .drop, .drop, .drop, .drop, .drop, .drop, .drop, .drop, .drop, .drop, .drop, .drop, .drop, .drop, .drop, .drop, .drop, .drop, .drop, .drop, .drop, .drop, .drop, .drop, .drop, .drop, .drop, .drop, .drop, .drop, .drop, .drop, .drop, .drop, .drop, .drop, .drop, .drop, .drop, .drop, .drop, .drop, .drop, .drop, .drop, .drop, .drop, .drop, .drop, .drop, .drop, .drop, .drop, .drop, .drop, .drop, .drop, .drop, .drop, .drop, .drop, .drop, .drop, .drop, .drop, .drop, .drop, .drop, .drop, .drop, .drop, .drop, .drop, .drop, .drop, .drop, .drop, .drop, .drop, .drop, .drop, .drop, .drop, .drop, .drop, .drop, .drop, .drop, .drop, .drop, .drop, .drop, .drop, .drop, .drop, .drop, .drop, .drop, .drop, .drop, .drop, .drop, .drop, .drop, .drop, .drop, .drop, .drop, .drop, .drop, .drop, .drop, .drop, .drop, .drop, .drop, .drop, .drop, .drop, .drop, .drop, .drop, .drop, .drop, .drop, .drop, .drop, .drop, .drop, .drop], [.drop, .drop, .drop, .drop, .drop, .drop, .vars (rp 14 Zc [.own Zc, .own Zn, .own Zc, .own Zv, .own Zh, .own Zd, .ro Zc]), .vars (rp 4 Zc [])])
def AB := FX.mk (false, false, [5, 9, 13, 15, 18, 24, 25, 26, 31, 32, 33, 38, 39, 40, 45, 46, 47, 55, 56, 57, 62, 63, 64, 70, 72, 73, 74, 80, 82, 83, 84, 86, 88, 90, 99, 100, 101, 103, 105, 107, 113, 116, 117, 118, 119, 123, 132, 133, 999999]) Mt [(17, Fa), (5000007, QN)] [some Yp] Tryz.f315 (shO (shF Yp) [.mu ZQ])
def SK : Con := cA AB [.mu ZQ, .ro Zk, .ro Z8] true
theorem Zbw : CO 315 SK := Vr ID
def GE (n : Nat) (a0 : Zw) (a1 : Int) (a2 : Z3) : Option (Yh × Zw × Unit) := qA AB [.mu ZQ, .ro Zk, .ro Z8] n (a0, a1, a2, ())
def X3 (n : Nat) (s1 : Int) (s7 : List Zg) (s11 aa ab ac ad ae af ag ah ai aj ak al am an : Int) (ao : List Int) (ap : List Zu) (aq : List Int) (ar : List ZC) (au : List Zl) (av : List Zg) (aw bb bc bd be : Int) : Option (Yh × Zw × Unit) := rR AB [AP.enc (.mu ZQ) (WI ZQ), AP.enc (.ro Zk) (WI Zk), AP.enc (.ro Z8) (WI Z8)] 17 Fa n (s1, s7, s11, ()) ((aa, ab, ac, ad, ae, af, ag, ah, ai, aj, ak, al, am, an, ao, ap, aq, ar, au, av, aw, ()), (bb, bc, bd, be, ()), ())
def YT (n : Nat) (s1 : Int) (s7 : List Zg) (s8 aa ab ac ad ae af ag ah ai aj ak al am an : Int) (ao : List Int) (ap : List Zu) (aq : List Int) (ar : List ZC) (au : List Zl) (av : List Zg) (aw ax ay az ba : Int) : Option (Yh × Zw × Unit) := rR AB [AP.enc (.mu ZQ) (WI ZQ), AP.enc (.ro Zk) (WI Zk), AP.enc (.ro Z8) (WI Z8)] 5000007 QN n (s1, s7, s8, ()) ((aa, ab, ac, ad, ae, af, ag, ah, ai, aj, ak, al, am, an, ao, ap, aq, ar, au, av, aw, ()), (ax, ay, az, ba, ()), ())
theorem Zbx (n : Nat) (a0 a1 a2) : GE n a0 a1 a2 =
  bif decide (a2.1 = (4 : Int)) then
 (YW big (K6.wrap (a2.2.1 + (1 : Int))) a1).bind fun y =>
 bif decide (y = a0.1) then
 bif decide (K6.wrap (a2.2.1 + (1 : Int)) = K6.wrap (a0.2.1 + (1 : Int))) then
 (XN big a0 (K6.wrap (a2.2.1 + (1 : Int)))).bind fun y =>
 YT n a1 [] (K6.wrap (a2.2.1 + (1 : Int))) y.1 y.2.1 y.2.2.1.1
 y.2.2.1.2.1 y.2.2.1.2.2.1 y.2.2.1.2.2.2.1 y.2.2.2.1.1
 y.2.2.2.1.2.1 y.2.2.2.1.2.2.1 y.2.2.2.1.2.2.2.1
 y.2.2.2.2.1.1 y.2.2.2.2.1.2.1 y.2.2.2.2.1.2.2.1
 y.2.2.2.2.1.2.2.2.1 y.2.2.2.2.2.1 y.2.2.2.2.2.2.1
 y.2.2.2.2.2.2.2.1 y.2.2.2.2.2.2.2.2.1
 y.2.2.2.2.2.2.2.2.2.1 y.2.2.2.2.2.2.2.2.2.2.1
 y.2.2.2.2.2.2.2.2.2.2.2.1 a2.1 a2.2.1 a2.2.2.1 a2.2.2.2.1
 else
 YT n a1 [] (K6.wrap (a2.2.1 + (1 : Int))) a0.1 a0.2.1 a0.2.2.1.1
 a0.2.2.1.2.1 a0.2.2.1.2.2.1 a0.2.2.1.2.2.2.1 a0.2.2.2.1.1
 a0.2.2.2.1.2.1 a0.2.2.2.1.2.2.1 a0.2.2.2.1.2.2.2.1
 a0.2.2.2.2.1.1 a0.2.2.2.2.1.2.1 a0.2.2.2.2.1.2.2.1
 a0.2.2.2.2.1.2.2.2.1 a0.2.2.2.2.2.1 a0.2.2.2.2.2.2.1
 a0.2.2.2.2.2.2.2.1 a0.2.2.2.2.2.2.2.2.1
 a0.2.2.2.2.2.2.2.2.2.1 a0.2.2.2.2.2.2.2.2.2.2.1
 a0.2.2.2.2.2.2.2.2.2.2.2.1 a2.1 a2.2.1 a2.2.2.1 a2.2.2.2.1
 else
 YT n a1 [] (K6.wrap (a2.2.1 + (1 : Int))) a0.1 a0.2.1 a0.2.2.1.1
 a0.2.2.1.2.1 a0.2.2.1.2.2.1 a0.2.2.1.2.2.2.1 a0.2.2.2.1.1
 a0.2.2.2.1.2.1 a0.2.2.2.1.2.2.1 a0.2.2.2.1.2.2.2.1
 a0.2.2.2.2.1.1 a0.2.2.2.2.1.2.1 a0.2.2.2.2.1.2.2.1
 a0.2.2.2.2.1.2.2.2.1 a0.2.2.2.2.2.1 a0.2.2.2.2.2.2.1
 a0.2.2.2.2.2.2.2.1 a0.2.2.2.2.2.2.2.2.1
 a0.2.2.2.2.2.2.2.2.2.1 a0.2.2.2.2.2.2.2.2.2.2.1
 a0.2.2.2.2.2.2.2.2.2.2.2.1 a2.1 a2.2.1 a2.2.2.1 a2.2.2.2.1
 else
 YT n a1 [] a2.2.1 a0.1 a0.2.1 a0.2.2.1.1 a0.2.2.1.2.1
 a0.2.2.1.2.2.1 a0.2.2.1.2.2.2.1 a0.2.2.2.1.1 a0.2.2.2.1.2.1
 a0.2.2.2.1.2.2.1 a0.2.2.2.1.2.2.2.1 a0.2.2.2.2.1.1
 a0.2.2.2.2.1.2.1 a0.2.2.2.2.1.2.2.1 a0.2.2.2.2.1.2.2.2.1
 a0.2.2.2.2.2.1 a0.2.2.2.2.2.2.1 a0.2.2.2.2.2.2.2.1
 a0.2.2.2.2.2.2.2.2.1 a0.2.2.2.2.2.2.2.2.2.1
 a0.2.2.2.2.2.2.2.2.2.2.1 a0.2.2.2.2.2.2.2.2.2.2.2.1 a2.1
 a2.2.1 a2.2.2.1 a2.2.2.2.1 := by kernel_rfl
theorem JL (n : Nat) (s1 s7 s11 aa ab ac ad ae af ag ah ai aj ak al am an ao ap aq ar au av aw bb bc bd be) : X3 (n + 1) s1 s7 s11 aa ab ac ad ae af ag ah ai aj ak al am an ao ap aq ar au av aw bb bc bd be =
  bif decide (s11 < s1) then
 if
 s7.length +
 [((3 : Int), aa, s11, ab, (0 : Int), (bb, bc, bd, be, ()),
 ((0 : Int), (0 : Int), (0 : Int), (0 : Int), ()), ())].length ≤
 lim then
 X3 n s1
 (s7.append
 [((3 : Int), aa, s11, ab, (0 : Int), (bb, bc, bd, be, ()),
 ((0 : Int), (0 : Int), (0 : Int), (0 : Int), ()), ())])
 (K6.wrap (s11 + (1 : Int))) aa ab ac ad ae af ag ah ai aj ak al am an
 ao ap aq ar au av aw bb bc bd be
 else none
 else
 some
 (s7,
 (aa, ab, (ac, ad, ae, af, PUnit.unit), (ag, ah, ai, aj, PUnit.unit),
 (ak, al, am, an, PUnit.unit), ao, ap, aq, ar, au, av, aw, PUnit.unit),
 PUnit.unit) := by kernel_rfl
theorem BL (n : Nat) (s1 s7 s8 aa ab ac ad ae af ag ah ai aj ak al am an ao ap aq ar au av aw ax ay az ba) : YT (n + 1) s1 s7 s8 aa ab ac ad ae af ag ah ai aj ak al am an ao ap aq ar au av aw ax ay az ba =
  bif !decide (ab = s8) then
 some
 (s7,
 (aa, ab, (ac, ad, ae, af, PUnit.unit), (ag, ah, ai, aj, PUnit.unit),
 (ak, al, am, an, PUnit.unit), ao, ap, aq, ar, au, av, aw, PUnit.unit),
 PUnit.unit)
 else
 (YW big s8 s1).bind fun y =>
 bif !decide (y = aa) then
 some
 (s7,
 (aa, ab, (ac, ad, ae, af, PUnit.unit), (ag, ah, ai, aj, PUnit.unit),
 (ak, al, am, an, PUnit.unit), ao, ap, aq, ar, au, av, aw, PUnit.unit),
 PUnit.unit)
 else
 (Mb big au (ax, ay, az, ba, ())).bind fun y =>
 bif y then
 some
 (s7,
 (aa, ab, (ac, ad, ae, af, PUnit.unit), (ag, ah, ai, aj, PUnit.unit),
 (ak, al, am, an, PUnit.unit), ao, ap, aq, ar, au, av, aw,
 PUnit.unit),
 PUnit.unit)
 else
 Wf
 (Wf
 (if (0 : Nat) + au.length ≤ lim then
 if au.length + [(ax, ay, az, ba, ())].length ≤ lim then
 (XO big (au.append [(ax, ay, az, ba, ())]) ax ay az).bind fun y =>
 (YB big y).bind fun y =>
 (Vd big s1).bind fun a =>
 bif !decide (y = a) then
 some
 (s7,
 (aa, ab, (ac, ad, ae, af, PUnit.unit), (ag, ah, ai, aj, PUnit.unit),
 (ak, al, am, an, PUnit.unit), ao, ap, aq, ar,
 au.append [(ax, ay, az, ba, ())], av, aw, PUnit.unit),
 PUnit.unit)
 else
 (Ap big (au.append [(ax, ay, az, ba, ())]) ax ay az s1).bind fun y =>
 bif decide (ax = (4 : Int)) then
 (YO big (ac, ad, ae, af, ()) y.1).bind fun y =>
 some
 (s7,
 (aa, ab, y, (ag, ah, ai, aj, PUnit.unit),
 (ak, al, am, an, PUnit.unit), ao, ap, aq, ar,
 au.append [(ax, ay, az, ba, ())], av, aw, PUnit.unit),
 PUnit.unit)
 else
 X3 n s1 s7 (0 : Int) aa ab ac ad ae af ag ah ai aj ak
 al am an ao ap aq ar
 (au.append [(ax, ay, az, ba, ())]) av aw y.1.1 y.1.2.1
 y.1.2.2.1 y.1.2.2.2.1
 else none
 else none)
 (if (0 : Nat) + au.length ≤ lim then
 if au.length + [(ax, ay, az, ba, ())].length ≤ lim then
 (XO big (au.append [(ax, ay, az, ba, ())]) ax ay az).bind fun y =>
 (YB big y).bind fun y =>
 (Vd big s1).bind fun a =>
 bif !decide (y = a) then
 some
 (s7,
 (aa, ab, (ac, ad, ae, af, PUnit.unit), (ag, ah, ai, aj, PUnit.unit),
 (ak, al, am, an, PUnit.unit), ao, ap, aq, ar,
 au.append [(ax, ay, az, ba, ())], av, aw, PUnit.unit),
 PUnit.unit)
 else
 (Ap big (au.append [(ax, ay, az, ba, ())]) ax ay az s1).bind fun y =>
 bif decide (ax = (4 : Int)) then
 (YO big (ac, ad, ae, af, ()) y.1).bind fun y =>
 some
 (s7,
 (aa, ab, y, (ag, ah, ai, aj, PUnit.unit),
 (ak, al, am, an, PUnit.unit), ao, ap, aq, ar,
 au.append [(ax, ay, az, ba, ())], av, aw, PUnit.unit),
 PUnit.unit)
 else
 X3 n s1 s7 (0 : Int) aa ab ac ad ae af ag ah ai aj ak
 al am an ao ap aq ar
 (au.append [(ax, ay, az, ba, ())]) av aw y.1.1 y.1.2.1
 y.1.2.2.1 y.1.2.2.2.1
 else none
 else none))
 (if (0 : Nat) + au.length ≤ lim then
 if au.length + [(ax, ay, az, ba, ())].length ≤ lim then
 (XO big (au.append [(ax, ay, az, ba, ())]) ax ay az).bind fun y =>
 (YB big y).bind fun y =>
 (Vd big s1).bind fun a =>
 bif !decide (y = a) then
 some
 (s7,
 (aa, ab, (ac, ad, ae, af, PUnit.unit), (ag, ah, ai, aj, PUnit.unit),
 (ak, al, am, an, PUnit.unit), ao, ap, aq, ar,
 au.append [(ax, ay, az, ba, ())], av, aw, PUnit.unit),
 PUnit.unit)
 else
 (Ap big (au.append [(ax, ay, az, ba, ())]) ax ay az s1).bind fun y =>
 bif decide (ax = (4 : Int)) then
 (YO big (ac, ad, ae, af, ()) y.1).bind fun y =>
 some
 (s7,
 (aa, ab, y, (ag, ah, ai, aj, PUnit.unit),
 (ak, al, am, an, PUnit.unit), ao, ap, aq, ar,
 au.append [(ax, ay, az, ba, ())], av, aw, PUnit.unit),
 PUnit.unit)
 else
 X3 n s1 s7 (0 : Int) aa ab ac ad ae af ag ah ai aj ak
 al am an ao ap aq ar (au.append [(ax, ay, az, ba, ())])
 av aw y.1.1 y.1.2.1 y.1.2.2.1 y.1.2.2.2.1
 else none
 else none) := by kernel_rfl
def GF : Yf := (315, SK) :: Mt
theorem Fb : Yg GF := cons_cons Zbw ID
def NY := FX.mk (false, false, [3, 5]) GF [] [some ZQ, some Yp] Tryz.f270 (shT [(true, ZQ), (true, Yp)])
def NZ : Con := cA NY [.gs ZQ, .ro Zk, .ro Z8] true
theorem SL : CO 270 NZ := Vr Fb
def C7 (n : Nat) (a0 : Zw) (a1 : Int) (a2 : Z3) : Option (Zw × Yh × Unit) := qA NY [.gs ZQ, .ro Zk, .ro Z8] n (a0, a1, a2, ())
theorem SM (n : Nat) (a0 a1 a2) : C7 n a0 a1 a2 = (GE big a0 a1 a2).bind fun y => some (y.2.1, y.1, ()) := by kernel_rfl
def C8 : Yf := (270, NZ) :: GF
theorem C9 : Yg C8 := cons_cons SL Fb
def N0 := FX.mk (false, false, [6, 7, 10, 21, 23, 29, 35]) C8 [] [some ZQ, some Yp] Tryz.f198 (shT [(true, ZQ), (true, Yp)])
def N1 : Con := cR N0 [Zj, Zk, Yo, ZJ] true
theorem SN : CO 198 N1 := ZI C9
def Ws (n : Nat) (a0 : ZE) (a1 : Int) (a2 : Zw) (a3 : Zo) : Option (Zw × Yh × Unit) := qR N0 [Zj, Zk, Yo, ZJ] n (a0, a1, a2, a3, ())
theorem SO (n : Nat) (a0 a1 a2 a3) : Ws n a0 a1 a2 a3 = (YS big a2).bind fun y => (Vh big a0 a1 a3).bind fun a => bif !a then some (y, [], ()) else bif !decide (a3.2.2.1 = a2.1) then some (y, [], ()) else bif decide (a3.1 = 2) then (C7 big y a1 a3.2.2.2.2.2.2.1).bind fun y => some y else bif decide (a3.1 = 4) then (Ms big y a1 a3).bind fun y => some (y.2.1, [], ()) else some (y, [], ()) := by kernel_rfl
def Da : Yf := (198, N1) :: C8
theorem Db : Yg Da := cons_cons SN C9
def SP := FX.mk (false, false, [6, 7, 10, 23, 25, 31, 35, 46, 48, 54, 56, 62, 72, 76, 82, 84, 91, 93, 95]) Da [] [some ZQ, some Yp] Tryz.f146 (shT [(true, ZQ), (true, Yp)])
def SQ : Con := cR SP [Zj, Zk, Yo, ZJ] true
theorem Zby : CO 146 SQ := ZI Db
def AC (n : Nat) (a0 : ZE) (a1 : Int) (a2 : Zw) (a3 : Zo) : Option (Zw × Yh × Unit) := qR SP [Zj, Zk, Yo, ZJ] n (a0, a1, a2, a3, ())
theorem Zbz (n : Nat) (a0 a1 a2 a3) : AC n a0 a1 a2 a3 = (YS big a2).bind fun y => (Vh big a0 a1 a3).bind fun a => bif !a then some (y, [], ()) else bif !decide (a3.2.2.1 = a2.1) then some (y, [], ()) else bif decide (a3.1 = 2) then (Ws big a0 a1 a2 a3).bind fun y => some y else bif decide (a3.1 = 4) then (Ws big a0 a1 a2 a3).bind fun y => some y else (YW big a3.2.2.2.1 a1).bind fun d => bif !decide (a3.2.1 = d) then some (y, [], ()) else bif decide (a3.2.2.2.1 < a2.2.1) then some (y, [], ()) else bif decide (a3.1 = 3) then (SI big a0 a1 y a3).bind fun y => some (y.2.1, y.1, ()) else (XN big y a3.2.2.2.1).bind fun y => (VZ big y 1 a3.2.2.2.1).bind fun c => bif !c then some (y, [], ()) else (Qj big a0 y.2.2.2.1 a3.2.2.2.2.1).bind fun b => bif !b then some (y, [], ()) else (V3 big y 1 a3.2.2.2.1 a3.2.2.2.2.1 a3.2.1).bind fun y => some (y.2.1, y.1, ()) := by kernel_rfl
def GG : Yf := (146, SQ) :: Da
theorem Fc : Yg GG := cons_cons Zby Db
def IE := FX.mk (false, false, [6, 7, 10, 23, 25, 31, 44, 46, 61, 63, 71, 76, 78, 83, 85, 91, 98, 100, 102, 109]) GG [] [some ZQ, some Yp] Tryz.f145 (shT [(true, ZQ), (true, Yp)])
def IF : Con := cR IE [Zj, Zk, Yo, ZJ] true
theorem OO : CO 145 IF := ZI Fc
def Qm (n : Nat) (a0 : ZE) (a1 : Int) (a2 : Zw) (a3 : Zo) : Option (Zw × Yh × Unit) := qR IE [Zj, Zk, Yo, ZJ] n (a0, a1, a2, a3, ())
theorem OP (n : Nat) (a0 a1 a2 a3) : Qm n a0 a1 a2 a3 = (YS big a2).bind fun y => (Vh big a0 a1 a3).bind fun c => bif !c then some (y, [], ()) else bif !decide (a3.2.2.1 = a2.1) then some (y, [], ()) else bif decide (a3.1 = 2) then (Ws big a0 a1 a2 a3).bind fun y => some y else bif decide (a3.1 = 4) then (YO big y.2.2.1 a3.2.2.2.2.2.1).bind fun a => (Ws big a0 a1 (y.1, y.2.1, a, y.2.2.2) a3).bind fun y => some y else bif decide (a3.1 = 3) then some (y, [], ()) else (YW big a3.2.2.2.1 a1).bind fun a => bif !decide (a3.2.1 = a) then some (y, [], ()) else (VZ big y 4 a3.2.2.2.1).bind fun d => bif d then (Qj big a0 y.2.2.2.1 a3.2.2.2.2.1).bind fun f => bif f then (X0 big a0 y a3.2.2.2.2.1).bind fun y => bif !decide (a2.2.1 ≤ a3.2.2.2.1) then some (y, [], ()) else (YW big (K6.wrap (a3.2.2.2.1 + 1)) a1).bind fun b => (V3 big y 4 a3.2.2.2.1 a3.2.2.2.2.1 b).bind fun y => (XN big y.2.1 (K6.wrap (a3.2.2.2.1 + 1))).bind fun e => some (e, y.1, ()) else (X0 big a0 y a3.2.2.2.2.1).bind fun y => some (y, [], ()) else (X0 big a0 y a3.2.2.2.2.1).bind fun y => some (y, [], ()) := by kernel_rfl
def AD : Yf := (145, IF) :: GG
theorem Bi : Yg AD := cons_cons OO Fc
def Zdc := FX.mk (false, false, [6, 8, 9, 10, 17, 18, 19, 24, 26, 27, 28, 33, 34, 35, 41]) AD [] [none, none] Tryz.f98 (shO (shT [(false, ZJ), (false, ZA)]) [.mu Zz])
def Zdd : Con := cA Zdc [.mu Zz, .ro Zk] true
theorem ZeM : CO 98 Zdd := Vr Bi
def Ef (n : Nat) (a0 : Zi) (a1 : Int) : Option ((Zo × Bool × Unit) × Zi × Unit) := qA Zdc [.mu Zz, .ro Zk] n (a0, a1, ())
theorem ZeN (n : Nat) (a0 a1) : Ef n a0 a1 =
  (ZB big a1 (0 : Int) (K6.wrap ((↑(List.length a0.2.2.2.2.2.1) : Int) - (1 : Int)))).bind
 fun y =>
 bif !y then
 some
 ((((0 : Int), (0 : Int), (0 : Int), (0 : Int), (0 : Int),
 ((0 : Int), (0 : Int), (0 : Int), (0 : Int), PUnit.unit),
 ((0 : Int), (0 : Int), (0 : Int), (0 : Int), PUnit.unit), PUnit.unit),
 false, PUnit.unit),
 a0, PUnit.unit)
 else
 if (0 : Int) ≤ a1 then
 if a1 < (↑(List.length a0.2.2.2.2.2.1) : Int) then
 (nth a0.2.2.2.2.2.1 a1.toNat).bind fun y =>
 Wf
 (if (0 : Int) ≤ a1 then
 if a1 ≤ (↑(List.length a0.2.2.2.2.2.1) : Int) then
 Wf
 (if
 (0 : Nat) +
 (List.take (a1.toNat - (0 : Nat)) (List.drop (0 : Nat) a0.2.2.2.2.2.1)).length ≤
 lim then
 if (0 : Int) ≤ K6.wrap (a1 + (1 : Int)) then
 if K6.wrap (a1 + (1 : Int)) ≤ (↑(List.length a0.2.2.2.2.2.1) : Int) then
 if
 (List.take (a1.toNat - (0 : Nat))
 (List.drop (0 : Nat) a0.2.2.2.2.2.1)).length +
 (List.take
 (List.length a0.2.2.2.2.2.1 -
 (K6.wrap (a1 + (1 : Int))).toNat)
 (List.drop (K6.wrap (a1 + (1 : Int))).toNat
 a0.2.2.2.2.2.1)).length ≤
 lim then
 some
 ((y, true, PUnit.unit),
 (a0.1, a0.2.1, a0.2.2.1, a0.2.2.2.1, a0.2.2.2.2.1,
 (List.take (a1.toNat - (0 : Nat))
 (List.drop (0 : Nat) a0.2.2.2.2.2.1)).append
 (List.take
 (List.length a0.2.2.2.2.2.1 -
 (K6.wrap (a1 + (1 : Int))).toNat)
 (List.drop (K6.wrap (a1 + (1 : Int))).toNat a0.2.2.2.2.2.1)),
 a0.2.2.2.2.2.2),
 PUnit.unit)
 else none
 else none
 else none
 else none)
 (Wf
 (if
 (0 : Nat) +
 (List.take (a1.toNat - (0 : Nat))
 (List.drop (0 : Nat) a0.2.2.2.2.2.1)).length ≤
 lim then
 if (0 : Int) ≤ K6.wrap (a1 + (1 : Int)) then
 if K6.wrap (a1 + (1 : Int)) ≤ (↑(List.length a0.2.2.2.2.2.1) : Int) then
 if
 (List.take (a1.toNat - (0 : Nat))
 (List.drop (0 : Nat) a0.2.2.2.2.2.1)).length +
 (List.take
 (List.length a0.2.2.2.2.2.1 -
 (K6.wrap (a1 + (1 : Int))).toNat)
 (List.drop (K6.wrap (a1 + (1 : Int))).toNat
 a0.2.2.2.2.2.1)).length ≤
 lim then
 some
 ((y, true, PUnit.unit),
 (a0.1, a0.2.1, a0.2.2.1, a0.2.2.2.1, a0.2.2.2.2.1,
 (List.take (a1.toNat - (0 : Nat))
 (List.drop (0 : Nat) a0.2.2.2.2.2.1)).append
 (List.take
 (List.length a0.2.2.2.2.2.1 -
 (K6.wrap (a1 + (1 : Int))).toNat)
 (List.drop (K6.wrap (a1 + (1 : Int))).toNat
 a0.2.2.2.2.2.1)),
 a0.2.2.2.2.2.2),
 PUnit.unit)
 else none
 else none
 else none
 else none)
 (if (0 : Int) ≤ K6.wrap (a1 + (1 : Int)) then
 if K6.wrap (a1 + (1 : Int)) ≤ (↑(List.length a0.2.2.2.2.2.1) : Int) then
 if
 (0 : Nat) +
 (List.take (a1.toNat - (0 : Nat))
 (List.drop (0 : Nat) a0.2.2.2.2.2.1)).length ≤
 lim then
 if
 (List.take (a1.toNat - (0 : Nat))
 (List.drop (0 : Nat) a0.2.2.2.2.2.1)).length +
 (List.take
 (List.length a0.2.2.2.2.2.1 -
 (K6.wrap (a1 + (1 : Int))).toNat)
 (List.drop (K6.wrap (a1 + (1 : Int))).toNat
 a0.2.2.2.2.2.1)).length ≤
 lim then
 some
 ((y, true, PUnit.unit),
 (a0.1, a0.2.1, a0.2.2.1, a0.2.2.2.1, a0.2.2.2.2.1,
 (List.take (a1.toNat - (0 : Nat))
 (List.drop (0 : Nat) a0.2.2.2.2.2.1)).append
 (List.take
 (List.length a0.2.2.2.2.2.1 -
 (K6.wrap (a1 + (1 : Int))).toNat)
 (List.drop (K6.wrap (a1 + (1 : Int))).toNat
 a0.2.2.2.2.2.1)),
 a0.2.2.2.2.2.2),
 PUnit.unit)
 else none
 else none
 else none
 else none))
 else none
 else none)
 (Wf
 (if (0 : Int) ≤ a1 then
 if a1 ≤ (↑(List.length a0.2.2.2.2.2.1) : Int) then
 Wf
 (Wf
 (if
 (0 : Nat) +
 (List.take (a1.toNat - (0 : Nat))
 (List.drop (0 : Nat) a0.2.2.2.2.2.1)).length ≤
 lim then
 if (0 : Int) ≤ K6.wrap (a1 + (1 : Int)) then
 if
 K6.wrap (a1 + (1 : Int)) ≤
 (↑(List.length a0.2.2.2.2.2.1) : Int) then
 if
 (List.take (a1.toNat - (0 : Nat))
 (List.drop (0 : Nat) a0.2.2.2.2.2.1)).length +
 (List.take
 (List.length a0.2.2.2.2.2.1 -
 (K6.wrap (a1 + (1 : Int))).toNat)
 (List.drop (K6.wrap (a1 + (1 : Int))).toNat
 a0.2.2.2.2.2.1)).length ≤
 lim then
 some
 ((y, true, PUnit.unit),
 (a0.1, a0.2.1, a0.2.2.1, a0.2.2.2.1, a0.2.2.2.2.1,
 (List.take (a1.toNat - (0 : Nat))
 (List.drop (0 : Nat) a0.2.2.2.2.2.1)).append
 (List.take
 (List.length a0.2.2.2.2.2.1 -
 (K6.wrap (a1 + (1 : Int))).toNat)
 (List.drop (K6.wrap (a1 + (1 : Int))).toNat
 a0.2.2.2.2.2.1)),
 a0.2.2.2.2.2.2),
 PUnit.unit)
 else none
 else none
 else none
 else none)
 (Wf
 (if
 (0 : Nat) +
 (List.take (a1.toNat - (0 : Nat))
 (List.drop (0 : Nat) a0.2.2.2.2.2.1)).length ≤
 lim then
 if (0 : Int) ≤ K6.wrap (a1 + (1 : Int)) then
 if
 K6.wrap (a1 + (1 : Int)) ≤
 (↑(List.length a0.2.2.2.2.2.1) : Int) then
 if
 (List.take (a1.toNat - (0 : Nat))
 (List.drop (0 : Nat) a0.2.2.2.2.2.1)).length +
 (List.take
 (List.length a0.2.2.2.2.2.1 -
 (K6.wrap (a1 + (1 : Int))).toNat)
 (List.drop (K6.wrap (a1 + (1 : Int))).toNat
 a0.2.2.2.2.2.1)).length ≤
 lim then
 some
 ((y, true, PUnit.unit),
 (a0.1, a0.2.1, a0.2.2.1, a0.2.2.2.1, a0.2.2.2.2.1,
 (List.take (a1.toNat - (0 : Nat))
 (List.drop (0 : Nat) a0.2.2.2.2.2.1)).append
 (List.take
 (List.length a0.2.2.2.2.2.1 -
 (K6.wrap (a1 + (1 : Int))).toNat)
 (List.drop (K6.wrap (a1 + (1 : Int))).toNat
 a0.2.2.2.2.2.1)),
 a0.2.2.2.2.2.2),
 PUnit.unit)
 else none
 else none
 else none
 else none)
 (if (0 : Int) ≤ K6.wrap (a1 + (1 : Int)) then
 if
 K6.wrap (a1 + (1 : Int)) ≤
 (↑(List.length a0.2.2.2.2.2.1) : Int) then
 if
 (0 : Nat) +
 (List.take (a1.toNat - (0 : Nat))
 (List.drop (0 : Nat) a0.2.2.2.2.2.1)).length ≤
 lim then
 if
 (List.take (a1.toNat - (0 : Nat))
 (List.drop (0 : Nat) a0.2.2.2.2.2.1)).length +
 (List.take
 (List.length a0.2.2.2.2.2.1 -
 (K6.wrap (a1 + (1 : Int))).toNat)
 (List.drop (K6.wrap (a1 + (1 : Int))).toNat
 a0.2.2.2.2.2.1)).length ≤
 lim then
 some
 ((y, true, PUnit.unit),
 (a0.1, a0.2.1, a0.2.2.1, a0.2.2.2.1, a0.2.2.2.2.1,
 (List.take (a1.toNat - (0 : Nat))
 (List.drop (0 : Nat) a0.2.2.2.2.2.1)).append
 (List.take
 (List.length a0.2.2.2.2.2.1 -
 (K6.wrap (a1 + (1 : Int))).toNat)
 (List.drop (K6.wrap (a1 + (1 : Int))).toNat
 a0.2.2.2.2.2.1)),
 a0.2.2.2.2.2.2),
 PUnit.unit)
 else none
 else none
 else none
 else none)))
 (Wf
 (Wf
 (if
 (0 : Nat) +
 (List.take (a1.toNat - (0 : Nat))
 (List.drop (0 : Nat) a0.2.2.2.2.2.1)).length ≤
 lim then
 if (0 : Int) ≤ K6.wrap (a1 + (1 : Int)) then
 if
 K6.wrap (a1 + (1 : Int)) ≤
 (↑(List.length a0.2.2.2.2.2.1) : Int) then
 if
 (List.take (a1.toNat - (0 : Nat))
 (List.drop (0 : Nat) a0.2.2.2.2.2.1)).length +
 (List.take
 (List.length a0.2.2.2.2.2.1 -
 (K6.wrap (a1 + (1 : Int))).toNat)
 (List.drop (K6.wrap (a1 + (1 : Int))).toNat
 a0.2.2.2.2.2.1)).length ≤
 lim then
 some
 ((y, true, PUnit.unit),
 (a0.1, a0.2.1, a0.2.2.1, a0.2.2.2.1, a0.2.2.2.2.1,
 (List.take (a1.toNat - (0 : Nat))
 (List.drop (0 : Nat) a0.2.2.2.2.2.1)).append
 (List.take
 (List.length a0.2.2.2.2.2.1 -
 (K6.wrap (a1 + (1 : Int))).toNat)
 (List.drop (K6.wrap (a1 + (1 : Int))).toNat
 a0.2.2.2.2.2.1)),
 a0.2.2.2.2.2.2),
 PUnit.unit)
 else none
 else none
 else none
 else none)
 (if (0 : Int) ≤ K6.wrap (a1 + (1 : Int)) then
 if
 K6.wrap (a1 + (1 : Int)) ≤
 (↑(List.length a0.2.2.2.2.2.1) : Int) then
 if
 (0 : Nat) +
 (List.take (a1.toNat - (0 : Nat))
 (List.drop (0 : Nat) a0.2.2.2.2.2.1)).length ≤
 lim then
 if
 (List.take (a1.toNat - (0 : Nat))
 (List.drop (0 : Nat) a0.2.2.2.2.2.1)).length +
 (List.take
 (List.length a0.2.2.2.2.2.1 -
 (K6.wrap (a1 + (1 : Int))).toNat)
 (List.drop (K6.wrap (a1 + (1 : Int))).toNat
 a0.2.2.2.2.2.1)).length ≤
 lim then
 some
 ((y, true, PUnit.unit),
 (a0.1, a0.2.1, a0.2.2.1, a0.2.2.2.1, a0.2.2.2.2.1,
 (List.take (a1.toNat - (0 : Nat))
 (List.drop (0 : Nat) a0.2.2.2.2.2.1)).append
 (List.take
 (List.length a0.2.2.2.2.2.1 -
 (K6.wrap (a1 + (1 : Int))).toNat)
 (List.drop (K6.wrap (a1 + (1 : Int))).toNat
 a0.2.2.2.2.2.1)),
 a0.2.2.2.2.2.2),
 PUnit.unit)
 else none
 else none
 else none
 else none))
 (if (0 : Int) ≤ K6.wrap (a1 + (1 : Int)) then
 if K6.wrap (a1 + (1 : Int)) ≤ (↑(List.length a0.2.2.2.2.2.1) : Int) then
 if
 (0 : Nat) +
 (List.take (a1.toNat - (0 : Nat))
 (List.drop (0 : Nat) a0.2.2.2.2.2.1)).length ≤
 lim then
 if
 (List.take (a1.toNat - (0 : Nat))
 (List.drop (0 : Nat) a0.2.2.2.2.2.1)).length +
 (List.take
 (List.length a0.2.2.2.2.2.1 -
 (K6.wrap (a1 + (1 : Int))).toNat)
 (List.drop (K6.wrap (a1 + (1 : Int))).toNat
 a0.2.2.2.2.2.1)).length ≤
 lim then
 some
 ((y, true, PUnit.unit),
 (a0.1, a0.2.1, a0.2.2.1, a0.2.2.2.1, a0.2.2.2.2.1,
 (List.take (a1.toNat - (0 : Nat))
 (List.drop (0 : Nat) a0.2.2.2.2.2.1)).append
 (List.take
 (List.length a0.2.2.2.2.2.1 -
 (K6.wrap (a1 + (1 : Int))).toNat)
 (List.drop (K6.wrap (a1 + (1 : Int))).toNat
 a0.2.2.2.2.2.1)),
 a0.2.2.2.2.2.2),
 PUnit.unit)
 else none
 else none
 else none
 else none))
 else none
 else none)
 (Wf
 (if (0 : Int) ≤ a1 then
 if a1 ≤ (↑(List.length a0.2.2.2.2.2.1) : Int) then
 Wf
 (if
 (0 : Nat) +
 (List.take (a1.toNat - (0 : Nat))
 (List.drop (0 : Nat) a0.2.2.2.2.2.1)).length ≤
 lim then
 if (0 : Int) ≤ K6.wrap (a1 + (1 : Int)) then
 if
 K6.wrap (a1 + (1 : Int)) ≤
 (↑(List.length a0.2.2.2.2.2.1) : Int) then
 if
 (List.take (a1.toNat - (0 : Nat))
 (List.drop (0 : Nat) a0.2.2.2.2.2.1)).length +
 (List.take
 (List.length a0.2.2.2.2.2.1 -
 (K6.wrap (a1 + (1 : Int))).toNat)
 (List.drop (K6.wrap (a1 + (1 : Int))).toNat
 a0.2.2.2.2.2.1)).length ≤
 lim then
 some
 ((y, true, PUnit.unit),
 (a0.1, a0.2.1, a0.2.2.1, a0.2.2.2.1, a0.2.2.2.2.1,
 (List.take (a1.toNat - (0 : Nat))
 (List.drop (0 : Nat) a0.2.2.2.2.2.1)).append
 (List.take
 (List.length a0.2.2.2.2.2.1 -
 (K6.wrap (a1 + (1 : Int))).toNat)
 (List.drop (K6.wrap (a1 + (1 : Int))).toNat
 a0.2.2.2.2.2.1)),
 a0.2.2.2.2.2.2),
 PUnit.unit)
 else none
 else none
 else none
 else none)
 (if (0 : Int) ≤ K6.wrap (a1 + (1 : Int)) then
 if K6.wrap (a1 + (1 : Int)) ≤ (↑(List.length a0.2.2.2.2.2.1) : Int) then
 if
 (0 : Nat) +
 (List.take (a1.toNat - (0 : Nat))
 (List.drop (0 : Nat) a0.2.2.2.2.2.1)).length ≤
 lim then
 if
 (List.take (a1.toNat - (0 : Nat))
 (List.drop (0 : Nat) a0.2.2.2.2.2.1)).length +
 (List.take
 (List.length a0.2.2.2.2.2.1 -
 (K6.wrap (a1 + (1 : Int))).toNat)
 (List.drop (K6.wrap (a1 + (1 : Int))).toNat
 a0.2.2.2.2.2.1)).length ≤
 lim then
 some
 ((y, true, PUnit.unit),
 (a0.1, a0.2.1, a0.2.2.1, a0.2.2.2.1, a0.2.2.2.2.1,
 (List.take (a1.toNat - (0 : Nat))
 (List.drop (0 : Nat) a0.2.2.2.2.2.1)).append
 (List.take
 (List.length a0.2.2.2.2.2.1 -
 (K6.wrap (a1 + (1 : Int))).toNat)
 (List.drop (K6.wrap (a1 + (1 : Int))).toNat
 a0.2.2.2.2.2.1)),
 a0.2.2.2.2.2.2),
 PUnit.unit)
 else none
 else none
 else none
 else none)
 else none
 else none)
 (Wf
 (if (0 : Int) ≤ a1 then
 if a1 ≤ (↑(List.length a0.2.2.2.2.2.1) : Int) then
 Wf
 (Wf
 (if
 (0 : Nat) +
 (List.take (a1.toNat - (0 : Nat))
 (List.drop (0 : Nat) a0.2.2.2.2.2.1)).length ≤
 lim then
 if (0 : Int) ≤ K6.wrap (a1 + (1 : Int)) then
 if
 K6.wrap (a1 + (1 : Int)) ≤
 (↑(List.length a0.2.2.2.2.2.1) : Int) then
 if
 (List.take (a1.toNat - (0 : Nat))
 (List.drop (0 : Nat) a0.2.2.2.2.2.1)).length +
 (List.take
 (List.length a0.2.2.2.2.2.1 -
 (K6.wrap (a1 + (1 : Int))).toNat)
 (List.drop (K6.wrap (a1 + (1 : Int))).toNat
 a0.2.2.2.2.2.1)).length ≤
 lim then
 some
 ((y, true, PUnit.unit),
 (a0.1, a0.2.1, a0.2.2.1, a0.2.2.2.1, a0.2.2.2.2.1,
 (List.take (a1.toNat - (0 : Nat))
 (List.drop (0 : Nat) a0.2.2.2.2.2.1)).append
 (List.take
 (List.length a0.2.2.2.2.2.1 -
 (K6.wrap (a1 + (1 : Int))).toNat)
 (List.drop (K6.wrap (a1 + (1 : Int))).toNat
 a0.2.2.2.2.2.1)),
 a0.2.2.2.2.2.2),
 PUnit.unit)
 else none
 else none
 else none
 else none)
 (if (0 : Int) ≤ K6.wrap (a1 + (1 : Int)) then
 if
 K6.wrap (a1 + (1 : Int)) ≤
 (↑(List.length a0.2.2.2.2.2.1) : Int) then
 if
 (0 : Nat) +
 (List.take (a1.toNat - (0 : Nat))
 (List.drop (0 : Nat) a0.2.2.2.2.2.1)).length ≤
 lim then
 if
 (List.take (a1.toNat - (0 : Nat))
 (List.drop (0 : Nat) a0.2.2.2.2.2.1)).length +
 (List.take
 (List.length a0.2.2.2.2.2.1 -
 (K6.wrap (a1 + (1 : Int))).toNat)
 (List.drop (K6.wrap (a1 + (1 : Int))).toNat
 a0.2.2.2.2.2.1)).length ≤
 lim then
 some
 ((y, true, PUnit.unit),
 (a0.1, a0.2.1, a0.2.2.1, a0.2.2.2.1, a0.2.2.2.2.1,
 (List.take (a1.toNat - (0 : Nat))
 (List.drop (0 : Nat) a0.2.2.2.2.2.1)).append
 (List.take
 (List.length a0.2.2.2.2.2.1 -
 (K6.wrap (a1 + (1 : Int))).toNat)
 (List.drop (K6.wrap (a1 + (1 : Int))).toNat
 a0.2.2.2.2.2.1)),
 a0.2.2.2.2.2.2),
 PUnit.unit)
 else none
 else none
 else none
 else none))
 (if (0 : Int) ≤ K6.wrap (a1 + (1 : Int)) then
 if
 K6.wrap (a1 + (1 : Int)) ≤
 (↑(List.length a0.2.2.2.2.2.1) : Int) then
 if
 (0 : Nat) +
 (List.take (a1.toNat - (0 : Nat))
 (List.drop (0 : Nat) a0.2.2.2.2.2.1)).length ≤
 lim then
 if
 (List.take (a1.toNat - (0 : Nat))
 (List.drop (0 : Nat) a0.2.2.2.2.2.1)).length +
 (List.take
 (List.length a0.2.2.2.2.2.1 -
 (K6.wrap (a1 + (1 : Int))).toNat)
 (List.drop (K6.wrap (a1 + (1 : Int))).toNat
 a0.2.2.2.2.2.1)).length ≤
 lim then
 some
 ((y, true, PUnit.unit),
 (a0.1, a0.2.1, a0.2.2.1, a0.2.2.2.1, a0.2.2.2.2.1,
 (List.take (a1.toNat - (0 : Nat))
 (List.drop (0 : Nat) a0.2.2.2.2.2.1)).append
 (List.take
 (List.length a0.2.2.2.2.2.1 -
 (K6.wrap (a1 + (1 : Int))).toNat)
 (List.drop (K6.wrap (a1 + (1 : Int))).toNat
 a0.2.2.2.2.2.1)),
 a0.2.2.2.2.2.2),
 PUnit.unit)
 else none
 else none
 else none
 else none)
 else none
 else none)
 (if (0 : Int) ≤ K6.wrap (a1 + (1 : Int)) then
 if K6.wrap (a1 + (1 : Int)) ≤ (↑(List.length a0.2.2.2.2.2.1) : Int) then
 Wf
 (if (0 : Int) ≤ a1 then
 if a1 ≤ (↑(List.length a0.2.2.2.2.2.1) : Int) then
 if
 (0 : Nat) +
 (List.take (a1.toNat - (0 : Nat))
 (List.drop (0 : Nat) a0.2.2.2.2.2.1)).length ≤
 lim then
 if
 (List.take (a1.toNat - (0 : Nat))
 (List.drop (0 : Nat) a0.2.2.2.2.2.1)).length +
 (List.take
 (List.length a0.2.2.2.2.2.1 -
 (K6.wrap (a1 + (1 : Int))).toNat)
 (List.drop (K6.wrap (a1 + (1 : Int))).toNat
 a0.2.2.2.2.2.1)).length ≤
 lim then
 some
 ((y, true, PUnit.unit),
 (a0.1, a0.2.1, a0.2.2.1, a0.2.2.2.1, a0.2.2.2.2.1,
 (List.take (a1.toNat - (0 : Nat))
 (List.drop (0 : Nat) a0.2.2.2.2.2.1)).append
 (List.take
 (List.length a0.2.2.2.2.2.1 -
 (K6.wrap (a1 + (1 : Int))).toNat)
 (List.drop (K6.wrap (a1 + (1 : Int))).toNat
 a0.2.2.2.2.2.1)),
 a0.2.2.2.2.2.2),
 PUnit.unit)
 else none
 else none
 else none
 else none)
 (if (0 : Int) ≤ a1 then
 if a1 ≤ (↑(List.length a0.2.2.2.2.2.1) : Int) then
 if
 (0 : Nat) +
 (List.take (a1.toNat - (0 : Nat))
 (List.drop (0 : Nat) a0.2.2.2.2.2.1)).length ≤
 lim then
 if
 (List.take (a1.toNat - (0 : Nat))
 (List.drop (0 : Nat) a0.2.2.2.2.2.1)).length +
 (List.take
 (List.length a0.2.2.2.2.2.1 -
 (K6.wrap (a1 + (1 : Int))).toNat)
 (List.drop (K6.wrap (a1 + (1 : Int))).toNat
 a0.2.2.2.2.2.1)).length ≤
 lim then
 some
 ((y, true, PUnit.unit),
 (a0.1, a0.2.1, a0.2.2.1, a0.2.2.2.1, a0.2.2.2.2.1,
 (List.take (a1.toNat - (0 : Nat))
 (List.drop (0 : Nat) a0.2.2.2.2.2.1)).append
 (List.take
 (List.length a0.2.2.2.2.2.1 -
 (K6.wrap (a1 + (1 : Int))).toNat)
 (List.drop (K6.wrap (a1 + (1 : Int))).toNat
 a0.2.2.2.2.2.1)),
 a0.2.2.2.2.2.2),
 PUnit.unit)
 else none
 else none
 else none
 else none)
 else none
 else none))))
 else none
 else none := by kernel_rfl
def Mu : Yf := (98, Zdd) :: AD
theorem IG : Yg Mu := cons_cons ZeM Bi
def SR := FX.mk (false, false, [5, 6, 7, 14, 16, 17, 18, 23]) Mu [] [none] Tryz.f143 (shO (shV ZA) [.mu Zz])
def SS : Con := cA SR [.mu Zz, .ro ZN] true
theorem ZbA : CO 143 SS := Vr IG
def W4 (n : Nat) (a0 : Zi) (a1 : Yh) : Option (Bool × Zi × Unit) := qA SR [.mu Zz, .ro ZN] n (a0, a1, ())
theorem ZbB (n : Nat) (a0 a1) : W4 n a0 a1 =
  bif
 decide
 ((60 : Int) <
 K6.wrap ((↑(List.length a0.2.2.2.2.2.1) : Int) + (↑(List.length a1) : Int))) then
 some (false, a0, PUnit.unit)
 else
 if (0 : Nat) + List.length a0.2.2.2.2.2.1 ≤ lim then
 if List.length a0.2.2.2.2.2.1 + List.length a1 ≤ lim then
 some
 (true,
 (a0.1, a0.2.1, a0.2.2.1, a0.2.2.2.1, a0.2.2.2.2.1,
 List.append a0.2.2.2.2.2.1 a1, a0.2.2.2.2.2.2),
 PUnit.unit)
 else none
 else none := by kernel_rfl
def GH : Yf := (143, SS) :: Mu
theorem Fd : Yg GH := cons_cons ZbA IG
abbrev IH : W0 := (.is (.ptr 5 0) :: dp 2 (.is (.ptr 6 0) :: .ro Zc :: dp 30 []), [.drop, .drop, .drop, .drop, .drop, .vars [.ro Zc, .ro ZA, .ro Zc, .own Zr, .own ZR, .own Zd, .own Zh, .own ZH], .vars (rp 4 Zc [])])
def GI := FX.mk (false, false, [3, 6, 7, 8, 14, 15, 16, 23, 25, 26, 27, 33]) GH [(2, IH)] [] Tryz.f147 (shO shN [.mu Zz])
def ST : Con := cA GI [.mu Zz, .ro Z8] true
theorem ZbC : CO 147 ST := Vr Fd
def GJ (n : Nat) (a0 : Zi) (a1 : Z3) : Option (Unit × Zi × Unit) := qA GI [.mu Zz, .ro Z8] n (a0, a1, ())
def Qn (n : Nat) (s4 aa : Int) (ab : Bool) (ac : Int) (ad : List Zt) (ae : List ZS) (af : List Zg) (ag : List Zl) (ah : List Z5) (ai aj ak al : Int) : Option (Unit × Zi × Unit) := rR GI [AP.enc (.mu Zz) (WI Zz), AP.enc (.ro Z8) (WI Z8)] 2 IH n (s4, ()) ((aa, ab, ac, ad, ae, af, ag, ah, ()), (ai, aj, ak, al, ()), ())
theorem ZbD (n : Nat) (a0 a1) : GJ n a0 a1 = Qn n 0 a0.1 a0.2.1 a0.2.2.1 a0.2.2.2.1 a0.2.2.2.2.1 a0.2.2.2.2.2.1 a0.2.2.2.2.2.2.1 a0.2.2.2.2.2.2.2.1 a1.1 a1.2.1 a1.2.2.1 a1.2.2.2.1 := by kernel_rfl
theorem Bj (n : Nat) (s4 aa ab ac ad ae af ag ah ai aj ak al) : Qn (n + 1) s4 aa ab ac ad ae af ag ah ai aj ak al = bif decide (s4 < (↑ag.length : Int)) then if 0 ≤ s4 then if s4 < (↑ag.length : Int) then (nth ag s4.toNat).bind fun y => bif eqD Z8 y (ai, aj, ak, al, ()) then some ((), (aa, ab, ac, ad, ae, af, ag, ah, ()), ()) else Qn n (K6.wrap (s4 + 1)) aa ab ac ad ae af ag ah ai aj ak al else none else none else (fun zB => Wf (Wf zB zB) zB) (if (0 : Nat) + ag.length ≤ lim then if ag.length + [(ai, aj, ak, al, ())].length ≤ lim then some ((), (aa, ab, ac, ad, ae, af, ag.append [(ai, aj, ak, al, ())], ah, ()), ()) else none else none) := by kernel_rfl
def GK : Yf := (147, ST) :: GH
theorem Fe : Yg GK := cons_cons ZbC Fd
abbrev Dc : W0 := (.is (.ptr 5 0) :: dp 6 (.is (.own 25 0) :: .ro Zc :: dp 108 []), [.drop, .drop, .drop, .drop, .drop, .vars [.ro Zc, .ro ZA, .ro Zc, .own Zr, .own ZR, .own Zd, .own Zh, .own ZH], .drop, .drop, .drop, .drop, .drop, .drop, .drop, .drop, .drop, .drop, .drop, .drop, .drop, .drop, .drop, .drop, .drop, .drop, .drop, .arr Zd])
def Dd := FX.mk (true, true, [5, 17, 18, 20, 25, 26, 27, 30, 31, 32, 34, 36, 37, 38, 40, 41, 42, 44, 45, 46, 48, 58, 59, 60, 62, 64, 65, 66, 68, 69, 70, 72, 73, 74, 76, 104, 105, 106]) GK [(11, Dc)] [none] Tryz.f97 (shO (shV ZA) [.mu Zz])
def N2 : Con := cA Dd [.mu Zz, .ro Zk] true
theorem SU : CO 97 N2 := Vr Fe
def De (n : Nat) (a0 : Zi) (a1 : Int) : Option (Bool × Zi × Unit) := qA Dd [.mu Zz, .ro Zk] n (a0, a1, ())
def Yn (n : Nat) (s8 aa : Int) (ab : Bool) (ac : Int) (ad : List Zt) (ae : List ZS) (af : List Zg) (ag : List Zl) (ah : List Z5) (b25 : List Zg) : Option (Bool × Zi × Unit) := rR Dd [AP.enc (.mu Zz) (WI Zz), AP.enc (.ro Zk) (WI Zk)] 11 Dc n (s8, ()) ((aa, ab, ac, ad, ae, af, ag, ah, ()), b25, ())
theorem SW (n : Nat) (a0 a1) : De n a0 a1 = (Ef big a0 a1).bind fun y => bif !y.1.2.1 then some (false, y.2) else (XM big y.2.1 y.1.1.2.2.1).bind fun f => bif !f then some (true, y.2) else bif y.2.1.2.1 then if 0 ≤ y.1.1.2.2.1 then if y.1.1.2.2.1 < (↑(List.length y.2.1.2.2.2.2.1) : Int) then (nth y.2.1.2.2.2.2.1 (Int.toNat y.1.1.2.2.1)).bind fun c => (Qm big y.2.1.2.2.2.1 y.2.1.1 c y.1.1).bind fun b => (Ei y.2.1.2.2.2.2.1 (Int.toNat y.1.1.2.2.1) c).bind fun a => if 0 ≤ y.1.1.2.2.1 then if y.1.1.2.2.1 < (↑a.length : Int) then (nth a (Int.toNat y.1.1.2.2.1)).bind fun e => (Ei a (Int.toNat y.1.1.2.2.1) b.1).bind fun d => Yn n 0 y.2.1.1 y.2.1.2.1 y.2.1.2.2.1 y.2.1.2.2.2.1 d y.2.1.2.2.2.2.2.1 y.2.1.2.2.2.2.2.2.1 y.2.1.2.2.2.2.2.2.2.1 b.2.1 else none else none else none else none else if 0 ≤ y.1.1.2.2.1 then if y.1.1.2.2.1 < (↑(List.length y.2.1.2.2.2.2.1) : Int) then (nth y.2.1.2.2.2.2.1 (Int.toNat y.1.1.2.2.1)).bind fun c => (AC big y.2.1.2.2.2.1 y.2.1.1 c y.1.1).bind fun b => (Ei y.2.1.2.2.2.2.1 (Int.toNat y.1.1.2.2.1) c).bind fun a => if 0 ≤ y.1.1.2.2.1 then if y.1.1.2.2.1 < (↑a.length : Int) then (nth a (Int.toNat y.1.1.2.2.1)).bind fun e => (Ei a (Int.toNat y.1.1.2.2.1) b.1).bind fun d => Yn n 0 y.2.1.1 y.2.1.2.1 y.2.1.2.2.1 y.2.1.2.2.2.1 d y.2.1.2.2.2.2.2.1 y.2.1.2.2.2.2.2.2.1 y.2.1.2.2.2.2.2.2.2.1 b.2.1 else none else none else none else none := by kernel_rfl
theorem Kx (n : Nat) (s8 aa ab ac ad ae af ag ah b25) : Yn (n + 1) s8 aa ab ac ad ae af ag ah b25 = bif decide (s8 < (↑b25.length : Int)) then if 0 ≤ s8 then if s8 < (↑b25.length : Int) then (nth b25 s8.toNat).bind fun y => bif decide (y.1 = 2) then if 0 ≤ s8 then if s8 < (↑b25.length : Int) then (nth b25 s8.toNat).bind fun y => (GJ big (aa, ab, ac, ad, ae, af, ag, ah, ()) y.2.2.2.2.2.2.1).bind fun y => bif decide ((↑(List.length y.2.1.2.2.2.2.2.1) : Int) < 60) then if 0 ≤ K6.wrap (s8 + 1) then if K6.wrap (s8 + 1) ≤ (↑b25.length : Int) then if 0 ≤ s8 then if s8 ≤ K6.wrap (s8 + 1) then (W4 big y.2.1 (List.take ((K6.wrap (s8 + 1)).toNat - s8.toNat) (List.drop s8.toNat b25))).bind fun y => Yn n (K6.wrap (s8 + 1)) y.2.1.1 y.2.1.2.1 y.2.1.2.2.1 y.2.1.2.2.2.1 y.2.1.2.2.2.2.1 y.2.1.2.2.2.2.2.1 y.2.1.2.2.2.2.2.2.1 y.2.1.2.2.2.2.2.2.2.1 b25 else none else none else none else none else Yn n (K6.wrap (s8 + 1)) y.2.1.1 y.2.1.2.1 y.2.1.2.2.1 y.2.1.2.2.2.1 y.2.1.2.2.2.2.1 y.2.1.2.2.2.2.2.1 y.2.1.2.2.2.2.2.2.1 y.2.1.2.2.2.2.2.2.2.1 b25 else none else none else bif decide ((↑af.length : Int) < 60) then if 0 ≤ K6.wrap (s8 + 1) then if K6.wrap (s8 + 1) ≤ (↑b25.length : Int) then if 0 ≤ s8 then if s8 ≤ K6.wrap (s8 + 1) then (W4 big (aa, ab, ac, ad, ae, af, ag, ah, ()) (List.take ((K6.wrap (s8 + 1)).toNat - s8.toNat) (List.drop s8.toNat b25))).bind fun y => Yn n (K6.wrap (s8 + 1)) y.2.1.1 y.2.1.2.1 y.2.1.2.2.1 y.2.1.2.2.2.1 y.2.1.2.2.2.2.1 y.2.1.2.2.2.2.2.1 y.2.1.2.2.2.2.2.2.1 y.2.1.2.2.2.2.2.2.2.1 b25 else none else none else none else none else Yn n (K6.wrap (s8 + 1)) aa ab ac ad ae af ag ah b25 else none else none else some (true, (aa, ab, ac, ad, ae, af, ag, ah, ()), ()) := by kernel_rfl
def Df : Yf := (97, N2) :: GK
theorem Dg : Yg Df := cons_cons SU Fe
def SX := FX.mk (true, true, [5, 6, 8, 9, 15, 16, 17, 22, 23, 24, 32, 33, 34, 999999]) Df [] [none] Tryz.f100 (shO (shV ZA) [.mu Zz])
def SY : Con := cA SX [.mu Zz, .ro Zk] true
theorem ZbE : CO 100 SY := Vr Dg
def GL (n : Nat) (a0 : Zi) (a1 : Int) : Option (Bool × Zi × Unit) := qA SX [.mu Zz, .ro Zk] n (a0, a1, ())
theorem ZbF (n : Nat) (a0 a1) : GL n a0 a1 = (XM big a0 a1).bind fun y => bif !y then some (false, a0, ()) else if 0 ≤ a1 then if a1 < (↑(List.length a0.2.2.2.2.1) : Int) then (nth a0.2.2.2.2.1 a1.toNat).bind fun y => (CJ big y a0.1).bind fun a => (Ei a0.2.2.2.2.1 a1.toNat y).bind fun y => (fun zB => Wf zB zB) (bif !a.2.2.1 then some (false, (a0.1, a0.2.1, a0.2.2.1, a0.2.2.2.1, y, a0.2.2.2.2.2), ()) else if 0 ≤ a1 then if a1 < (↑y.length : Int) then (nth y a1.toNat).bind fun b => (Ei y a1.toNat a.1).bind fun y => (W4 big (a0.1, a0.2.1, a0.2.2.1, a0.2.2.2.1, y, a0.2.2.2.2.2) [a.2.1]).bind fun y => some (true, y.2) else none else none) else none else none := by kernel_rfl
def SZ : Yf := (100, SY) :: Df
theorem ZbG : Yg SZ := cons_cons ZbE Dg
end
end Go.Sx.Tryz
