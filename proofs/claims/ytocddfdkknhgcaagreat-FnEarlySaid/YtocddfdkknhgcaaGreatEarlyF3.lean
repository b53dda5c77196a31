/- The functions of the seat: what each comes to. -/
import Derived.Test.YtocddfdkknhgcaaGreatTypes
import Derived.Test.YtocddfdkknhgcaaGreatEarlyF2
import Derived.Test.YtocddfdkknhgcaaGreatEarlyF1
set_option linter.unusedVariables false
set_option linter.unusedSimpArgs false
set_option maxRecDepth 100000
namespace Go.Sx.Tryz
open Go Go.Sx Go.Proofs
open Go.IntKind renaming i64 → K6
noncomputable section
abbrev Bl : VS := (.is (.ptr 6 0) :: dp 4 (.is (.ptr 7 0) :: .ro Za :: dp 68 []), [.drop, .drop, .drop, .drop, .drop, .drop, .vars (rp 14 Za [.own Za, .own Zq, .own Za, .own ZH, .own Zx, .own Zl, .ro Za]), .vars (rp 13 Za [])])
def ZFJ := FX.mk (false, false, [5, 7, 11, 12, 13, 17, 19, 20, 21, 25, 27, 28, 29, 35, 36, 37, 39, 44, 45, 46, 52, 53, 54, 60, 63, 65, 66, 67, 73]) ZGs [(4, Bl)] [] Tryz.f252 (shO shN [.mu ZL])
def Zgb : Con := cA ZFJ [.mu ZL, .ro Zp, .ro ZQ] true
theorem Zio : CO 252 Zgb := ZBw ZF5
def Gr (n : Nat) (a0 : Zj) (a1 : Int) (a2 : Zo) : Option (Unit × Zj × Unit) := qA ZFJ [.mu ZL, .ro Zp, .ro ZQ] n (a0, a1, a2, ())
def X8 (n : Nat) (s6 aa ab ac ad ae af ag ah ai aj ak al am an : Int) (ao : List Int) (ap : List Ze) (aq : List Int) (ar : List Zw) (au : List Zf) (av : List Zc) (aw ax ay az ba bb bc bd be bf bg bh bi bj : Int) : Option (Unit × Zj × Unit) := rR ZFJ [AP.enc (.mu ZL) (ZS ZL), AP.enc (.ro Zp) (ZS Zp), AP.enc (.ro ZQ) (ZS ZQ)] 4 Bl n (s6, ()) ((aa, ab, ac, ad, ae, af, ag, ah, ai, aj, ak, al, am, an, ao, ap, aq, ar, au, av, aw, ()), (ax, ay, az, ba, bb, bc, bd, be, bf, bg, bh, bi, bj, ()), ())
theorem Mz (n : Nat) (a0 a1 a2) : Gr n a0 a1 a2 = (Xv big a2.2.2.2.1 a1).bind fun y => (fun zC0 => bif !decide (y = a0.1) then some ((), a0, ()) else bif !decide (a2.2.2.2.1 = a0.2.1) then bif !decide (a2.2.2.2.1 = K6.wrap (a0.2.1 + 1)) then some ((), a0, ()) else zC0 else zC0) ((Wd big a0 a2.2.2.2.1).bind fun y => X8 n 0 y.1 y.2.1 y.2.2.1.1 y.2.2.1.2.1 y.2.2.1.2.2.1 y.2.2.1.2.2.2.1 y.2.2.2.1.1 y.2.2.2.1.2.1 y.2.2.2.1.2.2.1 y.2.2.2.1.2.2.2.1 y.2.2.2.2.1.1 y.2.2.2.2.1.2.1 y.2.2.2.2.1.2.2.1 y.2.2.2.2.1.2.2.2.1 y.2.2.2.2.2.1 y.2.2.2.2.2.2.1 y.2.2.2.2.2.2.2.1 y.2.2.2.2.2.2.2.2.1 y.2.2.2.2.2.2.2.2.2.1 y.2.2.2.2.2.2.2.2.2.2.1 y.2.2.2.2.2.2.2.2.2.2.2.1 a2.1 a2.2.1 a2.2.2.1 a2.2.2.2.1 a2.2.2.2.2.1 a2.2.2.2.2.2.1.1 a2.2.2.2.2.2.1.2.1 a2.2.2.2.2.2.1.2.2.1 a2.2.2.2.2.2.1.2.2.2.1 a2.2.2.2.2.2.2.1.1 a2.2.2.2.2.2.2.1.2.1 a2.2.2.2.2.2.2.1.2.2.1 a2.2.2.2.2.2.2.1.2.2.2.1) := by kernel_rfl
theorem Al (n : Nat) (s6 aa ab ac ad ae af ag ah ai aj ak al am an ao ap aq ar au av aw ax ay az ba bb bc bd be bf bg bh bi bj) : X8 (n + 1) s6 aa ab ac ad ae af ag ah ai aj ak al am an ao ap aq ar au av aw ax ay az ba bb bc bd be bf bg bh bi bj = bif decide (s6 < (↑av.length : Int)) then if 0 ≤ s6 then if s6 < (↑av.length : Int) then (nth av s6.toNat).bind fun y => bif decide (y.2.1 = ay) then some ((), (aa, ab, (ac, ad, ae, af, ()), (ag, ah, ai, aj, ()), (ak, al, am, an, ()), ao, ap, aq, ar, au, av, aw, ()), ()) else X8 n (K6.wrap (s6 + 1)) aa ab ac ad ae af ag ah ai aj ak al am an ao ap aq ar au av aw ax ay az ba bb bc bd be bf bg bh bi bj else none else none else (fun zB => (fun zB => Wk (Wk zB zB) zB) (zB)) (if (0 : Nat) + av.length ≤ lim then if av.length + [(ax, ay, az, ba, bb, (bc, bd, be, bf, ()), (bg, bh, bi, bj, ()), ())].length ≤ lim then some ((), (aa, ab, (ac, ad, ae, af, ()), (ag, ah, ai, aj, ()), (ak, al, am, an, ()), ao, ap, aq, ar, au, av.append [(ax, ay, az, ba, bb, (bc, bd, be, bf, ()), (bg, bh, bi, bj, ()), ())], aw, ()), ()) else none else none) := by kernel_rfl
def ZFK : Yy := (252, Zgb) :: ZGs
theorem ZFr : YA ZFK := cons_cons Zio ZF5
abbrev Ki : VS := (.is (.ptr 6 0) :: .ro Za :: dp 5 (.own Zl :: .drop :: .is (.ptr 17 0) :: .drop :: .ro Za :: dp 130 []), [.drop, .drop, .drop, .drop, .drop, .drop, .vars (rp 14 Za [.own Za, .own Zq, .own Za, .own ZH, .own Zx, .own Zl, .ro Za]), .drop, .drop, .drop, .drop, .drop, .drop, .drop, .drop, .drop, .drop, .vars (rp 4 Za [])])
abbrev WJ : VS := (.is (.ptr 6 0) :: .ro Za :: dp 3 (.is (.ptr 7 0) :: .drop :: .own Zl :: .ro Za :: dp 133 []), [.drop, .drop, .drop, .drop, .drop, .drop, .vars (rp 14 Za [.own Za, .own Zq, .own Za, .own ZH, .own Zx, .own Zl, .ro Za]), .vars (rp 4 Za [])])
def ZDP := FX.mk (false, false, [5, 9, 13, 15, 18, 24, 25, 26, 31, 32, 33, 38, 39, 40, 45, 46, 47, 55, 56, 57, 62, 63, 64, 70, 72, 73, 74, 80, 82, 83, 84, 86, 88, 90, 99, 100, 101, 103, 105, 107, 113, 116, 117, 118, 119, 123, 132, 133, 999999]) ZFK [(17, Ki), (5000007, WJ)] [some Z1] Tryz.f258 (shO (shF Z1) [.mu ZL])
def Zbn : Con := cA ZDP [.mu ZL, .ro Zp, .ro Z9] true
theorem Zep : CO 258 Zbn := ZBw ZFr
def Dp (n : Nat) (a0 : Zj) (a1 : Int) (a2 : ZX) : Option (Z3 × Zj × Unit) := qA ZDP [.mu ZL, .ro Zp, .ro Z9] n (a0, a1, a2, ())
def VX (n : Nat) (s1 : Int) (s7 : List Zc) (s11 aa ab ac ad ae af ag ah ai aj ak al am an : Int) (ao : List Int) (ap : List Ze) (aq : List Int) (ar : List Zw) (au : List Zf) (av : List Zc) (aw bb bc bd be : Int) : Option (Z3 × Zj × Unit) := rR ZDP [AP.enc (.mu ZL) (ZS ZL), AP.enc (.ro Zp) (ZS Zp), AP.enc (.ro Z9) (ZS Z9)] 17 Ki n (s1, s7, s11, ()) ((aa, ab, ac, ad, ae, af, ag, ah, ai, aj, ak, al, am, an, ao, ap, aq, ar, au, av, aw, ()), (bb, bc, bd, be, ()), ())
def Y5 (n : Nat) (s1 : Int) (s7 : List Zc) (s8 aa ab ac ad ae af ag ah ai aj ak al am an : Int) (ao : List Int) (ap : List Ze) (aq : List Int) (ar : List Zw) (au : List Zf) (av : List Zc) (aw ax ay az ba : Int) : Option (Z3 × Zj × Unit) := rR ZDP [AP.enc (.mu ZL) (ZS ZL), AP.enc (.ro Zp) (ZS Zp), AP.enc (.ro Z9) (ZS Z9)] 5000007 WJ n (s1, s7, s8, ()) ((aa, ab, ac, ad, ae, af, ag, ah, ai, aj, ak, al, am, an, ao, ap, aq, ar, au, av, aw, ()), (ax, ay, az, ba, ()), ())
theorem Ht (n : Nat) (a0 a1 a2) : Dp n a0 a1 a2 = bif decide (a2.1 = 4) then (Xv big (K6.wrap (a2.2.1 + 1)) a1).bind fun y => (fun zC0 => bif decide (y = a0.1) then bif decide (K6.wrap (a2.2.1 + 1) = K6.wrap (a0.2.1 + 1)) then (Wd big a0 (K6.wrap (a2.2.1 + 1))).bind fun y => Y5 n a1 [] (K6.wrap (a2.2.1 + 1)) y.1 y.2.1 y.2.2.1.1 y.2.2.1.2.1 y.2.2.1.2.2.1 y.2.2.1.2.2.2.1 y.2.2.2.1.1 y.2.2.2.1.2.1 y.2.2.2.1.2.2.1 y.2.2.2.1.2.2.2.1 y.2.2.2.2.1.1 y.2.2.2.2.1.2.1 y.2.2.2.2.1.2.2.1 y.2.2.2.2.1.2.2.2.1 y.2.2.2.2.2.1 y.2.2.2.2.2.2.1 y.2.2.2.2.2.2.2.1 y.2.2.2.2.2.2.2.2.1 y.2.2.2.2.2.2.2.2.2.1 y.2.2.2.2.2.2.2.2.2.2.1 y.2.2.2.2.2.2.2.2.2.2.2.1 a2.1 a2.2.1 a2.2.2.1 a2.2.2.2.1 else zC0 else zC0) (Y5 n a1 [] (K6.wrap (a2.2.1 + 1)) a0.1 a0.2.1 a0.2.2.1.1 a0.2.2.1.2.1 a0.2.2.1.2.2.1 a0.2.2.1.2.2.2.1 a0.2.2.2.1.1 a0.2.2.2.1.2.1 a0.2.2.2.1.2.2.1 a0.2.2.2.1.2.2.2.1 a0.2.2.2.2.1.1 a0.2.2.2.2.1.2.1 a0.2.2.2.2.1.2.2.1 a0.2.2.2.2.1.2.2.2.1 a0.2.2.2.2.2.1 a0.2.2.2.2.2.2.1 a0.2.2.2.2.2.2.2.1 a0.2.2.2.2.2.2.2.2.1 a0.2.2.2.2.2.2.2.2.2.1 a0.2.2.2.2.2.2.2.2.2.2.1 a0.2.2.2.2.2.2.2.2.2.2.2.1 a2.1 a2.2.1 a2.2.2.1 a2.2.2.2.1) else Y5 n a1 [] a2.2.1 a0.1 a0.2.1 a0.2.2.1.1 a0.2.2.1.2.1 a0.2.2.1.2.2.1 a0.2.2.1.2.2.2.1 a0.2.2.2.1.1 a0.2.2.2.1.2.1 a0.2.2.2.1.2.2.1 a0.2.2.2.1.2.2.2.1 a0.2.2.2.2.1.1 a0.2.2.2.2.1.2.1 a0.2.2.2.2.1.2.2.1 a0.2.2.2.2.1.2.2.2.1 a0.2.2.2.2.2.1 a0.2.2.2.2.2.2.1 a0.2.2.2.2.2.2.2.1 a0.2.2.2.2.2.2.2.2.1 a0.2.2.2.2.2.2.2.2.2.1 a0.2.2.2.2.2.2.2.2.2.2.1 a0.2.2.2.2.2.2.2.2.2.2.2.1 a2.1 a2.2.1 a2.2.2.1 a2.2.2.2.1 := by kernel_rfl
theorem QX (n : Nat) (s1 s7 s11 aa ab ac ad ae af ag ah ai aj ak al am an ao ap aq ar au av aw bb bc bd be) : VX (n + 1) s1 s7 s11 aa ab ac ad ae af ag ah ai aj ak al am an ao ap aq ar au av aw bb bc bd be = bif decide (s11 < s1) then if s7.length + [(3, aa, s11, ab, 0, (bb, bc, bd, be, ()), (0, 0, 0, 0, ()), ())].length ≤ lim then VX n s1 (s7.append [(3, aa, s11, ab, 0, (bb, bc, bd, be, ()), (0, 0, 0, 0, ()), ())]) (K6.wrap (s11 + 1)) aa ab ac ad ae af ag ah ai aj ak al am an ao ap aq ar au av aw bb bc bd be else none else some (s7, (aa, ab, (ac, ad, ae, af, ()), (ag, ah, ai, aj, ()), (ak, al, am, an, ()), ao, ap, aq, ar, au, av, aw, ()), ()) := by kernel_rfl
theorem QF (n : Nat) (s1 s7 s8 aa ab ac ad ae af ag ah ai aj ak al am an ao ap aq ar au av aw ax ay az ba) : Y5 (n + 1) s1 s7 s8 aa ab ac ad ae af ag ah ai aj ak al am an ao ap aq ar au av aw ax ay az ba = (fun zC0 => bif !decide (ab = s8) then zC0 else (Xv big s8 s1).bind fun y => bif !decide (y = aa) then zC0 else (NK big au (ax, ay, az, ba, ())).bind fun y => bif y then zC0 else (fun zB => (fun zB => Wk (Wk zB zB) zB) (zB)) (if (0 : Nat) + au.length ≤ lim then if au.length + [(ax, ay, az, ba, ())].length ≤ lim then (Qg big (au.append [(ax, ay, az, ba, ())]) ax ay az).bind fun y => (XT big y).bind fun y => (JQ big s1).bind fun a => bif !decide (y = a) then some (s7, (aa, ab, (ac, ad, ae, af, ()), (ag, ah, ai, aj, ()), (ak, al, am, an, ()), ao, ap, aq, ar, au.append [(ax, ay, az, ba, ())], av, aw, ()), ()) else (Gn big (au.append [(ax, ay, az, ba, ())]) ax ay az s1).bind fun y => bif decide (ax = 4) then (Xw big (ac, ad, ae, af, ()) y.1).bind fun y => some (s7, (aa, ab, y, (ag, ah, ai, aj, ()), (ak, al, am, an, ()), ao, ap, aq, ar, au.append [(ax, ay, az, ba, ())], av, aw, ()), ()) else VX n s1 s7 0 aa ab ac ad ae af ag ah ai aj ak al am an ao ap aq ar (au.append [(ax, ay, az, ba, ())]) av aw y.1.1 y.1.2.1 y.1.2.2.1 y.1.2.2.2.1 else none else none)) (some (s7, (aa, ab, (ac, ad, ae, af, ()), (ag, ah, ai, aj, ()), (ak, al, am, an, ()), ao, ap, aq, ar, au, av, aw, ()), ())) := by kernel_rfl
def ZE9 : Yy := (258, Zbn) :: ZFK
theorem ZEO : YA ZE9 := cons_cons Zep ZFr
def ZF6 := FX.mk (false, false, [3, 5]) ZE9 [] [some ZL, some Z1] Tryz.f251 (shT [(true, ZL), (true, Z1)])
def Pv : Con := cA ZF6 [.gs ZL, .ro Zp, .ro Z9] true
theorem Zbp : CO 251 Pv := ZBw ZEO
def Bm (n : Nat) (a0 : Zj) (a1 : Int) (a2 : ZX) : Option (Zj × Z3 × Unit) := qA ZF6 [.gs ZL, .ro Zp, .ro Z9] n (a0, a1, a2, ())
theorem Fv (n : Nat) (a0 a1 a2) : Bm n a0 a1 a2 = (Dp big a0 a1 a2).bind fun y => some (y.2.1, y.1, ()) := by kernel_rfl
def ZEb : Yy := (251, Pv) :: ZE9
theorem ZEc : YA ZEb := cons_cons Zbp ZEO
def ZF7 := FX.mk (false, false, [6, 7, 10, 21, 23, 29, 35]) ZEb [] [some ZL, some Z1] Tryz.f235 (shT [(true, ZL), (true, Z1)])
def Fw : Con := cR ZF7 [Zg, Zp, ZW, ZQ] true
theorem Fx : CO 235 Fw := ZyS ZEc
def X9 (n : Nat) (a0 : Zt) (a1 : Int) (a2 : Zj) (a3 : Zo) : Option (Zj × Z3 × Unit) := qR ZF7 [Zg, Zp, ZW, ZQ] n (a0, a1, a2, a3, ())
theorem Fy (n : Nat) (a0 a1 a2 a3) : X9 n a0 a1 a2 a3 = (YX big a2).bind fun y => (Vo big a0 a1 a3).bind fun a => bif !a then some (y, [], ()) else bif !decide (a3.2.2.1 = a2.1) then some (y, [], ()) else bif decide (a3.1 = 2) then (Bm big y a1 a3.2.2.2.2.2.2.1).bind fun y => some y else bif decide (a3.1 = 4) then (Gr big y a1 a3).bind fun y => some (y.2.1, [], ()) else some (y, [], ()) := by kernel_rfl
def ZEd : Yy := (235, Fw) :: ZEb
theorem ZEe : YA ZEd := cons_cons Fx ZEc
def ZGt := FX.mk (false, false, [6, 7, 10, 23, 25, 31, 35, 46, 48, 54, 56, 62, 72, 76, 82, 84, 91, 93, 95]) ZEd [] [some ZL, some Z1] Tryz.f217 (shT [(true, ZL), (true, Z1)])
def Zbt : Con := cR ZGt [Zg, Zp, ZW, ZQ] true
theorem Zes : CO 217 Zbt := ZyS ZEe
def Am (n : Nat) (a0 : Zt) (a1 : Int) (a2 : Zj) (a3 : Zo) : Option (Zj × Z3 × Unit) := qR ZGt [Zg, Zp, ZW, ZQ] n (a0, a1, a2, a3, ())
theorem Hu (n : Nat) (a0 a1 a2 a3) : Am n a0 a1 a2 a3 = (YX big a2).bind fun y => (Vo big a0 a1 a3).bind fun a => bif !a then some (y, [], ()) else bif !decide (a3.2.2.1 = a2.1) then some (y, [], ()) else bif decide (a3.1 = 2) then (X9 big a0 a1 a2 a3).bind fun y => some y else bif decide (a3.1 = 4) then (X9 big a0 a1 a2 a3).bind fun y => some y else (Xv big a3.2.2.2.1 a1).bind fun c => bif !decide (a3.2.1 = c) then some (y, [], ()) else bif decide (a3.2.2.2.1 < a2.2.1) then some (y, [], ()) else bif decide (a3.1 = 3) then (My big a0 a1 y a3).bind fun y => some (y.2.1, y.1, ()) else (Wd big y a3.2.2.2.1).bind fun y => (QV big y 1 a3.2.2.2.1).bind fun b => bif !b then some (y, [], ()) else (Jz big a0 y.2.2.2.1 a3.2.2.2.2.1).bind fun d => bif !d then some (y, [], ()) else (Ui big y 1 a3.2.2.2.1 a3.2.2.2.2.1 a3.2.1).bind fun y => some (y.2.1, y.1, ()) := by kernel_rfl
def ZFa : Yy := (217, Zbt) :: ZEd
theorem ZEP : YA ZFa := cons_cons Zes ZEe
def ZFs := FX.mk (false, false, [6, 7, 10, 23, 25, 31, 44, 46, 61, 63, 71, 76, 78, 83, 85, 91, 98, 100, 102, 109]) ZFa [] [some ZL, some Z1] Tryz.f216 (shT [(true, ZL), (true, Z1)])
def MC : Con := cR ZFs [Zg, Zp, ZW, ZQ] true
theorem RI : CO 216 MC := ZyS ZEP
def Qm (n : Nat) (a0 : Zt) (a1 : Int) (a2 : Zj) (a3 : Zo) : Option (Zj × Z3 × Unit) := qR ZFs [Zg, Zp, ZW, ZQ] n (a0, a1, a2, a3, ())
theorem D8 (n : Nat) (a0 a1 a2 a3) : Qm n a0 a1 a2 a3 = (YX big a2).bind fun y => (Vo big a0 a1 a3).bind fun c => bif !c then some (y, [], ()) else bif !decide (a3.2.2.1 = a2.1) then some (y, [], ()) else bif decide (a3.1 = 2) then (X9 big a0 a1 a2 a3).bind fun y => some y else bif decide (a3.1 = 4) then (Xw big y.2.2.1 a3.2.2.2.2.2.1).bind fun a => (X9 big a0 a1 (y.1, y.2.1, a, y.2.2.2) a3).bind fun y => some y else bif decide (a3.1 = 3) then some (y, [], ()) else (Xv big a3.2.2.2.1 a1).bind fun a => bif !decide (a3.2.1 = a) then some (y, [], ()) else (QV big y 4 a3.2.2.2.1).bind fun f => bif f then (Jz big a0 y.2.2.2.1 a3.2.2.2.2.1).bind fun e => bif e then (XP big a0 y a3.2.2.2.2.1).bind fun y => bif !decide (a2.2.1 ≤ a3.2.2.2.1) then some (y, [], ()) else (Xv big (K6.wrap (a3.2.2.2.1 + 1)) a1).bind fun d => (Ui big y 4 a3.2.2.2.1 a3.2.2.2.2.1 d).bind fun y => (Wd big y.2.1 (K6.wrap (a3.2.2.2.1 + 1))).bind fun b => some (b, y.1, ()) else (XP big a0 y a3.2.2.2.2.1).bind fun y => some (y, [], ()) else (XP big a0 y a3.2.2.2.2.1).bind fun y => some (y, [], ()) := by kernel_rfl
def ZDQ : Yy := (216, MC) :: ZFa
theorem ZDZ : YA ZDQ := cons_cons RI ZEP
def ZGS := FX.mk (false, false, [6, 8, 9, 10, 17, 18, 19, 24, 26, 27, 28, 33, 34, 35, 41]) ZDQ [] [none, none] Tryz.f182 (shO (shT [(false, ZQ), (false, ZG)]) [.mu Zz])
def NS : Con := cA ZGS [.mu Zz, .ro Zp] true
theorem MD : CO 182 NS := ZBw ZDZ
def Cu (n : Nat) (a0 : Zi) (a1 : Int) : Option ((Zo × Bool × Unit) × Zi × Unit) := qA ZGS [.mu Zz, .ro Zp] n (a0, a1, ())
theorem ME (n : Nat) (a0 a1) : Cu n a0 a1 = (ZT big a1 0 (K6.wrap ((↑(List.length a0.2.2.2.2.2.1) : Int) - 1))).bind fun y => bif !y then some (((0, 0, 0, 0, 0, (0, 0, 0, 0, ()), (0, 0, 0, 0, ()), ()), false, ()), a0, ()) else if 0 ≤ a1 then if a1 < (↑(List.length a0.2.2.2.2.2.1) : Int) then (nth a0.2.2.2.2.2.1 a1.toNat).bind fun y => (fun zC0 => (fun zC1 => (fun zC2 => Wk (if 0 ≤ a1 then if a1 ≤ (↑(List.length a0.2.2.2.2.2.1) : Int) then (fun zB0 zB1 => (fun zB0 zB1 => Wk zB0 (Wk zB0 zB1)) (zB0) (zB1)) zC1 zC2 else none else none) (Wk (if 0 ≤ a1 then if a1 ≤ (↑(List.length a0.2.2.2.2.2.1) : Int) then (fun zB0 zB1 => (fun zB0 zB1 => Wk (Wk zB0 (Wk zB0 zB1)) (Wk (Wk zB0 zB1) zB1)) (zB0) (zB1)) zC1 zC2 else none else none) (Wk (if 0 ≤ a1 then if a1 ≤ (↑(List.length a0.2.2.2.2.2.1) : Int) then Wk (zC1) (zC2) else none else none) (Wk (if 0 ≤ a1 then if a1 ≤ (↑(List.length a0.2.2.2.2.2.1) : Int) then (fun zB0 zB1 => (fun zB0 zB1 => Wk (Wk zB0 zB1) zB1) (zB0) (zB1)) zC1 zC2 else none else none) (if 0 ≤ K6.wrap (a1 + 1) then if K6.wrap (a1 + 1) ≤ (↑(List.length a0.2.2.2.2.2.1) : Int) then (fun zB => (fun zB => Wk zB zB) (zB)) (if 0 ≤ a1 then if a1 ≤ (↑(List.length a0.2.2.2.2.2.1) : Int) then if (0 : Nat) + (List.take (a1.toNat - (0 : Nat)) (List.drop (0 : Nat) a0.2.2.2.2.2.1)).length ≤ lim then zC0 else none else none else none) else none else none))))) (if 0 ≤ K6.wrap (a1 + 1) then if K6.wrap (a1 + 1) ≤ (↑(List.length a0.2.2.2.2.2.1) : Int) then if (0 : Nat) + (List.take (a1.toNat - (0 : Nat)) (List.drop (0 : Nat) a0.2.2.2.2.2.1)).length ≤ lim then zC0 else none else none else none)) (if (0 : Nat) + (List.take (a1.toNat - (0 : Nat)) (List.drop (0 : Nat) a0.2.2.2.2.2.1)).length ≤ lim then if 0 ≤ K6.wrap (a1 + 1) then if K6.wrap (a1 + 1) ≤ (↑(List.length a0.2.2.2.2.2.1) : Int) then zC0 else none else none else none)) (if (List.take (a1.toNat - (0 : Nat)) (List.drop (0 : Nat) a0.2.2.2.2.2.1)).length + (List.take (List.length a0.2.2.2.2.2.1 - (K6.wrap (a1 + 1)).toNat) (List.drop (K6.wrap (a1 + 1)).toNat a0.2.2.2.2.2.1)).length ≤ lim then some ((y, true, ()), (a0.1, a0.2.1, a0.2.2.1, a0.2.2.2.1, a0.2.2.2.2.1, (List.take (a1.toNat - (0 : Nat)) (List.drop (0 : Nat) a0.2.2.2.2.2.1)).append (List.take (List.length a0.2.2.2.2.2.1 - (K6.wrap (a1 + 1)).toNat) (List.drop (K6.wrap (a1 + 1)).toNat a0.2.2.2.2.2.1)), a0.2.2.2.2.2.2), ()) else none) else none else none := by kernel_rfl
def ZFL : Yy := (182, NS) :: ZDQ
theorem ZFt : YA ZFL := cons_cons MD ZDZ
def ZGu := FX.mk (false, false, [5, 6, 7, 14, 16, 17, 18, 23]) ZFL [] [none] Tryz.f214 (shO (shV ZG) [.mu Zz])
def An : Con := cA ZGu [.mu Zz, .ro ZO] true
theorem Kj : CO 214 An := ZBw ZFt
def WK (n : Nat) (a0 : Zi) (a1 : Z3) : Option (Bool × Zi × Unit) := qA ZGu [.mu Zz, .ro ZO] n (a0, a1, ())
theorem Hv (n : Nat) (a0 a1) : WK n a0 a1 = bif decide (60 < K6.wrap ((↑(List.length a0.2.2.2.2.2.1) : Int) + (↑(List.length a1) : Int))) then some (false, a0, ()) else if (0 : Nat) + List.length a0.2.2.2.2.2.1 ≤ lim then if List.length a0.2.2.2.2.2.1 + List.length a1 ≤ lim then some (true, (a0.1, a0.2.1, a0.2.2.1, a0.2.2.2.1, a0.2.2.2.2.1, List.append a0.2.2.2.2.2.1 a1, a0.2.2.2.2.2.2), ()) else none else none := by kernel_rfl
def ZFb : Yy := (214, An) :: ZFL
theorem ZEQ : YA ZFb := cons_cons Kj ZFt
abbrev JB : VS := (.is (.ptr 5 0) :: dp 2 (.is (.ptr 6 0) :: .ro Za :: dp 30 []), [.drop, .drop, .drop, .drop, .drop, .vars [.ro Za, .ro ZG, .ro Za, .own ZP, .own Yg, .own Zl, .own Zx, .own ZZ], .vars (rp 4 Za [])])
def ZFc := FX.mk (false, false, [3, 6, 7, 8, 14, 15, 16, 23, 25, 26, 27, 33]) ZFb [(2, JB)] [] Tryz.f218 (shO shN [.mu Zz])
def Zbx : Con := cA ZFc [.mu Zz, .ro Z9] true
theorem Zew : CO 218 Zbx := ZBw ZEQ
def Dr (n : Nat) (a0 : Zi) (a1 : ZX) : Option (Unit × Zi × Unit) := qA ZFc [.mu Zz, .ro Z9] n (a0, a1, ())
def Qn (n : Nat) (s4 aa : Int) (ab : Bool) (ac : Int) (ad : List Zv) (ae : List ZK) (af : List Zc) (ag : List Zf) (ah : List ZI) (ai aj ak al : Int) : Option (Unit × Zi × Unit) := rR ZFc [AP.enc (.mu Zz) (ZS Zz), AP.enc (.ro Z9) (ZS Z9)] 2 JB n (s4, ()) ((aa, ab, ac, ad, ae, af, ag, ah, ()), (ai, aj, ak, al, ()), ())
theorem Hw (n : Nat) (a0 a1) : Dr n a0 a1 = Qn n 0 a0.1 a0.2.1 a0.2.2.1 a0.2.2.2.1 a0.2.2.2.2.1 a0.2.2.2.2.2.1 a0.2.2.2.2.2.2.1 a0.2.2.2.2.2.2.2.1 a1.1 a1.2.1 a1.2.2.1 a1.2.2.2.1 := by kernel_rfl
theorem KO (n : Nat) (s4 aa ab ac ad ae af ag ah ai aj ak al) : Qn (n + 1) s4 aa ab ac ad ae af ag ah ai aj ak al = bif decide (s4 < (↑ag.length : Int)) then if 0 ≤ s4 then if s4 < (↑ag.length : Int) then (nth ag s4.toNat).bind fun y => bif eqD Z9 y (ai, aj, ak, al, ()) then some ((), (aa, ab, ac, ad, ae, af, ag, ah, ()), ()) else Qn n (K6.wrap (s4 + 1)) aa ab ac ad ae af ag ah ai aj ak al else none else none else (fun zB => Wk (Wk zB zB) zB) (if (0 : Nat) + ag.length ≤ lim then if ag.length + [(ai, aj, ak, al, ())].length ≤ lim then some ((), (aa, ab, ac, ad, ae, af, ag.append [(ai, aj, ak, al, ())], ah, ()), ()) else none else none) := by kernel_rfl
def ZFd : Yy := (218, Zbx) :: ZFb
theorem ZER : YA ZFd := cons_cons Zew ZEQ
abbrev Qo : VS := (.is (.ptr 5 0) :: dp 6 (.is (.own 25 0) :: .ro Za :: dp 108 []), [.drop, .drop, .drop, .drop, .drop, .vars [.ro Za, .ro ZG, .ro Za, .own ZP, .own Yg, .own Zl, .own Zx, .own ZZ], .drop, .drop, .drop, .drop, .drop, .drop, .drop, .drop, .drop, .drop, .drop, .drop, .drop, .drop, .drop, .drop, .drop, .drop, .drop, .arr Zl])
def ZEf := FX.mk (true, true, [5, 17, 18, 20, 25, 26, 27, 30, 31, 32, 34, 36, 37, 38, 40, 41, 42, 44, 45, 46, 48, 58, 59, 60, 62, 64, 65, 66, 68, 69, 70, 72, 73, 74, 76, 104, 105, 106]) ZFd [(11, Qo)] [none] Tryz.f181 (shO (shV ZG) [.mu Zz])
def PA : Con := cA ZEf [.mu Zz, .ro Zp] true
theorem Zbz : CO 181 PA := ZBw ZER
def Bo (n : Nat) (a0 : Zi) (a1 : Int) : Option (Bool × Zi × Unit) := qA ZEf [.mu Zz, .ro Zp] n (a0, a1, ())
def Yj (n : Nat) (s8 aa : Int) (ab : Bool) (ac : Int) (ad : List Zv) (ae : List ZK) (af : List Zc) (ag : List Zf) (ah : List ZI) (b25 : List Zc) : Option (Bool × Zi × Unit) := rR ZEf [AP.enc (.mu Zz) (ZS Zz), AP.enc (.ro Zp) (ZS Zp)] 11 Qo n (s8, ()) ((aa, ab, ac, ad, ae, af, ag, ah, ()), b25, ())
theorem Fz (n : Nat) (a0 a1) : Bo n a0 a1 = (Cu big a0 a1).bind fun y => bif !y.1.2.1 then some (false, y.2) else (WI big y.2.1 y.1.1.2.2.1).bind fun e => bif !e then some (true, y.2) else bif y.2.1.2.1 then if 0 ≤ y.1.1.2.2.1 then if y.1.1.2.2.1 < (↑(List.length y.2.1.2.2.2.2.1) : Int) then (nth y.2.1.2.2.2.2.1 (Int.toNat y.1.1.2.2.1)).bind fun b => (Qm big y.2.1.2.2.2.1 y.2.1.1 b y.1.1).bind fun c => (BU y.2.1.2.2.2.2.1 (Int.toNat y.1.1.2.2.1) b).bind fun a => if 0 ≤ y.1.1.2.2.1 then if y.1.1.2.2.1 < (↑a.length : Int) then (nth a (Int.toNat y.1.1.2.2.1)).bind fun f => (BU a (Int.toNat y.1.1.2.2.1) c.1).bind fun d => Yj n 0 y.2.1.1 y.2.1.2.1 y.2.1.2.2.1 y.2.1.2.2.2.1 d y.2.1.2.2.2.2.2.1 y.2.1.2.2.2.2.2.2.1 y.2.1.2.2.2.2.2.2.2.1 c.2.1 else none else none else none else none else if 0 ≤ y.1.1.2.2.1 then if y.1.1.2.2.1 < (↑(List.length y.2.1.2.2.2.2.1) : Int) then (nth y.2.1.2.2.2.2.1 (Int.toNat y.1.1.2.2.1)).bind fun b => (Am big y.2.1.2.2.2.1 y.2.1.1 b y.1.1).bind fun c => (BU y.2.1.2.2.2.2.1 (Int.toNat y.1.1.2.2.1) b).bind fun a => if 0 ≤ y.1.1.2.2.1 then if y.1.1.2.2.1 < (↑a.length : Int) then (nth a (Int.toNat y.1.1.2.2.1)).bind fun f => (BU a (Int.toNat y.1.1.2.2.1) c.1).bind fun d => Yj n 0 y.2.1.1 y.2.1.2.1 y.2.1.2.2.1 y.2.1.2.2.2.1 d y.2.1.2.2.2.2.2.1 y.2.1.2.2.2.2.2.2.1 y.2.1.2.2.2.2.2.2.2.1 c.2.1 else none else none else none else none := by kernel_rfl
theorem Qp (n : Nat) (s8 aa ab ac ad ae af ag ah b25) : Yj (n + 1) s8 aa ab ac ad ae af ag ah b25 = bif decide (s8 < (↑b25.length : Int)) then if 0 ≤ s8 then if s8 < (↑b25.length : Int) then (nth b25 s8.toNat).bind fun y => bif decide (y.1 = 2) then if 0 ≤ s8 then if s8 < (↑b25.length : Int) then (nth b25 s8.toNat).bind fun y => (Dr big (aa, ab, ac, ad, ae, af, ag, ah, ()) y.2.2.2.2.2.2.1).bind fun y => bif decide ((↑(List.length y.2.1.2.2.2.2.2.1) : Int) < 60) then if 0 ≤ K6.wrap (s8 + 1) then if K6.wrap (s8 + 1) ≤ (↑b25.length : Int) then if 0 ≤ s8 then if s8 ≤ K6.wrap (s8 + 1) then (WK big y.2.1 (List.take ((K6.wrap (s8 + 1)).toNat - s8.toNat) (List.drop s8.toNat b25))).bind fun y => Yj n (K6.wrap (s8 + 1)) y.2.1.1 y.2.1.2.1 y.2.1.2.2.1 y.2.1.2.2.2.1 y.2.1.2.2.2.2.1 y.2.1.2.2.2.2.2.1 y.2.1.2.2.2.2.2.2.1 y.2.1.2.2.2.2.2.2.2.1 b25 else none else none else none else none else Yj n (K6.wrap (s8 + 1)) y.2.1.1 y.2.1.2.1 y.2.1.2.2.1 y.2.1.2.2.2.1 y.2.1.2.2.2.2.1 y.2.1.2.2.2.2.2.1 y.2.1.2.2.2.2.2.2.1 y.2.1.2.2.2.2.2.2.2.1 b25 else none else none else bif decide ((↑af.length : Int) < 60) then if 0 ≤ K6.wrap (s8 + 1) then if K6.wrap (s8 + 1) ≤ (↑b25.length : Int) then if 0 ≤ s8 then if s8 ≤ K6.wrap (s8 + 1) then (WK big (aa, ab, ac, ad, ae, af, ag, ah, ()) (List.take ((K6.wrap (s8 + 1)).toNat - s8.toNat) (List.drop s8.toNat b25))).bind fun y => Yj n (K6.wrap (s8 + 1)) y.2.1.1 y.2.1.2.1 y.2.1.2.2.1 y.2.1.2.2.2.1 y.2.1.2.2.2.2.1 y.2.1.2.2.2.2.2.1 y.2.1.2.2.2.2.2.2.1 y.2.1.2.2.2.2.2.2.2.1 b25 else none else none else none else none else Yj n (K6.wrap (s8 + 1)) aa ab ac ad ae af ag ah b25 else none else none else some (true, (aa, ab, ac, ad, ae, af, ag, ah, ()), ()) := by kernel_rfl
def ZEg : Yy := (181, PA) :: ZFd
theorem ZEh : YA ZEg := cons_cons Zbz ZER
def ZGv := FX.mk (true, true, [5, 6, 8, 9, 15, 16, 17, 22, 23, 24, 32, 33, 34, 999999]) ZEg [] [none] Tryz.f184 (shO (shV ZG) [.mu Zz])
def ZbD : Con := cA ZGv [.mu Zz, .ro Zp] true
theorem Zey : CO 184 ZbD := ZBw ZEh
def Ds (n : Nat) (a0 : Zi) (a1 : Int) : Option (Bool × Zi × Unit) := qA ZGv [.mu Zz, .ro Zp] n (a0, a1, ())
theorem Hx (n : Nat) (a0 a1) : Ds n a0 a1 = (WI big a0 a1).bind fun y => bif !y then some (false, a0, ()) else if 0 ≤ a1 then if a1 < (↑(List.length a0.2.2.2.2.1) : Int) then (nth a0.2.2.2.2.1 a1.toNat).bind fun y => (Bj big y a0.1).bind fun a => (BU a0.2.2.2.2.1 a1.toNat y).bind fun y => (fun zB => Wk zB zB) (bif !a.2.2.1 then some (false, (a0.1, a0.2.1, a0.2.2.1, a0.2.2.2.1, y, a0.2.2.2.2.2), ()) else if 0 ≤ a1 then if a1 < (↑y.length : Int) then (nth y a1.toNat).bind fun b => (BU y a1.toNat a.1).bind fun y => (WK big (a0.1, a0.2.1, a0.2.2.1, a0.2.2.2.1, y, a0.2.2.2.2.2) [a.2.1]).bind fun y => some (true, y.2) else none else none) else none else none := by kernel_rfl
def ZGw : Yy := (184, ZbD) :: ZEg
theorem ZGO : YA ZGw := cons_cons Zey ZEh
def shI : Sh Res := ⟨id, some, fun r x h => by cases h; exact ZsP.of_eq rfl⟩
def Zit (n : Nat) (args : List SV) : Option Res := bif H3 args [] then evX (false, false, []) [] [] [none] Tryz.f214 shI n args else none
def Zuo (v3 v4 v5 v6 v7 : Value) (x : Zi) : SV := .mr [.val Zp x.1, .val ZG x.2.1, .val Zp x.2.2.1, .vl v3 Zg x.2.2.2.1, .vl v4 X3 x.2.2.2.2.1, .vl v5 ZO x.2.2.2.2.2.1, .vl v6 ZV x.2.2.2.2.2.2.1, .vl v7 Yl x.2.2.2.2.2.2.2.1]
abbrev cX (v3 v4 v6 v7 : Value) (e : SV) (x : Zi) : List SV := [.val Zp x.1, .val ZG x.2.1, .val Zp x.2.2.1, .vl v3 Zg x.2.2.2.1, .vl v4 X3 x.2.2.2.2.1, e, .vl v6 ZV x.2.2.2.2.2.2.1, .vl v7 Yl x.2.2.2.2.2.2.2.1]
theorem ZpW (v3 v4 v5 v6 v7 : Value) (x : Zi) (l : Z3) (n : Nat) : Zit n [Zuo v3 v4 v5 v6 v7 x, .val ZO l] =
  bif decide ((60 : Int) < K6.wrap ((↑(List.length x.2.2.2.2.2.1) : Int) + (↑(List.length l) : Int))) then some (.val .bool false, [cX v3 v4 v6 v7 (.vl v5 ZO x.2.2.2.2.2.1) x])
  else if 0 + List.length x.2.2.2.2.2.1 ≤ lim then if List.length x.2.2.2.2.2.1 + List.length l ≤ lim then some (.val .bool true, [cX v3 v4 v6 v7 (.fr ZQ (List.append x.2.2.2.2.2.1 l)) x]) else none else none := by kernel_rfl
def unV (t : Ty) (l : List SV) : Option (t.den × List SV) := match l with
 | .val s x :: r => (match toS s t x with | some y => some (y, r) | none => none)
 | _ => none
def unX (t : Ty) (l : List SV) : Option (Value × t.den × List SV) := match l with
 | .vl c s x :: r => (match toS s t x with | some y => some (c, y, r) | none => none)
 | _ => none
theorem ZrQ {t : Ty} {l : List SV} {x : t.den} {r : List SV} (h : unV t l = some (x, r)) : l = .val t x :: r := by
 unfold unV at h
 split at h
 ·split at h
  ·rename_i hy
   cases h
   obtain ⟨e, h2⟩ := GP hy
   subst e; subst h2
   rfl
  ·cases h
 ·cases h
theorem Zlq {t : Ty} {l : List SV} {c : Value} {x : t.den} {r : List SV} (h : unX t l = some (c, x, r)) : l = .vl c t x :: r := by
 unfold unX at h
 split at h
 ·split at h
  ·rename_i hy
   cases h
   obtain ⟨e, h2⟩ := GP hy
   subst e; subst h2
   rfl
  ·cases h
 ·cases h
abbrev XD : Type := (Value × Value × Value × Value × Value) × Zi × Z3
def Zx7 (l0 : List SV) : Option ((Value × Value × Value × Value × Value) × Zi) :=
 (unV Zp l0).bind fun q1 => (unV ZG q1.2).bind fun q2 => (unV Zp q2.2).bind fun q3 => (unX Zg q3.2).bind fun q4 => (unX X3 q4.2.2).bind fun q5 => (unX ZO q5.2.2).bind fun q6 =>
  (unX ZV q6.2.2).bind fun q7 => (unX Yl q7.2.2).bind fun q8 => match q8.2.2 with
  | [] => some ((q4.1, q5.1, q6.1, q7.1, q8.1), (q1.1, q2.1, q3.1, q4.2.1, q5.2.1, q6.2.1, q7.2.1, q8.2.1, ()))
  | _ :: _ => none
def Zx8 (args : List SV) : Option XD := match args with
 | [.mr l0, .val t9 l] => (Zx7 l0).bind fun q => (toS t9 ZO l).bind fun y => some (q.1, q.2, y)
 | _ => none
theorem Zu7 {l0 : List SV} {q : (Value × Value × Value × Value × Value) × Zi} (h : Zx7 l0 = some q) : SV.mr l0 = Zuo q.1.1 q.1.2.1 q.1.2.2.1 q.1.2.2.2.1 q.1.2.2.2.2 q.2 := by
 unfold Zx7 at h
 obtain ⟨q1, h1, h⟩ := Option.bind_eq_some_iff.1 h
 obtain ⟨q2, h2, h⟩ := Option.bind_eq_some_iff.1 h
 obtain ⟨q3, h3, h⟩ := Option.bind_eq_some_iff.1 h
 obtain ⟨q4, h4, h⟩ := Option.bind_eq_some_iff.1 h
 obtain ⟨q5, h5, h⟩ := Option.bind_eq_some_iff.1 h
 obtain ⟨q6, h6, h⟩ := Option.bind_eq_some_iff.1 h
 obtain ⟨q7, h7, h⟩ := Option.bind_eq_some_iff.1 h
 obtain ⟨q8, h8, h⟩ := Option.bind_eq_some_iff.1 h
 split at h
 ·rename_i h9
  simp only [Option.some.injEq] at h
  subst h
  have e8 := Zlq h8
  rw [h9] at e8
  rw [ZrQ h1, ZrQ h2, ZrQ h3, Zlq h4, Zlq h5, Zlq h6, Zlq h7, e8]
  rfl
 ·cases h
theorem Zu8 {args : List SV} {q : XD} (h : Zx8 args = some q) : args = [Zuo q.1.1 q.1.2.1 q.1.2.2.1 q.1.2.2.2.1 q.1.2.2.2.2 q.2.1, .val ZO q.2.2] := by
 unfold Zx8 at h
 split at h
 ·obtain ⟨q1, h1, h⟩ := Option.bind_eq_some_iff.1 h
  obtain ⟨y, h2, h⟩ := Option.bind_eq_some_iff.1 h
  simp only [Option.some.injEq] at h
  subst h
  obtain ⟨e, h3⟩ := GP h2
  subst e; subst h3
  rw [Zu7 h1]
 ·cases h
def Zx9 {R : Type} (q : XD) (K : SV → List (List SV) → Option R) : Option R :=
 bif decide ((60 : Int) < K6.wrap ((↑(List.length q.2.1.2.2.2.2.2.1) : Int) + (↑(List.length q.2.2) : Int))) then K (.val .bool false) [cX q.1.1 q.1.2.1 q.1.2.2.2.1 q.1.2.2.2.2 (.vl q.1.2.2.1 ZO q.2.1.2.2.2.2.2.1) q.2.1]
 else if 0 + List.length q.2.1.2.2.2.2.2.1 ≤ lim then if List.length q.2.1.2.2.2.2.2.1 + List.length q.2.2 ≤ lim then K (.val .bool true) [cX q.1.1 q.1.2.1 q.1.2.2.2.1 q.1.2.2.2.2 (.fr ZQ (List.append q.2.1.2.2.2.2.2.1 q.2.2)) q.2.1] else none else none
def ZbE : Con := ⟨[.mref, .ro ZO], fun _ args K => (Zx8 args).bind fun q => Zx9 q K, false⟩
theorem ZrR (n : Nat) (args : List SV) (r0 : Res) (hb : H3 args [] = true) (h1 : evX (false, false, []) [] [] [none] Tryz.f214 shI n args = some r0) : CallOk Tryz.prog 214 args (shI.sh r0).1 (shI.sh r0).2 :=
 ZA Zh (by kernel_rfl) rfl (by kernel_rfl) hb n h1
theorem ZpX (args : List SV) (r0 : Res) (h1 : Zit big args = some r0) : CallOk Tryz.prog 214 args r0.1 r0.2 := by
 unfold Zit at h1
 cases hb : H3 args [] with
 | false => rw [hb] at h1; cases h1
 | true =>
  rw [hb, cond_true] at h1
  exact ZrR big args r0 hb h1
theorem ZpY {R : Type} {P : SV → List (List SV) → Prop} {o : Option Res} (fin : ∀ r0 : Res, o = some r0 → P r0.1 r0.2) {c1 : Bool} {c2 c3 : Prop} [Decidable c2] [Decidable c3] {a b : SV} {x y : List (List SV)}
  (hp : o = bif c1 then some (a, x) else if c2 then if c3 then some (b, y) else none else none) {K : SV → List (List SV) → Option R} {r : R} (h : (bif c1 then K a x else if c2 then if c3 then K b y else none else none) = some r) : ∃ sv outs, P sv outs ∧ K sv outs = some r := by
 cases c1 with
 | true => exact ⟨a, x, fin (a, x) hp, h⟩
 | false =>
  simp only [cond_false] at h hp
  split at h
  ·rename_i g1
   rw [if_pos g1] at hp
   split at h
   ·rename_i g2
    rw [if_pos g2] at hp
    exact ⟨b, y, fin (b, y) hp, h⟩
   ·cases h
  ·cases h
theorem ZrS {R : Type} {c1 : Bool} {c2 c3 : Prop} [Decidable c2] [Decidable c3] {a b : SV} {x y : List (List SV)} {K K' : SV → List (List SV) → Option R} {r : R} (hk : ∀ sv outs, K sv outs = some r → K' sv outs = some r)
  (h : (bif c1 then K a x else if c2 then if c3 then K b y else none else none) = some r) : (bif c1 then K' a x else if c2 then if c3 then K' b y else none else none) = some r := by
 cases c1 with
 | true => exact hk _ _ h
 | false =>
  simp only [cond_false] at h ⊢
  split at h
  ·split at h
   ·rename_i g1 g2; rw [if_pos g1, if_pos g2]; exact hk _ _ h
   ·cases h
  ·cases h
theorem Zlr : ZM Tryz.prog 214 ZbE := by
 refine ⟨⟨Tryz.f214, by kernel_rfl, rfl, by decide⟩, fun R args K r he => ?_, fun R args K K' r hk he => ?_⟩
 ·obtain ⟨q, h1, h2⟩ := Option.bind_eq_some_iff.1 he
  have hp := ZpW q.1.1 q.1.2.1 q.1.2.2.1 q.1.2.2.2.1 q.1.2.2.2.2 q.2.1 q.2.2 big
  rw [← Zu8 h1] at hp
  have fin := fun r0 => ZpX args r0
  generalize Zit big args = o at hp fin
  exact ZpY fin hp h2
 ·obtain ⟨q, h1, h2⟩ := Option.bind_eq_some_iff.1 he
  exact Option.bind_eq_some_iff.2 ⟨q, h1, ZrS hk h2⟩
def Ziu (n : Nat) (v3 v4 v5 v6 v7 : Value) (x : Zi) (k : Int) : Option Res := evX (false, false, []) [(67, YB), (214, ZbE)] [] [none] Tryz.f183 shI n [Zuo v3 v4 v5 v6 v7 x, .val Zp k]
abbrev twL (x : Zi) (k : Int) : List Zo := List.take ((K6.wrap (k + 1)).toNat - k.toNat) (List.drop k.toNat x.2.2.2.2.2.1)
theorem Znp (v3 v4 v5 v6 v7 : Value) (x : Zi) (k : Int) (n : Nat) : Ziu n v3 v4 v5 v6 v7 x k =
  (ZT big k 0 (K6.wrap ((↑(List.length x.2.2.2.2.2.1) : Int) - 1))).bind fun y => bif !y then some (.val .bool false, [cX v3 v4 v6 v7 (.vl v5 ZO x.2.2.2.2.2.1) x]) else
  if 0 ≤ K6.wrap (k + 1) then if K6.wrap (k + 1) ≤ (↑(List.length x.2.2.2.2.2.1) : Int) then if 0 ≤ k then if k ≤ K6.wrap (k + 1) then
  bif decide ((60 : Int) < K6.wrap ((↑(List.length x.2.2.2.2.2.1) : Int) + (↑(List.length (twL x k)) : Int))) then some (.val .bool false, [cX v3 v4 v6 v7 (.vl v5 ZO x.2.2.2.2.2.1) x])
  else if 0 + List.length x.2.2.2.2.2.1 ≤ lim then if List.length x.2.2.2.2.2.1 + List.length (twL x k) ≤ lim then some (.val .bool true, [cX v3 v4 v6 v7 (.fr ZQ (List.append x.2.2.2.2.2.1 (twL x k))) x]) else none else none
  else none else none else none else none := by kernel_rfl
theorem Wm {im : Nat → Prop} {w : World} {x : SV} {l : List SV} {cs : List Value} {S : List Nat} (h : CVL im w (x :: l) cs S []) : ∃ c r S1 S2, cs = c :: r ∧ S = S1 ++ S2 ∧ CV im w x c S1 [] ∧ CVL im w l r S2 [] := by
 simp only [CVL] at h
 obtain ⟨c, r, S1, S2, B1, B2, h1, h2, h3, h4, h5⟩ := h
 obtain ⟨rfl, rfl⟩ := List.append_eq_nil_iff.1 h3.symm
 exact ⟨c, r, S1, S2, h1, h2, h4, h5⟩
theorem ZrT {im : Nat → Prop} {w : World} {cs : List Value} {S : List Nat} (h : CVL im w [] cs S []) : cs = [] ∧ S = [] := by
 simp only [CVL] at h; exact ⟨h.1, h.2.1⟩
theorem KV {im : Nat → Prop} {w : World} {x : SV} {l : List SV} {c : Value} {r : List Value} {S1 S2 : List Nat} (h4 : CV im w x c S1 []) (h5 : CVL im w l r S2 []) : CVL im w (x :: l) (c :: r) (S1 ++ S2) [] := by
 simp only [CVL]; exact ⟨c, r, S1, S2, [], [], rfl, rfl, rfl, h4, h5⟩
theorem ZrU {im : Nat → Prop} {w : World} : CVL im w [] [] [] [] := by simp [CVL]
theorem Zls {im : Nat → Prop} {w : World} {n : Int} {c : Value} {S : List Nat} {B : List LC} (h : CV im w (.val Zp n) c S B) : S = [] ∧ B = [] ∧ ∀ (im' : Nat → Prop) (w' : World), CV im' w' (.val Zp n) c [] [] := by
 simp only [CV] at h
 obtain ⟨rfl, rfl, cs, h1, rfl⟩ := h
 exact ⟨rfl, rfl, fun im' w' => by simp only [CV]; exact ⟨trivial, trivial, cs, h1, rfl⟩⟩
theorem Znq {im : Nat → Prop} {w : World} {n : Bool} {c : Value} {S : List Nat} {B : List LC} (h : CV im w (.val ZG n) c S B) : S = [] ∧ B = [] ∧ ∀ (im' : Nat → Prop) (w' : World), CV im' w' (.val ZG n) c [] [] := by
 simp only [CV] at h
 obtain ⟨rfl, rfl, cs, h1, rfl⟩ := h
 exact ⟨rfl, rfl, fun im' w' => by simp only [CV]; exact ⟨trivial, trivial, cs, h1, rfl⟩⟩
theorem ZpZ {im : Nat → Prop} {w : World} {t : Ty} {y : List t.den} {c : Value} {S : List Nat} (h : CV im w (.fr t y) c S []) : 0 < t.size ∧ TR im w true (.sl true t) y [c] S := by
 simp only [CV] at h; exact h.2
theorem ZrV {im : Nat → Prop} {w : World} {t : Ty} {y : t.den} {c c0 : Value} {S : List Nat} (h : CV im w (.vl c0 t y) c S []) : S = [] ∧ c = c0 := by
 simp only [CV] at h; exact ⟨h.1, h.2.2.1⟩
theorem vlB {p p2 : Nat → Prop} {w : World} {S : List Nat} {c : Value} {y : List Zm} (h1 : ∀ k, p k → p2 k) (h2 : ∀ k ∈ S, p2 k) (h : TR p w true (.sl true QP) y [c] S) : CV p2 w (.vl c Zg y) c [] [] := by
 simp only [CV]
 exact ⟨trivial, trivial, trivial, [c], TR.weak h1 (.sl true QP) y [c] S true h2 h, rfl⟩
theorem vlP {p p2 : Nat → Prop} {w : World} {S : List Nat} {c : Value} {y : List Zj} (h1 : ∀ k, p k → p2 k) (h2 : ∀ k ∈ S, p2 k) (h : TR p w true (.sl true ZL) y [c] S) : CV p2 w (.vl c X3 y) c [] [] := by
 simp only [CV]
 exact ⟨trivial, trivial, trivial, [c], TR.weak h1 (.sl true ZL) y [c] S true h2 h, rfl⟩
theorem vlL {p p2 : Nat → Prop} {w : World} {S : List Nat} {c : Value} {y : List Zo} (h1 : ∀ k, p k → p2 k) (h2 : ∀ k ∈ S, p2 k) (h : TR p w true (.sl true ZQ) y [c] S) : CV p2 w (.vl c ZO y) c [] [] := by
 simp only [CV]
 exact ⟨trivial, trivial, trivial, [c], TR.weak h1 (.sl true ZQ) y [c] S true h2 h, rfl⟩
theorem vlV {p p2 : Nat → Prop} {w : World} {S : List Nat} {c : Value} {y : List ZX} (h1 : ∀ k, p k → p2 k) (h2 : ∀ k ∈ S, p2 k) (h : TR p w true (.sl true Z9) y [c] S) : CV p2 w (.vl c ZV y) c [] [] := by
 simp only [CV]
 exact ⟨trivial, trivial, trivial, [c], TR.weak h1 (.sl true Z9) y [c] S true h2 h, rfl⟩
theorem vlC {p p2 : Nat → Prop} {w : World} {S : List Nat} {c : Value} {y : List Y3} (h1 : ∀ k, p k → p2 k) (h2 : ∀ k ∈ S, p2 k) (h : TR p w true (.sl true Vv) y [c] S) : CV p2 w (.vl c Yl y) c [] [] := by
 simp only [CV]
 exact ⟨trivial, trivial, trivial, [c], TR.weak h1 (.sl true Vv) y [c] S true h2 h, rfl⟩
abbrev muC (x : Zi) (l : List Zo) : List SV := [.val Zp x.1, .val ZG x.2.1, .val Zp x.2.2.1, .fr QP x.2.2.2.1, .fr ZL x.2.2.2.2.1, .fr ZQ l, .fr Z9 x.2.2.2.2.2.2.1, .fr Vv x.2.2.2.2.2.2.2.1]
def Zya (v5 : Value) (x : Zi) : Option (List Zo) → SV
 | none => .vl v5 ZO x.2.2.2.2.2.1
 | some y => .fr ZQ y
set_option maxHeartbeats 4000000 in
theorem Zu9 (x : Zi) (k : Int) (b : Bool) (o : Option (List Zo))
  (h : ∀ v3 v4 v5 v6 v7, CallOk Tryz.prog 183 [Zuo v3 v4 v5 v6 v7 x, .val Zp k] (.val .bool b) [cX v3 v4 v6 v7 (Zya v5 x o) x]) :
  CallOk Tryz.prog 183 [.mr (muC x x.2.2.2.2.2.1), .val Zp k] (.val .bool b) [muC x (o.getD x.2.2.2.2.2.1)] := by
 intro p w cargs S B hcv hnd hS hp hnt
 simp only [CVL] at hcv
 obtain ⟨c, r, S0, S9, B0, B9, rfl, rfl, rfl, hc, c9, r9, Sa, Sb, Ba, Bb, rfl, rfl, rfl, hk, rfl, rfl, rfl⟩ := hcv
 simp only [CV] at hc
 obtain ⟨blk, cs, e, S', rfl, rfl, rfl, hheap, hcells⟩ := hc
 obtain ⟨rfl, rfl, hk'⟩ := Zls hk
 obtain ⟨c0, r0, T0, U0, rfl, rfl, h0, hcells⟩ := Wm hcells
 obtain ⟨c1, r1, T1, U1, rfl, rfl, h1, hcells⟩ := Wm hcells
 obtain ⟨c2, r2, T2, U2, rfl, rfl, h2, hcells⟩ := Wm hcells
 obtain ⟨c3, r3, S3, U3, rfl, rfl, h3, hcells⟩ := Wm hcells
 obtain ⟨c4, r4, S4, U4, rfl, rfl, h4, hcells⟩ := Wm hcells
 obtain ⟨c5, r5, S5, U5, rfl, rfl, h5, hcells⟩ := Wm hcells
 obtain ⟨c6, r6, S6, U6, rfl, rfl, h6, hcells⟩ := Wm hcells
 obtain ⟨c7, r7, S7, U7, rfl, rfl, h7, hcells⟩ := Wm hcells
 obtain ⟨rfl, rfl⟩ := ZrT hcells
 obtain ⟨rfl, _, k0⟩ := Zls h0
 obtain ⟨rfl, _, k1⟩ := Znq h1
 obtain ⟨rfl, _, k2⟩ := Zls h2
 obtain ⟨p3, t3⟩ := ZpZ h3
 obtain ⟨p4, t4⟩ := ZpZ h4
 obtain ⟨p5, t5⟩ := ZpZ h5
 obtain ⟨p6, t6⟩ := ZpZ h6
 obtain ⟨p7, t7⟩ := ZpZ h7
 simp only [List.nil_append, List.append_nil] at hnd hS ⊢
 -- what the lists are read from
 let p2 : Nat → Prop := fun k => p k ∨ k ∈ S3 ++ (S4 ++ (S5 ++ (S6 ++ S7)))
 obtain ⟨hnb, hnl⟩ := List.nodup_cons.1 hnd
 have lt : ∀ k ∈ S3 ++ (S4 ++ (S5 ++ (S6 ++ S7))), ¬ p k ∧ k < w.heap.size := fun k hk => hS k (List.mem_cons_of_mem _ hk)
 have hb := hS blk (List.mem_cons_self ..)
 have q1 : ∀ k, p k → p2 k := fun k hk => .inl hk
 have q3 : ∀ k ∈ S3, p2 k := fun k hk => .inr (by simp [hk])
 have q4 : ∀ k ∈ S4, p2 k := fun k hk => .inr (by simp [hk])
 have q5 : ∀ k ∈ S5, p2 k := fun k hk => .inr (by simp [hk])
 have q6 : ∀ k ∈ S6, p2 k := fun k hk => .inr (by simp [hk])
 have q7 : ∀ k ∈ S7, p2 k := fun k hk => .inr (by simp [hk])
 have hX : CVL p2 w [Zuo c3 c4 c5 c6 c7 x, .val Zp k] [.pointer (some ⟨blk, 0, none⟩), c9] [blk] [.box blk] := by
  simp only [CVL]
  refine ⟨_, _, [blk], [], [.box blk], [], rfl, rfl, rfl, ?_, _, _, [], [], [], [], rfl, rfl, rfl, hk' p2 w, rfl, rfl, rfl⟩
  unfold Zuo
  simp only [CV]
  refine ⟨blk, _, e, [], rfl, rfl, rfl, hheap, ?_⟩
  exact KV (S1 := []) (k0 p2 w) (KV (S1 := []) (k1 p2 w) (KV (S1 := []) (k2 p2 w) (KV (S1 := []) (vlB q1 q3 t3) (KV (S1 := []) (vlP q1 q4 t4) (KV (S1 := []) (vlL q1 q5 t5) (KV (S1 := []) (vlV q1 q6 t6) (KV (S1 := []) (vlC q1 q7 t7) ZrU)))))))
 refine (h c3 c4 c5 c6 c7 p2 w _ [blk] [.box blk] hX (by simp) (fun k hk => ?_) (fun k hk => ?_) (fun t ht => by cases ht)).mono ?_
 ·simp only [List.mem_singleton] at hk
  subst hk
  exact ⟨fun hc => hc.elim hb.1 hnb, hb.2⟩
 ·rcases hk with hk | hk
  ·exact hp k hk
  ·exact (lt k hk).2
 rintro e' w' ⟨cr, S1, S2, he, hnd2, hrg, hkept, hcr, houts⟩
 obtain ⟨rfl, _, kb⟩ := Znq hcr
 simp only [Outs] at houts
 obtain ⟨cells, e2, V1, V2, rfl, hheap', hc', rfl⟩ := houts
 simp only [List.nil_append, List.append_nil] at hnd2 hrg hc'
 obtain ⟨d0, r0, T0, U0, rfl, rfl, g0, hc'⟩ := Wm hc'
 obtain ⟨d1, r1, T1, U1, rfl, rfl, g1, hc'⟩ := Wm hc'
 obtain ⟨d2, r2, T2, U2, rfl, rfl, g2, hc'⟩ := Wm hc'
 obtain ⟨d3, r3, T3, U3, rfl, rfl, g3, hc'⟩ := Wm hc'
 obtain ⟨d4, r4, T4, U4, rfl, rfl, g4, hc'⟩ := Wm hc'
 obtain ⟨d5, r5, T5, U5, rfl, rfl, g5, hc'⟩ := Wm hc'
 obtain ⟨d6, r6, T6, U6, rfl, rfl, g6, hc'⟩ := Wm hc'
 obtain ⟨d7, r7, T7, U7, rfl, rfl, g7, hc'⟩ := Wm hc'
 obtain ⟨rfl, rfl⟩ := ZrT hc'
 obtain ⟨rfl, _, k0⟩ := Zls g0
 obtain ⟨rfl, _, k1⟩ := Znq g1
 obtain ⟨rfl, _, k2⟩ := Zls g2
 obtain ⟨rfl, rfl⟩ := ZrV g3
 obtain ⟨rfl, rfl⟩ := ZrV g4
 obtain ⟨rfl, rfl⟩ := ZrV g6
 obtain ⟨rfl, rfl⟩ := ZrV g7
 simp only [List.nil_append, List.append_nil] at hnd2 hrg
 obtain ⟨hn5, hnd5⟩ := List.nodup_cons.1 hnd2
 -- the letters' blocks behind the call
 have hT5 : ∀ k ∈ T5, w.heap.size ≤ k := fun k hk => by
  rcases (hrg k (List.mem_cons_of_mem _ hk)).1 with e | e
  ·simp only [List.mem_singleton] at e; subst e; exact absurd hk hn5
  ·exact e
 have same : ∀ k, k < w.heap.size → k ≠ blk → w'.heap[k]? = w.heap[k]? := fun k hk hne => hkept.same k hk (by simpa using hne)
 obtain ⟨S5', hS5, h5'⟩ : ∃ S5' : List Nat, (S5' = S5 ∨ S5' = T5) ∧ ∀ im' : Nat → Prop, (∀ b, p b → im' b) → CV im' w' (.fr ZQ (o.getD x.2.2.2.2.2.1)) d5 S5' [] := by
  cases o with
  | none =>
   obtain ⟨rfl, rfl⟩ := ZrV (show CV _ w' (.vl c5 ZO x.2.2.2.2.2.1) d5 T5 [] from g5)
   refine ⟨S5, .inl rfl, fun im' hi => ?_⟩
   simp only [CV, Option.getD]
   refine ⟨trivial, p5, t5.mono (fun b hb2 => ⟨hi b hb2, same b (hp b hb2) (fun e => hb.1 (e ▸ hb2))⟩) _ _ _ _ _ (fun b hb2 => same b (lt b (by simp [hb2])).2 (fun e => hnb (e ▸ by simp [hb2])))⟩
  | some y =>
   obtain ⟨q, tq⟩ := ZpZ (show CV _ w' (.fr ZQ y) d5 T5 [] from g5)
   refine ⟨T5, .inr rfl, fun im' _ => ?_⟩
   simp only [CV, Option.getD]
   exact ⟨trivial, q, tq.noRo rfl⟩
 have m5 : ∀ k ∈ S5', (k ∈ S5 ∨ w.heap.size ≤ k) ∧ k < w'.heap.size ∧ k ≠ blk := fun k hk => by
  rcases hS5 with e | e
  ·subst e
   have := (lt k (by simp [hk])).2
   exact ⟨.inl hk, by have := hkept.size; omega, fun e => hnb (e ▸ by simp [hk])⟩
  ·subst e
   exact ⟨.inr (hT5 k hk), (hrg k (List.mem_cons_of_mem _ hk)).2, fun e => hn5 (e ▸ hk)⟩
 have n5 : S5'.Nodup := by
  rcases hS5 with e | e
  ·subst e
   exact (List.nodup_append.1 (List.nodup_append.1 (List.nodup_append.1 hnl).2.1).2.1).1
  ·subst e; exact hnd5
 obtain ⟨a3, ar3, ad3⟩ := List.nodup_append.1 hnl
 obtain ⟨a4, ar4, ad4⟩ := List.nodup_append.1 ar3
 obtain ⟨a5, ar5, ad5⟩ := List.nodup_append.1 ar4
 have d5 : ∀ a ∈ S5', ∀ b ∈ S6 ++ S7, a ≠ b := fun a ha b hb2 => by
  rcases (m5 a ha).1 with q | q
  ·exact ad5 a q b hb2
  ·have := (lt b (List.mem_append.2 (.inr (List.mem_append.2 (.inr (List.mem_append.2 (.inr hb2))))))).2
   omega
 have d4 : ∀ a ∈ S4, ∀ b ∈ S5' ++ (S6 ++ S7), a ≠ b := fun a ha b hb2 => by
  rcases List.mem_append.1 hb2 with hb2 | hb2
  ·rcases (m5 b hb2).1 with q | q
   ·exact ad4 a ha b (List.mem_append.2 (.inl q))
   ·have := (lt a (by simp [ha])).2
    omega
  ·exact ad4 a ha b (List.mem_append.2 (.inr hb2))
 have d3 : ∀ a ∈ S3, ∀ b ∈ S4 ++ (S5' ++ (S6 ++ S7)), a ≠ b := fun a ha b hb2 => by
  rcases List.mem_append.1 hb2 with hb2 | hb2
  ·exact ad3 a ha b (List.mem_append.2 (.inl hb2))
  ·rcases List.mem_append.1 hb2 with hb2 | hb2
   ·rcases (m5 b hb2).1 with q | q
    ·exact ad3 a ha b (List.mem_append.2 (.inr (List.mem_append.2 (.inl q))))
    ·have := (lt a (by simp [ha])).2
     omega
   ·exact ad3 a ha b (List.mem_append.2 (.inr (List.mem_append.2 (.inr hb2))))
 have old : ∀ k, (k ∈ S3 ∨ k ∈ S4 ∨ k ∈ S6 ∨ k ∈ S7) → k ∈ S3 ++ (S4 ++ (S5 ++ (S6 ++ S7))) := fun k hk => by
  simp only [List.mem_append]
  rcases hk with q | q | q | q
  ·exact .inl q
  ·exact .inr (.inl q)
  ·exact .inr (.inr (.inr (.inl q)))
  ·exact .inr (.inr (.inr (.inr q)))
 have split : ∀ k, k ∈ S3 ++ (S4 ++ (S5' ++ (S6 ++ S7))) → k ∈ S5' ∨ (k ∈ S3 ∨ k ∈ S4 ∨ k ∈ S6 ∨ k ∈ S7) := fun k hk => by
  simp only [List.mem_append] at hk
  rcases hk with q | q | q | q | q
  ·exact .inr (.inl q)
  ·exact .inr (.inr (.inl q))
  ·exact .inl q
  ·exact .inr (.inr (.inr (.inl q)))
  ·exact .inr (.inr (.inr (.inr q)))
 have hnb' : blk ∉ S3 ++ (S4 ++ (S5' ++ (S6 ++ S7))) := fun hm => by
  rcases split blk hm with q | q
  ·exact (m5 blk q).2.2 rfl
  ·exact hnb (old blk q)
 have hsz := hkept.size
 have hi : ∀ b, p b → after p (blk :: (S3 ++ (S4 ++ (S5 ++ (S6 ++ S7))))) ([] ++ blk :: (S3 ++ (S4 ++ (S5' ++ (S6 ++ S7))))) w w' b := fun b hb2 => by
  have hlt := hp b hb2
  refine ⟨.inl hb2, by omega, fun hm => ?_⟩
  rcases List.mem_cons.1 hm with q | q
  ·exact hb.1 (q ▸ hb2)
  ·rcases split b q with q | q
   ·rcases (m5 b q).1 with q | q
    ·exact (lt b (by simp [q])).1 hb2
    ·omega
   ·exact (lt b (old b q)).1 hb2
 have keep : ∀ {t : Ty} {y : List t.den} {c : Value} {S : List Nat}, 0 < t.size → (∀ k ∈ S, k ∈ S3 ++ (S4 ++ (S5 ++ (S6 ++ S7)))) → TR p w true (.sl true t) y [c] S →
   CV (after p (blk :: (S3 ++ (S4 ++ (S5 ++ (S6 ++ S7))))) ([] ++ blk :: (S3 ++ (S4 ++ (S5' ++ (S6 ++ S7))))) w w') w' (.fr t y) c S [] := by
  intro t y c S hq hs ht
  simp only [CV]
  exact ⟨trivial, hq, ht.mono (fun b hb2 => ⟨hi b hb2, same b (hp b hb2) (fun e => hb.1 (e ▸ hb2))⟩) _ _ _ _ _ (fun b hb2 => same b (lt b (hs b hb2)).2 (fun e => hnb (e ▸ hs b hb2)))⟩
 refine ⟨cr, [], blk :: (S3 ++ (S4 ++ (S5' ++ (S6 ++ S7)))), he, ?_, fun k hk => ?_, ⟨hsz, fun k hk hn => hkept.same k hk (fun hm => hn (by simp only [List.mem_singleton] at hm; simp [hm])), hkept.frz⟩, kb _ _, ?_⟩
 ·exact List.nodup_cons.2 ⟨hnb', List.nodup_append.2 ⟨a3, List.nodup_append.2 ⟨a4, List.nodup_append.2 ⟨n5, ar5, d5⟩, d4⟩, d3⟩⟩
 ·rcases List.mem_cons.1 (show k ∈ blk :: (S3 ++ (S4 ++ (S5' ++ (S6 ++ S7)))) from hk) with q | q
  ·subst q
   exact ⟨.inl (List.mem_cons_self ..), by have := hb.2; omega⟩
  ·rcases split k q with q | q
   ·refine ⟨?_, (m5 k q).2.1⟩
    rcases (m5 k q).1 with q | q
    ·exact .inl (List.mem_cons_of_mem _ (by simp [q]))
    ·exact .inr q
   ·exact ⟨.inl (List.mem_cons_of_mem _ (old k q)), by have := (lt k (old k q)).2; omega⟩
 ·simp only [Outs]
  refine ⟨_, e2, S3 ++ (S4 ++ (S5' ++ (S6 ++ S7))), [], by simp, hheap', ?_, rfl⟩
  have hc := KV (S1 := []) (k0 (after p (blk :: (S3 ++ (S4 ++ (S5 ++ (S6 ++ S7))))) ([] ++ blk :: (S3 ++ (S4 ++ (S5' ++ (S6 ++ S7))))) w w') w') (KV (S1 := []) (k1 _ w') (KV (S1 := []) (k2 _ w')
   (KV (keep p3 (fun k hk => old k (.inl hk)) t3) (KV (keep p4 (fun k hk => old k (.inr (.inl hk))) t4) (KV (h5' _ hi)
   (KV (keep p6 (fun k hk => old k (.inr (.inr (.inl hk)))) t6) (KV (keep p7 (fun k hk => old k (.inr (.inr (.inr hk)))) t7) ZrU)))))))
  simp only [List.nil_append, List.append_nil] at hc
  simpa only [List.nil_append] using hc
def twF (x : Zi) (k : Int) : Option (Bool × Option (List Zo)) :=
 (ZT big k 0 (K6.wrap ((↑(List.length x.2.2.2.2.2.1) : Int) - 1))).bind fun y => bif !y then some (false, none) else
  if 0 ≤ K6.wrap (k + 1) then if K6.wrap (k + 1) ≤ (↑(List.length x.2.2.2.2.2.1) : Int) then if 0 ≤ k then if k ≤ K6.wrap (k + 1) then
  bif decide ((60 : Int) < K6.wrap ((↑(List.length x.2.2.2.2.2.1) : Int) + (↑(List.length (twL x k)) : Int))) then some (false, none)
  else if 0 + List.length x.2.2.2.2.2.1 ≤ lim then if List.length x.2.2.2.2.2.1 + List.length (twL x k) ≤ lim then some (true, some (List.append x.2.2.2.2.2.1 (twL x k))) else none else none
  else none else none else none else none
theorem Zva {α β : Type} {g : α → β} (c : Bool) (a : α) (y : Option α) : (bif c then some (g a) else y.map g) = (bif c then some a else y).map g := by cases c <;> rfl
theorem ZwM {α β : Type} {g : α → β} (c : Prop) [Decidable c] (y : Option α) : (if c then y.map g else none) = (if c then y else none).map g := by split <;> rfl
theorem ZwN (v3 v4 v5 v6 v7 : Value) (x : Zi) (k : Int) : Ziu big v3 v4 v5 v6 v7 x k = (twF x k).map fun r => (SV.val .bool r.1, [cX v3 v4 v6 v7 (Zya v5 x r.2) x]) := by
 rw [Znp]
 unfold twF
 cases ZT big k 0 (K6.wrap ((↑(List.length x.2.2.2.2.2.1) : Int) - 1)) with
 | none => rfl
 | some y =>
  simp only [Option.bind_some]
  cases y with
  | false => rfl
  | true =>
   simp only [Bool.not_true, cond_false, ← ZwM, ← Zva]
   rfl
theorem Zvb (n : Nat) (args : List SV) (r0 : Res) (hb : H3 args [] = true) (h1 : evX (false, false, []) [(67, YB), (214, ZbE)] [] [none] Tryz.f183 shI n args = some r0) : CallOk Tryz.prog 183 args (shI.sh r0).1 (shI.sh r0).2 :=
 ZA (cons_cons Yb (cons_cons Zlr Zh)) (by kernel_rfl) rfl (by kernel_rfl) hb n h1
theorem Zvc {x : Zi} {k : Int} {r : Bool × Option (List Zo)} (h : twF x k = some r) (v3 v4 v5 v6 v7 : Value) : CallOk Tryz.prog 183 [Zuo v3 v4 v5 v6 v7 x, .val Zp k] (.val .bool r.1) [cX v3 v4 v6 v7 (Zya v5 x r.2) x] := by
 have h1 := ZwN v3 v4 v5 v6 v7 x k
 rw [h, Option.map_some] at h1
 unfold Ziu at h1
 exact Zvb big _ _ (by kernel_rfl) h1
def KB (_n : Nat) (x : AP.denL [.mu Zz, .ro Zp]) : Option (Bool × Zi × Unit) :=
 (twF x.1 x.2.1).bind fun r => some (r.1, (x.1.1, x.1.2.1, x.1.2.2.1, x.1.2.2.2.1, x.1.2.2.2.2.1, r.2.getD x.1.2.2.2.2.2.1, x.1.2.2.2.2.2.2.1, x.1.2.2.2.2.2.2.2.1, ()), ())
def PB : Con := apS [.mu Zz, .ro Zp] true (shO (shV ZG) [.mu Zz]) (KB big)
theorem ZbF : ZM Tryz.prog 183 PB := Xl ⟨Tryz.f183, by kernel_rfl, rfl, by decide⟩ fun xs v h => by
 obtain ⟨x, k, u⟩ := xs
 cases u
 unfold KB at h
 obtain ⟨r, h1, h2⟩ := Option.bind_eq_some_iff.1 h
 cases h2
 have h3 := Zu9 x k r.1 r.2 (Zvc h1)
 exact h3
def Bp (n : Nat) (a0 : Zi) (a1 : Int) : Option (Bool × Zi × Unit) := KB n (a0, a1, ())
theorem ZbG (n : Nat) (a0 : Zi) (a1 : Int) : Bp n a0 a1 =
  (twF a0 a1).bind fun r => some (r.1, (a0.1, a0.2.1, a0.2.2.1, a0.2.2.2.1, a0.2.2.2.2.1, r.2.getD a0.2.2.2.2.2.1, a0.2.2.2.2.2.2.1, a0.2.2.2.2.2.2.2.1, ()), ()) := rfl
def ZEi : Yy := (183, PB) :: ZGw
theorem ZEj : YA ZEi := cons_cons ZbF ZGO
abbrev Bq : VS := (.ro Za :: dp 2 (.own Zj1 :: dp 18 []), [])
def ZFM := FX.mk (false, false, []) ZEi [(2, Bq)] [none] Tryz.f245 (shV Zy)
def Gu : Con := cR ZFM [Zp] true
theorem Dt : CO 245 Gu := ZyS ZEj
def Cv (n : Nat) (a0 : Int) : Option ByteArray := qR ZFM [Zp] n (a0, ())
def Br (n : Nat) (s0 : Int) (s3 : List Int) : Option ByteArray := rR ZFM (zs [Zp]) 2 Bq n (s0, s3, ()) ()
theorem Ziw (n : Nat) (a0) : Cv n a0 = Br n a0 [] := by kernel_rfl
theorem Ao (n : Nat) (s0 s3) : Br (n + 1) s0 s3 = bif decide (127 < s0) then if s3.length + [IntKind.u8.wrap (K6.wrap (s0.tmod 128 + 128))].length ≤ lim then Br n (K6.wrap (s0.tdiv 128)) (s3.append [IntKind.u8.wrap (K6.wrap (s0.tmod 128 + 128))]) else none else if s3.length + [IntKind.u8.wrap s0].length ≤ lim then some (ByteArray.mk (List.map (fun n => UInt8.ofNat n.toNat) (s3.append [IntKind.u8.wrap s0])).toArray) else none := by kernel_rfl
def ZFN : Yy := (245, Gu) :: ZEi
theorem ZFu : YA ZFN := cons_cons Dt ZEj
def ZGT := FX.mk (false, false, []) ZFN [] [none] Tryz.f242 (shV Zy)
def Gv : Con := cR ZGT [Zp] true
theorem Du : CO 242 Gv := ZyS ZFu
def XB (n : Nat) (a0 : Int) : Option ByteArray := qR ZGT [Zp] n (a0, ())
theorem MG (n : Nat) (a0) : XB n a0 = bif decide (a0 < 0) then some (ByteArray.mk (List.map (fun n => UInt8.ofNat n.toNat) [IntKind.u8.wrap 0]).toArray) else (Cv big a0).bind fun y => some y := by kernel_rfl
def ZFO : Yy := (242, Gv) :: ZFN
theorem ZFv : YA ZFO := cons_cons Du ZFu
def ZGU := FX.mk (false, false, [1, 3, 6, 10, 14]) ZFO [] [none] Tryz.f243 (shV Zy)
def Zgj : Con := cR ZGU [WZ] true
theorem Ziz : CO 243 Zgj := ZyS ZFv
def Cw (n : Nat) (a0 : Ch) : Option ByteArray := qR ZGU [WZ] n (a0, ())
theorem MH (n : Nat) (a0) : Cw n a0 = (XB big a0.1).bind fun y => (XB big a0.2.1).bind fun a => if ByteArray.size y + ByteArray.size a ≤ lim then (XB big a0.2.2.1).bind fun b => if (y ++ a).size + ByteArray.size b ≤ lim then (XB big a0.2.2.2.1).bind fun c => if (y ++ a ++ b).size + ByteArray.size c ≤ lim then some (y ++ a ++ b ++ c) else none else none else none := by kernel_rfl
def ZFP : Yy := (243, Zgj) :: ZFO
theorem ZFw : YA ZFP := cons_cons Ziz ZFv
def ZF8 := FX.mk (false, false, [1, 3, 6, 10, 14]) ZFP [] [none] Tryz.f244 (shV Zy)
def PE : Con := cR ZF8 [Z9] true
theorem ZbJ : CO 244 PE := ZyS ZFw
def Bs (n : Nat) (a0 : ZX) : Option ByteArray := qR ZF8 [Z9] n (a0, ())
theorem FA (n : Nat) (a0) : Bs n a0 = (XB big a0.1).bind fun y => (XB big a0.2.1).bind fun a => if ByteArray.size y + ByteArray.size a ≤ lim then (XB big a0.2.2.1).bind fun b => if (y ++ a).size + ByteArray.size b ≤ lim then (XB big a0.2.2.2.1).bind fun c => if (y ++ a ++ b).size + ByteArray.size c ≤ lim then some (y ++ a ++ b ++ c) else none else none else none := by kernel_rfl
def ZEk : Yy := (244, PE) :: ZFP
theorem ZEl : YA ZEk := cons_cons ZbJ ZFw
abbrev JC : VS := (.ro Wo :: .ro Zy :: dp 3 (.ro Za :: dp 27 []), [])
abbrev JD : VS := (.ro Wo :: .ro Zy :: dp 3 (.ro Za :: .ro Za :: dp 26 []), [])
def ZDR := FX.mk (false, false, []) ZEk [(2, JC), (6, JD)] [none] Tryz.f259 (shV Wo)
def ZbL : Con := cR ZDR [Wo, Zy] true
theorem ZeA : CO 259 ZbL := ZyS ZEl
def ZbM (n : Nat) (a0 : Int) (a1 : ByteArray) : Option Int := qR ZDR [Wo, Zy] n (a0, a1, ())
def Qq (n : Nat) (s0 : Int) (s1 : ByteArray) (s5 : Int) : Option Int := rR ZDR (zs [Wo, Zy]) 2 JC n (s0, s1, s5, ()) ()
def Qr (n : Nat) (s0 : Int) (s1 : ByteArray) (s5 s6 : Int) : Option Int := rR ZDR (zs [Wo, Zy]) 6 JD n (s0, s1, s5, s6, ()) ()
theorem ZeB (n : Nat) (a0 a1) : ZbM n a0 a1 = Qq n a0 a1 0 := by kernel_rfl
theorem D9 (n : Nat) (s0 s1 s5) : Qq (n + 1) s0 s1 s5 = bif decide (s5 < (↑s1.size : Int)) then if 0 ≤ s5 then (nth s1.data.toList s5.toNat).bind fun y => Qr n (IntKind.u32.wrap (↑(BitVec.ofInt IntKind.u32.bits s0 ^^^ BitVec.ofInt IntKind.u32.bits (IntKind.u32.wrap (↑y.toNat : Int))).toNat : Int)) s1 s5 0 else none else some s0 := by kernel_rfl
theorem Ea (n : Nat) (s0 s1 s5 s6) : Qr (n + 1) s0 s1 s5 s6 = bif decide (s6 < 8) then bif decide (s0.tmod 2 = 1) then Qr n (IntKind.u32.wrap (↑(BitVec.ofInt IntKind.u32.bits (IntKind.u32.wrap (s0.tdiv 2)) ^^^ BitVec.ofInt IntKind.u32.bits 3558460437).toNat : Int)) s1 s5 (K6.wrap (s6 + 1)) else Qr n (IntKind.u32.wrap (s0.tdiv 2)) s1 s5 (K6.wrap (s6 + 1)) else Qq n s0 s1 (K6.wrap (s5 + 1)) := by kernel_rfl
def ZFe : Yy := (259, ZbL) :: ZEk
theorem ZES : YA ZFe := cons_cons ZeA ZEl
def ZG9 := FX.mk (false, false, []) ZFe [] [none] Tryz.f255 (shV Wo)
def ZbN : Con := cR ZG9 [Zy] true
theorem PF : CO 255 ZbN := ZyS ZES
def MI (n : Nat) (a0 : ByteArray) : Option Int := qR ZG9 [Zy] n (a0, ())
theorem Zlx (n : Nat) (a0) : MI n a0 = (ZbM big 4294967295 a0).bind fun y => some y := by kernel_rfl
def ZGx : Yy := (255, ZbN) :: ZFe
theorem ZF9 : YA ZGx := cons_cons PF ZES
def ZHj := FX.mk (false, false, []) ZGx [] [none] Tryz.f254 (shV Zy)
def Iz : Con := cR ZHj [Wo] true
theorem Hy : CO 254 Iz := ZyS ZF9
def ZFf : Yy := (254, Iz) :: ZGx
theorem ZET : YA ZFf := cons_cons Hy ZF9
def ZGV := FX.mk (false, false, []) ZFf [] [none, none] Tryz.f246 (shT [(false, Zy), (false, ZG)])
def Zgm : Con := cR ZGV [Zy] true
theorem ZiE : CO 246 Zgm := ZyS ZET
def NT (n : Nat) (a0 : ByteArray) : Option (ByteArray × Bool × Unit) := qR ZGV [Zy] n (a0, ())
theorem ZiF (n : Nat) (a0) : NT n a0 = bif decide (20000 < (↑a0.size : Int)) then some (ByteArray.mk #[], false, ()) else (MI big a0).bind fun y => if a0.size + (ByteArray.mk (List.map (fun n => UInt8.ofNat n.toNat) [IntKind.u8.wrap (Int.fdiv y (2 ^ min (Int.toNat 24) IntKind.u32.bits)), IntKind.u8.wrap (Int.fdiv y (2 ^ min (Int.toNat 16) IntKind.u32.bits)), IntKind.u8.wrap (Int.fdiv y (2 ^ min (Int.toNat 8) IntKind.u32.bits)), IntKind.u8.wrap y]).toArray).size ≤ lim then some (a0 ++ ByteArray.mk (List.map (fun n => UInt8.ofNat n.toNat) [IntKind.u8.wrap (Int.fdiv y (2 ^ min (Int.toNat 24) IntKind.u32.bits)), IntKind.u8.wrap (Int.fdiv y (2 ^ min (Int.toNat 16) IntKind.u32.bits)), IntKind.u8.wrap (Int.fdiv y (2 ^ min (Int.toNat 8) IntKind.u32.bits)), IntKind.u8.wrap y]).toArray, true, ()) else none := by kernel_rfl
def ZFQ : Yy := (246, Zgm) :: ZFf
theorem ZFx : YA ZFQ := cons_cons ZiE ZET
def ZGa := FX.mk (false, false, []) ZFQ [] [none, none] Tryz.f238 (shT [(false, Zy), (false, ZG)])
def PI : Con := cR ZGa [Zy] true
theorem ZbQ : CO 238 PI := ZyS ZFx
def FC (n : Nat) (a0 : ByteArray) : Option (ByteArray × Bool × Unit) := qR ZGa [Zy] n (a0, ())
theorem ZbR (n : Nat) (a0) : FC n a0 = bif decide (K6.wrap ((↑a0.size : Int) - 4) < 0) then some (ByteArray.mk #[], false, ()) else bif decide (20000 < K6.wrap ((↑a0.size : Int) - 4)) then some (ByteArray.mk #[], false, ()) else if 0 ≤ K6.wrap ((↑a0.size : Int) - 4) then if K6.wrap ((↑a0.size : Int) - 4) ≤ (↑a0.size : Int) then if 0 ≤ K6.wrap ((↑a0.size : Int) - 4) then if K6.wrap ((↑a0.size : Int) - 4) ≤ (↑a0.size : Int) then (MI big (a0.extract (0 : Nat) (K6.wrap ((↑a0.size : Int) - 4)).toNat)).bind fun y => bif !decide (a0.extract (K6.wrap ((↑a0.size : Int) - 4)).toNat a0.size = ByteArray.mk (List.map (fun n => UInt8.ofNat n.toNat) [IntKind.u8.wrap (Int.fdiv y (2 ^ min (Int.toNat 24) IntKind.u32.bits)), IntKind.u8.wrap (Int.fdiv y (2 ^ min (Int.toNat 16) IntKind.u32.bits)), IntKind.u8.wrap (Int.fdiv y (2 ^ min (Int.toNat 8) IntKind.u32.bits)), IntKind.u8.wrap y]).toArray) then some (ByteArray.mk #[], false, ()) else if 0 ≤ K6.wrap ((↑a0.size : Int) - 4) then if K6.wrap ((↑a0.size : Int) - 4) ≤ (↑a0.size : Int) then some (a0.extract (0 : Nat) (K6.wrap ((↑a0.size : Int) - 4)).toNat, true, ()) else none else none else none else none else none else none := by kernel_rfl
def ZEm : Yy := (238, PI) :: ZFQ
theorem ZEn : YA ZEm := cons_cons ZbQ ZFx
abbrev Kk : VS := (.drop :: .is (.ptr 0 0) :: .drop :: .ro Zy :: .ro Za :: dp 47 [], [.vars (rp 14 Za [.ro Yx, .ro Zn, .ro Yx, .ro Yo, .ro ZV, .ro ZO, .ro Za])])
def ZEo := FX.mk (false, false, [1, 7, 10, 14, 18, 22, 26, 32, 39]) ZEm [(3, Kk)] [none] Tryz.f220 (shV Zy)
def FD : Con := cR ZEo [ZW] true
theorem FE : CO 220 FD := ZyS ZEn
def Xj (n : Nat) (a0 : Zj) : Option ByteArray := qR ZEo [ZW] n (a0, ())
def VY (n : Nat) (s3 : ByteArray) (s4 aa ab ac ad ae af ag ah ai aj ak al am an : Int) (ao : Yq) (ap : Zu) (aq : Yq) (ar : YG) (au : Yt) (av : Z3) (aw : Int) : Option ByteArray := rR ZEo (zs [ZW]) 3 Kk n (s3, s4, ()) ((aa, ab, ac, ad, ae, af, ag, ah, ai, aj, ak, al, am, an, ao, ap, aq, ar, au, av, aw, ()), ())
theorem FF (n : Nat) (a0) : Xj n a0 = (XB big a0.1).bind fun y => (XB big a0.2.1).bind fun a => if ByteArray.size y + ByteArray.size a ≤ lim then (Cw big a0.2.2.1).bind fun b => if (y ++ a).size + ByteArray.size b ≤ lim then (Cw big a0.2.2.2.1).bind fun c => if (y ++ a ++ b).size + ByteArray.size c ≤ lim then (Bs big a0.2.2.2.2.1).bind fun d => if (y ++ a ++ b ++ c).size + ByteArray.size d ≤ lim then (Cv big (↑(List.length a0.2.2.2.2.2.1) : Int)).bind fun e => if (y ++ a ++ b ++ c ++ d).size + ByteArray.size e ≤ lim then VY n (y ++ a ++ b ++ c ++ d ++ e) 0 a0.1 a0.2.1 a0.2.2.1.1 a0.2.2.1.2.1 a0.2.2.1.2.2.1 a0.2.2.1.2.2.2.1 a0.2.2.2.1.1 a0.2.2.2.1.2.1 a0.2.2.2.1.2.2.1 a0.2.2.2.1.2.2.2.1 a0.2.2.2.2.1.1 a0.2.2.2.2.1.2.1 a0.2.2.2.2.1.2.2.1 a0.2.2.2.2.1.2.2.2.1 a0.2.2.2.2.2.1 a0.2.2.2.2.2.2.1 a0.2.2.2.2.2.2.2.1 a0.2.2.2.2.2.2.2.2.1 a0.2.2.2.2.2.2.2.2.2.1 a0.2.2.2.2.2.2.2.2.2.2.1 a0.2.2.2.2.2.2.2.2.2.2.2.1 else none else none else none else none else none := by kernel_rfl
theorem QZ (n : Nat) (s3 s4 aa ab ac ad ae af ag ah ai aj ak al am an ao ap aq ar au av aw) : VY (n + 1) s3 s4 aa ab ac ad ae af ag ah ai aj ak al am an ao ap aq ar au av aw = bif decide (s4 < (↑(List.length ao) : Int)) then if 0 ≤ s4 then (nth ao s4.toNat).bind fun y => (XB big y).bind fun y => if s3.size + ByteArray.size y ≤ lim then VY n (s3 ++ y) (K6.wrap (s4 + 1)) aa ab ac ad ae af ag ah ai aj ak al am an ao ap aq ar au av aw else none else none else (NT big s3).bind fun y => some y.1 := by kernel_rfl
def ZEp : Yy := (220, FD) :: ZEm
theorem ZEq : YA ZEp := cons_cons FE ZEn
abbrev JE : VS := (.ro Zy :: .ro Za :: dp 5 (.ro Za :: .ro Za :: .ro Za :: dp 48 []), [])
def ZFg := FX.mk (false, false, []) ZEp [(6, JE)] [none, none, none] Tryz.f256 (shT [(false, Zp), (false, Zp), (false, ZG)])
def ZbU : Con := cR ZFg [Zy, Zp] true
theorem ZeF : CO 256 ZbU := ZyS ZEq
def IA (n : Nat) (a0 : ByteArray) (a1 : Int) : Option (Int × Int × Bool × Unit) := qR ZFg [Zy, Zp] n (a0, a1, ())
def JF (n : Nat) (s0 : ByteArray) (s1 s7 s8 s9 : Int) : Option (Int × Int × Bool × Unit) := rR ZFg (zs [Zy, Zp]) 6 JE n (s0, s1, s7, s8, s9, ()) ()
theorem ZeG (n : Nat) (a0 a1) : IA n a0 a1 = (ZT big a1 0 (↑a0.size : Int)).bind fun y => bif !y then some (0, 0, false, ()) else JF n a0 a1 0 1 a1 := by kernel_rfl
theorem Eb (n : Nat) (s0 s1 s7 s8 s9) : JF (n + 1) s0 s1 s7 s8 s9 = bif decide (s9 < (↑s0.size : Int)) then bif decide (s9 < K6.wrap (s1 + 5)) then if 0 ≤ s9 then (nth s0.data.toList s9.toNat).bind fun y => if 0 ≤ s9 then (nth s0.data.toList s9.toNat).bind fun a => (fun zC0 => bif decide ((↑a.toNat : Int) < 128) then bif decide (1000000000 < K6.wrap zC0) then some (0, 0, false, ()) else if 0 ≤ K6.wrap (s9 + 1) then if K6.wrap (s9 + 1) ≤ (↑s0.size : Int) then if 0 ≤ s1 then if s1 ≤ K6.wrap (s9 + 1) then (Cv big (K6.wrap zC0)).bind fun b => bif !decide (b = s0.extract s1.toNat (K6.wrap (s9 + 1)).toNat) then some (0, 0, false, ()) else some (K6.wrap zC0, K6.wrap (s9 + 1), true, ()) else none else none else none else none else JF n s0 s1 (K6.wrap zC0) (K6.wrap (s8 * 128)) (K6.wrap (s9 + 1))) (s7 + K6.wrap ((K6.wrap (↑y.toNat : Int)).tmod 128 * s8)) else none else none else some (0, 0, false, ()) else some (0, 0, false, ()) := by kernel_rfl
def ZFh : Yy := (256, ZbU) :: ZEp
theorem ZEU : YA ZFh := cons_cons ZeF ZEq
def ZGW := FX.mk (false, false, [7, 8, 9, 11, 12, 13, 19, 20, 21, 27, 28, 30, 32]) ZFh [] [none] Tryz.f239 (shO (shV Zp) [.mu X4])
def Gw : Con := cA ZGW [.mu X4] true
theorem Dw : CO 239 Gw := ZBw ZEU
def XC (n : Nat) (a0 : XA) : Option (Int × XA × Unit) := qA ZGW [.mu X4] n (a0, ())
theorem ZiJ (n : Nat) (a0) : XC n a0 = (IA big a0.1 a0.2.1).bind fun y => bif a0.2.2.1 then some (0, (a0.1, a0.2.1, true, ()), ()) else bif !y.2.2.1 then some (0, (a0.1, a0.2.1, true, ()), ()) else some (y.1, (a0.1, y.2.1, a0.2.2), ()) := by kernel_rfl
def ZFR : Yy := (239, Gw) :: ZFh
theorem ZFy : YA ZFR := cons_cons Dw ZEU
def ZHa := FX.mk (false, false, [3]) ZFR [] [none] Tryz.f240 (shO (shV WZ) [.mu X4])
def ZlC : Con := cA ZHa [.mu X4] true
theorem ZlD : CO 240 ZlC := ZBw ZFy
def FG (n : Nat) (a0 : XA) : Option (Ch × XA × Unit) := qA ZHa [.mu X4] n (a0, ())
theorem PL (n : Nat) (a0) : FG n a0 = (XC big a0).bind fun y => (XC big y.2.1).bind fun a => (XC big a.2.1).bind fun c => (XC big c.2.1).bind fun b => some ((y.1, a.1, c.1, b.1, ()), b.2) := by kernel_rfl
def ZGy : Yy := (240, ZlC) :: ZFR
theorem ZGb : YA ZGy := cons_cons ZlD ZFy
def ZGz := FX.mk (false, false, [3]) ZGy [] [none] Tryz.f241 (shO (shV Z9) [.mu X4])
def ZbX : Con := cA ZGz [.mu X4] true
theorem ZeI : CO 241 ZbX := ZBw ZGb
def Dx (n : Nat) (a0 : XA) : Option (ZX × XA × Unit) := qA ZGz [.mu X4] n (a0, ())
theorem Hz (n : Nat) (a0) : Dx n a0 = (XC big a0).bind fun y => (XC big y.2.1).bind fun a => (XC big a.2.1).bind fun c => (XC big c.2.1).bind fun b => some ((y.1, a.1, c.1, b.1, ()), b.2) := by kernel_rfl
def ZFi : Yy := (241, ZbX) :: ZGy
theorem ZEV : YA ZFi := cons_cons ZeI ZGb
abbrev Qs : VS := (.ro Zy :: .drop :: .is (.ptr 0 0) :: dp 3 (.is (.ptr 1 0) :: .is (.ptr 2 0) :: .ro Za :: .ro Za :: dp 58 []), [.vars (rp 14 Za [.own Zp, .own Yf, .own Zp, .own YO, .own Z9, .own ZQ, .ro Za]), .vars [.ro Zy, .ro Za, .ro ZG], .vars (rp 14 Za [.own Zp, .own Yf, .own Zp, .own YO, .own Z9, .own ZQ, .ro Za])])
def ZEr := FX.mk (false, false, [7, 41, 42, 43, 49, 56, 57, 58]) ZFi [(10, Qs)] [some ZL, none] Tryz.f219 (shT [(true, ZL), (false, ZG)])
def PN : Con := cR ZEr [Zy] true
theorem ZbZ : CO 219 PN := ZyS ZEV
def Bv (n : Nat) (a0 : ByteArray) : Option (Zj × Bool × Unit) := qR ZEr [Zy] n (a0, ())
def Vp (n : Nat) (s0 : ByteArray) (s8 s9 aa ab ac ad ae af ag ah ai aj ak al am an : Int) (ao : List Int) (ap : List ZB) (aq : List Int) (ar : List Ya) (au : List ZX) (av : List Zo) (aw : Int) (ax : ByteArray) (ay : Int) (az : Bool) (ba bb bc bd be bf bg bh bi bj bk bl bm bn : Int) (bo : List Int) (bp : List ZB) (bq : List Int) (br : List Ya) (bs : List ZX) (bt : List Zo) (bu : Int) : Option (Zj × Bool × Unit) := rR ZEr (zs [Zy]) 10 Qs n (s0, s8, s9, ()) ((aa, ab, ac, ad, ae, af, ag, ah, ai, aj, ak, al, am, an, ao, ap, aq, ar, au, av, aw, ()), (ax, ay, az, ()), (ba, bb, bc, bd, be, bf, bg, bh, bi, bj, bk, bl, bm, bn, bo, bp, bq, br, bs, bt, bu, ()), ())
theorem FH (n : Nat) (a0) : Bv n a0 = (FC big a0).bind fun y => (XC big (y.1, 0, !y.2.1, ())).bind fun y => (XC big y.2.1).bind fun e => (FG big e.2.1).bind fun a => (FG big a.2.1).bind fun c => (Dx big c.2.1).bind fun b => (XC big b.2.1).bind fun d => Vp n a0 d.1 0 0 0 0 0 0 0 0 0 0 0 0 0 0 0 [] [] [] [] [] [] 0 d.2.1.1 d.2.1.2.1 d.2.1.2.2.1 y.1 e.1 a.1.1 a.1.2.1 a.1.2.2.1 a.1.2.2.2.1 c.1.1 c.1.2.1 c.1.2.2.1 c.1.2.2.2.1 b.1.1 b.1.2.1 b.1.2.2.1 b.1.2.2.2.1 [] [] [] [] [] [] 0 := by kernel_rfl
theorem Qt (n : Nat) (s0 s8 s9 aa ab ac ad ae af ag ah ai aj ak al am an ao ap aq ar au av aw ax ay az ba bb bc bd be bf bg bh bi bj bk bl bm bn bo bp bq br bs bt bu) : Vp (n + 1) s0 s8 s9 aa ab ac ad ae af ag ah ai aj ak al am an ao ap aq ar au av aw ax ay az ba bb bc bd be bf bg bh bi bj bk bl bm bn bo bp bq br bs bt bu = (fun zC0 => (fun zC0 => bif decide (s9 < s8) then bif !az then (fun zB => (fun zB => Wk (Wk zB zB) zB) (zB)) ((XC big (ax, ay, az, ())).bind fun y => if bo.length + (1 : Nat) ≤ lim then Vp n s0 s8 (K6.wrap (s9 + 1)) aa ab ac ad ae af ag ah ai aj ak al am an ao ap aq ar au av aw y.2.1.1 y.2.1.2.1 y.2.1.2.2.1 ba bb bc bd be bf bg bh bi bj bk bl bm bn (bo.append [y.1]) bp bq br bs bt bu else none) else zC0 else zC0) (bif az then zC0 else (Xj big (ba, bb, (bc, bd, be, bf, ()), (bg, bh, bi, bj, ()), (bk, bl, bm, bn, ()), bo, bp, bq, br, bs, bt, bu, ())).bind fun y => bif !decide (y = s0) then zC0 else some ((ba, bb, (bc, bd, be, bf, ()), (bg, bh, bi, bj, ()), (bk, bl, bm, bn, ()), bo, bp, bq, br, bs, bt, bu, ()), true, ()))) (some ((0, 0, (0, 0, 0, 0, ()), (0, 0, 0, 0, ()), (0, 0, 0, 0, ()), [], [], [], [], [], [], 0, ()), false, ())) := by kernel_rfl
def ZEs : Yy := (219, PN) :: ZFi
theorem ZEt : YA ZEs := cons_cons ZbZ ZEV
def ZGX := FX.mk (false, false, [3, 5, 15, 19]) ZEs [] [some ZL] Tryz.f185 (shF ZL)
def Zgr : Con := cR ZGX [Zg, ZW] true
theorem ZiL : CO 185 Zgr := ZyS ZEt
def Gx (n : Nat) (a0 : Zt) (a1 : Zj) : Option Zj := qR ZGX [Zg, ZW] n (a0, a1, ())
theorem ML (n : Nat) (a0 a1) : Gx n a0 a1 = (Xj big a1).bind fun y => (Bv big y).bind fun y => bif !y.2.1 then some (a1.1, 1, (0, 0, 0, 0, ()), (0, 0, 0, 0, ()), (0, 0, 0, 0, ()), [], [], [], [], [], [], 0, ()) else (XQ big a0 y.1.2.2.2.2.2.1).bind fun a => some (y.1.1, y.1.2.1, y.1.2.2.1, y.1.2.2.2.1, y.1.2.2.2.2.1, y.1.2.2.2.2.2.1, a, y.1.2.2.2.2.2.2.2) := by kernel_rfl
def ZFS : Yy := (185, Zgr) :: ZEs
theorem ZFz : YA ZFS := cons_cons ZiL ZEt
abbrev Dy : VS := (.drop :: .ro Za :: .ro Za :: .is (.ptr 0 0) :: dp 2 (.is (.ptr 1 0) :: .drop :: .ro Za :: .own Zx :: .ro Za :: dp 48 []), [.vars [.ro Za, .ro ZG, .ro Za, .ro Zg, .ro X3, .ro ZO, .ro ZV, .ro Yl], .vars (rp 4 Za [])])
def ZGA := FX.mk (false, false, [3, 12, 19, 26, 30, 54]) ZFS [(6, Dy)] [none, none] Tryz.f224 (shT [(false, WZ), (false, ZG)])
def Zb1 : Con := cR ZGA [YT, Zp, Zp] true
theorem PO : CO 224 Zb1 := ZyS ZFz
def Ap (n : Nat) (a0 : Zi) (a1 a2 : Int) : Option (Ch × Bool × Unit) := qR ZGA [YT, Zp, Zp] n (a0, a1, a2, ())
def Aq (n : Nat) (s1 s2 s8 : Int) (s9 : List Zf) (s10 aa : Int) (ab : Bool) (ac : Int) (ad : Zt) (ae : CT) (af : Z3) (ag : Yt) (ah : YW) (ai aj ak al : Int) : Option (Ch × Bool × Unit) := rR ZGA (zs [YT, Zp, Zp]) 6 Dy n (s1, s2, s8, s9, s10, ()) ((aa, ab, ac, ad, ae, af, ag, ah, ()), (ai, aj, ak, al, ()), ())
theorem ZlH (n : Nat) (a0 a1 a2) : Ap n a0 a1 a2 = (ZT big a2 1 (K6.wrap ((↑(List.length a0.2.2.2.1) : Int) - 1))).bind fun y => bif !y then some ((0, 0, 0, 0, ()), false, ()) else if 0 ≤ a2 then (nth a0.2.2.2.1 a2.toNat).bind fun y => if (0 : Nat) + List.length a0.2.2.2.2.2.2.1 ≤ lim then Aq n a1 a2 y.2.1 a0.2.2.2.2.2.2.1 0 a0.1 a0.2.1 a0.2.2.1 a0.2.2.2.1 a0.2.2.2.2.1 a0.2.2.2.2.2.1 a0.2.2.2.2.2.2.1 a0.2.2.2.2.2.2.2.1 0 0 0 0 else none else none := by kernel_rfl
theorem HA (n : Nat) (s1 s2 s8 s9 s10 aa ab ac ad ae af ag ah ai aj ak al) : Aq (n + 1) s1 s2 s8 s9 s10 aa ab ac ad ae af ag ah ai aj ak al = bif decide (s10 < aa) then bif decide (s10 < 7) then (W7 big (aa, ab, ac, ad, ae, af, ag, ah, ()) s10).bind fun y => bif y then if s9.length + [(s1, s8, s2, s10, ())].length ≤ lim then Aq n s1 s2 s8 (s9.append [(s1, s8, s2, s10, ())]) (K6.wrap (s10 + 1)) aa ab ac ad ae af ag ah ai aj ak al else none else Aq n s1 s2 s8 s9 (K6.wrap (s10 + 1)) aa ab ac ad ae af ag ah ai aj ak al else (Gn big s9 s1 s8 s2 aa).bind fun y => some y else (Gn big s9 s1 s8 s2 aa).bind fun y => some y := by kernel_rfl
def ZGB : Yy := (224, Zb1) :: ZFS
theorem ZGc : YA ZGB := cons_cons PO ZFz
def ZGC := FX.mk (false, false, [2, 3, 5, 7, 14, 20, 22, 24, 29, 34, 35]) ZGB [] [none] Tryz.f247 (shV ZG)
def Zb4 : Con := cR ZGC [YT, ZQ] true
theorem ZeK : CO 247 Zb4 := ZyS ZGc
def IB (n : Nat) (a0 : Zi) (a1 : Zo) : Option Bool := qR ZGC [YT, ZQ] n (a0, a1, ())
theorem ZeL (n : Nat) (a0 a1) : IB n a0 a1 = (Vo big a0.2.2.2.1 a0.1 a1).bind fun y => bif !y then some false else (W7 big a0 a1.2.1).bind fun y => bif !y then some false else (VE big a0.2.2.2.2.2.2.1 a1.2.2.2.2.2.1 a0.2.2.1).bind fun y => bif !y then some false else bif !decide (a1.1 = 2) then some true else (W7 big a0 a1.2.2.2.2.2.2.1.2.2.2.1).bind fun y => some y := by kernel_rfl
def ZFj : Yy := (247, Zb4) :: ZGB
theorem ZEW : YA ZFj := cons_cons ZeK ZGc
def ZGD := FX.mk (false, false, [3, 5, 6]) ZFj [] [none] Tryz.f221 (shO (shV ZG) [.mu Zz])
def IC : Con := cA ZGD [.mu Zz, .ro ZQ] true
theorem HB : CO 221 IC := ZBw ZEW
def Xq (n : Nat) (a0 : Zi) (a1 : Zo) : Option (Bool × Zi × Unit) := qA ZGD [.mu Zz, .ro ZQ] n (a0, a1, ())
theorem HC (n : Nat) (a0 a1) : Xq n a0 a1 = (IB big a0 a1).bind fun y => bif !y then some (false, a0, ()) else (WK big a0 [a1]).bind fun y => some y := by kernel_rfl
def ZFk : Yy := (221, IC) :: ZFj
theorem ZEX : YA ZFk := cons_cons HB ZEW
def ZGd := FX.mk (false, false, [2, 5]) ZFk [] [none] Tryz.f223 (shV Zp)
def PR : Con := cR ZGd [YT, Zp] true
theorem Zb8 : CO 223 PR := ZyS ZEX
def Bw (n : Nat) (a0 : Zi) (a1 : Int) : Option Int := qR ZGd [YT, Zp] n (a0, a1, ())
theorem Zb9 (n : Nat) (a0 a1) : Bw n a0 a1 = bif a0.2.1 then some 4 else some (K6.wrap (1 + a1.tmod 3)) := by kernel_rfl
def ZEu : Yy := (223, PR) :: ZFk
theorem ZEv : YA ZEu := cons_cons Zb8 ZEX
abbrev W8 : VS := (.ro X3 :: dp 2 (.ro Za :: .ro Za :: dp 19 []), [])
def ZDu := FX.mk (false, false, []) ZEu [(3, W8)] [none] Tryz.f23 (shV Zp)
def Ed : Con := cR ZDu [X3] true
theorem IE : CO 23 Ed := ZyS ZEv
def KQ (n : Nat) (a0 : CT) : Option Int := qR ZDu [X3] n (a0, ())
def Wa (n : Nat) (s0 : CT) (s3 s4 : Int) : Option Int := rR ZDu (zs [X3]) 3 W8 n (s0, s3, s4, ()) ()
theorem IF (n : Nat) (a0) : KQ n a0 = Wa n a0 0 0 := by kernel_rfl
theorem KC (n : Nat) (s0 s3 s4) : Wa (n + 1) s0 s3 s4 = bif decide (s4 < (↑(List.length s0) : Int)) then if 0 ≤ s4 then (nth s0 s4.toNat).bind fun y => bif decide (s3 < y.2.1) then if 0 ≤ s4 then (nth s0 s4.toNat).bind fun y => Wa n s0 y.2.1 (K6.wrap (s4 + 1)) else none else Wa n s0 s3 (K6.wrap (s4 + 1)) else none else some s3 := by kernel_rfl
def ZDv : Yy := (23, Ed) :: ZEu
theorem ZDw : YA ZDv := cons_cons IE ZEv
end
end Go.Sx.Tryz
