/- The functions of the seat: what each comes to. -/
import Derived.Test.YtocddfdkknhgcaaGreatTypes
import Derived.Test.YtocddfdkknhgcaaGreatEarlyF1
set_option linter.unusedVariables false
set_option linter.unusedSimpArgs false
set_option maxRecDepth 100000
namespace Go.Sx.Tryz
open Go Go.Sx Go.Proofs
open Go.IntKind renaming i64 → K6
noncomputable section
abbrev Da : VS := (.ro Zg :: .ro Za :: dp 3 (.own Za :: dp 18 []), [])
def ZCI := FX.mk (false, false, []) ZBa [(4, Da)] [some Y0] Tryz.f83 (shF Y0)
def ZkH : Con := cR ZCI [Zg, Zp] true
theorem ZkI : CO 83 ZkH := ZyS ZAG
def Mc (n : Nat) (a0 : Zt) (a1 : Int) : Option Yq := qR ZCI [Zg, Zp] n (a0, a1, ())
def Ae (n : Nat) (s0 : Zt) (s1 : Int) (s5 : List Int) : Option Yq := rR ZCI (zs [Zg, Zp]) 4 Da n (s0, s1, s5, ()) ()
theorem OQ (n : Nat) (a0 a1) : Mc n a0 a1 = (Uv big a0 a1).bind fun y => bif decide (y < 0) then some [] else Ae n a0 a1 [] := by kernel_rfl
theorem BO (n : Nat) (s0 s1 s5) : Ae (n + 1) s0 s1 s5 = bif decide (0 < s1) then if [s1].length + s5.length ≤ lim then if 0 ≤ s1 then (nth s0 s1.toNat).bind fun y => Ae n s0 y.1 (s1 :: s5) else none else none else some s5 := by kernel_rfl
def ZCJ : Yy := (83, ZkH) :: ZBa
theorem ZCk : YA ZCJ := cons_cons ZkI ZAG
abbrev Kb : VS := (dp 2 (.ro Za :: dp 4 (.is (.own 0 0) :: .own Za :: .ro Za :: dp 30 [])), [.arr Za])
def ZAb := FX.mk (false, false, []) ZCJ [(6, Kb)] [some Y0] Tryz.f30 (shF Y0)
def A6 : Con := cR ZAb [Zg, Zp, Zp] true
theorem Af : CO 30 A6 := ZyS ZCk
def Wy (n : Nat) (a0 : Zt) (a1 a2 : Int) : Option Yq := qR ZAb [Zg, Zp, Zp] n (a0, a1, a2, ())
def WT (n : Nat) (s2 : Int) (s8 : List Int) (s9 : Int) (b0 : List Int) : Option Yq := rR ZAb (zs [Zg, Zp, Zp]) 6 Kb n (s2, s8, s9, ()) (b0, ())
theorem E8 (n : Nat) (a0 a1 a2) : Wy n a0 a1 a2 = (WH big a0 a1 a2).bind fun y => bif !y then some [] else (Mc big a0 a1).bind fun y => WT n a2 [] 0 y := by kernel_rfl
theorem VA (n : Nat) (s2 s8 s9 b0) : WT (n + 1) s2 s8 s9 b0 = bif decide (s9 < (↑b0.length : Int)) then if 0 ≤ s9 then if s9 < (↑b0.length : Int) then (nth b0 s9.toNat).bind fun y => bif decide (s2 < y) then if 0 ≤ s9 then if s9 < (↑b0.length : Int) then (nth b0 s9.toNat).bind fun y => if s8.length + [y].length ≤ lim then WT n s2 (s8.append [y]) (K6.wrap (s9 + 1)) b0 else none else none else none else WT n s2 s8 (K6.wrap (s9 + 1)) b0 else none else none else some s8 := by kernel_rfl
def ZAc : Yy := (30, A6) :: ZCJ
theorem ZAd : YA ZAc := cons_cons Af ZCk
def ZCK := FX.mk (false, false, [1, 3, 7, 9]) ZAc [] [none] Tryz.f76 (shV Zp)
def Ii : Con := cR ZCK [ZW] true
theorem G4 : CO 76 Ii := ZyS ZAd
def Ag (n : Nat) (a0 : Zj) : Option Int := qR ZCK [ZW] n (a0, ())
theorem ZdE (n : Nat) (a0) : Ag n a0 = bif decide ((↑(List.length a0.2.2.2.2.2.1) : Int) = 0) then some 0 else if 0 ≤ K6.wrap ((↑(List.length a0.2.2.2.2.2.1) : Int) - 1) then (nth a0.2.2.2.2.2.1 (K6.wrap ((↑(List.length a0.2.2.2.2.2.1) : Int) - 1)).toNat).bind fun y => some y else none := by kernel_rfl
def ZBb : Yy := (76, Ii) :: ZAc
theorem ZAH : YA ZBb := cons_cons G4 ZAd
def ZBG := FX.mk (false, false, [1, 3, 6, 8]) ZBb [] [some ZL] Tryz.f74 (shF ZL)
def Db : Con := cR ZBG [ZW] true
theorem DZ : CO 74 Db := ZyS ZAH
def Jm (n : Nat) (a0 : Zj) : Option Zj := qR ZBG [ZW] n (a0, ())
theorem Rx (n : Nat) (a0) : Jm n a0 = (K9 big a0).bind fun y => (C3 big a0.2.2.2.2.2.2.1 a0.2.2.2.2.2.2.2.2.1).bind fun a => some (y.1, y.2.1, y.2.2.1, y.2.2.2.1, y.2.2.2.2.1, y.2.2.2.2.2.1, a, [], [], y.2.2.2.2.2.2.2.2.2) := by kernel_rfl
def Zzy : Yy := (74, Db) :: ZBb
theorem ZzL : YA Zzy := cons_cons DZ ZAH
def ZCL := FX.mk (false, false, [4, 7, 24, 30]) Zzy [] [some ZL] Tryz.f25 (shF ZL)
def T9 : Con := cR ZCL [Zg, ZW, Zp] true
theorem ZdH : CO 25 T9 := ZyS ZzL
def Dc (n : Nat) (a0 : Zt) (a1 : Zj) (a2 : Int) : Option Zj := qR ZCL [Zg, ZW, Zp] n (a0, a1, a2, ())
theorem ZdI (n : Nat) (a0 a1 a2) : Dc n a0 a1 a2 = (Ag big a1).bind fun y => (C8 big a0 a2 y).bind fun y => bif !y then (K9 big a1).bind fun y => some y else (Jm big a1).bind fun y => (Ag big a1).bind fun b => (AY big a0 a2 b).bind fun a => if List.length y.2.2.2.2.2.1 + List.length a ≤ lim then (Gg big a0 a).bind fun c => (Ib big y.2.2.2.2.2.2.1 c).bind fun d => some (y.1, y.2.1, y.2.2.1, y.2.2.2.1, y.2.2.2.2.1, List.append y.2.2.2.2.2.1 a, d.1, y.2.2.2.2.2.2.2) else none := by kernel_rfl
def ZBc : Yy := (25, T9) :: Zzy
theorem ZAI : YA ZBc := cons_cons ZdH ZzL
def ZCM := FX.mk (false, false, [1, 3, 7, 9]) ZBc [] [none] Tryz.f88 (shV Zp)
def Ij : Con := cR ZCM [ZW] true
theorem G5 : CO 88 Ij := ZyS ZAI
def QR (n : Nat) (a0 : Zj) : Option Int := qR ZCM [ZW] n (a0, ())
theorem G6 (n : Nat) (a0) : QR n a0 = bif decide ((↑(List.length a0.2.2.2.2.2.1) : Int) = 0) then some 0 else if 0 ≤ K6.wrap ((↑(List.length a0.2.2.2.2.2.1) : Int) - 1) then (nth a0.2.2.2.2.2.1 (K6.wrap ((↑(List.length a0.2.2.2.2.2.1) : Int) - 1)).toNat).bind fun y => some y else none := by kernel_rfl
def ZBd : Yy := (88, Ij) :: ZBc
theorem ZAJ : YA ZBd := cons_cons G5 ZAI
def ZCN := FX.mk (false, false, [2, 3, 4, 5, 7, 8, 9, 12, 14, 16, 18, 20]) ZBd [] [] Tryz.f89 (shO shN [.mu ZL])
def Ik : Con := cA ZCN [.mu ZL] true
theorem G7 : CO 89 Ik := ZBw ZAJ
def Ah (n : Nat) (a0 : Zj) : Option (Unit × Zj × Unit) := qA ZCN [.mu ZL] n (a0, ())
theorem G8 (n : Nat) (a0) : Ah n a0 = (X6 big a0.2.2.2.2.2.2.1 a0.2.2.2.2.2.2.2.2.1).bind fun y => some ((), (a0.1, a0.2.1, a0.2.2.1, a0.2.2.2.1, a0.2.2.2.2.1, a0.2.2.2.2.2.1, y, [], [], a0.2.2.2.2.2.2.2.2.2), ()) := by kernel_rfl
def ZBe : Yy := (89, Ik) :: ZBd
theorem ZAK : YA ZBe := cons_cons G7 ZAJ
abbrev Jn : VS := (.ro Zg :: dp 5 (.is (.ptr 1 0) :: .is (.ptr 8 0) :: .is (.own 15 0) :: .ro Za :: dp 46 []), [.drop, .vars (rp 14 Za [.own Zp, .own Yf, .own Zp, .own YO, .own Z9, .own ZQ, .ro Za]), .drop, .drop, .drop, .drop, .drop, .drop, .vars (rp 14 Za [.own Za, .own Zq, .own Za, .own ZH, .own Zx, .own Zl, .ro Za]), .drop, .drop, .drop, .drop, .drop, .drop, .arr Za])
def ZBf := FX.mk (false, false, [4, 7, 31, 41]) ZBe [(7, Jn)] [some ZL] Tryz.f40 (shF ZL)
def Il : Con := cR ZBf [Zg, ZW, Zp] true
theorem G9 : CO 40 Il := ZyS ZAK
def QS (n : Nat) (a0 : Zt) (a1 : Zj) (a2 : Int) : Option Zj := qR ZBf [Zg, ZW, Zp] n (a0, a1, a2, ())
def Qb (n : Nat) (s0 : Zt) (s9 aa ab ac ad ae af ag ah ai aj ak al am an : Int) (ao : List Int) (ap : List ZB) (aq : List Int) (ar : List Ya) (au : List ZX) (av : List Zo) (aw ax ay az ba bb bc bd be bf bg bh bi bj bk : Int) (bl : List Int) (bm : List Ze) (bn : List Int) (bo : List Zw) (bp : List Zf) (bq : List Zc) (br : Int) (b15 : List Int) : Option Zj := rR ZBf (zs [Zg, ZW, Zp]) 7 Jn n (s0, s9, ()) ((aa, ab, ac, ad, ae, af, ag, ah, ai, aj, ak, al, am, an, ao, ap, aq, ar, au, av, aw, ()), (ax, ay, az, ba, bb, bc, bd, be, bf, bg, bh, bi, bj, bk, bl, bm, bn, bo, bp, bq, br, ()), b15, ())
theorem Ha (n : Nat) (a0 a1 a2) : QS n a0 a1 a2 = (YX big a1).bind fun y => (QR big a1).bind fun a => (WH big a0 a2 a).bind fun c => bif !c then some y else (Ah big y).bind fun y => (QR big a1).bind fun b => (Wy big a0 a2 b).bind fun d => Qb n a0 0 0 0 0 0 0 0 0 0 0 0 0 0 0 0 [] [] [] [] [] [] 0 y.2.1.1 y.2.1.2.1 y.2.1.2.2.1.1 y.2.1.2.2.1.2.1 y.2.1.2.2.1.2.2.1 y.2.1.2.2.1.2.2.2.1 y.2.1.2.2.2.1.1 y.2.1.2.2.2.1.2.1 y.2.1.2.2.2.1.2.2.1 y.2.1.2.2.2.1.2.2.2.1 y.2.1.2.2.2.2.1.1 y.2.1.2.2.2.2.1.2.1 y.2.1.2.2.2.2.1.2.2.1 y.2.1.2.2.2.2.1.2.2.2.1 y.2.1.2.2.2.2.2.1 y.2.1.2.2.2.2.2.2.1 y.2.1.2.2.2.2.2.2.2.1 y.2.1.2.2.2.2.2.2.2.2.1 y.2.1.2.2.2.2.2.2.2.2.2.1 y.2.1.2.2.2.2.2.2.2.2.2.2.1 y.2.1.2.2.2.2.2.2.2.2.2.2.2.1 d := by kernel_rfl
theorem V6 (n : Nat) (s0 s9 aa ab ac ad ae af ag ah ai aj ak al am an ao ap aq ar au av aw ax ay az ba bb bc bd be bf bg bh bi bj bk bl bm bn bo bp bq br b15) : Qb (n + 1) s0 s9 aa ab ac ad ae af ag ah ai aj ak al am an ao ap aq ar au av aw ax ay az ba bb bc bd be bf bg bh bi bj bk bl bm bn bo bp bq br b15 = bif decide (s9 < (↑b15.length : Int)) then if 0 ≤ s9 then if s9 < (↑b15.length : Int) then (nth b15 s9.toNat).bind fun y => if bl.length + [y].length ≤ lim then if 0 ≤ s9 then if s9 < (↑b15.length : Int) then (nth b15 s9.toNat).bind fun a => if 0 ≤ a then (nth s0 (Int.toNat a)).bind fun c => (Aa big bm c.2.2.1).bind fun b => Qb n s0 (K6.wrap (s9 + 1)) aa ab ac ad ae af ag ah ai aj ak al am an ao ap aq ar au av aw ax ay az ba bb bc bd be bf bg bh bi bj bk (bl.append [y]) b.1 bn bo bp bq br b15 else none else none else none else none else none else none else some (ax, ay, (az, ba, bb, bc, ()), (bd, be, bf, bg, ()), (bh, bi, bj, bk, ()), bl, bm, bn, bo, bp, bq, br, ()) := by kernel_rfl
def ZBg : Yy := (40, Il) :: ZBe
theorem ZAL : YA ZBg := cons_cons G9 ZAK
def ZCl := FX.mk (false, false, [4, 7, 19]) ZBg [] [some ZL] Tryz.f24 (shF ZL)
def OV : Con := cR ZCl [Zg, ZW, Zp] true
theorem Zag : CO 24 OV := ZyS ZAL
def E9 (n : Nat) (a0 : Zt) (a1 : Zj) (a2 : Int) : Option Zj := qR ZCl [Zg, ZW, Zp] n (a0, a1, a2, ())
theorem Zah (n : Nat) (a0 a1 a2) : E9 n a0 a1 a2 = (Jm big a1).bind fun y => (Ag big a1).bind fun c => (AY big a0 a2 c).bind fun a => (Gg big a0 a).bind fun d => (E0 big y.2.2.2.2.2.2.1 d).bind fun b => some (y.1, y.2.1, y.2.2.1, y.2.2.2.1, y.2.2.2.2.1, y.2.2.2.2.2.1, b.1, a, b.2.1, y.2.2.2.2.2.2.2.2.2) := by kernel_rfl
def ZAe : Yy := (24, OV) :: ZBg
theorem ZAf : YA ZAe := cons_cons Zag ZAL
abbrev Kc : VS := (.ro Zg :: dp 5 (.is (.ptr 1 0) :: .is (.ptr 8 0) :: .is (.own 15 0) :: .ro Za :: dp 47 []), [.drop, .vars (rp 14 Za [.own Zp, .own Yf, .own Zp, .own YO, .own Z9, .own ZQ, .ro Za]), .drop, .drop, .drop, .drop, .drop, .drop, .vars (rp 14 Za [.own Za, .own Zq, .own Za, .own ZH, .own Zx, .own Zl, .ro Za]), .drop, .drop, .drop, .drop, .drop, .drop, .arr Za])
def ZAg := FX.mk (false, false, [4, 7, 27, 42, 51]) ZAe [(5, Kc)] [some ZL] Tryz.f41 (shF ZL)
def OX : Con := cR ZAg [Zg, ZW, Zp] true
theorem Zaj : CO 41 OX := ZyS ZAf
def Uw (n : Nat) (a0 : Zt) (a1 : Zj) (a2 : Int) : Option Zj := qR ZAg [Zg, ZW, Zp] n (a0, a1, a2, ())
def VV (n : Nat) (s0 : Zt) (s9 aa ab ac ad ae af ag ah ai aj ak al am an : Int) (ao : List Int) (ap : List ZB) (aq : List Int) (ar : List Ya) (au : List ZX) (av : List Zo) (aw ax ay az ba bb bc bd be bf bg bh bi bj bk : Int) (bl : List Int) (bm : List Ze) (bn : List Int) (bo : List Zw) (bp : List Zf) (bq : List Zc) (br : Int) (b15 : List Int) : Option Zj := rR ZAg (zs [Zg, ZW, Zp]) 5 Kc n (s0, s9, ()) ((aa, ab, ac, ad, ae, af, ag, ah, ai, aj, ak, al, am, an, ao, ap, aq, ar, au, av, aw, ()), (ax, ay, az, ba, bb, bc, bd, be, bf, bg, bh, bi, bj, bk, bl, bm, bn, bo, bp, bq, br, ()), b15, ())
theorem Fa (n : Nat) (a0 a1 a2) : Uw n a0 a1 a2 = (YX big a1).bind fun y => (Ah big y).bind fun y => (QR big a1).bind fun a => (Wy big a0 a2 a).bind fun b => VV n a0 0 0 0 0 0 0 0 0 0 0 0 0 0 0 0 [] [] [] [] [] [] 0 y.2.1.1 y.2.1.2.1 y.2.1.2.2.1.1 y.2.1.2.2.1.2.1 y.2.1.2.2.1.2.2.1 y.2.1.2.2.1.2.2.2.1 y.2.1.2.2.2.1.1 y.2.1.2.2.2.1.2.1 y.2.1.2.2.2.1.2.2.1 y.2.1.2.2.2.1.2.2.2.1 y.2.1.2.2.2.2.1.1 y.2.1.2.2.2.2.1.2.1 y.2.1.2.2.2.2.1.2.2.1 y.2.1.2.2.2.2.1.2.2.2.1 y.2.1.2.2.2.2.2.1 y.2.1.2.2.2.2.2.2.1 y.2.1.2.2.2.2.2.2.2.1 y.2.1.2.2.2.2.2.2.2.2.1 y.2.1.2.2.2.2.2.2.2.2.2.1 y.2.1.2.2.2.2.2.2.2.2.2.2.1 y.2.1.2.2.2.2.2.2.2.2.2.2.2.1 b := by kernel_rfl
theorem VB (n : Nat) (s0 s9 aa ab ac ad ae af ag ah ai aj ak al am an ao ap aq ar au av aw ax ay az ba bb bc bd be bf bg bh bi bj bk bl bm bn bo bp bq br b15) : VV (n + 1) s0 s9 aa ab ac ad ae af ag ah ai aj ak al am an ao ap aq ar au av aw ax ay az ba bb bc bd be bf bg bh bi bj bk bl bm bn bo bp bq br b15 = bif decide (s9 < (↑b15.length : Int)) then if 0 ≤ s9 then if s9 < (↑b15.length : Int) then (nth b15 s9.toNat).bind fun y => if 0 ≤ y then (nth s0 (Int.toNat y)).bind fun y => (AV big bm y.2.2.1).bind fun y => if 0 ≤ s9 then if s9 < (↑b15.length : Int) then (nth b15 s9.toNat).bind fun a => if bn.length + [a].length ≤ lim then if bo.length + List.length y.2.1 ≤ lim then VV n s0 (K6.wrap (s9 + 1)) aa ab ac ad ae af ag ah ai aj ak al am an ao ap aq ar au av aw ax ay az ba bb bc bd be bf bg bh bi bj bk bl y.1 (bn.append [a]) (bo.append y.2.1) bp bq br b15 else none else none else none else none else none else none else none else some (ax, ay, (az, ba, bb, bc, ()), (bd, be, bf, bg, ()), (bh, bi, bj, bk, ()), bl, bm, bn, bo, bp, bq, br, ()) := by kernel_rfl
def ZAh : Yy := (41, OX) :: ZAe
theorem ZAi : YA ZAh := cons_cons Zaj ZAf
abbrev A8 : VS := (.ro Ys :: dp 2 (.ro Za :: .ro Za :: dp 27 []), [])
def ZB1 := FX.mk (false, false, []) ZAh [(3, A8)] [none] Tryz.f57 (shP ZN)
def NF : Con := cR ZB1 [Ys] false
theorem Mh : CO 57 NF := ZyS ZAi
def Gi (n : Nat) (a0 : XK) : Option Z0 := qR ZB1 [Ys] n (a0, ())
def A9 (n : Nat) (s0 : XK) (s3 s4 : Int) : Option Z0 := rR ZB1 (zs [Ys]) 3 A8 n (s0, s3, s4, ()) ()
theorem ZhP (n : Nat) (a0) : Gi n a0 = A9 n a0 (K6.wrap (78001 + (↑(List.length a0) : Int))) 0 := by kernel_rfl
theorem Zal (n : Nat) (s0 s3 s4) : A9 (n + 1) s0 s3 s4 = bif decide (s4 < (↑(List.length s0) : Int)) then bif decide (s4 < 4000) then if 0 ≤ s4 then (nth s0 s4.toNat).bind fun y => A9 n s0 (K6.wrap (↑(BitVec.ofInt K6.bits (K6.wrap (K6.wrap (K6.wrap (s3 * 131) + K6.wrap y) + 7)) &&& BitVec.ofInt K6.bits 1073741823).toNat : Int)) (K6.wrap (s4 + 1)) else none else some (s0, 0, s3, ()) else some (s0, 0, s3, ()) := by kernel_rfl
def ZB2 : Yy := (57, NF) :: ZAh
theorem ZBH : YA ZB2 := cons_cons Mh ZAi
def ZCO := FX.mk (false, false, [4, 5, 6, 7, 11, 13, 14, 15, 18, 19, 20, 25, 26, 27, 29, 30, 31, 36, 37, 38, 40, 41, 42, 49, 50, 51, 52, 55]) ZB2 [] [none] Tryz.f58 (shO (shV Zp) [.mr ZN])
def In : Con := cA ZCO [.mr ZN] false
theorem Hb : CO 58 In := ZBw ZBH
def Vm (n : Nat) (a0 : Z0) : Option (Int × Z0 × Unit) := qA ZCO [.mr ZN] n (a0, ())
theorem ZdO (n : Nat) (a0) : Vm n a0 = (fun zC1 => (fun zC0 => bif decide (a0.2.1 < (↑(List.length a0.1) : Int)) then if 0 ≤ a0.2.1 then (nth a0.1 (Int.toNat a0.2.1)).bind fun y => some (K6.wrap (↑(BitVec.ofInt K6.bits (K6.wrap (K6.wrap zC0 + K6.wrap y)) &&& BitVec.ofInt K6.bits 255).toNat : Int), (a0.1, K6.wrap (a0.2.1 + 1), K6.wrap zC1, ()), ()) else none else some (K6.wrap zC0, (a0.1, a0.2.1, K6.wrap zC1, ()), ())) (↑(BitVec.ofInt K6.bits (K6.wrap (↑(BitVec.ofInt K6.bits ((K6.wrap zC1).fdiv (2 ^ min (Int.toNat 33) K6.bits)) ^^^ BitVec.ofInt K6.bits ((K6.wrap zC1).fdiv (2 ^ min (Int.toNat 45) K6.bits))).toNat : Int)) &&& BitVec.ofInt K6.bits 255).toNat : Int)) (K6.wrap (a0.2.2.1 * 6364136223846793005) + 1442695040888963407) := by kernel_rfl
def ZBh : Yy := (58, In) :: ZB2
theorem ZAM : YA ZBh := cons_cons Hb ZBH
def ZCm := FX.mk (false, false, []) ZBh [] [none] Tryz.f59 (shO (shV Zp) [.mr ZN])
def X7 : Con := cA ZCm [.mr ZN, .ro Zp] false
theorem Xu : CO 59 X7 := ZBw ZAM
def YD (n : Nat) (a0 : Z0) (a1 : Int) : Option (Int × Z0 × Unit) := qA ZCm [.mr ZN, .ro Zp] n (a0, a1, ())
theorem Zap (n : Nat) (a0 a1) : YD n a0 a1 = bif decide (a1 ≤ 0) then some (0, a0, ()) else bif decide (a1 ≤ 256) then (Vm big a0).bind fun y => if a1 = 0 then none else some (Int.tmod y.1 a1, y.2) else (Vm big a0).bind fun y => (Vm big y.2.1).bind fun a => (Vm big a.2.1).bind fun c => (Vm big c.2.1).bind fun b => if a1 = 0 then none else some ((K6.wrap (K6.wrap (K6.wrap (K6.wrap (y.1 * 16777216) + K6.wrap (a.1 * 65536)) + K6.wrap (c.1 * 256)) + b.1)).tmod a1, b.2) := by kernel_rfl
def ZAj : Yy := (59, X7) :: ZBh
theorem ZAk : YA ZAj := cons_cons Xu ZAM
def ZCP := FX.mk (false, false, []) ZAj [] [none] Tryz.f63 (shO (shV ZG) [.mr ZN])
def Io : Con := cA ZCP [.mr ZN, .ro Zp] false
theorem Hc : CO 63 Io := ZBw ZAk
def De (n : Nat) (a0 : Z0) (a1 : Int) : Option (Bool × Z0 × Unit) := qA ZCP [.mr ZN, .ro Zp] n (a0, a1, ())
theorem ZdQ (n : Nat) (a0 a1) : De n a0 a1 = (YD big a0 a1).bind fun y => some (decide (y.1 = 0), y.2) := by kernel_rfl
def ZBi : Yy := (63, Io) :: ZAj
theorem ZAN : YA ZBi := cons_cons Hc ZAk
def ZAO := FX.mk (false, false, []) ZBi [] [none] Tryz.f62 (shO (shV Zp) [.mr ZN])
def Kd : Con := cA ZAO [.mr ZN, .ro Yx] false
theorem QT : CO 62 Kd := ZBw ZAN
def WU (n : Nat) (a0 : Z0) (a1 : Yq) : Option (Int × Z0 × Unit) := qA ZAO [.mr ZN, .ro Yx] n (a0, a1, ())
theorem NH (n : Nat) (a0 a1) : WU n a0 a1 = (YD big a0 (↑(List.length a1) : Int)).bind fun y => if 0 ≤ y.1 then (nth a1 (Int.toNat y.1)).bind fun a => some (a, y.2) else none := by kernel_rfl
def Zzj : Yy := (62, Kd) :: ZBi
theorem Zzl : YA Zzj := cons_cons QT ZAN
def ZCQ := FX.mk (false, false, []) Zzj [] [none] Tryz.f199 (shO (shV Zy) [.mr ZN])
def Zav : Con := cA ZCQ [.mr ZN, .ro EF] false
theorem ZdS : CO 199 Zav := ZBw Zzl
def Ip (n : Nat) (a0 : Z0) (a1 : Zj3) : Option (ByteArray × Z0 × Unit) := qA ZCQ [.mr ZN, .ro EF] n (a0, a1, ())
theorem ZdT (n : Nat) (a0 a1) : Ip n a0 a1 = (YD big a0 (↑(List.length a1) : Int)).bind fun y => if 0 ≤ y.1 then (nth a1 (Int.toNat y.1)).bind fun a => some (a, y.2) else none := by kernel_rfl
def ZBj : Yy := (199, Zav) :: Zzj
theorem ZAP : YA ZBj := cons_cons ZdS Zzl
def ZC3 := FX.mk (false, false, []) ZBj [] [none] Tryz.f226 (shO (shV Zy) [.mr ZN])
def ZfU : Con := cA ZC3 [.mr ZN] false
theorem ZhS : CO 226 ZfU := ZBw ZAP
def ZfV (n : Nat) (a0 : Z0) : Option (ByteArray × Z0 × Unit) := qA ZC3 [.mr ZN] n (a0, ())
theorem ZhT (n : Nat) (a0) : ZfV n a0 = (Ip big a0 [ByteArray.mk #[(97 : UInt8)], ByteArray.mk #[(98 : UInt8)], ByteArray.mk #[(99 : UInt8)], ByteArray.mk #[(97 : UInt8), (98 : UInt8), (99 : UInt8)]]).bind fun y => some y := by kernel_rfl
def ZB3 : Yy := (226, ZfU) :: ZBj
theorem ZBI : YA ZB3 := cons_cons ZhS ZAP
def ZC4 := FX.mk (false, false, []) ZB3 [] [none] Tryz.f187 (shO (shV Vv) [.mr ZN])
def ZfY : Con := cA ZC4 [.mr ZN] false
theorem ZhV : CO 187 ZfY := ZBw ZBI
def Gj (n : Nat) (a0 : Z0) : Option (Y3 × Z0 × Unit) := qA ZC4 [.mr ZN] n (a0, ())
theorem ZhW (n : Nat) (a0) : Gj n a0 = (YD big a0 3).bind fun y => (ZfV big y.2.1).bind fun a => (WU big a.2.1 [(0 : Int), 1, 7, 500, 999999999]).bind fun b => some ((K6.wrap (1 + y.1), a.1, b.1, ()), b.2) := by kernel_rfl
def ZB4 : Yy := (187, ZfY) :: ZB3
theorem ZBJ : YA ZB4 := cons_cons ZhV ZBI
abbrev Jo : VS := (.ro Za :: dp 2 (.ro Za :: .ro Za :: dp 16 []), [])
def ZBk := FX.mk (false, false, []) ZB4 [(3, Jo)] [none] Tryz.f174 (shV Zp)
def Ai : Con := cR ZBk [Zp] true
theorem Ke : CO 174 Ai := ZyS ZBJ
def XT (n : Nat) (a0 : Int) : Option Int := qR ZBk [Zp] n (a0, ())
def Jp (n : Nat) (s0 s3 s4 : Int) : Option Int := rR ZBk (zs [Zp]) 3 Jo n (s0, s3, s4, ()) ()
theorem VW (n : Nat) (a0) : XT n a0 = Jp n a0 0 0 := by kernel_rfl
theorem XX (n : Nat) (s0 s3 s4) : Jp (n + 1) s0 s3 s4 = bif decide (s4 < 7) then bif decide (0 ≤ s0) then if IntKind.u64.wrap s4 < 0 then none else Jp n s0 (K6.wrap (s3 + (s0.fdiv (2 ^ min (IntKind.u64.wrap s4).toNat K6.bits)).tmod 2)) (K6.wrap (s4 + 1)) else some s3 else some s3 := by kernel_rfl
def ZBl : Yy := (174, Ai) :: ZB4
theorem ZAQ : YA ZBl := cons_cons Ke ZBJ
def ZC5 := FX.mk (false, false, []) ZBl [] [none] Tryz.f177 (shV Zp)
def NI : Con := cR ZC5 [Zp] true
theorem Mi : CO 177 NI := ZyS ZAQ
def Cq (n : Nat) (a0 : Int) : Option Int := qR ZC5 [Zp] n (a0, ())
theorem Mj (n : Nat) (a0) : Cq n a0 = bif decide (a0 < 1) then some 0 else some (K6.wrap ((K6.wrap (a0 - 1)).tdiv 3)) := by kernel_rfl
def ZB5 : Yy := (177, NI) :: ZBl
theorem ZBK : YA ZB5 := cons_cons Mi ZAQ
def ZC6 := FX.mk (false, false, []) ZB5 [] [none] Tryz.f175 (shV Zp)
def Cr : Con := cR ZC6 [Zp] true
theorem Jq : CO 175 Cr := ZyS ZBK
def JQ (n : Nat) (a0 : Int) : Option Int := qR ZC6 [Zp] n (a0, ())
theorem Zh0 (n : Nat) (a0) : JQ n a0 = (Cq big a0).bind fun y => some (K6.wrap (a0 - y)) := by kernel_rfl
def ZB6 : Yy := (175, Cr) :: ZB5
theorem ZBL : YA ZB6 := cons_cons Jq ZBK
def ZCn := FX.mk (false, false, []) ZB6 [] [none] Tryz.f22 (shV Zp)
def Wz : Con := cR ZCn [Zp, Zp] true
theorem XU : CO 22 Wz := ZyS ZBL
def Xv (n : Nat) (a0 a1 : Int) : Option Int := qR ZCn [Zp, Zp] n (a0, a1, ())
theorem Zay (n : Nat) (a0 a1) : Xv n a0 a1 = bif decide (a1 < 1) then some 0 else bif decide (a0 < 0) then some 0 else if a1 = 0 then none else some ((K6.wrap (a0.tdiv 4)).tmod a1) := by kernel_rfl
def ZAl : Yy := (22, Wz) :: ZB6
theorem ZAm : YA ZAl := cons_cons XU ZBL
def ZDp := FX.mk (false, false, [2, 5, 10, 20]) ZAl [] [none] Tryz.f114 (shV ZG)
def Dg : Con := cR ZDp [YT, Zp] true
theorem QU : CO 114 Dg := ZyS ZAm
def W7 (n : Nat) (a0 : Zi) (a1 : Int) : Option Bool := qR ZDp [YT, Zp] n (a0, a1, ())
theorem Znj (n : Nat) (a0 a1) : W7 n a0 a1 = bif decide (0 < a0.1) then (ZT big a1 0 (K6.wrap (a0.1 - 1))).bind fun y => bif y then bif decide (a1 < 7) then if IntKind.u64.wrap a1 < 0 then none else some !decide ((Int.fdiv a0.2.2.1 (2 ^ min (IntKind.u64.wrap a1).toNat K6.bits)).tmod 2 = 0) else some false else some false else some false := by kernel_rfl
def ZDb : Yy := (114, Dg) :: ZAl
theorem ZCR : YA ZDb := cons_cons QU ZAm
def ZBM := FX.mk (false, false, [2, 6, 13]) ZDb [] [none] Tryz.f106 (shV ZG)
def VC : Con := cR ZBM [YT, Zp] true
theorem WQ : CO 106 VC := ZyS ZCR
def WI (n : Nat) (a0 : Zi) (a1 : Int) : Option Bool := qR ZBM [YT, Zp] n (a0, a1, ())
theorem Rz (n : Nat) (a0 a1) : WI n a0 a1 = (ZT big a1 0 (K6.wrap ((↑(List.length a0.2.2.2.2.1) : Int) - 1))).bind fun y => bif y then (ZT big a1 0 (K6.wrap (a0.1 - 1))).bind fun y => bif y then (W7 big a0 a1).bind fun y => some !y else some false else some false := by kernel_rfl
def Zzz : Yy := (106, VC) :: ZDb
theorem ZzM : YA Zzz := cons_cons WQ ZCR
def ZCo := FX.mk (false, false, [2, 3, 5, 7]) Zzz [] [none] Tryz.f96 (shV WZ)
def Ux : Con := cR ZCo [WZ, WZ] true
theorem Vn : CO 96 Ux := ZyS ZzM
def Xw (n : Nat) (a0 a1 : Ch) : Option Ch := qR ZCo [WZ, WZ] n (a0, a1, ())
theorem Fb (n : Nat) (a0 a1) : Xw n a0 a1 = bif decide (a0.2.1 < a1.2.1) then some a1 else some a0 := by kernel_rfl
def ZAn : Yy := (96, Ux) :: Zzz
theorem ZAo : YA ZAn := cons_cons Vn ZzM
abbrev Bc : VS := (.drop :: .is (.ptr 0 0) :: .is (.ptr 1 0) :: .is (.ptr 2 0) :: .ro Za :: dp 18 [], [.vars (rp 14 Za [.ro Yx, .ro Zn, .ro Yx, .ro Yo, .ro ZV, .ro ZO, .ro Za]), .vars (rp 4 Za []), .vars (rp 4 Za [])])
def ZB7 := FX.mk (false, false, [1, 3, 5, 8, 15]) ZAn [(3, Bc)] [none] Tryz.f233 (shV WZ)
def Zf4 : Con := cR ZB7 [ZW] true
theorem Zh4 : CO 233 Zf4 := ZyS ZAo
def Gl (n : Nat) (a0 : Zj) : Option Ch := qR ZB7 [ZW] n (a0, ())
def Ky (n : Nat) (s4 aa ab ac ad ae af ag ah ai aj ak al am an : Int) (ao : Yq) (ap : Zu) (aq : Yq) (ar : YG) (au : Yt) (av : Z3) (aw ax ay az ba bb bc bd be : Int) : Option Ch := rR ZB7 (zs [ZW]) 3 Bc n (s4, ()) ((aa, ab, ac, ad, ae, af, ag, ah, ai, aj, ak, al, am, an, ao, ap, aq, ar, au, av, aw, ()), (ax, ay, az, ba, ()), (bb, bc, bd, be, ()), ())
theorem Mm (n : Nat) (a0) : Gl n a0 = Ky n 0 a0.1 a0.2.1 a0.2.2.1.1 a0.2.2.1.2.1 a0.2.2.1.2.2.1 a0.2.2.1.2.2.2.1 a0.2.2.2.1.1 a0.2.2.2.1.2.1 a0.2.2.2.1.2.2.1 a0.2.2.2.1.2.2.2.1 a0.2.2.2.2.1.1 a0.2.2.2.2.1.2.1 a0.2.2.2.2.1.2.2.1 a0.2.2.2.2.1.2.2.2.1 a0.2.2.2.2.2.1 a0.2.2.2.2.2.2.1 a0.2.2.2.2.2.2.2.1 a0.2.2.2.2.2.2.2.2.1 a0.2.2.2.2.2.2.2.2.2.1 a0.2.2.2.2.2.2.2.2.2.2.1 a0.2.2.2.2.2.2.2.2.2.2.2.1 0 0 0 0 a0.2.2.1.1 a0.2.2.1.2.1 a0.2.2.1.2.2.1 a0.2.2.1.2.2.2.1 := by kernel_rfl
theorem Aj (n : Nat) (s4 aa ab ac ad ae af ag ah ai aj ak al am an ao ap aq ar au av aw ax ay az ba bb bc bd be) : Ky (n + 1) s4 aa ab ac ad ae af ag ah ai aj ak al am an ao ap aq ar au av aw ax ay az ba bb bc bd be = bif decide (s4 < (↑(List.length av) : Int)) then if 0 ≤ s4 then (nth av s4.toNat).bind fun y => (Xw big (bb, bc, bd, be, ()) y.2.2.2.2.2.1).bind fun y => Ky n (K6.wrap (s4 + 1)) aa ab ac ad ae af ag ah ai aj ak al am an ao ap aq ar au av aw ax ay az ba y.1 y.2.1 y.2.2.1 y.2.2.2.1 else none else some (bb, bc, bd, be, ()) := by kernel_rfl
def ZB8 : Yy := (233, Zf4) :: ZAn
theorem ZBN : YA ZB8 := cons_cons Zh4 ZAo
def ZCp := FX.mk (false, false, [1, 3, 6]) ZB8 [] [some QP] Tryz.f149 (shF QP)
def Fc : Con := cR ZCp [Y2] true
theorem Fd : CO 149 Fc := ZyS ZBN
def Bd (n : Nat) (a0 : Zm) : Option Zm := qR ZCp [Y2] n (a0, ())
theorem Fe (n : Nat) (a0) : Bd n a0 = if (0 : Nat) + List.length a0.2.2.1 ≤ lim then some a0 else none := by kernel_rfl
def ZAp : Yy := (149, Fc) :: ZB8
theorem ZAq : YA ZAp := cons_cons Fd ZBN
abbrev Jr : VS := (.ro Zg :: dp 2 (.own ZP :: .ro Za :: dp 16 []), [])
def ZBm := FX.mk (true, false, []) ZAp [(3, Jr)] [some YZ] Tryz.f146 (shF YZ)
def ZaD : Con := cR ZBm [Zg] true
theorem ZdX : CO 146 ZaD := ZyS ZAq
def Iq (n : Nat) (a0 : Zt) : Option Zt := qR ZBm [Zg] n (a0, ())
def Js (n : Nat) (s0 : Zt) (s3 : List Zv) (s4 : Int) : Option Zt := rR ZBm (zs [Zg]) 3 Jr n (s0, s3, s4, ()) ()
theorem ZdY (n : Nat) (a0) : Iq n a0 = Js n a0 [] 0 := by kernel_rfl
theorem KM (n : Nat) (s0 s3 s4) : Js (n + 1) s0 s3 s4 = bif decide (s4 < (↑(List.length s0) : Int)) then if 0 ≤ s4 then (nth s0 s4.toNat).bind fun y => (Bd big y).bind fun a => if s3.length + [a].length ≤ lim then Js n s0 (s3.append [a]) (K6.wrap (s4 + 1)) else none else none else some s3 := by kernel_rfl
def ZBn : Yy := (146, ZaD) :: ZAp
theorem ZAR : YA ZBn := cons_cons ZdX ZAq
abbrev Qc : VS := (dp 2 (.is (.ptr 0 0) :: .is (.ptr 1 0) :: .drop :: .ro Za :: dp 46 []), [.vars [.ro Za, .ro Za, .ro Yl, .ro Za, .ro Za, .ro Za, .ro Za], .vars [.ro Za, .ro Za, .ro Yl, .ro Za, .ro Za, .ro Za, .ro Za]])
def ZzA := FX.mk (false, false, [2, 3, 6, 8, 12, 14, 19, 21, 26, 29, 35, 41, 46]) ZBn [(4, Qc)] [none] Tryz.f159 (shV ZG)
def Mo : Con := cR ZzA [Y2, Y2] true
theorem RB : CO 159 Mo := ZyS ZAR
def Di (n : Nat) (a0 a1 : Zm) : Option Bool := qR ZzA [Y2, Y2] n (a0, a1, ())
def Qd (n : Nat) (s5 aa ab : Int) (ac : YW) (ad ae af ag ah ai : Int) (aj : YW) (ak al am an : Int) : Option Bool := rR ZzA (zs [Y2, Y2]) 4 Qc n (s5, ()) ((aa, ab, ac, ad, ae, af, ag, ()), (ah, ai, aj, ak, al, am, an, ()), ())
theorem RC (n : Nat) (a0 a1) : Di n a0 a1 = bif !decide (a0.1 = a1.1) then some false else bif !decide (a0.2.1 = a1.2.1) then some false else bif !eqD WZ a0.2.2.2.1 a1.2.2.2.1 then some false else bif !decide ((↑(List.length a0.2.2.1) : Int) = (↑(List.length a1.2.2.1) : Int)) then some false else Qd n 0 a0.1 a0.2.1 a0.2.2.1 a0.2.2.2.1.1 a0.2.2.2.1.2.1 a0.2.2.2.1.2.2.1 a0.2.2.2.1.2.2.2.1 a1.1 a1.2.1 a1.2.2.1 a1.2.2.2.1.1 a1.2.2.2.1.2.1 a1.2.2.2.1.2.2.1 a1.2.2.2.1.2.2.2.1 := by kernel_rfl
theorem Be (n : Nat) (s5 aa ab ac ad ae af ag ah ai aj ak al am an) : Qd (n + 1) s5 aa ab ac ad ae af ag ah ai aj ak al am an = bif decide (s5 < (↑(List.length ac) : Int)) then if 0 ≤ s5 then (nth ac s5.toNat).bind fun y => if 0 ≤ s5 then (nth aj s5.toNat).bind fun a => bif !eqD Vv y a then some false else Qd n (K6.wrap (s5 + 1)) aa ab ac ad ae af ag ah ai aj ak al am an else none else none else some true := by kernel_rfl
def ZzB : Yy := (159, Mo) :: ZBn
theorem ZzN : YA ZzB := cons_cons RB ZAR
abbrev Ju : VS := (.ro Zg :: dp 2 (.is (.ptr 0 0) :: .drop :: .ro Za :: dp 13 []), [.vars [.ro Za, .ro Za, .ro Yl, .ro Za, .ro Za, .ro Za, .ro Za]])
def ZBo := FX.mk (false, false, [3]) ZzB [(2, Ju)] [none] Tryz.f162 (shV Zp)
def ZaG : Con := cR ZBo [Zg, Y2] true
theorem Zd0 : CO 162 ZaG := ZyS ZzN
def Ir (n : Nat) (a0 : Zt) (a1 : Zm) : Option Int := qR ZBo [Zg, Y2] n (a0, a1, ())
def Jv (n : Nat) (s0 : Zt) (s5 aa ab : Int) (ac : YW) (ad ae af ag : Int) : Option Int := rR ZBo (zs [Zg, Y2]) 2 Ju n (s0, s5, ()) ((aa, ab, ac, ad, ae, af, ag, ()), ())
theorem Zd1 (n : Nat) (a0 a1) : Ir n a0 a1 = Jv n a0 0 a1.1 a1.2.1 a1.2.2.1 a1.2.2.2.1.1 a1.2.2.2.1.2.1 a1.2.2.2.1.2.2.1 a1.2.2.2.1.2.2.2.1 := by kernel_rfl
theorem D0 (n : Nat) (s0 s5 aa ab ac ad ae af ag) : Jv (n + 1) s0 s5 aa ab ac ad ae af ag = bif decide (s5 < (↑(List.length s0) : Int)) then if 0 ≤ s5 then (nth s0 s5.toNat).bind fun y => (Di big y (aa, ab, ac, (ad, ae, af, ag, ()), ())).bind fun y => bif y then some s5 else Jv n s0 (K6.wrap (s5 + 1)) aa ab ac ad ae af ag else none else some (-1) := by kernel_rfl
def ZBp : Yy := (162, ZaG) :: ZzB
theorem ZAS : YA ZBp := cons_cons Zd0 ZzN
abbrev Jw : VS := (.ro Zg :: dp 2 (.is (.ptr 0 0) :: .drop :: .ro Za :: dp 61 []), [.vars [.ro Za, .ro Za, .ro Yl, .ro Za, .ro Za, .ro Za, .ro Za]])
def ZBq := FX.mk (false, false, [3, 6, 14, 17, 25, 30, 36, 42, 49, 50, 52, 56, 57, 60]) ZBp [(4, Jw)] [none] Tryz.f161 (shV ZG)
def ZaI : Con := cR ZBq [Zg, Y2] true
theorem Zd3 : CO 161 ZaI := ZyS ZAS
def Is (n : Nat) (a0 : Zt) (a1 : Zm) : Option Bool := qR ZBq [Zg, Y2] n (a0, a1, ())
def Jx (n : Nat) (s0 : Zt) (s5 aa ab : Int) (ac : YW) (ad ae af ag : Int) : Option Bool := rR ZBq (zs [Zg, Y2]) 4 Jw n (s0, s5, ()) ((aa, ab, ac, ad, ae, af, ag, ()), ())
theorem Zd4 (n : Nat) (a0 a1) : Is n a0 a1 = (ZT big a1.1 0 (K6.wrap ((↑(List.length a0) : Int) - 1))).bind fun y => bif !y then some false else if 0 ≤ a1.1 then (nth a0 (Int.toNat a1.1)).bind fun y => bif decide (a1.2.1 ≤ y.2.1) then some false else bif decide (900 < a1.2.1) then some false else bif decide (4 < (↑(List.length a1.2.2.1) : Int)) then some false else Jx n a0 0 a1.1 a1.2.1 a1.2.2.1 a1.2.2.2.1.1 a1.2.2.2.1.2.1 a1.2.2.2.1.2.2.1 a1.2.2.2.1.2.2.2.1 else none := by kernel_rfl
theorem D4 (n : Nat) (s0 s5 aa ab ac ad ae af ag) : Jx (n + 1) s0 s5 aa ab ac ad ae af ag = bif decide (s5 < (↑(List.length ac) : Int)) then if 0 ≤ s5 then (nth ac s5.toNat).bind fun y => (EX big y).bind fun y => bif !y then some false else Jx n s0 (K6.wrap (s5 + 1)) aa ab ac ad ae af ag else none else bif decide (af = aa) then if 0 ≤ aa then (nth s0 aa.toNat).bind fun y => some (decide (ae = y.2.1)) else none else some false := by kernel_rfl
def ZBr : Yy := (161, ZaI) :: ZBp
theorem ZAT : YA ZBr := cons_cons Zd3 ZAS
def ZCq := FX.mk (true, false, [3]) ZBr [] [some YZ, none] Tryz.f197 (shT [(true, YZ), (false, Zp)])
def Ff : Con := cR ZCq [Zg, Y2] true
theorem Fg : CO 197 Ff := ZyS ZAT
def XO (n : Nat) (a0 : Zt) (a1 : Zm) : Option (Zt × Int × Unit) := qR ZCq [Zg, Y2] n (a0, a1, ())
theorem Fh (n : Nat) (a0 a1) : XO n a0 a1 = (Iq big a0).bind fun y => (Ir big a0 a1).bind fun a => bif decide (0 ≤ a) then some (y, a, ()) else (Is big a0 a1).bind fun c => bif !c then some (y, (-1), ()) else bif decide (60 ≤ (↑(List.length a0) : Int)) then some (y, (-1), ()) else (Bd big a1).bind fun b => if List.length y + [b].length ≤ lim then some (List.append y [b], (↑(List.length a0) : Int), ()) else none := by kernel_rfl
def ZAr : Yy := (197, Ff) :: ZBr
theorem ZAs : YA ZAr := cons_cons Fg ZAT
def ZC7 := FX.mk (false, false, [5, 10, 15, 20, 29, 34, 39]) ZAr [] [none] Tryz.f113 (shV ZG)
def NJ : Con := cR ZC7 [Zg, Zp, Z9] true
theorem Mp : CO 113 NJ := ZyS ZAs
def JR (n : Nat) (a0 : Zt) (a1 : Int) (a2 : ZX) : Option Bool := qR ZC7 [Zg, Zp, Z9] n (a0, a1, a2, ())
theorem Mq (n : Nat) (a0 a1 a2) : JR n a0 a1 a2 = (ZT big a1 1 7).bind fun y => bif y then (ZT big a2.1 1 4).bind fun y => bif y then (ZT big a2.2.1 1 900).bind fun y => bif y then (ZT big a2.2.2.1 1 (K6.wrap ((↑(List.length a0) : Int) - 1))).bind fun y => bif y then if 0 ≤ a2.2.2.1 then (nth a0 (Int.toNat a2.2.2.1)).bind fun y => bif decide (y.2.1 = a2.2.1) then (ZT big a2.2.2.2.1 0 (K6.wrap (a1 - 1))).bind fun y => some y else some false else none else some false else some false else some false else some false := by kernel_rfl
def ZB9 : Yy := (113, NJ) :: ZAr
theorem ZBO : YA ZB9 := cons_cons Mp ZAs
def ZCS := FX.mk (false, false, [5, 12, 14, 16, 21, 29]) ZB9 [] [none] Tryz.f125 (shV ZG)
def It : Con := cR ZCS [Zg, Zp, WZ] true
theorem Hg : CO 125 It := ZyS ZBO
def Y4 (n : Nat) (a0 : Zt) (a1 : Int) (a2 : Ch) : Option Bool := qR ZCS [Zg, Zp, WZ] n (a0, a1, a2, ())
theorem Hh (n : Nat) (a0 a1 a2) : Y4 n a0 a1 a2 = bif eqD WZ a2 (0, 0, 0, 0, ()) then some true else (JR big a0 a1 (a2.1, a2.2.1, a2.2.2.1, 0, ())).bind fun y => bif !y then some false else if IntKind.u64.wrap a1 < 0 then none else (ZT big a2.2.2.2.1 0 (K6.wrap (K6.wrap (1 * 2 ^ min (IntKind.u64.wrap a1).toNat K6.bits) - 1))).bind fun y => bif y then (XT big a2.2.2.2.1).bind fun y => (JQ big a1).bind fun a => some (decide (a ≤ y)) else some false := by kernel_rfl
def ZBs : Yy := (125, It) :: ZB9
theorem ZAU : YA ZBs := cons_cons Hg ZBO
def ZCT := FX.mk (false, false, [2, 5, 9]) ZBs [] [some ZL] Tryz.f39 (shF ZL)
def Ug : Con := cR ZCT [ZW, Zp] true
theorem WV : CO 39 Ug := ZyS ZAU
def Wd (n : Nat) (a0 : Zj) (a1 : Int) : Option Zj := qR ZCT [ZW, Zp] n (a0, a1, ())
theorem Hi (n : Nat) (a0 a1) : Wd n a0 a1 = (YX big a0).bind fun y => bif decide (a0.2.1 < a1) then bif decide (a1 ≤ 900) then some (y.1, a1, y.2.2.1, y.2.2.2.1, y.2.2.2.2.1, y.2.2.2.2.2.1, y.2.2.2.2.2.2.1, y.2.2.2.2.2.2.2.1, y.2.2.2.2.2.2.2.2.1, [], [], y.2.2.2.2.2.2.2.2.2.2.2) else some y else some y := by kernel_rfl
def ZBt : Yy := (39, Ug) :: ZBs
theorem ZAV : YA ZBt := cons_cons WV ZAU
abbrev Bf : VS := (.ro ZV :: dp 2 (.is (.ptr 0 0) :: .drop :: .ro Za :: dp 34 []), [.vars (rp 4 Za [])])
def ZCa := FX.mk (false, false, [3, 17, 26, 36]) ZBt [(2, Bf)] [none] Tryz.f261 (shV ZG)
def Zf8 : Con := cR ZCa [ZV, Z9] true
theorem Zic : CO 261 Zf8 := ZyS ZAV
def NK (n : Nat) (a0 : Yt) (a1 : ZX) : Option Bool := qR ZCa [ZV, Z9] n (a0, a1, ())
def Uy (n : Nat) (s0 : Yt) (s5 aa ab ac ad : Int) : Option Bool := rR ZCa (zs [ZV, Z9]) 2 Bf n (s0, s5, ()) ((aa, ab, ac, ad, ()), ())
theorem Zid (n : Nat) (a0 a1) : NK n a0 a1 = Uy n a0 0 a1.1 a1.2.1 a1.2.2.1 a1.2.2.2.1 := by kernel_rfl
theorem Fi (n : Nat) (s0 s5 aa ab ac ad) : Uy (n + 1) s0 s5 aa ab ac ad = bif decide (s5 < (↑(List.length s0) : Int)) then if 0 ≤ s5 then (nth s0 s5.toNat).bind fun y => bif decide (y.2.2.2.1 = ad) then if 0 ≤ s5 then (nth s0 s5.toNat).bind fun y => bif decide (y.1 = aa) then if 0 ≤ s5 then (nth s0 s5.toNat).bind fun y => bif decide (y.2.1 = ab) then some true else Uy n s0 (K6.wrap (s5 + 1)) aa ab ac ad else none else Uy n s0 (K6.wrap (s5 + 1)) aa ab ac ad else none else Uy n s0 (K6.wrap (s5 + 1)) aa ab ac ad else none else some false := by kernel_rfl
def ZCb : Yy := (261, Zf8) :: ZBt
theorem ZBP : YA ZCb := cons_cons Zic ZAV
abbrev Qe : VS := (.ro ZV :: .ro Za :: .ro Za :: .ro Za :: dp 5 (.ro Za :: .ro Za :: dp 44 []), [])
abbrev Qf : VS := (.ro ZV :: .ro Za :: .ro Za :: .ro Za :: dp 5 (.ro Za :: .ro Za :: .ro Za :: dp 43 []), [])
def Zy7 := FX.mk (false, false, [12, 27, 32, 38, 44]) ZCb [(3, Qe), (6, Qf)] [none] Tryz.f176 (shV Zp)
def Jy : Con := cR Zy7 [ZV, Zp, Zp, Zp] true
theorem KN : CO 176 Jy := ZyS ZBP
def Qg (n : Nat) (a0 : Yt) (a1 a2 a3 : Int) : Option Int := qR Zy7 [ZV, Zp, Zp, Zp] n (a0, a1, a2, a3, ())
def Wu (n : Nat) (s0 : Yt) (s1 s2 s3 s9 s10 : Int) : Option Int := rR Zy7 (zs [ZV, Zp, Zp, Zp]) 3 Qe n (s0, s1, s2, s3, s9, s10, ()) ()
def Wv (n : Nat) (s0 : Yt) (s1 s2 s3 s9 s10 s11 : Int) : Option Int := rR Zy7 (zs [ZV, Zp, Zp, Zp]) 6 Qf n (s0, s1, s2, s3, s9, s10, s11, ()) ()
theorem D5 (n : Nat) (a0 a1 a2 a3) : Qg n a0 a1 a2 a3 = Wu n a0 a1 a2 a3 0 0 := by kernel_rfl
theorem Qh (n : Nat) (s0 s1 s2 s3 s9 s10) : Wu (n + 1) s0 s1 s2 s3 s9 s10 = bif decide (s10 < 7) then Wv n s0 s1 s2 s3 s9 s10 0 else some s9 := by kernel_rfl
theorem Qi (n : Nat) (s0 s1 s2 s3 s9 s10 s11) : Wv (n + 1) s0 s1 s2 s3 s9 s10 s11 = bif decide (s11 < (↑(List.length s0) : Int)) then if 0 ≤ s11 then (nth s0 s11.toNat).bind fun y => (fun zC0 => bif decide (y.2.2.2.1 = s10) then bif decide (y.1 = s1) then bif decide (y.2.1 = s2) then bif decide (y.2.2.1 = s3) then if IntKind.u64.wrap s10 < 0 then none else Wu n s0 s1 s2 s3 (K6.wrap (s9 + K6.wrap (1 * 2 ^ min (IntKind.u64.wrap s10).toNat K6.bits))) (K6.wrap (s10 + 1)) else zC0 else zC0 else zC0 else zC0) (Wv n s0 s1 s2 s3 s9 s10 (K6.wrap (s11 + 1))) else none else Wu n s0 s1 s2 s3 s9 (K6.wrap (s10 + 1)) := by kernel_rfl
def ZzC : Yy := (176, Jy) :: ZCb
theorem ZzO : YA ZzC := cons_cons KN ZBP
def ZDq := FX.mk (false, false, [12, 22]) ZzC [] [none, none] Tryz.f248 (shT [(false, WZ), (false, ZG)])
def Zie : Con := cR ZDq [ZV, Zp, Zp, Zp, Zp] true
theorem ZaR : CO 248 Zie := ZyS ZzO
def Gn (n : Nat) (a0 : Yt) (a1 a2 a3 a4 : Int) : Option (Ch × Bool × Unit) := qR ZDq [ZV, Zp, Zp, Zp, Zp] n (a0, a1, a2, a3, a4, ())
theorem ZaS (n : Nat) (a0 a1 a2 a3 a4) : Gn n a0 a1 a2 a3 a4 = (Qg big a0 a1 a2 a3).bind fun y => (XT big y).bind fun a => (JQ big a4).bind fun b => bif decide (a < b) then some ((0, 0, 0, 0, ()), false, ()) else some ((a1, a2, a3, y, ()), true, ()) := by kernel_rfl
def ZDc : Yy := (248, Zie) :: ZzC
theorem ZCU : YA ZDc := cons_cons ZaR ZzO
def ZDl := FX.mk (false, false, [5, 8, 9, 11, 13, 16, 23]) ZDc [] [none] Tryz.f69 (shV ZQ)
def Kz : Con := cR ZDl [ZW, Zp, Zp, WZ, Z9] true
theorem Qj : CO 69 Kz := ZyS ZCU
def ZAt : Yy := (69, Kz) :: ZDc
theorem ZAu : YA ZAt := cons_cons Qj ZCU
def ZCV := FX.mk (false, false, [3, 7, 8, 13, 14, 19, 20]) ZAt [] [none] Tryz.f15 (shV ZG)
def Dl : Con := cR ZCV [ZW, Zp, Zp] true
theorem BQ : CO 15 Dl := ZyS ZAu
def QV (n : Nat) (a0 : Zj) (a1 a2 : Int) : Option Bool := qR ZCV [ZW, Zp, Zp] n (a0, a1, a2, ())
theorem Zd8 (n : Nat) (a0 a1 a2) : QV n a0 a1 a2 = bif decide (a0.2.2.2.2.1.2.1 < a2) then some true else bif decide (a0.2.2.2.2.1.2.1 = a2) then some (decide (a0.2.2.2.2.1.1 < a1)) else some false := by kernel_rfl
def ZBu : Yy := (15, Dl) :: ZAt
theorem ZAW : YA ZBu := cons_cons BQ ZAu
def ZBQ := FX.mk (false, false, [4, 15, 25]) ZBu [] [none] Tryz.f38 (shV ZG)
def Dm : Con := cR ZBQ [Zg, WZ, Zp] true
theorem D6 : CO 38 Dm := ZyS ZAW
def Jz (n : Nat) (a0 : Zt) (a1 : Ch) (a2 : Int) : Option Bool := qR ZBQ [Zg, WZ, Zp] n (a0, a1, a2, ())
theorem RF (n : Nat) (a0 a1 a2) : Jz n a0 a1 a2 = (ZT big a2 0 (K6.wrap ((↑(List.length a0) : Int) - 1))).bind fun y => bif !y then some false else (WH big a0 a2 a1.2.2.1).bind fun y => bif y then some true else if 0 ≤ a2 then (nth a0 a2.toNat).bind fun y => some (decide (a1.2.1 < y.2.2.2.1.2.1)) else none := by kernel_rfl
def ZzD : Yy := (38, Dm) :: ZBu
theorem ZzP : YA ZzD := cons_cons D6 ZAW
def ZCr := FX.mk (false, false, []) ZzD [] [none, none, none, none] Tryz.f95 (shT [(false, Zp), (false, Zp), (false, Zp), (false, ZG)])
def Fj : Con := cR ZCr [Zg, Zp] true
theorem Fk : CO 95 Fj := ZyS ZzP
def Bh (n : Nat) (a0 : Zt) (a1 : Int) : Option (Int × Int × Int × Bool × Unit) := qR ZCr [Zg, Zp] n (a0, a1, ())
theorem ZaX (n : Nat) (a0 a1) : Bh n a0 a1 = (Uv big a0 a1).bind fun y => bif decide (y < 1) then some (0, 0, 0, false, ()) else if 0 ≤ a1 then (nth a0 a1.toNat).bind fun y => (ZT big y.2.2.2.1.2.2.1 0 (K6.wrap (a1 - 1))).bind fun c => bif !c then some (0, 0, 0, false, ()) else if 0 ≤ y.2.2.2.1.2.2.1 then (nth a0 (Int.toNat y.2.2.2.1.2.2.1)).bind fun a => (ZT big a.2.2.2.1.2.2.1 0 (K6.wrap ((↑(List.length a0) : Int) - 1))).bind fun e => bif !e then some (0, 0, 0, false, ()) else if 0 ≤ a.2.2.2.1.2.2.1 then (nth a0 (Int.toNat a.2.2.2.1.2.2.1)).bind fun b => (ZT big b.2.2.2.1.2.2.1 0 (K6.wrap ((↑(List.length a0) : Int) - 1))).bind fun d => bif !d then some (0, 0, 0, false, ()) else some (y.2.2.2.1.2.2.1, a.2.2.2.1.2.2.1, b.2.2.2.1.2.2.1, true, ()) else none else none else none := by kernel_rfl
def ZAv : Yy := (95, Fj) :: ZzD
theorem ZAw : YA ZAv := cons_cons Fk ZzP
def ZCW := FX.mk (false, false, []) ZAv [] [none] Tryz.f98 (shV ZG)
def Iu : Con := cR ZCW [Zg, Zp, Zp] true
theorem Hj : CO 98 Iu := ZyS ZAw
def Ak (n : Nat) (a0 : Zt) (a1 a2 : Int) : Option Bool := qR ZCW [Zg, Zp, Zp] n (a0, a1, a2, ())
theorem Zeb (n : Nat) (a0 a1 a2) : Ak n a0 a1 a2 = bif !decide (a1 = 0) then bif !decide (a2 = 0) then if 0 ≤ a1 then (nth a0 a1.toNat).bind fun y => if 0 ≤ a2 then (nth a0 a2.toNat).bind fun a => some (decide (y.2.1 = K6.wrap (a.2.1 + 1))) else none else none else some false else some false := by kernel_rfl
def ZBv : Yy := (98, Iu) :: ZAv
theorem ZAX : YA ZBv := cons_cons Hj ZAw
def ZCs := FX.mk (false, false, []) ZBv [] [none, none] Tryz.f97 (shT [(false, Zp), (false, ZG)])
def Ph : Con := cR ZCs [Zg, Zp] true
theorem Za1 : CO 97 Ph := ZyS ZAX
def Fm (n : Nat) (a0 : Zt) (a1 : Int) : Option (Int × Bool × Unit) := qR ZCs [Zg, Zp] n (a0, a1, ())
theorem Za2 (n : Nat) (a0 a1) : Fm n a0 a1 = (Bh big a0 a1).bind fun y => bif !y.2.2.2.1 then some (0, false, ()) else (Ak big a0 y.1 y.2.1).bind fun a => bif !a then some (0, false, ()) else if 0 ≤ y.2.1 then (nth a0 (Int.toNat y.2.1)).bind fun c => if 0 ≤ y.2.2.1 then (nth a0 (Int.toNat y.2.2.1)).bind fun b => bif !decide (c.2.1 = K6.wrap (b.2.1 + 1)) then some (0, false, ()) else some (y.2.2.1, true, ()) else none else none := by kernel_rfl
def ZCt : Yy := (97, Ph) :: ZBv
theorem ZCX : YA ZCt := cons_cons Za1 ZAX
def ZDm := FX.mk (false, false, [3, 7, 11, 15, 17, 21, 28, 35, 36, 38]) ZCt [] [none] Tryz.f188 (shV ZG)
def Za3 : Con := cR ZDm [ZW, Zp, ZG] true
theorem Pi : CO 188 Za3 := ZyS ZCX
def Mu (n : Nat) (a0 : Zj) (a1 : Int) (a2 : Bool) : Option Bool := qR ZDm [ZW, Zp, ZG] n (a0, a1, a2, ())
theorem Zk1 (n : Nat) (a0 a1 a2) : Mu n a0 a1 a2 = (Xv big a0.2.1 a1).bind fun y => bif !decide (y = a0.1) then some false else bif decide (a0.2.1 ≤ a0.2.2.2.2.2.2.2.2.2.2.2.1) then some false else (JQ big a1).bind fun y => bif decide (y ≤ (↑(List.length a0.2.2.2.2.2.2.2.2.2.2.1) : Int)) then some true else bif decide (a0.2.1 = 1) then some true else bif a2 then some (decide (a0.2.2.1.2.1 = K6.wrap (a0.2.1 - 1))) else some false := by kernel_rfl
def ZGn : Yy := (188, Za3) :: ZCt
theorem ZF0 : YA ZGn := cons_cons Pi ZCX
def ZGN := FX.mk (false, false, []) ZGn [] [some QP] Tryz.f160 (shF QP)
def Hl : Con := cR ZGN [] true
theorem NM : CO 160 Hl := ZyS ZF0
def ZDD : Yy := (160, Hl) :: ZGn
theorem ZDK : YA ZDD := cons_cons NM ZF0
def ZHh := FX.mk (true, false, []) ZDD [] [some YZ] Tryz.f178 (shF YZ)
def Za6 : Con := cR ZHh [] true
theorem Zee : CO 178 Za6 := ZyS ZDK
def ZE3 : Yy := (178, Za6) :: ZDD
theorem ZEI : YA ZE3 := cons_cons Zee ZDK
def ZHi := FX.mk (false, false, []) ZE3 [] [some ZL] Tryz.f179 (shF ZL)
def Iv : Con := cR ZHi [Zp] true
theorem Hm : CO 179 Iv := ZyS ZEI
def ZE4 : Yy := (179, Iv) :: ZE3
theorem ZEJ : YA ZE4 := cons_cons Hm ZEI
abbrev V7 : VS := (.ro Za :: dp 5 (.is (.ptr 0 0) :: .drop :: .is (.ptr 2 0) :: .ro Za :: dp 38 []), [.vars [.ro Za, .ro ZG, .ro Za, .own QP, .own ZL, .own ZQ, .own Z9, .own Vv], .drop, .vars [.ro Za, .ro ZG, .ro Za, .own ZP, .own ZL, .own ZQ, .own Z9, .own Vv]])
def ZDE := FX.mk (true, false, [8, 40]) ZE4 [(5, V7)] [some Zz, none] Tryz.f133 (shT [(true, Zz), (false, ZG)])
def Ho : Con := cR ZDE [Zp, ZG, Zp] true
theorem NO : CO 133 Ho := ZyS ZEJ
def Kg (n : Nat) (a0 : Int) (a1 : Bool) (a2 : Int) : Option (Zi × Bool × Unit) := qR ZDE [Zp, ZG, Zp] n (a0, a1, a2, ())
def WR (n : Nat) (s0 s9 aa : Int) (ab : Bool) (ac : Int) (ad : List Zm) (ae : List Zj) (af : List Zo) (ag : List ZX) (ah : List Y3) (ai : Int) (aj : Bool) (ak : Int) (al : List Zv) (am : List Zj) (an : List Zo) (ao : List ZX) (ap : List Y3) : Option (Zi × Bool × Unit) := rR ZDE (zs [Zp, ZG, Zp]) 5 V7 n (s0, s9, ()) ((aa, ab, ac, ad, ae, af, ag, ah, ()), (ai, aj, ak, al, am, an, ao, ap, ()), ())
theorem Cs (n : Nat) (a0 a1 a2) : Kg n a0 a1 a2 = (ZT big a0 1 7).bind fun y => bif !y then some ((0, false, 0, [], [], [], [], [], ()), false, ()) else if IntKind.u64.wrap a0 < 0 then none else (ZT big a2 0 (K6.wrap (K6.wrap (1 * 2 ^ min (IntKind.u64.wrap a0).toNat K6.bits) - 1))).bind fun y => bif !y then some ((0, false, 0, [], [], [], [], [], ()), false, ()) else (XT big a2).bind fun y => (Cq big a0).bind fun a => bif decide (a < y) then some ((0, false, 0, [], [], [], [], [], ()), false, ()) else WR n a0 0 0 false 0 [] [] [] [] [] a0 a1 a2 [((-1), 0, [], (0, 0, 0, 0, ()), ())] [] [] [] [] := by kernel_rfl
theorem Uh (n : Nat) (s0 s9 aa ab ac ad ae af ag ah ai aj ak al am an ao ap) : WR (n + 1) s0 s9 aa ab ac ad ae af ag ah ai aj ak al am an ao ap = bif decide (s9 < s0) then if am.length + (1 : Nat) ≤ lim then WR n s0 (K6.wrap (s9 + 1)) aa ab ac ad ae af ag ah ai aj ak al (am.append [(s9, 1, (0, 0, 0, 0, ()), (0, 0, 0, 0, ()), (0, 0, 0, 0, ()), [], [], [], [], [], [], 0, ())]) an ao ap else none else some ((ai, aj, ak, al, am, an, ao, ap, ()), true, ()) := by kernel_rfl
def ZDF : Yy := (133, Ho) :: ZE4
theorem ZDL : YA ZDF := cons_cons NO ZEJ
abbrev Bi : VS := (dp 2 (.ro Za :: .drop :: .is (.ptr 0 0) :: dp 2 (.ro Za :: .ro Za :: dp 46 [])), [.vars (rp 4 Za [])])
def ZFH := FX.mk (false, false, [4, 9, 13, 15, 17, 24, 47, 51]) ZDF [(5, Bi)] [none] Tryz.f126 (shV ZG)
def NP : Con := cR ZFH [ZV, WZ, Zp] true
theorem Mv : CO 126 NP := ZyS ZDL
def VE (n : Nat) (a0 : Yt) (a1 : Ch) (a2 : Int) : Option Bool := qR ZFH [ZV, WZ, Zp] n (a0, a1, a2, ())
def Uz (n : Nat) (s2 s7 s8 aa ab ac ad : Int) : Option Bool := rR ZFH (zs [ZV, WZ, Zp]) 5 Bi n (s2, s7, s8, ()) ((aa, ab, ac, ad, ()), ())
theorem Zij (n : Nat) (a0 a1 a2) : VE n a0 a1 a2 = bif decide (a1.2.1 = 0) then some true else (Qg big a0 a1.1 a1.2.1 a1.2.2.1).bind fun y => Uz n a2 y 0 a1.1 a1.2.1 a1.2.2.1 a1.2.2.2.1 := by kernel_rfl
theorem Fo (n : Nat) (s2 s7 s8 aa ab ac ad) : Uz (n + 1) s2 s7 s8 aa ab ac ad = bif decide (s8 < 7) then if IntKind.u64.wrap s8 < 0 then none else bif !decide ((ad.fdiv (2 ^ min (IntKind.u64.wrap s8).toNat K6.bits)).tmod 2 = 0) then if IntKind.u64.wrap s8 < 0 then none else bif decide ((s2.fdiv (2 ^ min (IntKind.u64.wrap s8).toNat K6.bits)).tmod 2 = 0) then if IntKind.u64.wrap s8 < 0 then none else bif decide ((s7.fdiv (2 ^ min (IntKind.u64.wrap s8).toNat K6.bits)).tmod 2 = 0) then some false else Uz n s2 s7 (K6.wrap (s8 + 1)) aa ab ac ad else Uz n s2 s7 (K6.wrap (s8 + 1)) aa ab ac ad else Uz n s2 s7 (K6.wrap (s8 + 1)) aa ab ac ad else bif decide (0 ≤ ad) then some (decide (ad < 128)) else some false := by kernel_rfl
def ZFI : Yy := (126, NP) :: ZDF
theorem ZFq : YA ZFI := cons_cons Mv ZDL
def ZG6 := FX.mk (false, false, [4, 10, 11, 17]) ZFI [] [some ZL, none] Tryz.f253 (shT [(true, ZL), (false, Z9)])
def Zk8 : Con := cR ZG6 [ZW, Zp, Zp, Zp] true
theorem Zk9 : CO 253 Zk8 := ZyS ZFq
def Mw (n : Nat) (a0 : Zj) (a1 a2 a3 : Int) : Option (Zj × ZX × Unit) := qR ZG6 [ZW, Zp, Zp, Zp] n (a0, a1, a2, a3, ())
theorem Pj (n : Nat) (a0 a1 a2 a3) : Mw n a0 a1 a2 a3 = (YX big a0).bind fun y => (fun zB => Wk zB zB) (some ((y.1, y.2.1, y.2.2.1, y.2.2.2.1, (a1, a2, a3, a0.1, ()), y.2.2.2.2.2), (a1, a2, a3, a0.1, ()), ())) := by kernel_rfl
def ZGo : Yy := (253, Zk8) :: ZFI
theorem ZF1 : YA ZGo := cons_cons Zk9 ZFq
def ZGp := FX.mk (false, false, [11, 12, 14, 15, 23, 26, 27]) ZGo [] [some Z1] Tryz.f236 (shO (shF Z1) [.mu ZL])
def Dn : Con := cA ZGp [.mu ZL, .ro Zp, .ro Zp, .ro Zp, .ro Zp] true
theorem BR : CO 236 Dn := ZBw ZF1
def Ui (n : Nat) (a0 : Zj) (a1 a2 a3 a4 : Int) : Option (Z3 × Zj × Unit) := qA ZGp [.mu ZL, .ro Zp, .ro Zp, .ro Zp, .ro Zp] n (a0, a1, a2, a3, a4, ())
theorem Hp (n : Nat) (a0 a1 a2 a3 a4) : Ui n a0 a1 a2 a3 a4 = (Mw big a0 a1 a2 a3).bind fun y => some ([(2, y.1.1, a4, y.2.1.2.1, 0, (0, 0, 0, 0, ()), y.2)], y.1, ()) := by kernel_rfl
def ZE5 : Yy := (236, Dn) :: ZGo
theorem ZEK : YA ZE5 := cons_cons BR ZF1
def ZF2 := FX.mk (false, false, [2, 7, 8, 20, 26, 30]) ZE5 [] [some ZL, none, none] Tryz.f18 (shT [(true, ZL), (false, ZQ), (false, ZG)])
def Pm : Con := cR ZF2 [ZW, Zp] true
theorem Zbc : CO 18 Pm := ZyS ZEK
def Bj (n : Nat) (a0 : Zj) (a1 : Int) : Option (Zj × Zo × Bool × Unit) := qR ZF2 [ZW, Zp] n (a0, a1, ())
theorem Fp (n : Nat) (a0 a1) : Bj n a0 a1 = bif decide (900 ≤ a0.2.1) then (YX big a0).bind fun y => some (y, (0, 0, 0, 0, 0, (0, 0, 0, 0, ()), (0, 0, 0, 0, ()), ()), false, ()) else (ZT big a1 1 7).bind fun y => bif !y then (YX big a0).bind fun y => some (y, (0, 0, 0, 0, 0, (0, 0, 0, 0, ()), (0, 0, 0, 0, ()), ()), false, ()) else (Wd big a0 (K6.wrap (a0.2.1 + 1))).bind fun y => (Xv big y.2.1 a1).bind fun a => some (y, (4, y.1, a, y.2.1, 0, y.2.2.1, (0, 0, 0, 0, ()), ()), true, ()) := by kernel_rfl
def ZD4 : Yy := (18, Pm) :: ZE5
theorem ZD5 : YA ZD4 := cons_cons Zbc ZEK
def ZG7 := FX.mk (false, false, [4, 9, 12, 17, 19, 33]) ZD4 [] [some YZ, some ZL, none] Tryz.f213 (shT [(true, YZ), (true, ZL), (false, Zp)])
def Zle : Con := cR ZG7 [Zg, ZW, Yl] true
theorem Zlf : CO 213 Zle := ZyS ZD5
def Ww (n : Nat) (a0 : Zt) (a1 : Zj) (a2 : YW) : Option (Zt × Zj × Int × Unit) := qR ZG7 [Zg, ZW, Yl] n (a0, a1, a2, ())
theorem Pn (n : Nat) (a0 a1 a2) : Ww n a0 a1 a2 = (Gl big a1).bind fun y => (XO big a0 (y.2.2.1, a1.2.1, a2, y, ())).bind fun b => (YX big a1).bind fun a => bif decide (b.2.1 < 0) then some (b.1, a, (-1), ()) else some (b.1, (a.1, a.2.1, y, a.2.2.2.1, a.2.2.2.2.1, a.2.2.2.2.2.1, a.2.2.2.2.2.2.1, a.2.2.2.2.2.2.2.1, a.2.2.2.2.2.2.2.2.1, a.2.2.2.2.2.2.2.2.2.1, a.2.2.2.2.2.2.2.2.2.2.1, a1.2.1, ()), b.2) := by kernel_rfl
def ZGq : Yy := (213, Zle) :: ZD4
theorem ZF3 : YA ZGq := cons_cons Zlf ZD5
abbrev JA : VS := (dp 2 (.ro Za :: .ro Za :: .drop :: .is (.ptr 0 0) :: dp 3 (.own Zl :: .is (.ptr 2 0) :: .ro Za :: dp 33 [])), [.vars (rp 14 Za [.ro Yx, .ro Zn, .ro Yx, .ro Yo, .ro ZV, .ro ZO, .ro Za]), .drop, .vars (rp 4 Za [])])
def ZE6 := FX.mk (false, false, [5, 10, 34, 37]) ZGq [(6, JA)] [some Z1] Tryz.f215 (shF Z1)
def Zbe : Con := cR ZE6 [Zg, ZW, Zp, Zp] true
theorem Zei : CO 215 Zbe := ZyS ZF3
def Iw (n : Nat) (a0 : Zt) (a1 : Zj) (a2 a3 : Int) : Option Z3 := qR ZE6 [Zg, ZW, Zp, Zp] n (a0, a1, a2, a3, ())
def Qk (n : Nat) (s2 s3 : Int) (s9 : List Zc) (s11 aa ab ac ad ae af ag ah ai aj ak al am an : Int) (ao : Yq) (ap : Zu) (aq : Yq) (ar : YG) (au : Yt) (av : Z3) (aw ax ay az ba : Int) : Option Z3 := rR ZE6 (zs [Zg, ZW, Zp, Zp]) 6 JA n (s2, s3, s9, s11, ()) ((aa, ab, ac, ad, ae, af, ag, ah, ai, aj, ak, al, am, an, ao, ap, aq, ar, au, av, aw, ()), (ax, ay, az, ba, ()), ())
theorem Zej (n : Nat) (a0 a1 a2 a3) : Iw n a0 a1 a2 a3 = (ZT big a2 0 (K6.wrap ((↑(List.length a0) : Int) - 1))).bind fun y => bif y then if 0 ≤ a2 then (nth a0 a2.toNat).bind fun y => Qk n a2 a3 [] 0 a1.1 a1.2.1 a1.2.2.1.1 a1.2.2.1.2.1 a1.2.2.1.2.2.1 a1.2.2.1.2.2.2.1 a1.2.2.2.1.1 a1.2.2.2.1.2.1 a1.2.2.2.1.2.2.1 a1.2.2.2.1.2.2.2.1 a1.2.2.2.2.1.1 a1.2.2.2.2.1.2.1 a1.2.2.2.2.1.2.2.1 a1.2.2.2.2.1.2.2.2.1 a1.2.2.2.2.2.1 a1.2.2.2.2.2.2.1 a1.2.2.2.2.2.2.2.1 a1.2.2.2.2.2.2.2.2.1 a1.2.2.2.2.2.2.2.2.2.1 a1.2.2.2.2.2.2.2.2.2.2.1 a1.2.2.2.2.2.2.2.2.2.2.2.1 y.2.2.2.1.1 y.2.2.2.1.2.1 y.2.2.2.1.2.2.1 y.2.2.2.1.2.2.2.1 else none else Qk n a2 a3 [] 0 a1.1 a1.2.1 a1.2.2.1.1 a1.2.2.1.2.1 a1.2.2.1.2.2.1 a1.2.2.1.2.2.2.1 a1.2.2.2.1.1 a1.2.2.2.1.2.1 a1.2.2.2.1.2.2.1 a1.2.2.2.1.2.2.2.1 a1.2.2.2.2.1.1 a1.2.2.2.2.1.2.1 a1.2.2.2.2.1.2.2.1 a1.2.2.2.2.1.2.2.2.1 a1.2.2.2.2.2.1 a1.2.2.2.2.2.2.1 a1.2.2.2.2.2.2.2.1 a1.2.2.2.2.2.2.2.2.1 a1.2.2.2.2.2.2.2.2.2.1 a1.2.2.2.2.2.2.2.2.2.2.1 a1.2.2.2.2.2.2.2.2.2.2.2.1 0 0 0 0 := by kernel_rfl
theorem D7 (n : Nat) (s2 s3 s9 s11 aa ab ac ad ae af ag ah ai aj ak al am an ao ap aq ar au av aw ax ay az ba) : Qk (n + 1) s2 s3 s9 s11 aa ab ac ad ae af ag ah ai aj ak al am an ao ap aq ar au av aw ax ay az ba = bif decide (s11 < s3) then bif decide (s11 < 7) then if s9.length + [(1, aa, s11, ab, s2, (ax, ay, az, ba, ()), (0, 0, 0, 0, ()), ())].length ≤ lim then Qk n s2 s3 (s9.append [(1, aa, s11, ab, s2, (ax, ay, az, ba, ()), (0, 0, 0, 0, ()), ())]) (K6.wrap (s11 + 1)) aa ab ac ad ae af ag ah ai aj ak al am an ao ap aq ar au av aw ax ay az ba else none else some s9 else some s9 := by kernel_rfl
def ZE7 : Yy := (215, Zbe) :: ZGq
theorem ZEL : YA ZE7 := cons_cons Zei ZF3
def ZGr := FX.mk (false, false, [5, 12, 14, 19]) ZE7 [] [none] Tryz.f222 (shV ZQ)
def Zbh : Con := cR ZGr [YT, Zp, Zp, Zp, Zp] true
theorem Zel : CO 222 Zbh := ZyS ZEL
def Ix (n : Nat) (a0 : Zi) (a1 a2 a3 a4 : Int) : Option Zo := qR ZGr [YT, Zp, Zp, Zp, Zp] n (a0, a1, a2, a3, a4, ())
theorem Zem (n : Nat) (a0 a1 a2 a3 a4) : Ix n a0 a1 a2 a3 a4 = (ZT big a4 0 (K6.wrap ((↑(List.length a0.2.2.2.1) : Int) - 1))).bind fun y => bif y then if 0 ≤ a4 then (nth a0.2.2.2.1 a4.toNat).bind fun y => some (2, a1, a2, y.2.1, 0, (0, 0, 0, 0, ()), (a3, y.2.1, a4, a1, ()), ()) else none else some (2, a1, a2, 0, 0, (0, 0, 0, 0, ()), (a3, 0, a4, a1, ()), ()) := by kernel_rfl
def ZE8 : Yy := (222, Zbh) :: ZE7
theorem ZEM : YA ZE8 := cons_cons Zel ZEL
def ZEN := FX.mk (false, false, [4, 7, 27, 36]) ZE8 [] [some ZL] Tryz.f44 (shF ZL)
def Hs : Con := cR ZEN [Zg, ZW, Zp] true
theorem NR : CO 44 Hs := ZyS ZEM
def XP (n : Nat) (a0 : Zt) (a1 : Zj) (a2 : Int) : Option Zj := qR ZEN [Zg, ZW, Zp] n (a0, a1, a2, ())
theorem Ct (n : Nat) (a0 a1 a2) : XP n a0 a1 a2 = (YX big a1).bind fun y => (Bh big a0 a2).bind fun a => bif !a.2.2.2.1 then some y else if 0 ≤ a2 then (nth a0 a2.toNat).bind fun f => (Xw big y.2.2.1 f.2.2.2.1).bind fun d => if 0 ≤ a.1 then (nth a0 (Int.toNat a.1)).bind fun g => (Xw big y.2.2.2.1 g.2.2.2.1).bind fun b => (Fm big a0 a2).bind fun e => bif e.2.1 then (QS big a0 (y.1, y.2.1, d, b, y.2.2.2.2) e.1).bind fun y => (Ak big a0 a.1 a.2.1).bind fun c => bif c then (Uw big a0 y a.2.1).bind fun y => some y else some y else (Ak big a0 a.1 a.2.1).bind fun c => bif c then (Uw big a0 (y.1, y.2.1, d, b, y.2.2.2.2) a.2.1).bind fun y => some y else some (y.1, y.2.1, d, b, y.2.2.2.2) else none else none := by kernel_rfl
def ZDG : Yy := (44, Hs) :: ZE8
theorem ZDM : YA ZDG := cons_cons NR ZEM
abbrev Kh : VS := (.ro Zg :: .ro Yx :: dp 3 (.own Zq :: .ro Za :: dp 29 []), [])
def ZD6 := FX.mk (false, false, []) ZDG [(3, Kh)] [some ZF] Tryz.f28 (shF ZF)
def Fq : Con := cR ZD6 [Zg, Yx] true
theorem Fr : CO 28 Fq := ZyS ZDM
def XQ (n : Nat) (a0 : Zt) (a1 : Yq) : Option Zu := qR ZD6 [Zg, Yx] n (a0, a1, ())
def WW (n : Nat) (s0 : Zt) (s1 : Yq) (s5 : List Ze) (s6 : Int) : Option Zu := rR ZD6 (zs [Zg, Yx]) 3 Kh n (s0, s1, s5, s6, ()) ()
theorem Fs (n : Nat) (a0 a1) : XQ n a0 a1 = WW n a0 a1 [] 0 := by kernel_rfl
theorem VF (n : Nat) (s0 s1 s5 s6) : WW (n + 1) s0 s1 s5 s6 = bif decide (s6 < (↑(List.length s1) : Int)) then if 0 ≤ s6 then (nth s1 s6.toNat).bind fun y => (ZT big y 0 (K6.wrap ((↑(List.length s0) : Int) - 1))).bind fun y => bif y then if 0 ≤ s6 then (nth s1 s6.toNat).bind fun y => if 0 ≤ y then (nth s0 (Int.toNat y)).bind fun y => (Aa big s5 y.2.2.1).bind fun y => WW n s0 s1 y.1 (K6.wrap (s6 + 1)) else none else none else WW n s0 s1 s5 (K6.wrap (s6 + 1)) else none else some s5 := by kernel_rfl
def ZD7 : Yy := (28, Fq) :: ZDG
theorem ZD8 : YA ZD7 := cons_cons Fr ZDM
def ZF4 := FX.mk (false, false, [5, 10, 16, 24, 32, 41, 45, 50, 54, 61, 65, 71, 75, 83, 88, 94, 99, 106, 114, 118, 119, 121, 126, 127, 129, 137, 141, 142, 144, 150, 154, 155, 157]) ZD7 [] [none] Tryz.f234 (shV ZG)
def KA : Con := cR ZF4 [Zg, Zp, ZQ] true
theorem Ql : CO 234 KA := ZyS ZD8
def Vo (n : Nat) (a0 : Zt) (a1 : Int) (a2 : Zo) : Option Bool := qR ZF4 [Zg, Zp, ZQ] n (a0, a1, a2, ())
theorem Ft (n : Nat) (a0 a1 a2) : Vo n a0 a1 a2 = bif decide (a1 < 1) then some false else (ZT big a2.1 1 4).bind fun y => bif !y then some false else (ZT big a2.2.1 0 (K6.wrap (a1 - 1))).bind fun y => bif !y then some false else (ZT big a2.2.2.1 0 (K6.wrap (a1 - 1))).bind fun y => bif !y then some false else (ZT big a2.2.2.2.1 1 900).bind fun y => (fun zC0 => (fun zC1 => bif !y then some false else bif decide (7 < a1) then some false else bif !decide (a2.1 = 1) then bif !decide (a2.2.2.2.2.1 = 0) then some false else bif !decide (a2.1 = 2) then bif !eqD Z9 a2.2.2.2.2.2.2.1 (0, 0, 0, 0, ()) then some false else zC1 else zC1 else bif !decide (a2.1 = 2) then bif !eqD Z9 a2.2.2.2.2.2.2.1 (0, 0, 0, 0, ()) then some false else zC1 else zC1) (bif decide (a2.1 = 2) then bif !eqD WZ a2.2.2.2.2.2.1 (0, 0, 0, 0, ()) then some false else zC0 else zC0)) (bif decide (a2.1 = 1) then (ZT big a2.2.2.2.2.1 1 (K6.wrap ((↑(List.length a0) : Int) - 1))).bind fun y => bif y then if 0 ≤ a2.2.2.2.2.1 then (nth a0 (Int.toNat a2.2.2.2.2.1)).bind fun y => bif decide (y.2.1 = a2.2.2.2.1) then if 0 ≤ a2.2.2.2.2.1 then (nth a0 (Int.toNat a2.2.2.2.2.1)).bind fun y => bif eqD WZ y.2.2.2.1 a2.2.2.2.2.2.1 then (Y4 big a0 a1 a2.2.2.2.2.2.1).bind fun y => some y else some false else none else some false else none else some false else bif decide (a2.1 = 2) then (JR big a0 a1 a2.2.2.2.2.2.2.1).bind fun y => bif y then bif decide (a2.2.2.2.2.2.2.1.2.2.2.1 = a2.2.1) then some (decide (a2.2.2.2.2.2.2.1.2.1 = a2.2.2.2.1)) else some false else some false else bif decide (a2.1 = 3) then (Y4 big a0 a1 a2.2.2.2.2.2.1).bind fun y => bif y then some (decide (a2.2.2.2.2.2.1.2.1 = a2.2.2.2.1)) else some false else (Y4 big a0 a1 a2.2.2.2.2.2.1).bind fun y => bif y then some (decide (a2.2.2.2.2.2.1.2.1 < a2.2.2.2.1)) else some false) := by kernel_rfl
def ZD9 : Yy := (234, KA) :: ZD7
theorem ZEa : YA ZD9 := cons_cons Ql ZD8
def ZG8 := FX.mk (false, false, [7, 9, 10, 11, 12, 14, 18, 20, 25, 26, 27, 28, 32, 36, 37, 38, 39, 43, 47, 49, 50, 52, 55, 60, 61, 63, 64, 65, 69, 70, 71, 76, 77, 79, 82, 88, 91, 93, 95]) ZD9 [] [some Z1] Tryz.f237 (shO (shF Z1) [.mu ZL])
def Zlk : Con := cA ZG8 [.ro Zg, .ro Zp, .mu ZL, .ro ZQ] true
theorem Zll : CO 237 Zlk := ZBw ZEa
def My (n : Nat) (a0 : Zt) (a1 : Int) (a2 : Zj) (a3 : Zo) : Option (Z3 × Zj × Unit) := qA ZG8 [.ro Zg, .ro Zp, .mu ZL, .ro ZQ] n (a0, a1, a2, a3, ())
theorem Ps (n : Nat) (a0 a1 a2 a3) : My n a0 a1 a2 a3 = (Wd big a2 a3.2.2.2.1).bind fun y => bif decide (a3.2.2.2.2.2.1.1 = 1) then (Xw big y.2.2.1 a3.2.2.2.2.2.1).bind fun a => (QV big (y.1, y.2.1, a, y.2.2.2) (K6.wrap (a3.2.2.2.2.2.1.1 + 1)) a3.2.2.2.1).bind fun b => bif !b then some ([], (y.1, y.2.1, a, y.2.2.2), ()) else (Ui big (y.1, y.2.1, a, y.2.2.2) (K6.wrap (a3.2.2.2.2.2.1.1 + 1)) a3.2.2.2.1 a3.2.2.2.2.2.1.2.2.1 a3.2.1).bind fun y => some y else bif decide (a3.2.2.2.2.2.1.1 = 2) then (Xw big y.2.2.2.1 a3.2.2.2.2.2.1).bind fun a => (QV big (y.1, y.2.1, y.2.2.1, a, y.2.2.2.2) (K6.wrap (a3.2.2.2.2.2.1.1 + 1)) a3.2.2.2.1).bind fun b => bif !b then some ([], (y.1, y.2.1, y.2.2.1, a, y.2.2.2.2), ()) else (Ui big (y.1, y.2.1, y.2.2.1, a, y.2.2.2.2) (K6.wrap (a3.2.2.2.2.2.1.1 + 1)) a3.2.2.2.1 a3.2.2.2.2.2.1.2.2.1 a3.2.1).bind fun y => some y else bif decide (a3.2.2.2.2.2.1.1 = 3) then (QS big a0 y a3.2.2.2.2.2.1.2.2.1).bind fun y => (Wd big y (K6.wrap (a3.2.2.2.1 + 1))).bind fun y => (Xv big y.2.1 a1).bind fun a => some ([(4, y.1, a, y.2.1, 0, y.2.2.1, (0, 0, 0, 0, ()), ())], y, ()) else some ([], y, ()) := by kernel_rfl
def ZGs : Yy := (237, Zlk) :: ZD9
theorem ZF5 : YA ZGs := cons_cons Zll ZEa
end
end Go.Sx.Tryz
