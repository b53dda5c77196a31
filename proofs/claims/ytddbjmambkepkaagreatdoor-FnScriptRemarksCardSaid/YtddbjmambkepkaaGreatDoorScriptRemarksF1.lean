/- The functions of the seat: what each comes to. -/
import Derived.Test.YtddbjmambkepkaaGreatDoorTypes
set_option linter.unusedVariables false
set_option linter.unusedSimpArgs false
set_option maxRecDepth 100000
namespace Go.Sx.Tryz
open Go Go.Sx Go.Proofs
open Go.IntKind renaming i64 → K6
noncomputable section
abbrev Nf : W0 := ([.ro Z9, .drop, .drop, .ro Zc, .ro Zc, .drop, .drop, .drop, .drop, .drop, .drop, .drop, .drop, .drop, .drop, .drop, .drop, .drop, .drop, .drop, .drop, .drop, .drop, .drop, .drop, .drop, .drop, .drop, .drop, .drop, .drop, .drop], [])
def LW := FX.mk (false, false, []) L_ [(3, Nf)] [none] Tryz.f22 (shP Yd)
def ZcR : Con := cR LW [Z9] false
theorem Zei : CO 22 ZcR := ZI Zqu
def Ea (n : Nat) (a0 : Vq) : Option Ya := qR LW [Z9] n (a0, ())
def Km (n : Nat) (s0 : Vq) (s3 s4 : Int) : Option Ya := rR LW (zs [Z9]) 3 Nf n (s0, s3, s4, ()) ()
theorem Zej (n : Nat) (a0) : Ea n a0 =
  Km n a0 (K6.wrap ((78001 : Int) + (↑(List.length a0) : Int))) (0 : Int) := by kernel_rfl
theorem Rh (n : Nat) (s0 s3 s4) : Km (n + 1) s0 s3 s4 =
  bif decide (s4 < (↑(List.length s0) : Int)) then
 bif decide (s4 < (4000 : Int)) then
 if (0 : Int) ≤ s4 then
 (nth s0 s4.toNat).bind fun y =>
 Km n s0
 (K6.wrap
 (↑(BitVec.ofInt K6.bits
 (K6.wrap
 (K6.wrap (K6.wrap (s3 * (131 : Int)) + K6.wrap y) + (7 : Int))) &&&
 BitVec.ofInt K6.bits (1073741823 : Int)).toNat :
 Int))
 (K6.wrap (s4 + (1 : Int)))
 else none
 else some (s0, (0 : Int), s3, PUnit.unit)
 else some (s0, (0 : Int), s3, PUnit.unit) := by kernel_rfl
def LX : Yf := (22, ZcR) :: L_
theorem H7 : Yg LX := cons_cons Zei Zqu
def Ri := FX.mk (false, false, [4, 5, 6, 7, 11, 13, 14, 15, 18, 19, 20, 25, 26, 27, 29, 30, 31, 36, 37, 38, 40, 41, 42, 49, 50, 51, 52, 55]) LX [] [none] Tryz.f47 (shO (shV Zk) [.mr Yd])
def Rj : Con := cA Ri [.mr Yd] false
theorem ZaO : CO 47 Rj := Vr H7
def W2 (n : Nat) (a0 : Ya) : Option (Int × Ya × Unit) := qA Ri [.mr Yd] n (a0, ())
theorem ZaP (n : Nat) (a0) : W2 n a0 =
  bif decide (a0.2.1 < (↑(List.length a0.1) : Int)) then
 if (0 : Int) ≤ a0.2.1 then
 (nth a0.1 (Int.toNat a0.2.1)).bind fun y =>
 some
 (K6.wrap
 (↑(BitVec.ofInt K6.bits
 (K6.wrap
 (K6.wrap
 (↑(BitVec.ofInt K6.bits
 (K6.wrap
 (↑(BitVec.ofInt K6.bits
 ((K6.wrap
 (K6.wrap
 (a0.2.2.1 * (6364136223846793005 : Int)) +
 (1442695040888963407 : Int))).fdiv
 ((2 : Int) ^ min (Int.toNat (33 : Int)) K6.bits)) ^^^
 BitVec.ofInt K6.bits
 ((K6.wrap
 (K6.wrap
 (a0.2.2.1 * (6364136223846793005 : Int)) +
 (1442695040888963407 : Int))).fdiv
 ((2 : Int) ^
 min (Int.toNat (45 : Int)) K6.bits))).toNat :
 Int)) &&&
 BitVec.ofInt K6.bits (255 : Int)).toNat :
 Int) +
 K6.wrap y)) &&&
 BitVec.ofInt K6.bits (255 : Int)).toNat :
 Int),
 (a0.1, K6.wrap (a0.2.1 + (1 : Int)),
 K6.wrap
 (K6.wrap (a0.2.2.1 * (6364136223846793005 : Int)) + (1442695040888963407 : Int)),
 PUnit.unit),
 PUnit.unit)
 else none
 else
 some
 (K6.wrap
 (↑(BitVec.ofInt K6.bits
 (K6.wrap
 (↑(BitVec.ofInt K6.bits
 ((K6.wrap
 (K6.wrap (a0.2.2.1 * (6364136223846793005 : Int)) +
 (1442695040888963407 : Int))).fdiv
 ((2 : Int) ^ min (Int.toNat (33 : Int)) K6.bits)) ^^^
 BitVec.ofInt K6.bits
 ((K6.wrap
 (K6.wrap (a0.2.2.1 * (6364136223846793005 : Int)) +
 (1442695040888963407 : Int))).fdiv
 ((2 : Int) ^ min (Int.toNat (45 : Int)) K6.bits))).toNat :
 Int)) &&&
 BitVec.ofInt K6.bits (255 : Int)).toNat :
 Int),
 (a0.1, a0.2.1,
 K6.wrap
 (K6.wrap (a0.2.2.1 * (6364136223846793005 : Int)) + (1442695040888963407 : Int)),
 PUnit.unit),
 PUnit.unit) := by kernel_rfl
def F0 : Yf := (47, Rj) :: LX
theorem EB : Yg F0 := cons_cons ZaO H7
def Ng := FX.mk (false, false, []) F0 [] [none] Tryz.f23 (shO (shV Zk) [.mr Yd])
def Nh : Con := cA Ng [.mr Yd, .ro Zk] false
theorem Rk : CO 23 Nh := Vr EB
def Ym (n : Nat) (a0 : Ya) (a1 : Int) : Option (Int × Ya × Unit) := qA Ng [.mr Yd, .ro Zk] n (a0, a1, ())
theorem Rl (n : Nat) (a0 a1) : Ym n a0 a1 =
  bif decide (a1 ≤ (0 : Int)) then some ((0 : Int), a0, PUnit.unit)
 else
 bif decide (a1 ≤ (256 : Int)) then
 (W2 big a0).bind fun y => if a1 = (0 : Int) then none else some (Int.tmod y.1 a1, y.2)
 else
 (W2 big a0).bind fun y =>
 (W2 big y.2.1).bind fun a =>
 (W2 big a.2.1).bind fun c =>
 (W2 big c.2.1).bind fun b =>
 if a1 = (0 : Int) then none
 else
 some
 ((K6.wrap
 (K6.wrap
 (K6.wrap
 (K6.wrap (y.1 * (16777216 : Int)) +
 K6.wrap (a.1 * (65536 : Int))) +
 K6.wrap (c.1 * (256 : Int))) +
 b.1)).tmod
 a1,
 b.2) := by kernel_rfl
def Cg : Yf := (23, Nh) :: F0
theorem Ch : Yg Cg := cons_cons Rk EB
def Rm := FX.mk (false, false, []) Cg [] [none] Tryz.f48 (shO (shV ZA) [.mr Yd])
def Rn : Con := cA Rm [.mr Yd, .ro Zk] false
theorem ZaQ : CO 48 Rn := Vr Ch
def Ai (n : Nat) (a0 : Ya) (a1 : Int) : Option (Bool × Ya × Unit) := qA Rm [.mr Yd, .ro Zk] n (a0, a1, ())
theorem ZaR (n : Nat) (a0 a1) : Ai n a0 a1 =
  (Ym big a0 a1).bind fun y => some (decide (y.1 = (0 : Int)), y.2) := by kernel_rfl
def F1 : Yf := (48, Rn) :: Cg
theorem EC : Yg F1 := cons_cons ZaQ Ch
def ED := FX.mk (false, false, []) F1 [] [none] Tryz.f49 (shO (shV Zk) [.mr Yd])
def EE : Con := cA ED [.mr Yd, .ro WE] false
theorem LY : CO 49 EE := Vr EC
def XY (n : Nat) (a0 : Ya) (a1 : WO) : Option (Int × Ya × Unit) := qA ED [.mr Yd, .ro WE] n (a0, a1, ())
theorem LZ (n : Nat) (a0 a1) : XY n a0 a1 =
  (Ym big a0 (↑(List.length a1) : Int)).bind fun y =>
 if (0 : Int) ≤ y.1 then (nth a1 (Int.toNat y.1)).bind fun a => some (a, y.2) else none := by kernel_rfl
def KY : Yf := (49, EE) :: F1
theorem JB : Yg KY := cons_cons LY EC
def Ro := FX.mk (false, false, []) KY [] [none] Tryz.f193 (shO (shV Zf) [.mr Yd])
def Rp : Con := cA Ro [.mr Yd, .ro Yr] false
theorem ZaS : CO 193 Rp := Vr JB
def F2 (n : Nat) (a0 : Ya) (a1 : Y5) : Option (ByteArray × Ya × Unit) := qA Ro [.mr Yd, .ro Yr] n (a0, a1, ())
theorem ZaT (n : Nat) (a0 a1) : F2 n a0 a1 =
  (Ym big a0 (↑(List.length a1) : Int)).bind fun y =>
 if (0 : Int) ≤ y.1 then (nth a1 (Int.toNat y.1)).bind fun a => some (a, y.2) else none := by kernel_rfl
def F3 : Yf := (193, Rp) :: KY
theorem EF : Yg F3 := cons_cons ZaS JB
def Zf9 := FX.mk (false, false, []) F3 [] [none] Tryz.f37 (shV ZA)
def H8 : Con := cR Zf9 [Zk, Zk, Zk] true
theorem Ni : CO 37 H8 := ZI EF
def ZB (n : Nat) (a0 a1 a2 : Int) : Option Bool := qR Zf9 [Zk, Zk, Zk] n (a0, a1, a2, ())
theorem Nj (n : Nat) (a0 a1 a2) : ZB n a0 a1 a2 =
  bif decide (a1 ≤ a0) then some (decide (a0 ≤ a2)) else some false := by kernel_rfl
def Rq : Yf := (37, H8) :: F3
theorem Nk : Yg Rq := cons_cons Ni EF
def ZcS := FX.mk (false, false, []) Rq [] [none] Tryz.f139 (shO (shV Zf) [.mr Yd])
def ZcT : Con := cA ZcS [.mr Yd] false
theorem Zek : CO 139 ZcT := Vr Nk
def ZcU (n : Nat) (a0 : Ya) : Option (ByteArray × Ya × Unit) := qA ZcS [.mr Yd] n (a0, ())
theorem Zel (n : Nat) (a0) : ZcU n a0 =
  (F2 big a0
 [ByteArray.mk #[97], ByteArray.mk #[98], ByteArray.mk #[99],
 ByteArray.mk #[97, 98, 99]]).bind
 fun y => some y := by kernel_rfl
def L0 : Yf := (139, ZcT) :: Rq
theorem H9 : Yg L0 := cons_cons Zek Nk
def ZcV := FX.mk (false, false, []) L0 [] [none] Tryz.f93 (shO (shV W1) [.mr Yd])
def ZcW : Con := cA ZcV [.mr Yd] false
theorem Zem : CO 93 ZcW := Vr H9
def Eb (n : Nat) (a0 : Ya) : Option (VX × Ya × Unit) := qA ZcV [.mr Yd] n (a0, ())
theorem Zen (n : Nat) (a0) : Eb n a0 =
  (Ym big a0 (3 : Int)).bind fun y =>
 (ZcU big y.2.1).bind fun a =>
 (XY big a.2.1 [(0 : Int), (1 : Int), (7 : Int), (500 : Int), (999999999 : Int)]).bind fun b =>
 some ((K6.wrap ((1 : Int) + y.1), a.1, b.1, PUnit.unit), b.2) := by kernel_rfl
def L3 : Yf := (93, ZcW) :: L0
theorem Ia : Yg L3 := cons_cons Zem H9
abbrev Ib : W0 := ([.ro Zc, .drop, .drop, .ro Zc, .ro Zc, .drop, .drop, .drop, .drop, .drop, .drop, .drop, .drop, .drop, .drop, .drop, .drop, .drop, .drop, .drop, .drop], [])
def F4 := FX.mk (false, false, []) L3 [(3, Ib)] [none] Tryz.f62 (shV Zk)
def Rr : Con := cR F4 [Zk] true
theorem ZaU : CO 62 Rr := ZI Ia
def YB (n : Nat) (a0 : Int) : Option Int := qR F4 [Zk] n (a0, ())
def Vs (n : Nat) (s0 s3 s4 : Int) : Option Int := rR F4 (zs [Zk]) 3 Ib n (s0, s3, s4, ()) ()
theorem XZ (n : Nat) (a0) : YB n a0 =
  Vs n a0 (0 : Int) (0 : Int) := by kernel_rfl
theorem Y2 (n : Nat) (s0 s3 s4) : Vs (n + 1) s0 s3 s4 =
  bif decide (s4 < (7 : Int)) then
 bif decide ((0 : Int) ≤ s0) then
 if IntKind.u64.wrap s4 < (0 : Int) then none
 else
 Vs n s0
 (K6.wrap
 (s3 + (s0.fdiv ((2 : Int) ^ min (IntKind.u64.wrap s4).toNat K6.bits)).tmod (2 : Int)))
 (K6.wrap (s4 + (1 : Int)))
 else some s3
 else some s3 := by kernel_rfl
def F5 : Yf := (62, Rr) :: L3
theorem EG : Yg F5 := cons_cons ZaU Ia
def ZcX := FX.mk (false, false, []) F5 [] [none] Tryz.f63 (shV Zk)
def ZcY : Con := cR ZcX [Zk] true
theorem Zeo : CO 63 ZcY := ZI EG
def Qw (n : Nat) (a0 : Int) : Option Int := qR ZcX [Zk] n (a0, ())
theorem Aj (n : Nat) (a0) : Qw n a0 =
  bif decide (a0 < (1 : Int)) then some (0 : Int)
 else some (K6.wrap ((K6.wrap (a0 - (1 : Int))).tdiv (3 : Int))) := by kernel_rfl
def L4 : Yf := (63, ZcY) :: F5
theorem Ic : Yg L4 := cons_cons Zeo EG
def ZcZ := FX.mk (false, false, []) L4 [] [none] Tryz.f141 (shV Zk)
def Zc0 : Con := cR ZcZ [Zk] true
theorem Zep : CO 141 Zc0 := ZI Ic
def Vd (n : Nat) (a0 : Int) : Option Int := qR ZcZ [Zk] n (a0, ())
theorem Zeq (n : Nat) (a0) : Vd n a0 =
  (Qw big a0).bind fun y => some (K6.wrap (a0 - y)) := by kernel_rfl
def L5 : Yf := (141, Zc0) :: L4
theorem Id : Yg L5 := cons_cons Zep Ic
def Nl := FX.mk (false, false, []) L5 [] [none] Tryz.f140 (shV Zk)
def Nm : Con := cR Nl [Zk, Zk] true
theorem Rt : CO 140 Nm := ZI Id
def YW (n : Nat) (a0 a1 : Int) : Option Int := qR Nl [Zk, Zk] n (a0, a1, ())
theorem Ru (n : Nat) (a0 a1) : YW n a0 a1 =
  bif decide (a1 < (1 : Int)) then some (0 : Int)
 else
 bif decide (a0 < (0 : Int)) then some (0 : Int)
 else if a1 = (0 : Int) then none else some ((K6.wrap (a0.tdiv (4 : Int))).tmod a1) := by kernel_rfl
def Ci : Yf := (140, Nm) :: L5
theorem Cj : Yg Ci := cons_cons Rt Id
def ZiY := FX.mk (false, false, [2, 5, 10, 20]) Ci [] [none] Tryz.f92 (shV ZA)
def ZiZ : Con := cR ZiY [Xf, Zk] true
theorem Zh4 : CO 92 ZiZ := ZI Cj
def WA (n : Nat) (a0 : Zi) (a1 : Int) : Option Bool := qR ZiY [Xf, Zk] n (a0, a1, ())
theorem Zh5 (n : Nat) (a0 a1) : WA n a0 a1 =
  bif decide ((0 : Int) < a0.1) then
 (ZB big a1 (0 : Int) (K6.wrap (a0.1 - (1 : Int)))).bind fun y =>
 bif y then
 bif decide (a1 < (7 : Int)) then
 if IntKind.u64.wrap a1 < (0 : Int) then none
 else
 some
 !decide
 ((Int.fdiv a0.2.2.1 ((2 : Int) ^ min (IntKind.u64.wrap a1).toNat K6.bits)).tmod
 (2 : Int) =
 (0 : Int))
 else some false
 else some false
 else some false := by kernel_rfl
def Zer : Yf := (92, ZiZ) :: Ci
theorem Rv : Yg Zer := cons_cons Zh4 Cj
def Ie := FX.mk (false, false, [2, 6, 13]) Zer [] [none] Tryz.f94 (shV ZA)
def If : Con := cR Ie [Xf, Zk] true
theorem OE : CO 94 If := ZI Rv
def XM (n : Nat) (a0 : Zi) (a1 : Int) : Option Bool := qR Ie [Xf, Zk] n (a0, a1, ())
theorem OF (n : Nat) (a0 a1) : XM n a0 a1 =
  (ZB big a1 (0 : Int) (K6.wrap ((↑(List.length a0.2.2.2.2.1) : Int) - (1 : Int)))).bind
 fun y =>
 bif y then
 (ZB big a1 (0 : Int) (K6.wrap (a0.1 - (1 : Int)))).bind fun y =>
 bif y then (WA big a0 a1).bind fun y => some !y else some false
 else some false := by kernel_rfl
def Ak : Yf := (94, If) :: Zer
theorem A3 : Yg Ak := cons_cons OE Rv
def Nn := FX.mk (false, false, [2, 3, 5, 7]) Ak [] [none] Tryz.f199 (shV Qc)
def No : Con := cR Nn [Qc, Qc] true
theorem Rw : CO 199 No := ZI A3
def YO (n : Nat) (a0 a1 : H5) : Option H5 := qR Nn [Qc, Qc] n (a0, a1, ())
theorem Rx (n : Nat) (a0 a1) : YO n a0 a1 =
  bif decide (a0.2.1 < a1.2.1) then some a1 else some a0 := by kernel_rfl
def Ck : Yf := (199, No) :: Ak
theorem Cl : Yg Ck := cons_cons Rw A3
abbrev Np : W0 := ([.drop, .is (.ptr 0 0), .is (.ptr 1 0), .is (.ptr 2 0), .ro Zc, .drop, .drop, .drop, .drop, .drop, .drop, .drop, .drop, .drop, .drop, .drop, .drop, .drop, .drop, .drop, .drop, .drop, .drop], [.vars (rp 14 Zc [.ro WE, .ro ZO, .ro WE, .ro Wx, .ro Z4, .ro ZN, .ro Zc]), .vars (rp 4 Zc []), .vars (rp 4 Zc [])])
def L6 := FX.mk (false, false, [1, 3, 5, 8, 15]) Ck [(3, Np)] [none] Tryz.f194 (shV Qc)
def Zc1 : Con := cR L6 [Yo] true
theorem Zes : CO 194 Zc1 := ZI Cl
def L7 (n : Nat) (a0 : Zw) : Option H5 := qR L6 [Yo] n (a0, ())
def Kn (n : Nat) (s4 aa ab ac ad ae af ag ah ai aj ak al am an : Int) (ao : WO) (ap : Z6) (aq : WO) (ar : Qd) (au : Wb) (av : Yh) (aw ax ay az ba bb bc bd be : Int) : Option H5 := rR L6 (zs [Yo]) 3 Np n (s4, ()) ((aa, ab, ac, ad, ae, af, ag, ah, ai, aj, ak, al, am, an, ao, ap, aq, ar, au, av, aw, ()), (ax, ay, az, ba, ()), (bb, bc, bd, be, ()), ())
theorem Zet (n : Nat) (a0) : L7 n a0 =
  Kn n (0 : Int) a0.1 a0.2.1 a0.2.2.1.1 a0.2.2.1.2.1 a0.2.2.1.2.2.1
 a0.2.2.1.2.2.2.1 a0.2.2.2.1.1 a0.2.2.2.1.2.1 a0.2.2.2.1.2.2.1
 a0.2.2.2.1.2.2.2.1 a0.2.2.2.2.1.1 a0.2.2.2.2.1.2.1
 a0.2.2.2.2.1.2.2.1 a0.2.2.2.2.1.2.2.2.1 a0.2.2.2.2.2.1
 a0.2.2.2.2.2.2.1 a0.2.2.2.2.2.2.2.1 a0.2.2.2.2.2.2.2.2.1
 a0.2.2.2.2.2.2.2.2.2.1 a0.2.2.2.2.2.2.2.2.2.2.1
 a0.2.2.2.2.2.2.2.2.2.2.2.1 (0 : Int) (0 : Int) (0 : Int) (0 : Int) a0.2.2.1.1
 a0.2.2.1.2.1 a0.2.2.1.2.2.1 a0.2.2.1.2.2.2.1 := by kernel_rfl
theorem Cm (n : Nat) (s4 aa ab ac ad ae af ag ah ai aj ak al am an ao ap aq ar au av aw ax ay az ba bb bc bd be) : Kn (n + 1) s4 aa ab ac ad ae af ag ah ai aj ak al am an ao ap aq ar au av aw ax ay az ba bb bc bd be =
  bif decide (s4 < (↑(List.length av) : Int)) then
 if (0 : Int) ≤ s4 then
 (nth av s4.toNat).bind fun y =>
 (YO big (bb, bc, bd, be, ()) y.2.2.2.2.2.1).bind fun y =>
 Kn n (K6.wrap (s4 + (1 : Int))) aa ab ac ad ae af ag ah ai aj ak
 al am an ao ap aq ar au av aw ax ay az ba y.1 y.2.1
 y.2.2.1 y.2.2.2.1
 else none
 else some (bb, bc, bd, be, PUnit.unit) := by kernel_rfl
def L8 : Yf := (194, Zc1) :: Ck
theorem Ig : Yg L8 := cons_cons Zes Cl
def Nq := FX.mk (false, false, [1, 3, 6]) L8 [] [some Vn] Tryz.f268 (shF Vn)
def Nr : Con := cR Nq [Xz] true
theorem Ry : CO 268 Nr := ZI Ig
def Ko (n : Nat) (a0 : ZL) : Option ZL := qR Nq [Xz] n (a0, ())
theorem Rz (n : Nat) (a0) : Ko n a0 =
  if (0 : Nat) + List.length a0.2.2.1 ≤ lim then some a0 else none := by kernel_rfl
def Cn : Yf := (268, Nr) :: L8
theorem Co : Yg Cn := cons_cons Ry Ig
abbrev Ih : W0 := ([.ro Zj, .drop, .drop, .own Zr, .ro Zc, .drop, .drop, .drop, .drop, .drop, .drop, .drop, .drop, .drop, .drop, .drop, .drop, .drop, .drop, .drop, .drop], [])
def F6 := FX.mk (true, false, []) Cn [(3, Ih)] [some Wl] Tryz.f265 (shF Wl)
def RA : Con := cR F6 [Zj] true
theorem ZaV : CO 265 RA := ZI Co
def F7 (n : Nat) (a0 : ZE) : Option ZE := qR F6 [Zj] n (a0, ())
def Qe (n : Nat) (s0 : ZE) (s3 : List Zt) (s4 : Int) : Option ZE := rR F6 (zs [Zj]) 3 Ih n (s0, s3, s4, ()) ()
theorem ZaW (n : Nat) (a0) : F7 n a0 =
  Qe n a0 [] (0 : Int) := by kernel_rfl
theorem UD (n : Nat) (s0 s3 s4) : Qe (n + 1) s0 s3 s4 =
  bif decide (s4 < (↑(List.length s0) : Int)) then
 if (0 : Int) ≤ s4 then
 (nth s0 s4.toNat).bind fun y =>
 (Ko big y).bind fun a =>
 if s3.length + [a].length ≤ lim then
 Qe n s0 (s3.append [a]) (K6.wrap (s4 + (1 : Int)))
 else none
 else none
 else some s3 := by kernel_rfl
def F8 : Yf := (265, RA) :: Cn
theorem EH : Yg F8 := cons_cons ZaV Co
abbrev Cp : W0 := ([.drop, .drop, .is (.ptr 0 0), .is (.ptr 1 0), .drop, .ro Zc, .drop, .drop, .drop, .drop, .drop, .drop, .drop, .drop, .drop, .drop, .drop, .drop, .drop, .drop, .drop, .drop, .drop, .drop, .drop, .drop, .drop, .drop, .drop, .drop, .drop, .drop, .drop, .drop, .drop, .drop, .drop, .drop, .drop, .drop, .drop, .drop, .drop, .drop, .drop, .drop, .drop, .drop, .drop, .drop, .drop, .drop], [.vars [.ro Zc, .ro Zc, .ro YA, .ro Zc, .ro Zc, .ro Zc, .ro Zc], .vars [.ro Zc, .ro Zc, .ro YA, .ro Zc, .ro Zc, .ro Zc, .ro Zc]])
def Al := FX.mk (false, false, [2, 3, 6, 8, 12, 14, 19, 21, 26, 29, 35, 41, 46]) F8 [(4, Cp)] [none] Tryz.f314 (shV ZA)
def Ii : Con := cR Al [Xz, Xz] true
theorem OG : CO 314 Ii := ZI EH
def Am (n : Nat) (a0 a1 : ZL) : Option Bool := qR Al [Xz, Xz] n (a0, a1, ())
def Vt (n : Nat) (s5 aa ab : Int) (ac : VY) (ad ae af ag ah ai : Int) (aj : VY) (ak al am an : Int) : Option Bool := rR Al (zs [Xz, Xz]) 4 Cp n (s5, ()) ((aa, ab, ac, ad, ae, af, ag, ()), (ah, ai, aj, ak, al, am, an, ()), ())
theorem OH (n : Nat) (a0 a1) : Am n a0 a1 =
  bif !decide (a0.1 = a1.1) then some false
 else
 bif !decide (a0.2.1 = a1.2.1) then some false
 else
 bif !eqD Qc a0.2.2.2.1 a1.2.2.2.1 then some false
 else
 bif !decide ((↑(List.length a0.2.2.1) : Int) = (↑(List.length a1.2.2.1) : Int)) then some false
 else
 Vt n (0 : Int) a0.1 a0.2.1 a0.2.2.1 a0.2.2.2.1.1 a0.2.2.2.1.2.1
 a0.2.2.2.1.2.2.1 a0.2.2.2.1.2.2.2.1 a1.1 a1.2.1 a1.2.2.1
 a1.2.2.2.1.1 a1.2.2.2.1.2.1 a1.2.2.2.1.2.2.1
 a1.2.2.2.1.2.2.2.1 := by kernel_rfl
theorem Kp (n : Nat) (s5 aa ab ac ad ae af ag ah ai aj ak al am an) : Vt (n + 1) s5 aa ab ac ad ae af ag ah ai aj ak al am an =
  bif decide (s5 < (↑(List.length ac) : Int)) then
 if (0 : Int) ≤ s5 then
 (nth ac s5.toNat).bind fun y =>
 if (0 : Int) ≤ s5 then
 (nth aj s5.toNat).bind fun a =>
 bif !eqD W1 y a then some false
 else
 Vt n (K6.wrap (s5 + (1 : Int))) aa ab ac ad ae af ag ah ai aj
 ak al am an
 else none
 else none
 else some true := by kernel_rfl
def An : Yf := (314, Ii) :: F8
theorem A4 : Yg An := cons_cons OG EH
abbrev Ij : W0 := ([.ro Zj, .drop, .drop, .is (.ptr 0 0), .drop, .ro Zc, .drop, .drop, .drop, .drop, .drop, .drop, .drop, .drop, .drop, .drop, .drop, .drop, .drop], [.vars [.ro Zc, .ro Zc, .ro YA, .ro Zc, .ro Zc, .ro Zc, .ro Zc]])
def F9 := FX.mk (false, false, [3]) An [(2, Ij)] [none] Tryz.f266 (shV Zk)
def RB : Con := cR F9 [Zj, Xz] true
theorem ZaX : CO 266 RB := ZI A4
def Ga (n : Nat) (a0 : ZE) (a1 : ZL) : Option Int := qR F9 [Zj, Xz] n (a0, a1, ())
def Qf (n : Nat) (s0 : ZE) (s5 aa ab : Int) (ac : VY) (ad ae af ag : Int) : Option Int := rR F9 (zs [Zj, Xz]) 2 Ij n (s0, s5, ()) ((aa, ab, ac, ad, ae, af, ag, ()), ())
theorem ZaY (n : Nat) (a0 a1) : Ga n a0 a1 =
  Qf n a0 (0 : Int) a1.1 a1.2.1 a1.2.2.1 a1.2.2.2.1.1 a1.2.2.2.1.2.1
 a1.2.2.2.1.2.2.1 a1.2.2.2.1.2.2.2.1 := by kernel_rfl
theorem A5 (n : Nat) (s0 s5 aa ab ac ad ae af ag) : Qf (n + 1) s0 s5 aa ab ac ad ae af ag =
  bif decide (s5 < (↑(List.length s0) : Int)) then
 if (0 : Int) ≤ s5 then
 (nth s0 s5.toNat).bind fun y =>
 (Am big y (aa, ab, ac, (ad, ae, af, ag, ()), ())).bind fun y =>
 bif y then some s5
 else Qf n s0 (K6.wrap (s5 + (1 : Int))) aa ab ac ad ae af ag
 else none
 else some (-1 : Int) := by kernel_rfl
def Gb : Yf := (266, RB) :: An
theorem EI : Yg Gb := cons_cons ZaX A4
abbrev RC : W0 := ([.ro Zf, .drop, .drop, .ro Zc, .drop, .drop, .drop, .drop, .drop, .drop, .drop, .drop, .drop, .drop, .drop, .drop, .drop, .drop, .drop, .drop, .drop, .drop, .drop], [])
def RD := FX.mk (false, false, []) Gb [(2, RC)] [none] Tryz.f66 (shV ZA)
def Zga : Con := cR RD [Zf] true
theorem Zgb : CO 66 Zga := ZI EI
def JC (n : Nat) (a0 : ByteArray) : Option Bool := qR RD [Zf] n (a0, ())
def QI (n : Nat) (s0 : ByteArray) (s3 : Int) : Option Bool := rR RD (zs [Zf]) 2 RC n (s0, s3, ()) ()
theorem Ns (n : Nat) (a0) : JC n a0 =
  QI n a0 (0 : Int) := by kernel_rfl
theorem Ud (n : Nat) (s0 s3) : QI (n + 1) s0 s3 =
  bif decide (s3 < (↑s0.size : Int)) then
 if (0 : Int) ≤ s3 then
 (nth s0.data.toList s3.toNat).bind fun y =>
 bif decide ((↑y.toNat : Int) < (97 : Int)) then some false
 else
 if (0 : Int) ≤ s3 then
 (nth s0.data.toList s3.toNat).bind fun y =>
 bif decide ((122 : Int) < (↑y.toNat : Int)) then some false
 else QI n s0 (K6.wrap (s3 + (1 : Int)))
 else none
 else none
 else (ZB big (↑s0.size : Int) (1 : Int) (3 : Int)).bind fun y => some y := by kernel_rfl
def RE : Yf := (66, Zga) :: Gb
theorem Nt : Yg RE := cons_cons Zgb EI
def Zgc := FX.mk (false, false, [1, 3, 7, 12]) RE [] [none] Tryz.f38 (shV ZA)
def Zgd : Con := cR Zgc [W1] true
theorem Zge : CO 38 Zgd := ZI Nt
def QJ (n : Nat) (a0 : VX) : Option Bool := qR Zgc [W1] n (a0, ())
theorem Nu (n : Nat) (a0) : QJ n a0 =
  (ZB big a0.1 (1 : Int) (3 : Int)).bind fun y =>
 bif y then
 (JC big a0.2.1).bind fun y =>
 bif y then (ZB big a0.2.2.1 (0 : Int) (1000000000 : Int)).bind fun y => some y else some false
 else some false := by kernel_rfl
def RF : Yf := (38, Zgd) :: RE
theorem Nv : Yg RF := cons_cons Zge Nt
abbrev Ik : W0 := ([.ro Zj, .drop, .drop, .is (.ptr 0 0), .drop, .ro Zc, .drop, .drop, .drop, .drop, .drop, .drop, .drop, .drop, .drop, .drop, .drop, .drop, .drop, .drop, .drop, .drop, .drop, .drop, .drop, .drop, .drop, .drop, .drop, .drop, .drop, .drop, .drop, .drop, .drop, .drop, .drop, .drop, .drop, .drop, .drop, .drop, .drop, .drop, .drop, .drop, .drop, .drop, .drop, .drop, .drop, .drop, .drop, .drop, .drop, .drop, .drop, .drop, .drop, .drop, .drop, .drop, .drop, .drop, .drop, .drop, .drop], [.vars [.ro Zc, .ro Zc, .ro YA, .ro Zc, .ro Zc, .ro Zc, .ro Zc]])
def Gc := FX.mk (false, false, [3, 6, 14, 17, 25, 30, 36, 42, 49, 50, 52, 56, 57, 60]) RF [(4, Ik)] [none] Tryz.f267 (shV ZA)
def RG : Con := cR Gc [Zj, Xz] true
theorem ZaZ : CO 267 RG := ZI Nv
def Gd (n : Nat) (a0 : ZE) (a1 : ZL) : Option Bool := qR Gc [Zj, Xz] n (a0, a1, ())
def Qg (n : Nat) (s0 : ZE) (s5 aa ab : Int) (ac : VY) (ad ae af ag : Int) : Option Bool := rR Gc (zs [Zj, Xz]) 4 Ik n (s0, s5, ()) ((aa, ab, ac, ad, ae, af, ag, ()), ())
theorem Za0 (n : Nat) (a0 a1) : Gd n a0 a1 =
  (ZB big a1.1 (0 : Int) (K6.wrap ((↑(List.length a0) : Int) - (1 : Int)))).bind fun y =>
 bif !y then some false
 else
 if (0 : Int) ≤ a1.1 then
 (nth a0 (Int.toNat a1.1)).bind fun y =>
 bif decide (a1.2.1 ≤ y.2.1) then some false
 else
 bif decide ((900 : Int) < a1.2.1) then some false
 else
 bif decide ((4 : Int) < (↑(List.length a1.2.2.1) : Int)) then some false
 else
 Qg n a0 (0 : Int) a1.1 a1.2.1 a1.2.2.1 a1.2.2.2.1.1
 a1.2.2.2.1.2.1 a1.2.2.2.1.2.2.1 a1.2.2.2.1.2.2.2.1
 else none := by kernel_rfl
theorem A6 (n : Nat) (s0 s5 aa ab ac ad ae af ag) : Qg (n + 1) s0 s5 aa ab ac ad ae af ag =
  bif decide (s5 < (↑(List.length ac) : Int)) then
 if (0 : Int) ≤ s5 then
 (nth ac s5.toNat).bind fun y =>
 (QJ big y).bind fun y =>
 bif !y then some false
 else Qg n s0 (K6.wrap (s5 + (1 : Int))) aa ab ac ad ae af ag
 else none
 else
 bif decide (af = aa) then
 if (0 : Int) ≤ aa then (nth s0 aa.toNat).bind fun y => some (decide (ae = y.2.1)) else none
 else some false := by kernel_rfl
def Ge : Yf := (267, RG) :: RF
theorem EJ : Yg Ge := cons_cons ZaZ Nv
def Nw := FX.mk (true, false, [3]) Ge [] [some Wl, none] Tryz.f195 (shT [(true, Wl), (false, Zk)])
def Nx : Con := cR Nw [Zj, Xz] true
theorem RH : CO 195 Nx := ZI EJ
def XH (n : Nat) (a0 : ZE) (a1 : ZL) : Option (ZE × Int × Unit) := qR Nw [Zj, Xz] n (a0, a1, ())
theorem RI (n : Nat) (a0 a1) : XH n a0 a1 =
  (F7 big a0).bind fun y =>
 (Ga big a0 a1).bind fun a =>
 bif decide ((0 : Int) ≤ a) then some (y, a, PUnit.unit)
 else
 (Gd big a0 a1).bind fun c =>
 bif !c then some (y, (-1 : Int), PUnit.unit)
 else
 bif decide ((60 : Int) ≤ (↑(List.length a0) : Int)) then some (y, (-1 : Int), PUnit.unit)
 else
 (Ko big a1).bind fun b =>
 if List.length y + [b].length ≤ lim then
 some (List.append y [b], (↑(List.length a0) : Int), PUnit.unit)
 else none := by kernel_rfl
def Cq : Yf := (195, Nx) :: Ge
theorem Cr : Yg Cq := cons_cons RH EJ
def RJ := FX.mk (false, false, [1, 3, 6, 11, 16, 21, 26, 31]) Cq [] [some ZQ] Tryz.f196 (shF ZQ)
def RK : Con := cR RJ [Yo] true
theorem Za1 : CO 196 RK := ZI Cr
def YS (n : Nat) (a0 : Zw) : Option Zw := qR RJ [Yo] n (a0, ())
theorem Za2 (n : Nat) (a0) : YS n a0 =
  if (0 : Nat) + List.length a0.2.2.2.2.2.1 ≤ lim then
 if (0 : Nat) + List.length a0.2.2.2.2.2.2.1 ≤ lim then
 if (0 : Nat) + List.length a0.2.2.2.2.2.2.2.1 ≤ lim then
 if (0 : Nat) + List.length a0.2.2.2.2.2.2.2.2.1 ≤ lim then
 if (0 : Nat) + List.length a0.2.2.2.2.2.2.2.2.2.1 ≤ lim then
 if (0 : Nat) + List.length a0.2.2.2.2.2.2.2.2.2.2.1 ≤ lim then some a0 else none
 else none
 else none
 else none
 else none
 else none := by kernel_rfl
def Gf : Yf := (196, RK) :: Cq
theorem EK : Yg Gf := cons_cons Za1 Cr
def Zc2 := FX.mk (false, false, [5, 10, 15, 20, 29, 34, 39]) Gf [] [none] Tryz.f269 (shV ZA)
def Zc3 : Con := cR Zc2 [Zj, Zk, Z8] true
theorem Zeu : CO 269 Zc3 := ZI EK
def Ec (n : Nat) (a0 : ZE) (a1 : Int) (a2 : Z3) : Option Bool := qR Zc2 [Zj, Zk, Z8] n (a0, a1, a2, ())
theorem Zev (n : Nat) (a0 a1 a2) : Ec n a0 a1 a2 =
  (ZB big a1 (1 : Int) (7 : Int)).bind fun y =>
 bif y then
 (ZB big a2.1 (1 : Int) (4 : Int)).bind fun y =>
 bif y then
 (ZB big a2.2.1 (1 : Int) (900 : Int)).bind fun y =>
 bif y then
 (ZB big a2.2.2.1 (1 : Int) (K6.wrap ((↑(List.length a0) : Int) - (1 : Int)))).bind
 fun y =>
 bif y then
 if (0 : Int) ≤ a2.2.2.1 then
 (nth a0 (Int.toNat a2.2.2.1)).bind fun y =>
 bif decide (y.2.1 = a2.2.1) then
 (ZB big a2.2.2.2.1 (0 : Int) (K6.wrap (a1 - (1 : Int)))).bind fun y =>
 some y
 else some false
 else none
 else some false
 else some false
 else some false
 else some false := by kernel_rfl
def L9 : Yf := (269, Zc3) :: Gf
theorem Il : Yg L9 := cons_cons Zeu EK
def RL := FX.mk (false, false, [5, 12, 14, 16, 21, 29]) L9 [] [none] Tryz.f220 (shV ZA)
def RM : Con := cR RL [Zj, Zk, Qc] true
theorem Za3 : CO 220 RM := ZI Il
def Xr (n : Nat) (a0 : ZE) (a1 : Int) (a2 : H5) : Option Bool := qR RL [Zj, Zk, Qc] n (a0, a1, a2, ())
theorem Za4 (n : Nat) (a0 a1 a2) : Xr n a0 a1 a2 =
  bif eqD Qc a2 ((0 : Int), (0 : Int), (0 : Int), (0 : Int), ()) then some true
 else
 (Ec big a0 a1 (a2.1, a2.2.1, a2.2.2.1, (0 : Int), ())).bind fun y =>
 bif !y then some false
 else
 if IntKind.u64.wrap a1 < (0 : Int) then none
 else
 (ZB big a2.2.2.2.1 (0 : Int)
 (K6.wrap
 (K6.wrap ((1 : Int) * (2 : Int) ^ min (IntKind.u64.wrap a1).toNat K6.bits) -
 (1 : Int)))).bind
 fun y =>
 bif y then
 (YB big a2.2.2.2.1).bind fun y =>
 (Vd big a1).bind fun a => some (decide (a ≤ y))
 else some false := by kernel_rfl
def Gg : Yf := (220, RM) :: L9
theorem EL : Yg Gg := cons_cons Za3 Il
def RN := FX.mk (false, false, [2, 5, 9]) Gg [] [some ZQ] Tryz.f204 (shF ZQ)
def RO : Con := cR RN [Yo, Zk] true
theorem Za5 : CO 204 RO := ZI EL
def XN (n : Nat) (a0 : Zw) (a1 : Int) : Option Zw := qR RN [Yo, Zk] n (a0, a1, ())
theorem Za6 (n : Nat) (a0 a1) : XN n a0 a1 =
  (YS big a0).bind fun y =>
 bif decide (a0.2.1 < a1) then
 bif decide (a1 ≤ (900 : Int)) then
 some
 (y.1, a1, y.2.2.1, y.2.2.2.1, y.2.2.2.2.1, y.2.2.2.2.2.1,
 y.2.2.2.2.2.2.1, y.2.2.2.2.2.2.2.1, y.2.2.2.2.2.2.2.2.1, [],
 [], y.2.2.2.2.2.2.2.2.2.2.2)
 else some y
 else some y := by kernel_rfl
def Gh : Yf := (204, RO) :: Gg
theorem EM : Yg Gh := cons_cons Za5 EL
abbrev Ny : W0 := ([.ro Z4, .drop, .drop, .is (.ptr 0 0), .drop, .ro Zc, .drop, .drop, .drop, .drop, .drop, .drop, .drop, .drop, .drop, .drop, .drop, .drop, .drop, .drop, .drop, .drop, .drop, .drop, .drop, .drop, .drop, .drop, .drop, .drop, .drop, .drop, .drop, .drop, .drop, .drop, .drop, .drop, .drop, .drop], [.vars (rp 4 Zc [])])
def Ma := FX.mk (false, false, [3, 17, 26, 36]) Gh [(2, Ny)] [none] Tryz.f337 (shV ZA)
def Zc4 : Con := cR Ma [Z4, Z8] true
theorem Zew : CO 337 Zc4 := ZI EM
def Mb (n : Nat) (a0 : Wb) (a1 : Z3) : Option Bool := qR Ma [Z4, Z8] n (a0, a1, ())
def Ve (n : Nat) (s0 : Wb) (s5 aa ab ac ad : Int) : Option Bool := rR Ma (zs [Z4, Z8]) 2 Ny n (s0, s5, ()) ((aa, ab, ac, ad, ()), ())
theorem Zex (n : Nat) (a0 a1) : Mb n a0 a1 =
  Ve n a0 (0 : Int) a1.1 a1.2.1 a1.2.2.1 a1.2.2.2.1 := by kernel_rfl
theorem Cs (n : Nat) (s0 s5 aa ab ac ad) : Ve (n + 1) s0 s5 aa ab ac ad =
  bif decide (s5 < (↑(List.length s0) : Int)) then
 if (0 : Int) ≤ s5 then
 (nth s0 s5.toNat).bind fun y =>
 bif decide (y.2.2.2.1 = ad) then
 if (0 : Int) ≤ s5 then
 (nth s0 s5.toNat).bind fun y =>
 bif decide (y.1 = aa) then
 if (0 : Int) ≤ s5 then
 (nth s0 s5.toNat).bind fun y =>
 bif decide (y.2.1 = ab) then some true
 else Ve n s0 (K6.wrap (s5 + (1 : Int))) aa ab ac ad
 else none
 else Ve n s0 (K6.wrap (s5 + (1 : Int))) aa ab ac ad
 else none
 else Ve n s0 (K6.wrap (s5 + (1 : Int))) aa ab ac ad
 else none
 else some false := by kernel_rfl
def Mc : Yf := (337, Zc4) :: Gh
theorem In : Yg Mc := cons_cons Zew EM
abbrev Ct : W0 := ([.ro Z4, .ro Zc, .ro Zc, .ro Zc, .drop, .drop, .drop, .drop, .drop, .ro Zc, .ro Zc, .drop, .drop, .drop, .drop, .drop, .drop, .drop, .drop, .drop, .drop, .drop, .drop, .drop, .drop, .drop, .drop, .drop, .drop, .drop, .drop, .drop, .drop, .drop, .drop, .drop, .drop, .drop, .drop, .drop, .drop, .drop, .drop, .drop, .drop, .drop, .drop, .drop, .drop, .drop, .drop, .drop, .drop, .drop, .drop], [])
abbrev Cu : W0 := ([.ro Z4, .ro Zc, .ro Zc, .ro Zc, .drop, .drop, .drop, .drop, .drop, .ro Zc, .ro Zc, .ro Zc, .drop, .drop, .drop, .drop, .drop, .drop, .drop, .drop, .drop, .drop, .drop, .drop, .drop, .drop, .drop, .drop, .drop, .drop, .drop, .drop, .drop, .drop, .drop, .drop, .drop, .drop, .drop, .drop, .drop, .drop, .drop, .drop, .drop, .drop, .drop, .drop, .drop, .drop, .drop, .drop, .drop, .drop, .drop], [])
def Qh := FX.mk (false, false, [12, 27, 32, 38, 44]) Mc [(3, Ct), (6, Cu)] [none] Tryz.f283 (shV Zk)
def Io : Con := cR Qh [Z4, Zk, Zk, Zk] true
theorem OI : CO 283 Io := ZI In
def XO (n : Nat) (a0 : Wb) (a1 a2 a3 : Int) : Option Int := qR Qh [Z4, Zk, Zk, Zk] n (a0, a1, a2, a3, ())
def Wp (n : Nat) (s0 : Wb) (s1 s2 s3 s9 s10 : Int) : Option Int := rR Qh (zs [Z4, Zk, Zk, Zk]) 3 Ct n (s0, s1, s2, s3, s9, s10, ()) ()
def YX (n : Nat) (s0 : Wb) (s1 s2 s3 s9 s10 s11 : Int) : Option Int := rR Qh (zs [Z4, Zk, Zk, Zk]) 6 Cu n (s0, s1, s2, s3, s9, s10, s11, ()) ()
theorem OJ (n : Nat) (a0 a1 a2 a3) : XO n a0 a1 a2 a3 =
  Wp n a0 a1 a2 a3 (0 : Int) (0 : Int) := by kernel_rfl
theorem Kq (n : Nat) (s0 s1 s2 s3 s9 s10) : Wp (n + 1) s0 s1 s2 s3 s9 s10 =
  bif decide (s10 < (7 : Int)) then YX n s0 s1 s2 s3 s9 s10 (0 : Int) else some s9 := by kernel_rfl
theorem Kr (n : Nat) (s0 s1 s2 s3 s9 s10 s11) : YX (n + 1) s0 s1 s2 s3 s9 s10 s11 =
  bif decide (s11 < (↑(List.length s0) : Int)) then
 if (0 : Int) ≤ s11 then
 (nth s0 s11.toNat).bind fun y =>
 bif decide (y.2.2.2.1 = s10) then
 bif decide (y.1 = s1) then
 bif decide (y.2.1 = s2) then
 bif decide (y.2.2.1 = s3) then
 if IntKind.u64.wrap s10 < (0 : Int) then none
 else
 Wp n s0 s1 s2 s3
 (K6.wrap
 (s9 +
 K6.wrap ((1 : Int) * (2 : Int) ^ min (IntKind.u64.wrap s10).toNat K6.bits)))
 (K6.wrap (s10 + (1 : Int)))
 else YX n s0 s1 s2 s3 s9 s10 (K6.wrap (s11 + (1 : Int)))
 else YX n s0 s1 s2 s3 s9 s10 (K6.wrap (s11 + (1 : Int)))
 else YX n s0 s1 s2 s3 s9 s10 (K6.wrap (s11 + (1 : Int)))
 else YX n s0 s1 s2 s3 s9 s10 (K6.wrap (s11 + (1 : Int)))
 else none
 else Wp n s0 s1 s2 s3 s9 (K6.wrap (s10 + (1 : Int))) := by kernel_rfl
def Ao : Yf := (283, Io) :: Mc
theorem A7 : Yg Ao := cons_cons OI In
def Zi0 := FX.mk (false, false, [12, 22]) Ao [] [none, none] Tryz.f218 (shT [(false, Qc), (false, ZA)])
def Zi1 : Con := cR Zi0 [Z4, Zk, Zk, Zk, Zk] true
theorem Zh6 : CO 218 Zi1 := ZI A7
def Ap (n : Nat) (a0 : Wb) (a1 a2 a3 a4 : Int) : Option (H5 × Bool × Unit) := qR Zi0 [Z4, Zk, Zk, Zk, Zk] n (a0, a1, a2, a3, a4, ())
theorem Zh7 (n : Nat) (a0 a1 a2 a3 a4) : Ap n a0 a1 a2 a3 a4 =
  (XO big a0 a1 a2 a3).bind fun y =>
 (YB big y).bind fun a =>
 (Vd big a4).bind fun b =>
 bif decide (a < b) then some (((0 : Int), (0 : Int), (0 : Int), (0 : Int), PUnit.unit), false, PUnit.unit)
 else some ((a1, a2, a3, y, PUnit.unit), true, PUnit.unit) := by kernel_rfl
def Zey : Yf := (218, Zi1) :: Ao
theorem RP : Yg Zey := cons_cons Zh6 A7
def Zgf := FX.mk (false, false, [5, 8, 9, 11, 13, 16, 23]) Zey [] [none] Tryz.f206 (shV ZJ)
def Nz : Con := cR Zgf [Yo, Zk, Zk, Qc, Z8] true
theorem RQ : CO 206 Nz := ZI RP
def Cv : Yf := (206, Nz) :: Zey
theorem Cw : Yg Cv := cons_cons RQ RP
def RR := FX.mk (false, false, [3, 7, 8, 13, 14, 19, 20]) Cv [] [none] Tryz.f200 (shV ZA)
def RS : Con := cR RR [Yo, Zk, Zk] true
theorem Za7 : CO 200 RS := ZI Cw
def VZ (n : Nat) (a0 : Zw) (a1 a2 : Int) : Option Bool := qR RR [Yo, Zk, Zk] n (a0, a1, a2, ())
theorem Za8 (n : Nat) (a0 a1 a2) : VZ n a0 a1 a2 = bif decide (a0.2.2.2.2.1.2.1 < a2) then some true else bif decide (a0.2.2.2.2.1.2.1 = a2) then some (decide (a0.2.2.2.2.1.1 < a1)) else some false := by kernel_rfl
def Gi : Yf := (200, RS) :: Cv
theorem EN : Yg Gi := cons_cons Za7 Cw
abbrev EO : W0 := (.ro Zj :: .ro Zc :: dp 3 (.ro Zc :: dp 30 []), [])
def Cx := FX.mk (false, false, []) Gi [(2, EO)] [none] Tryz.f316 (shV Zk)
def NA : Con := cR Cx [Zj, Zk] true
theorem RT : CO 316 NA := ZI EN
def Ur (n : Nat) (a0 : ZE) (a1 : Int) : Option Int := qR Cx [Zj, Zk] n (a0, a1, ())
def Ue (n : Nat) (s0 : ZE) (s1 s5 : Int) : Option Int := rR Cx (zs [Zj, Zk]) 2 EO n (s0, s1, s5, ()) ()
theorem RU (n : Nat) (a0 a1) : Ur n a0 a1 = Ue n a0 a1 0 := by kernel_rfl
theorem V0 (n : Nat) (s0 s1 s5) : Ue (n + 1) s0 s1 s5 = bif !decide (s1 = 0) then (ZB big s1 0 (K6.wrap ((↑(List.length s0) : Int) - 1))).bind fun y => bif !y then some (-1) else if 0 ≤ s1 then (nth s0 s1.toNat).bind fun y => (ZB big y.1 0 (K6.wrap (s1 - 1))).bind fun y => bif !y then some (-1) else if 0 ≤ s1 then (nth s0 s1.toNat).bind fun y => Ue n s0 y.1 (K6.wrap (s5 + 1)) else none else none else bif decide ((↑(List.length s0) : Int) = 0) then some (-1) else some s5 := by kernel_rfl
def Cy : Yf := (316, NA) :: Gi
theorem Cz : Yg Cy := cons_cons RT EN
abbrev Ip : W0 := (.ro Zj :: .ro Zc :: .ro Zc :: dp 23 [], [])
def Gj := FX.mk (false, false, []) Cy [(3, Ip)] [none] Tryz.f272 (shV ZA)
def RV : Con := cR Gj [Zj, Zk, Zk] true
theorem Za9 : CO 272 RV := ZI Cz
def QK (n : Nat) (a0 : ZE) (a1 a2 : Int) : Option Bool := qR Gj [Zj, Zk, Zk] n (a0, a1, a2, ())
def Qi (n : Nat) (s0 : ZE) (s1 s2 : Int) : Option Bool := rR Gj (zs [Zj, Zk, Zk]) 3 Ip n (s0, s1, s2, ()) ()
theorem Zba (n : Nat) (a0 a1 a2) : QK n a0 a1 a2 = (Ur big a0 a1).bind fun y => bif decide (y < 0) then some false else Qi n a0 a1 a2 := by kernel_rfl
theorem A8 (n : Nat) (s0 s1 s2) : Qi (n + 1) s0 s1 s2 = bif decide (0 < s1) then bif !decide (s1 = s2) then if 0 ≤ s1 then (nth s0 s1.toNat).bind fun y => Qi n s0 y.1 s2 else none else some (decide (s1 = s2)) else some (decide (s1 = s2)) := by kernel_rfl
def Gk : Yf := (272, RV) :: Cy
theorem EP : Yg Gk := cons_cons Za9 Cz
def Iq := FX.mk (false, false, [4, 15, 25]) Gk [] [none] Tryz.f201 (shV ZA)
def Ir : Con := cR Iq [Zj, Qc, Zk] true
theorem OK : CO 201 Ir := ZI EP
def Qj (n : Nat) (a0 : ZE) (a1 : H5) (a2 : Int) : Option Bool := qR Iq [Zj, Qc, Zk] n (a0, a1, a2, ())
theorem OL (n : Nat) (a0 a1 a2) : Qj n a0 a1 a2 = (ZB big a2 0 (K6.wrap ((↑(List.length a0) : Int) - 1))).bind fun y => bif !y then some false else (QK big a0 a2 a1.2.2.1).bind fun y => bif y then some true else if 0 ≤ a2 then (nth a0 a2.toNat).bind fun y => some (decide (a1.2.1 < y.2.2.2.1.2.1)) else none := by kernel_rfl
def Aq : Yf := (201, Ir) :: Gk
theorem A9 : Yg Aq := cons_cons OK EP
def NB := FX.mk (false, false, []) Aq [] [none, none, none, none] Tryz.f273 (shT [(false, Zk), (false, Zk), (false, Zk), (false, ZA)])
def NC : Con := cR NB [Zj, Zk] true
theorem RW : CO 273 NC := ZI A9
def Ks (n : Nat) (a0 : ZE) (a1 : Int) : Option (Int × Int × Int × Bool × Unit) := qR NB [Zj, Zk] n (a0, a1, ())
theorem RX (n : Nat) (a0 a1) : Ks n a0 a1 = (Ur big a0 a1).bind fun y => bif decide (y < 1) then some (0, 0, 0, false, ()) else if 0 ≤ a1 then (nth a0 a1.toNat).bind fun y => (ZB big y.2.2.2.1.2.2.1 0 (K6.wrap (a1 - 1))).bind fun d => bif !d then some (0, 0, 0, false, ()) else if 0 ≤ y.2.2.2.1.2.2.1 then (nth a0 (Int.toNat y.2.2.2.1.2.2.1)).bind fun a => (ZB big a.2.2.2.1.2.2.1 0 (K6.wrap ((↑(List.length a0) : Int) - 1))).bind fun e => bif !e then some (0, 0, 0, false, ()) else if 0 ≤ a.2.2.2.1.2.2.1 then (nth a0 (Int.toNat a.2.2.2.1.2.2.1)).bind fun b => (ZB big b.2.2.2.1.2.2.1 0 (K6.wrap ((↑(List.length a0) : Int) - 1))).bind fun c => bif !c then some (0, 0, 0, false, ()) else some (y.2.2.2.1.2.2.1, a.2.2.2.1.2.2.1, b.2.2.2.1.2.2.1, true, ()) else none else none else none := by kernel_rfl
def CA : Yf := (273, NC) :: Aq
theorem CB : Yg CA := cons_cons RW A9
def RY := FX.mk (false, false, []) CA [] [none] Tryz.f276 (shV ZA)
def RZ : Con := cR RY [Zj, Zk, Zk] true
theorem Zbb : CO 276 RZ := ZI CB
def QL (n : Nat) (a0 : ZE) (a1 a2 : Int) : Option Bool := qR RY [Zj, Zk, Zk] n (a0, a1, a2, ())
theorem Zbc (n : Nat) (a0 a1 a2) : QL n a0 a1 a2 = bif !decide (a1 = 0) then bif !decide (a2 = 0) then if 0 ≤ a1 then (nth a0 a1.toNat).bind fun y => if 0 ≤ a2 then (nth a0 a2.toNat).bind fun a => some (decide (y.2.1 = K6.wrap (a.2.1 + 1))) else none else none else some false else some false := by kernel_rfl
def Gl : Yf := (276, RZ) :: CA
theorem EQ : Yg Gl := cons_cons Zbb CB
def ND := FX.mk (false, false, []) Gl [] [none, none] Tryz.f274 (shT [(false, Zk), (false, ZA)])
def NE : Con := cR ND [Zj, Zk] true
theorem R0 : CO 274 NE := ZI EQ
def CC (n : Nat) (a0 : ZE) (a1 : Int) : Option (Int × Bool × Unit) := qR ND [Zj, Zk] n (a0, a1, ())
theorem R1 (n : Nat) (a0 a1) : CC n a0 a1 = (Ks big a0 a1).bind fun y => bif !y.2.2.2.1 then some (0, false, ()) else (QL big a0 y.1 y.2.1).bind fun a => bif !a then some (0, false, ()) else if 0 ≤ y.2.1 then (nth a0 (Int.toNat y.2.1)).bind fun c => if 0 ≤ y.2.2.1 then (nth a0 (Int.toNat y.2.2.1)).bind fun b => bif !decide (c.2.1 = K6.wrap (b.2.1 + 1)) then some (0, false, ()) else some (y.2.2.1, true, ()) else none else none := by kernel_rfl
def CD : Yf := (274, NE) :: Gl
theorem CE : Yg CD := cons_cons R0 EQ
def Zgg := FX.mk (false, false, [3, 7, 11, 15, 17, 21, 28, 35, 36, 38]) CD [] [none] Tryz.f95 (shV ZA)
def Zgh : Con := cR Zgg [Yo, Zk, ZA] true
theorem Zgi : CO 95 Zgh := ZI CE
def Is (n : Nat) (a0 : Zw) (a1 : Int) (a2 : Bool) : Option Bool := qR Zgg [Yo, Zk, ZA] n (a0, a1, a2, ())
theorem Zgj (n : Nat) (a0 a1 a2) : Is n a0 a1 a2 =
  (YW big a0.2.1 a1).bind fun y =>
 bif !decide (y = a0.1) then some false
 else
 bif decide (a0.2.1 ≤ a0.2.2.2.2.2.2.2.2.2.2.2.1) then some false
 else
 (Vd big a1).bind fun y =>
 bif decide (y ≤ (↑(List.length a0.2.2.2.2.2.2.2.2.2.2.1) : Int)) then some true
 else
 bif decide (a0.2.1 = (1 : Int)) then some true
 else
 bif a2 then some (decide (a0.2.2.1.2.1 = K6.wrap (a0.2.1 - (1 : Int))))
 else some false := by kernel_rfl
def R3 : Yf := (95, Zgh) :: CD
theorem NF : Yg R3 := cons_cons Zgi CE
def Zbd := FX.mk (false, false, []) R3 [] [some Vn] Tryz.f113 (shF Vn)
def ER : Con := cR Zbd [] true
theorem Md : CO 113 ER := ZI NF
def KZ : Yf := (113, ER) :: R3
theorem JD : Yg KZ := cons_cons Md NF
def Zh8 := FX.mk (true, false, []) KZ [] [some Wl] Tryz.f64 (shF Wl)
def R4 : Con := cR Zh8 [] true
theorem Zbe : CO 64 R4 := ZI JD
def Gm : Yf := (64, R4) :: KZ
theorem ES : Yg Gm := cons_cons Zbe JD
def Zh9 := FX.mk (false, false, []) Gm [] [some ZQ] Tryz.f65 (shF ZQ)
def R5 : Con := cR Zh9 [Zk] true
theorem Zbf : CO 65 R5 := ZI ES
def Gn : Yf := (65, R5) :: Gm
theorem ET : Yg Gn := cons_cons Zbf ES
abbrev Bc : W0 := ([.ro Zc, .drop, .drop, .drop, .drop, .drop, .is (.ptr 0 0), .drop, .is (.ptr 2 0), .ro Zc, .drop, .drop, .drop, .drop, .drop, .drop, .drop, .drop, .drop, .drop, .drop, .drop, .drop, .drop, .drop, .drop, .drop, .drop, .drop, .drop, .drop, .drop, .drop, .drop, .drop, .drop, .drop, .drop, .drop, .drop, .drop, .drop, .drop, .drop, .drop, .drop, .drop, .drop], [.vars [.ro Zc, .ro ZA, .ro Zc, .own Vn, .own ZQ, .own ZJ, .own Z8, .own W1], .drop, .vars [.ro Zc, .ro ZA, .ro Zc, .own Zr, .own ZQ, .own ZJ, .own Z8, .own W1]])
def K2 := FX.mk (true, false, [8, 40]) Gn [(5, Bc)] [some Zz, none] Tryz.f34 (shT [(true, Zz), (false, ZA)])
def EU : Con := cR K2 [Zk, ZA, Zk] true
theorem Me : CO 34 EU := ZI ET
def Xa (n : Nat) (a0 : Int) (a1 : Bool) (a2 : Int) : Option (Zi × Bool × Unit) := qR K2 [Zk, ZA, Zk] n (a0, a1, a2, ())
def XV (n : Nat) (s0 s9 aa : Int) (ab : Bool) (ac : Int) (ad : List ZL) (ae : List Zw) (af : List Zo) (ag : List Z3) (ah : List VX) (ai : Int) (aj : Bool) (ak : Int) (al : List Zt) (am : List Zw) (an : List Zo) (ao : List Z3) (ap : List VX) : Option (Zi × Bool × Unit) := rR K2 (zs [Zk, ZA, Zk]) 5 Bc n (s0, s9, ()) ((aa, ab, ac, ad, ae, af, ag, ah, ()), (ai, aj, ak, al, am, an, ao, ap, ()), ())
theorem JE (n : Nat) (a0 a1 a2) : Xa n a0 a1 a2 =
  (ZB big a0 (1 : Int) (7 : Int)).bind fun y =>
 bif !y then some (((0 : Int), false, (0 : Int), [], [], [], [], [], PUnit.unit), false, PUnit.unit)
 else
 if IntKind.u64.wrap a0 < (0 : Int) then none
 else
 (ZB big a2 (0 : Int)
 (K6.wrap
 (K6.wrap ((1 : Int) * (2 : Int) ^ min (IntKind.u64.wrap a0).toNat K6.bits) -
 (1 : Int)))).bind
 fun y =>
 bif !y then some (((0 : Int), false, (0 : Int), [], [], [], [], [], PUnit.unit), false, PUnit.unit)
 else
 (YB big a2).bind fun y =>
 (Qw big a0).bind fun a =>
 bif decide (a < y) then
 some (((0 : Int), false, (0 : Int), [], [], [], [], [], PUnit.unit), false, PUnit.unit)
 else
 XV n a0 (0 : Int) (0 : Int) false (0 : Int) [] [] [] [] [] a0 a1 a2
 [((-1 : Int), (0 : Int), [], ((0 : Int), (0 : Int), (0 : Int), (0 : Int), PUnit.unit), PUnit.unit)]
 [] [] [] [] := by kernel_rfl
theorem W3 (n : Nat) (s0 s9 aa ab ac ad ae af ag ah ai aj ak al am an ao ap) : XV (n + 1) s0 s9 aa ab ac ad ae af ag ah ai aj ak al am an ao ap =
  bif decide (s9 < s0) then
 if am.length + (1 : Nat) ≤ lim then
 XV n s0 (K6.wrap (s9 + (1 : Int))) aa ab ac ad ae af ag ah ai aj ak
 al
 (am.append
 [(s9, (1 : Int), ((0 : Int), (0 : Int), (0 : Int), (0 : Int), ()),
 ((0 : Int), (0 : Int), (0 : Int), (0 : Int), ()), ((0 : Int), (0 : Int), (0 : Int), (0 : Int), ()), [],
 [], [], [], [], [], (0 : Int), ())])
 an ao ap
 else none
 else some ((ai, aj, ak, al, am, an, ao, ap, PUnit.unit), true, PUnit.unit) := by kernel_rfl
def K3 : Yf := (34, EU) :: Gn
theorem JF : Yg K3 := cons_cons Me ET
abbrev R6 : W0 := (.ro Zj :: .ro Zc :: dp 3 (.own Zc :: dp 18 []), [])
def R7 := FX.mk (false, false, []) K3 [(4, R6)] [some AY] Tryz.f339 (shF AY)
def Zgk : Con := cR R7 [Zj, Zk] true
theorem Zgl : CO 339 Zgk := ZI JF
def R8 (n : Nat) (a0 : ZE) (a1 : Int) : Option WO := qR R7 [Zj, Zk] n (a0, a1, ())
def Ar (n : Nat) (s0 : ZE) (s1 : Int) (s5 : List Int) : Option WO := rR R7 (zs [Zj, Zk]) 4 R6 n (s0, s1, s5, ()) ()
theorem Zgm (n : Nat) (a0 a1) : R8 n a0 a1 = (Ur big a0 a1).bind fun y => bif decide (y < 0) then some [] else Ar n a0 a1 [] := by kernel_rfl
theorem EV (n : Nat) (s0 s1 s5) : Ar (n + 1) s0 s1 s5 = bif decide (0 < s1) then if [s1].length + s5.length ≤ lim then if 0 ≤ s1 then (nth s0 s1.toNat).bind fun y => Ar n s0 y.1 (s1 :: s5) else none else none else some s5 := by kernel_rfl
def R9 : Yf := (339, Zgk) :: K3
theorem NG : Yg R9 := cons_cons Zgl JF
abbrev EW : W0 := (dp 2 (.ro Zc :: dp 4 (.is (.own 0 0) :: .own Zc :: .ro Zc :: dp 30 [])), [.arr Zc])
def CF := FX.mk (false, false, []) R9 [(6, EW)] [some AY] Tryz.f319 (shF AY)
def NH : Con := cR CF [Zj, Zk, Zk] true
theorem Sc : CO 319 NH := ZI NG
def Kt (n : Nat) (a0 : ZE) (a1 a2 : Int) : Option WO := qR CF [Zj, Zk, Zk] n (a0, a1, a2, ())
def WP (n : Nat) (s2 : Int) (s8 : List Int) (s9 : Int) (b0 : List Int) : Option WO := rR CF (zs [Zj, Zk, Zk]) 6 EW n (s2, s8, s9, ()) (b0, ())
theorem Sd (n : Nat) (a0 a1 a2) : Kt n a0 a1 a2 = (QK big a0 a1 a2).bind fun y => bif !y then some [] else (R8 big a0 a1).bind fun y => WP n a2 [] 0 y := by kernel_rfl
theorem JG (n : Nat) (s2 s8 s9 b0) : WP (n + 1) s2 s8 s9 b0 = bif decide (s9 < (↑b0.length : Int)) then if 0 ≤ s9 then if s9 < (↑b0.length : Int) then (nth b0 s9.toNat).bind fun y => bif decide (s2 < y) then if 0 ≤ s9 then if s9 < (↑b0.length : Int) then (nth b0 s9.toNat).bind fun y => if s8.length + [y].length ≤ lim then WP n s2 (s8.append [y]) (K6.wrap (s9 + 1)) b0 else none else none else none else WP n s2 s8 (K6.wrap (s9 + 1)) b0 else none else none else some s8 := by kernel_rfl
def CG : Yf := (319, NH) :: R9
theorem CH : Yg CG := cons_cons Sc NG
def Se := FX.mk (false, false, [1, 3, 7, 9]) CG [] [none] Tryz.f317 (shV Zk)
def Sf : Con := cR Se [Yo] true
theorem Zbg : CO 317 Sf := ZI CH
def QM (n : Nat) (a0 : Zw) : Option Int := qR Se [Yo] n (a0, ())
theorem Zbh (n : Nat) (a0) : QM n a0 = bif decide ((↑(List.length a0.2.2.2.2.2.1) : Int) = 0) then some 0 else if 0 ≤ K6.wrap ((↑(List.length a0.2.2.2.2.2.1) : Int) - 1) then (nth a0.2.2.2.2.2.1 (K6.wrap ((↑(List.length a0.2.2.2.2.2.1) : Int) - 1)).toNat).bind fun y => some y else none := by kernel_rfl
def Gp : Yf := (317, Sf) :: CG
theorem EX : Yg Gp := cons_cons Zbg CH
abbrev NI : W0 := (dp 2 (.ro Zc :: .drop :: .is (.ptr 0 0) :: dp 2 (.ro Zc :: .ro Zc :: dp 46 [])), [.vars (rp 4 Zc [])])
def Mf := FX.mk (false, false, [4, 9, 13, 15, 17, 24, 47, 51]) Gp [(5, NI)] [none] Tryz.f221 (shV ZA)
def Zc5 : Con := cR Mf [Z4, Qc, Zk] true
theorem Zez : CO 221 Zc5 := ZI EX
def Vf (n : Nat) (a0 : Wb) (a1 : H5) (a2 : Int) : Option Bool := qR Mf [Z4, Qc, Zk] n (a0, a1, a2, ())
def Vg (n : Nat) (s2 s7 s8 aa ab ac ad : Int) : Option Bool := rR Mf (zs [Z4, Qc, Zk]) 5 NI n (s2, s7, s8, ()) ((aa, ab, ac, ad, ()), ())
theorem ZeA (n : Nat) (a0 a1 a2) : Vf n a0 a1 a2 = bif decide (a1.2.1 = 0) then some true else (XO big a0 a1.1 a1.2.1 a1.2.2.1).bind fun y => Vg n a2 y 0 a1.1 a1.2.1 a1.2.2.1 a1.2.2.2.1 := by kernel_rfl
theorem CI (n : Nat) (s2 s7 s8 aa ab ac ad) : Vg (n + 1) s2 s7 s8 aa ab ac ad = bif decide (s8 < 7) then if IntKind.u64.wrap s8 < 0 then none else bif !decide ((ad.fdiv (2 ^ min (IntKind.u64.wrap s8).toNat K6.bits)).tmod 2 = 0) then if IntKind.u64.wrap s8 < 0 then none else bif decide ((s2.fdiv (2 ^ min (IntKind.u64.wrap s8).toNat K6.bits)).tmod 2 = 0) then if IntKind.u64.wrap s8 < 0 then none else bif decide ((s7.fdiv (2 ^ min (IntKind.u64.wrap s8).toNat K6.bits)).tmod 2 = 0) then some false else Vg n s2 s7 (K6.wrap (s8 + 1)) aa ab ac ad else Vg n s2 s7 (K6.wrap (s8 + 1)) aa ab ac ad else Vg n s2 s7 (K6.wrap (s8 + 1)) aa ab ac ad else bif decide (0 ≤ ad) then some (decide (ad < 128)) else some false := by kernel_rfl
def Mg : Yf := (221, Zc5) :: Gp
theorem It : Yg Mg := cons_cons Zez EX
def Zgn := FX.mk (false, false, [4, 10, 11, 17]) Mg [] [some ZQ, none] Tryz.f278 (shT [(true, ZQ), (false, Z8)])
def Zgo : Con := cR Zgn [Yo, Zk, Zk, Zk] true
theorem Zgp : CO 278 Zgo := ZI It
def Sg (n : Nat) (a0 : Zw) (a1 a2 a3 : Int) : Option (Zw × Z3 × Unit) := qR Zgn [Yo, Zk, Zk, Zk] n (a0, a1, a2, a3, ())
theorem Zgq (n : Nat) (a0 a1 a2 a3) : Sg n a0 a1 a2 a3 = (YS big a0).bind fun y => (fun zB => Wf zB zB) (some ((y.1, y.2.1, y.2.2.1, y.2.2.2.1, (a1, a2, a3, a0.1, ()), y.2.2.2.2.2), (a1, a2, a3, a0.1, ()), ())) := by kernel_rfl
def Si : Yf := (278, Zgo) :: Mg
theorem NJ : Yg Si := cons_cons Zgp It
def Sj := FX.mk (false, false, [11, 12, 14, 15, 23, 26, 27]) Si [] [some Yp] Tryz.f203 (shO (shF Yp) [.mu ZQ])
def Sk : Con := cA Sj [.mu ZQ, .ro Zk, .ro Zk, .ro Zk, .ro Zk] true
theorem Zbi : CO 203 Sk := Vr NJ
def V3 (n : Nat) (a0 : Zw) (a1 a2 a3 a4 : Int) : Option (Yh × Zw × Unit) := qA Sj [.mu ZQ, .ro Zk, .ro Zk, .ro Zk, .ro Zk] n (a0, a1, a2, a3, a4, ())
theorem Zbj (n : Nat) (a0 a1 a2 a3 a4) : V3 n a0 a1 a2 a3 a4 = (Sg big a0 a1 a2 a3).bind fun y => some ([(2, y.1.1, a4, y.2.1.2.1, 0, (0, 0, 0, 0, ()), y.2)], y.1, ()) := by kernel_rfl
def Gq : Yf := (203, Sk) :: Si
theorem EY : Yg Gq := cons_cons Zbi NJ
def NK := FX.mk (false, false, [2, 7, 8, 20, 26, 30]) Gq [] [some ZQ, none, none] Tryz.f148 (shT [(true, ZQ), (false, ZJ), (false, ZA)])
def NL : Con := cR NK [Yo, Zk] true
theorem Sl : CO 148 NL := ZI EY
def CJ (n : Nat) (a0 : Zw) (a1 : Int) : Option (Zw × Zo × Bool × Unit) := qR NK [Yo, Zk] n (a0, a1, ())
theorem Sm (n : Nat) (a0 a1) : CJ n a0 a1 = bif decide (900 ≤ a0.2.1) then (YS big a0).bind fun y => some (y, (0, 0, 0, 0, 0, (0, 0, 0, 0, ()), (0, 0, 0, 0, ()), ()), false, ()) else (ZB big a1 1 7).bind fun y => bif !y then (YS big a0).bind fun y => some (y, (0, 0, 0, 0, 0, (0, 0, 0, 0, ()), (0, 0, 0, 0, ()), ()), false, ()) else (XN big a0 (K6.wrap (a0.2.1 + 1))).bind fun y => (YW big y.2.1 a1).bind fun a => some (y, (4, y.1, a, y.2.1, 0, y.2.2.1, (0, 0, 0, 0, ()), ()), true, ()) := by kernel_rfl
def CK : Yf := (148, NL) :: Gq
theorem CL : Yg CK := cons_cons Sl EY
def Zgr := FX.mk (false, false, [4, 9, 12, 17, 19, 33]) CK [] [some Wl, some ZQ, none] Tryz.f142 (shT [(true, Wl), (true, ZQ), (false, Zk)])
def Zgs : Con := cR Zgr [Zj, Yo, YA] true
theorem Zgt : CO 142 Zgs := ZI CL
def Wq (n : Nat) (a0 : ZE) (a1 : Zw) (a2 : VY) : Option (ZE × Zw × Int × Unit) := qR Zgr [Zj, Yo, YA] n (a0, a1, a2, ())
theorem Zgu (n : Nat) (a0 a1 a2) : Wq n a0 a1 a2 =
  (L7 big a1).bind fun y =>
 (XH big a0 (y.2.2.1, a1.2.1, a2, y, ())).bind fun b =>
 (YS big a1).bind fun a =>
 bif decide (b.2.1 < (0 : Int)) then some (b.1, a, (-1 : Int), PUnit.unit)
 else
 some
 (b.1,
 (a.1, a.2.1, y, a.2.2.2.1, a.2.2.2.2.1, a.2.2.2.2.2.1,
 a.2.2.2.2.2.2.1, a.2.2.2.2.2.2.2.1,
 a.2.2.2.2.2.2.2.2.1, a.2.2.2.2.2.2.2.2.2.1,
 a.2.2.2.2.2.2.2.2.2.2.1, a1.2.1, PUnit.unit),
 b.2) := by kernel_rfl
def Sn : Yf := (142, Zgs) :: CK
theorem NM : Yg Sn := cons_cons Zgt CL
abbrev Iu : W0 := ([.drop, .drop, .ro Zc, .ro Zc, .drop, .is (.ptr 0 0), .drop, .drop, .drop, .own Zd, .is (.ptr 2 0), .ro Zc, .drop, .drop, .drop, .drop, .drop, .drop, .drop, .drop, .drop, .drop, .drop, .drop, .drop, .drop, .drop, .drop, .drop, .drop, .drop, .drop, .drop, .drop, .drop, .drop, .drop, .drop, .drop, .drop, .drop, .drop, .drop, .drop, .drop], [.vars (rp 14 Zc [.ro WE, .ro ZO, .ro WE, .ro Wx, .ro Z4, .ro ZN, .ro Zc]), .drop, .vars (rp 4 Zc [])])
def Gr := FX.mk (false, false, [5, 10, 34, 37]) Sn [(6, Iu)] [some Yp] Tryz.f144 (shF Yp)
def So : Con := cR Gr [Zj, Yo, Zk, Zk] true
theorem Zbk : CO 144 So := ZI NM
def Gs (n : Nat) (a0 : ZE) (a1 : Zw) (a2 a3 : Int) : Option Yh := qR Gr [Zj, Yo, Zk, Zk] n (a0, a1, a2, a3, ())
def Vu (n : Nat) (s2 s3 : Int) (s9 : List Zg) (s11 aa ab ac ad ae af ag ah ai aj ak al am an : Int) (ao : WO) (ap : Z6) (aq : WO) (ar : Qd) (au : Wb) (av : Yh) (aw ax ay az ba : Int) : Option Yh := rR Gr (zs [Zj, Yo, Zk, Zk]) 6 Iu n (s2, s3, s9, s11, ()) ((aa, ab, ac, ad, ae, af, ag, ah, ai, aj, ak, al, am, an, ao, ap, aq, ar, au, av, aw, ()), (ax, ay, az, ba, ()), ())
theorem Zbl (n : Nat) (a0 a1 a2 a3) : Gs n a0 a1 a2 a3 =
  (ZB big a2 (0 : Int) (K6.wrap ((↑(List.length a0) : Int) - (1 : Int)))).bind fun y =>
 bif y then
 if (0 : Int) ≤ a2 then
 (nth a0 a2.toNat).bind fun y =>
 Vu n a2 a3 [] (0 : Int) a1.1 a1.2.1 a1.2.2.1.1 a1.2.2.1.2.1
 a1.2.2.1.2.2.1 a1.2.2.1.2.2.2.1 a1.2.2.2.1.1 a1.2.2.2.1.2.1
 a1.2.2.2.1.2.2.1 a1.2.2.2.1.2.2.2.1 a1.2.2.2.2.1.1
 a1.2.2.2.2.1.2.1 a1.2.2.2.2.1.2.2.1 a1.2.2.2.2.1.2.2.2.1
 a1.2.2.2.2.2.1 a1.2.2.2.2.2.2.1 a1.2.2.2.2.2.2.2.1
 a1.2.2.2.2.2.2.2.2.1 a1.2.2.2.2.2.2.2.2.2.1
 a1.2.2.2.2.2.2.2.2.2.2.1 a1.2.2.2.2.2.2.2.2.2.2.2.1
 y.2.2.2.1.1 y.2.2.2.1.2.1 y.2.2.2.1.2.2.1
 y.2.2.2.1.2.2.2.1
 else none
 else
 Vu n a2 a3 [] (0 : Int) a1.1 a1.2.1 a1.2.2.1.1 a1.2.2.1.2.1
 a1.2.2.1.2.2.1 a1.2.2.1.2.2.2.1 a1.2.2.2.1.1 a1.2.2.2.1.2.1
 a1.2.2.2.1.2.2.1 a1.2.2.2.1.2.2.2.1 a1.2.2.2.2.1.1
 a1.2.2.2.2.1.2.1 a1.2.2.2.2.1.2.2.1 a1.2.2.2.2.1.2.2.2.1
 a1.2.2.2.2.2.1 a1.2.2.2.2.2.2.1 a1.2.2.2.2.2.2.2.1
 a1.2.2.2.2.2.2.2.2.1 a1.2.2.2.2.2.2.2.2.2.1
 a1.2.2.2.2.2.2.2.2.2.2.1 a1.2.2.2.2.2.2.2.2.2.2.2.1 (0 : Int)
 (0 : Int) (0 : Int) (0 : Int) := by kernel_rfl
theorem Bd (n : Nat) (s2 s3 s9 s11 aa ab ac ad ae af ag ah ai aj ak al am an ao ap aq ar au av aw ax ay az ba) : Vu (n + 1) s2 s3 s9 s11 aa ab ac ad ae af ag ah ai aj ak al am an ao ap aq ar au av aw ax ay az ba =
  bif decide (s11 < s3) then
 bif decide (s11 < (7 : Int)) then
 if
 s9.length +
 [((1 : Int), aa, s11, ab, s2, (ax, ay, az, ba, ()),
 ((0 : Int), (0 : Int), (0 : Int), (0 : Int), ()), ())].length ≤
 lim then
 Vu n s2 s3
 (s9.append
 [((1 : Int), aa, s11, ab, s2, (ax, ay, az, ba, ()),
 ((0 : Int), (0 : Int), (0 : Int), (0 : Int), ()), ())])
 (K6.wrap (s11 + (1 : Int))) aa ab ac ad ae af ag ah ai aj ak al am an
 ao ap aq ar au av aw ax ay az ba
 else none
 else some s9
 else some s9 := by kernel_rfl
def Gu : Yf := (144, So) :: Sn
theorem EZ : Yg Gu := cons_cons Zbk NM
def Sp := FX.mk (false, false, [5, 12, 14, 19]) Gu [] [none] Tryz.f153 (shV ZJ)
def Sq : Con := cR Sp [Xf, Zk, Zk, Zk, Zk] true
theorem Zbm : CO 153 Sq := ZI EZ
def Gv (n : Nat) (a0 : Zi) (a1 a2 a3 a4 : Int) : Option Zo := qR Sp [Xf, Zk, Zk, Zk, Zk] n (a0, a1, a2, a3, a4, ())
theorem Zbn (n : Nat) (a0 a1 a2 a3 a4) : Gv n a0 a1 a2 a3 a4 = (ZB big a4 0 (K6.wrap ((↑(List.length a0.2.2.2.1) : Int) - 1))).bind fun y => bif y then if 0 ≤ a4 then (nth a0.2.2.2.1 a4.toNat).bind fun y => some (2, a1, a2, y.2.1, 0, (0, 0, 0, 0, ()), (a3, y.2.1, a4, a1, ()), ()) else none else some (2, a1, a2, 0, 0, (0, 0, 0, 0, ()), (a3, 0, a4, a1, ()), ()) := by kernel_rfl
def Gw : Yf := (153, Sq) :: Gu
theorem E0 : Yg Gw := cons_cons Zbm EZ
abbrev Iv : W0 := (.ro ZO :: dp 2 (.ro Zc :: dp 43 []), [])
def Gx := FX.mk (false, false, []) Gw [(2, Iv)] [none] Tryz.f322 (shV ZA)
def Sr : Con := cR Gx [ZO] true
theorem Zbo : CO 322 Sr := ZI E0
def As (n : Nat) (a0 : Z6) : Option Bool := qR Gx [ZO] n (a0, ())
def Vv (n : Nat) (s0 : Z6) (s3 : Int) : Option Bool := rR Gx (zs [ZO]) 2 Iv n (s0, s3, ()) ()
theorem Zbp (n : Nat) (a0) : As n a0 = Vv n a0 0 := by kernel_rfl
theorem Be (n : Nat) (s0 s3) : Vv (n + 1) s0 s3 = bif decide (s3 < (↑(List.length s0) : Int)) then if 0 ≤ s3 then (nth s0 s3.toNat).bind fun y => (JC big y.1).bind fun y => bif !y then some false else if 0 ≤ s3 then (nth s0 s3.toNat).bind fun y => (ZB big y.2.1 0 1000000000).bind fun y => bif !y then some false else bif decide (0 < s3) then if 0 ≤ K6.wrap (s3 - 1) then (nth s0 (K6.wrap (s3 - 1)).toNat).bind fun y => if 0 ≤ s3 then (nth s0 s3.toNat).bind fun a => bif !Op.bytesLess (ByteArray.toList y.1) (ByteArray.toList a.1) then some false else Vv n s0 (K6.wrap (s3 + 1)) else none else none else Vv n s0 (K6.wrap (s3 + 1)) else none else none else some (decide ((↑(List.length s0) : Int) ≤ 12)) := by kernel_rfl
def Gy : Yf := (322, Sr) :: Gw
theorem E1 : Yg Gy := cons_cons Zbo E0
abbrev NN : W0 := (.ro ZO :: dp 2 (.is (.ptr 0 0) :: .drop :: .own Zn :: .ro Zc :: dp 49 []), [.vars [.ro Zf, .ro Zc]])
abbrev NO : W0 := (.ro ZO :: dp 2 (.is (.ptr 0 0) :: .drop :: .own Zn :: .drop :: .ro Zc :: dp 48 []), [.vars [.ro Zf, .ro Zc]])
def Ed := FX.mk (false, false, [3, 20, 45]) Gy [(3, NN), (9, NO)] [some Xx] Tryz.f324 (shF Xx)
def Zc6 : Con := cR Ed [ZO, Jy] true
theorem ZeB : CO 324 Zc6 := ZI E1
def XA (n : Nat) (a0 : Z6) (a1 : Ys) : Option Z6 := qR Ed [ZO, Jy] n (a0, a1, ())
def Us (n : Nat) (s0 : Z6) (s5 : List Zu) (s6 : Int) (aa : ByteArray) (ab : Int) : Option Z6 := rR Ed (zs [ZO, Jy]) 3 NN n (s0, s5, s6, ()) ((aa, ab, ()), ())
def Ut (n : Nat) (s0 : Z6) (s5 : List Zu) (s7 : Int) (aa : ByteArray) (ab : Int) : Option Z6 := rR Ed (zs [ZO, Jy]) 9 NO n (s0, s5, s7, ()) ((aa, ab, ()), ())
theorem ZeC (n : Nat) (a0 a1) : XA n a0 a1 = Us n a0 [] 0 a1.1 a1.2.1 := by kernel_rfl
theorem CM (n : Nat) (s0 s5 s6 aa ab) : Us (n + 1) s0 s5 s6 aa ab = bif decide (s6 < (↑(List.length s0) : Int)) then if 0 ≤ s6 then (nth s0 s6.toNat).bind fun y => bif Op.bytesLess (ByteArray.toList y.1) aa.toList then if 0 ≤ s6 then (nth s0 s6.toNat).bind fun y => if s5.length + [y].length ≤ lim then Us n s0 (s5.append [y]) (K6.wrap (s6 + 1)) aa ab else none else none else Us n s0 s5 (K6.wrap (s6 + 1)) aa ab else none else if s5.length + [(aa, ab, ())].length ≤ lim then Ut n s0 (s5.append [(aa, ab, ())]) 0 aa ab else none := by kernel_rfl
theorem CN (n : Nat) (s0 s5 s7 aa ab) : Ut (n + 1) s0 s5 s7 aa ab = bif decide (s7 < (↑(List.length s0) : Int)) then if 0 ≤ s7 then (nth s0 s7.toNat).bind fun y => bif !(Op.bytesLess (ByteArray.toList y.1) aa.toList || decide (y.1 = aa)) then if 0 ≤ s7 then (nth s0 s7.toNat).bind fun y => if s5.length + [y].length ≤ lim then Ut n s0 (s5.append [y]) (K6.wrap (s7 + 1)) aa ab else none else none else Ut n s0 s5 (K6.wrap (s7 + 1)) aa ab else none else some s5 := by kernel_rfl
def Mh : Yf := (324, Zc6) :: Gy
theorem Iw : Yg Mh := cons_cons ZeB E1
abbrev NP : W0 := (.ro ZO :: .ro Zf :: dp 3 (.ro Zc :: dp 14 []), [])
def Mi := FX.mk (false, false, []) Mh [(2, NP)] [none] Tryz.f323 (shV Zk)
def Zc7 : Con := cR Mi [ZO, Zf] true
theorem ZeD : CO 323 Zc7 := ZI Iw
def Ee (n : Nat) (a0 : Z6) (a1 : ByteArray) : Option Int := qR Mi [ZO, Zf] n (a0, a1, ())
def Ku (n : Nat) (s0 : Z6) (s1 : ByteArray) (s5 : Int) : Option Int := rR Mi (zs [ZO, Zf]) 2 NP n (s0, s1, s5, ()) ()
theorem ZeE (n : Nat) (a0 a1) : Ee n a0 a1 = Ku n a0 a1 0 := by kernel_rfl
theorem CP (n : Nat) (s0 s1 s5) : Ku (n + 1) s0 s1 s5 = bif decide (s5 < (↑(List.length s0) : Int)) then if 0 ≤ s5 then (nth s0 s5.toNat).bind fun y => bif decide (y.1 = s1) then some s5 else Ku n s0 s1 (K6.wrap (s5 + 1)) else none else some (-1) := by kernel_rfl
def Mj : Yf := (323, Zc7) :: Mh
theorem Ix : Yg Mj := cons_cons ZeD Iw
def Zi2 := FX.mk (false, false, [3, 22, 25, 27, 38, 41, 49, 66]) Mj [] [some Xx, none] Tryz.f282 (shT [(true, Xx), (false, Zk)])
def Zi3 : Con := cR Zi2 [ZO, W1] true
theorem Zia : CO 282 Zi3 := ZI Ix
def Pj (n : Nat) (a0 : Z6) (a1 : VX) : Option (Z6 × Int × Unit) := qR Zi2 [ZO, W1] n (a0, a1, ())
theorem Zib (n : Nat) (a0 a1) : Pj n a0 a1 = if (0 : Nat) + List.length a0 ≤ lim then (As big a0).bind fun y => bif !y then some (a0, 2, ()) else (QJ big a1).bind fun y => bif !y then some (a0, 2, ()) else (Ee big a0 a1.2.1).bind fun y => bif !decide (a1.1 = 1) then bif decide (y < 0) then some (a0, 1, ()) else if 0 ≤ y then (nth a0 (Int.toNat y)).bind fun a => bif decide (a1.1 = 3) then if 0 ≤ y then (nth a0 (Int.toNat y)).bind fun b => (ZB big (K6.wrap (b.2.1 - a1.2.2.1)) 0 1000000000).bind fun c => bif !c then some (a0, 2, ()) else bif decide (y < 0) then bif decide (12 ≤ (↑(List.length a0) : Int)) then some (a0, 2, ()) else (XA big a0 (a1.2.1, K6.wrap (b.2.1 - a1.2.2.1), ())).bind fun y => some (y, 0, ()) else (XA big a0 (a1.2.1, K6.wrap (b.2.1 - a1.2.2.1), ())).bind fun y => some (y, 0, ()) else none else (ZB big (K6.wrap (a.2.1 + a1.2.2.1)) 0 1000000000).bind fun b => bif !b then some (a0, 2, ()) else bif decide (y < 0) then bif decide (12 ≤ (↑(List.length a0) : Int)) then some (a0, 2, ()) else (XA big a0 (a1.2.1, K6.wrap (a.2.1 + a1.2.2.1), ())).bind fun y => some (y, 0, ()) else (XA big a0 (a1.2.1, K6.wrap (a.2.1 + a1.2.2.1), ())).bind fun y => some (y, 0, ()) else none else (ZB big a1.2.2.1 0 1000000000).bind fun a => bif !a then some (a0, 2, ()) else bif decide (y < 0) then bif decide (12 ≤ (↑(List.length a0) : Int)) then some (a0, 2, ()) else (XA big a0 a1.2).bind fun y => some (y, 0, ()) else (XA big a0 a1.2).bind fun y => some (y, 0, ()) else none := by kernel_rfl
def ZeF : Yf := (282, Zi3) :: Mj
theorem Ss : Yg ZeF := cons_cons Zia Ix
end
end Go.Sx.Tryz
