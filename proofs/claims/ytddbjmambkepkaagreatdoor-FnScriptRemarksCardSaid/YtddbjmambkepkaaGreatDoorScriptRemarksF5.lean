/- The functions of the seat: what each comes to. -/
import Derived.Test.YtddbjmambkepkaaGreatDoorTypes
import Derived.Test.YtddbjmambkepkaaGreatDoorScriptRemarksF4
import Derived.Test.YtddbjmambkepkaaGreatDoorScriptRemarksF1
set_option linter.unusedVariables false
set_option linter.unusedSimpArgs false
set_option maxRecDepth 100000
namespace Go.Sx.Tryz
open Go Go.Sx Go.Proofs
open Go.IntKind renaming i64 → K6
noncomputable section
def Zad := FX.mk (false, false, []) MN [] [none, none] Tryz.f36 (shT [(false, Zk), (false, Zk)])
def Zae : Con := cR Zad [Zf] true
theorem Zcd : CO 36 Zae := ZI Lm
def Ho (n : Nat) (a0 : ByteArray) : Option (Int × Int × Unit) := qR Zad [Zf] n (a0, ())
theorem Zce (n : Nat) (a0) : Ho n a0 =
  bif decide (a0 = ByteArray.mk #[115, 104, 111, 119]) then
 some ((2 : Int), (1 : Int), PUnit.unit)
 else
 bif decide (a0 = ByteArray.mk #[99, 97, 114, 114, 121]) then
 some ((3 : Int), (1 : Int), PUnit.unit)
 else
 bif decide (a0 = ByteArray.mk #[108, 111, 115, 101]) then
 some ((4 : Int), (1 : Int), PUnit.unit)
 else
 bif decide (a0 = ByteArray.mk #[116, 119, 105, 99, 101]) then
 some ((5 : Int), (1 : Int), PUnit.unit)
 else
 bif decide (a0 = ByteArray.mk #[119, 97, 105, 116]) then
 some ((6 : Int), (1 : Int), PUnit.unit)
 else
 bif decide (a0 = ByteArray.mk #[102, 97, 108, 108]) then
 some ((7 : Int), (1 : Int), PUnit.unit)
 else
 bif decide (a0 = ByteArray.mk #[118, 111, 116, 101]) then
 some ((8 : Int), (3 : Int), PUnit.unit)
 else
 bif decide (a0 = ByteArray.mk #[113, 99]) then
 some ((9 : Int), (3 : Int), PUnit.unit)
 else
 bif decide (a0 = ByteArray.mk #[118, 105, 101, 119]) then
 some ((11 : Int), (3 : Int), PUnit.unit)
 else
 bif
 decide
 (a0 =
 ByteArray.mk
 #[(98 : UInt8), (108 : UInt8), (111 : UInt8), (99 : UInt8), (107 : UInt8)]) then
 some ((10 : Int), (3 : Int), PUnit.unit)
 else some ((0 : Int), (0 : Int), PUnit.unit) := by kernel_rfl
def Hp : Yf := (36, Zae) :: MN
theorem FD : Yg Hp := cons_cons Zcd Lm
def Ou := FX.mk (false, false, [9, 112]) Hp [] [none, none] Tryz.f16 (shT [(false, Yz), (false, ZA)])
def Ov : Con := cR Ou [Yr] true
theorem Zaf : CO 16 Ov := ZI FD
def KQ (n : Nat) (a0 : Y5) : Option (Yl × Bool × Unit) := qR Ou [Yr] n (a0, ())
theorem Zag (n : Nat) (a0) : KQ n a0 =
  (nth a0 (Int.toNat (0 : Int))).bind fun y =>
 bif decide (y = ByteArray.mk #[111, 102, 102, 101, 114]) then
 bif !decide ((↑(List.length a0) : Int) = (4 : Int)) then
 some
 (((0 : Int), (0 : Int), (0 : Int), (0 : Int), ((0 : Int), ByteArray.empty, (0 : Int), PUnit.unit),
 PUnit.unit),
 false, PUnit.unit)
 else
 (nth a0 (Int.toNat (1 : Int))).bind fun y =>
 (JS big y).bind fun y =>
 bif decide (y = (0 : Int)) then
 some
 (((0 : Int), (0 : Int), (0 : Int), (0 : Int), ((0 : Int), ByteArray.empty, (0 : Int), PUnit.unit),
 PUnit.unit),
 false, PUnit.unit)
 else
 (nth a0 (Int.toNat (3 : Int))).bind fun y =>
 (ZV big y).bind fun y =>
 (nth a0 (Int.toNat (1 : Int))).bind fun f =>
 (nth a0 (Int.toNat (2 : Int))).bind fun a =>
 (JS big f).bind fun e =>
 some
 (((1 : Int), (0 : Int), (0 : Int), (0 : Int), (e, a, y.1, PUnit.unit), PUnit.unit),
 y.2)
 else
 (nth a0 (Int.toNat (0 : Int))).bind fun y =>
 (Ho big y).bind fun y =>
 bif decide (y.1 = (10 : Int)) then
 bif decide (y.1 = (0 : Int)) then
 some
 (((0 : Int), (0 : Int), (0 : Int), (0 : Int), ((0 : Int), ByteArray.empty, (0 : Int), PUnit.unit),
 PUnit.unit),
 false, PUnit.unit)
 else
 bif !decide ((↑(List.length a0) : Int) = (5 : Int)) then
 some
 (((0 : Int), (0 : Int), (0 : Int), (0 : Int), ((0 : Int), ByteArray.empty, (0 : Int), PUnit.unit),
 PUnit.unit),
 false, PUnit.unit)
 else
 (nth a0 (Int.toNat (1 : Int))).bind fun f =>
 (ZV big f).bind fun a =>
 bif decide (y.2.1 = (3 : Int)) then
 (nth a0 (Int.toNat (2 : Int))).bind fun e =>
 (ZV big e).bind fun c =>
 (nth a0 (Int.toNat (3 : Int))).bind fun g =>
 (ZV big g).bind fun b =>
 bif a.2.1 then
 bif c.2.1 then
 bif decide (y.1 = (10 : Int)) then
 (nth a0 (Int.toNat (4 : Int))).bind fun d =>
 some
 ((y.1, a.1, c.1, b.1, ((1 : Int), d, b.1, PUnit.unit),
 PUnit.unit),
 b.2)
 else
 some
 ((y.1, a.1, c.1, b.1,
 ((0 : Int), ByteArray.empty, (0 : Int), PUnit.unit), PUnit.unit),
 b.2)
 else
 bif decide (y.1 = (10 : Int)) then
 (nth a0 (Int.toNat (4 : Int))).bind fun d =>
 some
 ((y.1, a.1, c.1, b.1, ((1 : Int), d, b.1, PUnit.unit),
 PUnit.unit),
 false, PUnit.unit)
 else
 some
 ((y.1, a.1, c.1, b.1,
 ((0 : Int), ByteArray.empty, (0 : Int), PUnit.unit), PUnit.unit),
 false, PUnit.unit)
 else
 bif decide (y.1 = (10 : Int)) then
 (nth a0 (Int.toNat (4 : Int))).bind fun d =>
 some
 ((y.1, a.1, c.1, b.1, ((1 : Int), d, b.1, PUnit.unit),
 PUnit.unit),
 false, PUnit.unit)
 else
 some
 ((y.1, a.1, c.1, b.1,
 ((0 : Int), ByteArray.empty, (0 : Int), PUnit.unit), PUnit.unit),
 false, PUnit.unit)
 else
 bif decide (y.1 = (10 : Int)) then
 (nth a0 (Int.toNat (4 : Int))).bind fun e =>
 some
 ((y.1, a.1, (0 : Int), (0 : Int), ((1 : Int), e, (0 : Int), PUnit.unit),
 PUnit.unit),
 a.2)
 else
 some
 ((y.1, a.1, (0 : Int), (0 : Int), ((0 : Int), ByteArray.empty, (0 : Int), PUnit.unit),
 PUnit.unit),
 a.2)
 else
 bif decide (y.1 = (0 : Int)) then
 some
 (((0 : Int), (0 : Int), (0 : Int), (0 : Int), ((0 : Int), ByteArray.empty, (0 : Int), PUnit.unit),
 PUnit.unit),
 false, PUnit.unit)
 else
 bif !decide ((↑(List.length a0) : Int) = K6.wrap (y.2.1 + (1 : Int))) then
 some
 (((0 : Int), (0 : Int), (0 : Int), (0 : Int), ((0 : Int), ByteArray.empty, (0 : Int), PUnit.unit),
 PUnit.unit),
 false, PUnit.unit)
 else
 (nth a0 (Int.toNat (1 : Int))).bind fun f =>
 (ZV big f).bind fun a =>
 bif decide (y.2.1 = (3 : Int)) then
 (nth a0 (Int.toNat (2 : Int))).bind fun e =>
 (ZV big e).bind fun c =>
 (nth a0 (Int.toNat (3 : Int))).bind fun g =>
 (ZV big g).bind fun b =>
 bif a.2.1 then
 bif c.2.1 then
 bif decide (y.1 = (10 : Int)) then
 (nth a0 (Int.toNat (4 : Int))).bind fun d =>
 some
 ((y.1, a.1, c.1, b.1, ((1 : Int), d, b.1, PUnit.unit),
 PUnit.unit),
 b.2)
 else
 some
 ((y.1, a.1, c.1, b.1,
 ((0 : Int), ByteArray.empty, (0 : Int), PUnit.unit), PUnit.unit),
 b.2)
 else
 bif decide (y.1 = (10 : Int)) then
 (nth a0 (Int.toNat (4 : Int))).bind fun d =>
 some
 ((y.1, a.1, c.1, b.1, ((1 : Int), d, b.1, PUnit.unit),
 PUnit.unit),
 false, PUnit.unit)
 else
 some
 ((y.1, a.1, c.1, b.1,
 ((0 : Int), ByteArray.empty, (0 : Int), PUnit.unit), PUnit.unit),
 false, PUnit.unit)
 else
 bif decide (y.1 = (10 : Int)) then
 (nth a0 (Int.toNat (4 : Int))).bind fun d =>
 some
 ((y.1, a.1, c.1, b.1, ((1 : Int), d, b.1, PUnit.unit),
 PUnit.unit),
 false, PUnit.unit)
 else
 some
 ((y.1, a.1, c.1, b.1,
 ((0 : Int), ByteArray.empty, (0 : Int), PUnit.unit), PUnit.unit),
 false, PUnit.unit)
 else
 bif decide (y.1 = (10 : Int)) then
 (nth a0 (Int.toNat (4 : Int))).bind fun e =>
 some
 ((y.1, a.1, (0 : Int), (0 : Int), ((1 : Int), e, (0 : Int), PUnit.unit),
 PUnit.unit),
 a.2)
 else
 some
 ((y.1, a.1, (0 : Int), (0 : Int), ((0 : Int), ByteArray.empty, (0 : Int), PUnit.unit),
 PUnit.unit),
 a.2) := by kernel_rfl
def Ow : Yf := (16, Ov) :: Hp
theorem Zah : Yg Ow := cons_cons Zaf FD
def Hq (s sep : ByteArray) : List ByteArray := Lib.splitB sep 0 (Lib.countB s sep) s
def V4 (_n : Nat) (x : Pg [Zf, Zf]) : Option (List ByteArray) := if ByteArray.size x.1 < 4294967281 then (if 1 ≤ ByteArray.size x.2.1 then some (Hq x.1 x.2.1) else none) else none
def JT : Con := roS [Zf, Zf] true (shF Uq) (V4 big)
theorem En : KW Tryz.prog 10 JT := Zf2 ⟨Tryz.f10, by kernel_rfl, rfl, by decide⟩ fun xs v h => by
 obtain ⟨s, sep, u⟩ := xs
 cases u
 unfold V4 at h
 dsimp only at h
 split at h
 ·rename_i h0
  split at h
  ·rename_i h1
   simp only [Option.some.injEq] at h
   subst h
   intro p w cargs S B hcv hnd hS hp hnt
   have hcv' : CVL p w [.val .str s, .val .str sep] cargs S B := hcv
   obtain ⟨r, rfl, h2⟩ := Ze4 hcv'
   obtain ⟨r', rfl, h3⟩ := Ze4 h2
   obtain ⟨rfl, rfl, rfl⟩ := Zig h3
   obtain ⟨m, hm⟩ := Znj hnt
   have hc := Any.strings_Split Tryz.lays146 (by kernel_rfl) s sep m w h0 hm h1
   have hlen : (Hq s sep).length = Lib.countB s sep + 1 := Lib.splitB_all sep h1 0 _ s rfl
   refine hc.mono ?_
   rintro e w' ⟨rfl, rfl⟩
   refine ⟨_, [w.heap.size], [], rfl, by simp, ?_, Zdr w _ rfl, ?_, rfl⟩
   ·intro k hk
    simp only [List.append_nil, List.mem_singleton] at hk
    subst hk
    exact ⟨.inr (Nat.le_refl _), by show _ < (w.heap.push _).size; rw [Array.size_push]; omega⟩
   ·rw [← hlen]
    exact Zi6 (Hq s sep) _
  ·cases h
 ·cases h
def JU (n : Nat) (a0 a1 : ByteArray) : Option (List ByteArray) := V4 n (a0, a1, ())
theorem Eo (n : Nat) (a0 a1 : ByteArray) : JU n a0 a1 = if ByteArray.size a0 < 4294967281 then (if 1 ≤ ByteArray.size a1 then some (Hq a0 a1) else none) else none := rfl
def V5 : Yf := (10, JT) :: Ow
theorem UT : Yg V5 := cons_cons En Zah
abbrev FE : W0 := ([.ro Zf, .drop, .drop, .own Zf, .ro Zc, .ro Zc, .drop, .drop, .drop, .drop, .drop, .drop, .drop, .drop, .drop, .drop, .drop, .drop, .drop, .drop, .drop, .drop, .drop, .drop, .drop, .drop, .drop, .drop, .drop, .drop, .drop, .drop, .drop, .drop, .drop, .drop, .drop], [])
def DQ := FX.mk (false, false, []) V5 [(4, FE)] [some Uq] Tryz.f12 (shF Uq)
def Ox : Con := cR DQ [Zf] true
theorem Zai : CO 12 Ox := ZI UT
def DR (n : Nat) (a0 : ByteArray) : Option Y5 := qR DQ [Zf] n (a0, ())
def WS (n : Nat) (s0 : ByteArray) (s3 : List ByteArray) (s4 s5 : Int) : Option Y5 := rR DQ (zs [Zf]) 4 FE n (s0, s3, s4, s5, ()) ()
theorem Zaj (n : Nat) (a0) : DR n a0 =
  WS n a0 [] (0 : Int) (0 : Int) := by kernel_rfl
theorem MO (n : Nat) (s0 s3 s4 s5) : WS (n + 1) s0 s3 s4 s5 =
  bif decide (s5 < (↑s0.size : Int)) then
 if (0 : Int) ≤ s5 then
 (nth s0.data.toList s5.toNat).bind fun y =>
 bif decide ((↑y.toNat : Int) = (10 : Int)) then
 if (0 : Int) ≤ s5 then
 if s5 ≤ (↑s0.size : Int) then
 if (0 : Int) ≤ s4 then
 if s4 ≤ s5 then
 if s3.length + [s0.extract s4.toNat s5.toNat].length ≤ lim then
 WS n s0 (s3.append [s0.extract s4.toNat s5.toNat]) (K6.wrap (s5 + (1 : Int)))
 (K6.wrap (s5 + (1 : Int)))
 else none
 else none
 else none
 else none
 else none
 else WS n s0 s3 s4 (K6.wrap (s5 + (1 : Int)))
 else none
 else
 bif decide (s4 < (↑s0.size : Int)) then
 if (0 : Int) ≤ s4 then
 if s4 ≤ (↑s0.size : Int) then
 if s3.length + [s0.extract s4.toNat s0.size].length ≤ lim then some (s3.append [s0.extract s4.toNat s0.size])
 else none
 else none
 else none
 else some s3 := by kernel_rfl
def DS : Yf := (12, Ox) :: V5
theorem DT : Yg DS := cons_cons Zai UT
def QZ := FX.mk (false, false, [66, 74, 76, 77]) DS [] [none] Tryz.f30 (shO (shV ZA) [.mu Jx])
def Q0 : Con := cA QZ [.mu Jx, .ro Yr] true
theorem BN : CO 30 Q0 := Vr DT
def XP (n : Nat) (a0 : JA) (a1 : Y5) : Option (Bool × JA × Unit) := qA QZ [.mu Jx, .ro Yr] n (a0, a1, ())
theorem BO (n : Nat) (a0 a1) : XP n a0 a1 =
  bif !decide ((↑(List.length a1) : Int) = (4 : Int)) then some (false, a0, PUnit.unit)
 else
 (nth a1 (Int.toNat (0 : Int))).bind fun y =>
 bif
 !decide
 (y =
 ByteArray.mk
 #[(99 : UInt8), (108 : UInt8), (117 : UInt8), (115 : UInt8), (116 : UInt8), (101 : UInt8),
 (114 : UInt8)]) then
 some (false, a0, PUnit.unit)
 else
 (nth a1 (Int.toNat (2 : Int))).bind fun y =>
 bif !decide (y = ByteArray.mk #[97, 115, 107]) then
 (nth a1 (Int.toNat (2 : Int))).bind fun y =>
 bif
 !decide
 (y = ByteArray.mk #[99, 104, 97, 105, 110]) then
 some (false, a0, PUnit.unit)
 else
 (nth a1 (Int.toNat (1 : Int))).bind fun y =>
 (Yv big y).bind fun y =>
 (nth a1 (Int.toNat (3 : Int))).bind fun c =>
 (Yv big c).bind fun a =>
 (nth a1 (Int.toNat (2 : Int))).bind fun d =>
 (Ui big y.1
 (decide
 (d =
 ByteArray.mk
 #[(99 : UInt8), (104 : UInt8), (97 : UInt8), (105 : UInt8), (110 : UInt8)]))
 a.1).bind
 fun e =>
 bif !y.2.1 then some (false, a0, PUnit.unit)
 else
 bif !a.2.1 then some (false, a0, PUnit.unit)
 else
 bif !e.2.1 then some (false, a0, PUnit.unit)
 else
 (nth a1 (Int.toNat (2 : Int))).bind fun b =>
 some
 (true,
 ((y.1,
 decide
 (b =
 ByteArray.mk
 #[(99 : UInt8), (104 : UInt8), (97 : UInt8), (105 : UInt8),
 (110 : UInt8)]),
 a.1, [], (0 : Int), PUnit.unit),
 true, a0.2.2),
 PUnit.unit)
 else
 (nth a1 (Int.toNat (1 : Int))).bind fun y =>
 (Yv big y).bind fun y =>
 (nth a1 (Int.toNat (3 : Int))).bind fun c =>
 (Yv big c).bind fun a =>
 (nth a1 (Int.toNat (2 : Int))).bind fun d =>
 (Ui big y.1
 (decide
 (d =
 ByteArray.mk
 #[(99 : UInt8), (104 : UInt8), (97 : UInt8), (105 : UInt8), (110 : UInt8)]))
 a.1).bind
 fun e =>
 bif !y.2.1 then some (false, a0, PUnit.unit)
 else
 bif !a.2.1 then some (false, a0, PUnit.unit)
 else
 bif !e.2.1 then some (false, a0, PUnit.unit)
 else
 (nth a1 (Int.toNat (2 : Int))).bind fun b =>
 some
 (true,
 ((y.1,
 decide
 (b =
 ByteArray.mk
 #[(99 : UInt8), (104 : UInt8), (97 : UInt8), (105 : UInt8),
 (110 : UInt8)]),
 a.1, [], (0 : Int), PUnit.unit),
 true, a0.2.2),
 PUnit.unit) := by kernel_rfl
def W5 : Yf := (30, Q0) :: DS
theorem VM : Yg W5 := cons_cons BN DT
def Bz := FX.mk (false, false, [9, 30, 31, 32, 39, 40, 41, 61, 65, 66, 68, 69, 84, 85, 86, 87, 92, 93, 94, 95, 96, 101, 102]) W5 [] [none] Tryz.f11 (shO (shV ZA) [.mu Jx])
def BA : Con := cA Bz [.mu Jx, .ro Zf] true
theorem Hr : CO 11 BA := Vr VM
def YP (n : Nat) (a0 : JA) (a1 : ByteArray) : Option (Bool × JA × Unit) := qA Bz [.mu Jx, .ro Zf] n (a0, a1, ())
theorem W6 (n : Nat) (a0 a1) : YP n a0 a1 =
  (G8 big a1).bind fun y =>
 bif !y.2.1 then some (false, a0, PUnit.unit)
 else
 bif decide ((↑(List.length y.1) : Int) = (0 : Int)) then some (true, a0, PUnit.unit)
 else
 if (0 : Int) < (↑(List.length y.1) : Int) then
 (nth y.1 (Int.toNat (0 : Int))).bind fun a =>
 (nth a.data.toList (Int.toNat (0 : Int))).bind fun d =>
 bif decide ((↑d.toNat : Int) = (35 : Int)) then some (true, a0, PUnit.unit)
 else
 bif !a0.2.1 then (XP big a0 y.1).bind fun y => some y
 else
 bif a0.2.2.1 then some (false, a0, PUnit.unit)
 else
 if (0 : Int) < (↑(List.length y.1) : Int) then
 (nth y.1 (Int.toNat (0 : Int))).bind fun c =>
 bif decide (c = ByteArray.mk #[99, 97, 108, 109]) then
 if (1 : Int) ≤ (↑(List.length y.1) : Int) then
 (VH big
 (List.take (List.length y.1 - Int.toNat (1 : Int))
 (List.drop (Int.toNat (1 : Int)) y.1))).bind
 fun y =>
 bif !y.2.1 then some (false, a0, PUnit.unit)
 else
 bif !decide ((↑(List.length y.1) : Int) = (1 : Int)) then some (false, a0, PUnit.unit)
 else
 if (0 : Int) < (↑(List.length y.1) : Int) then
 (nth y.1 (Int.toNat (0 : Int))).bind fun y =>
 some
 (true,
 ((a0.1.1, a0.1.2.1, a0.1.2.2.1, a0.1.2.2.2.1, y,
 PUnit.unit),
 a0.2.1, true, PUnit.unit),
 PUnit.unit)
 else none
 else none
 else
 (AS big y.1).bind fun y =>
 bif !y.2.1 then some (false, a0, PUnit.unit)
 else
 (Hj big y.1).bind fun b =>
 bif !b then some (false, a0, PUnit.unit)
 else
 bif decide ((120 : Int) ≤ (↑(List.length a0.1.2.2.2.1) : Int)) then
 some (false, a0, PUnit.unit)
 else
 if List.length a0.1.2.2.2.1 + (1 : Nat) ≤ lim then
 some
 (true,
 ((a0.1.1, a0.1.2.1, a0.1.2.2.1,
 List.append a0.1.2.2.2.1 [y.1], a0.1.2.2.2.2),
 a0.2),
 PUnit.unit)
 else none
 else none
 else none := by kernel_rfl
def UK : Yf := (11, BA) :: W5
theorem Q1 : Yg UK := cons_cons Hr VM
abbrev BB : W0 := ([.drop, .drop, .is (.ptr 0 0), .drop, .drop, .is (.ptr 2 0), .drop, .drop, .drop, .drop, .drop, .drop, .drop, .drop, .drop, .drop, .drop, .drop, .drop, .drop, .drop, .drop, .drop, .drop, .drop, .drop, .drop, .drop, .own Zf, .ro Zc, .ro Zc, .drop, .drop, .drop, .drop, .drop, .drop, .drop, .drop, .drop, .drop, .drop, .drop, .drop, .drop, .drop, .drop, .drop, .drop, .drop, .drop, .drop, .drop], [.vars [.ro Zc, .ro ZA, .ro Zc, .own Yz, .ro Zc], .drop, .vars [.ro Zc, .ro ZA, .ro Zc, .own Yz, .ro Zc, .ro ZA, .ro ZA]])
def K9 := FX.mk (false, false, [43, 44, 45, 49, 50, 51]) UK [(8, BB)] [some Ah, none] Tryz.f6 (shT [(true, Ah), (false, Zk)])
def Ja : Con := cR K9 [Zf] true
theorem JV : CO 6 Ja := ZI Q1
def Xc (n : Nat) (a0 : ByteArray) : Option (Uc × Int × Unit) := qR K9 [Zf] n (a0, ())
def Y3 (n : Nat) (s28 : List ByteArray) (s29 s30 aa : Int) (ab : Bool) (ac : Int) (ad : List Yl) (ae af : Int) (ag : Bool) (ah : Int) (ai : List Yl) (aj : Int) (ak al : Bool) : Option (Uc × Int × Unit) := rR K9 (zs [Zf]) 8 BB n (s28, s29, s30, ()) ((aa, ab, ac, ad, ae, ()), (af, ag, ah, ai, aj, ak, al, ()), ())
theorem V6 (n : Nat) (a0) : Xc n a0 =
  bif decide ((3000 : Int) < (↑a0.size : Int)) then
 some (((0 : Int), false, (0 : Int), [], (0 : Int), PUnit.unit), (-1 : Int), PUnit.unit)
 else
 (JU big a0 (ByteArray.mk #[10])).bind fun y =>
 if (0 : Int) ≤ K6.wrap ((↑(List.length y) : Int) - (1 : Int)) then
 if K6.wrap ((↑(List.length y) : Int) - (1 : Int)) < (↑(List.length y) : Int) then
 (nth y (K6.wrap ((↑(List.length y) : Int) - (1 : Int))).toNat).bind fun a =>
 bif decide (a = ByteArray.mk #[]) then
 if (0 : Int) ≤ K6.wrap ((↑(List.length y) : Int) - (1 : Int)) then
 if K6.wrap ((↑(List.length y) : Int) - (1 : Int)) ≤ (↑(List.length y) : Int) then
 Y3 n
 (List.take ((K6.wrap ((↑(List.length y) : Int) - (1 : Int))).toNat - (0 : Nat))
 (List.drop (0 : Nat) y))
 (↑((K6.wrap ((↑(List.length y) : Int) - (1 : Int))).toNat - (0 : Nat)) : Int) (0 : Int)
 (0 : Int) false (0 : Int) [] (0 : Int) (0 : Int) false (0 : Int) [] (0 : Int) false false
 else none
 else none
 else
 Y3 n y (↑(List.length y) : Int) (0 : Int) (0 : Int) false (0 : Int) [] (0 : Int) (0 : Int)
 false (0 : Int) [] (0 : Int) false false
 else none
 else none := by kernel_rfl
theorem XQ (n : Nat) (s28 s29 s30 aa ab ac ad ae af ag ah ai aj ak al) : Y3 (n + 1) s28 s29 s30 aa ab ac ad ae af ag ah ai aj ak al =
  bif decide (s30 < s29) then
 if (0 : Int) ≤ s30 then
 if s30 < (↑s28.length : Int) then
 (nth s28 s30.toNat).bind fun y =>
 (YP big ((af, ag, ah, ai, aj, ()), ak, al, ()) y).bind fun y =>
 bif !y.1 then
 some
 (((0 : Int), false, (0 : Int), [], (0 : Int), PUnit.unit), K6.wrap (s30 + (1 : Int)),
 PUnit.unit)
 else
 Y3 n s28 s29 (K6.wrap (s30 + (1 : Int))) aa ab ac ad ae y.2.1.1.1
 y.2.1.1.2.1 y.2.1.1.2.2.1 y.2.1.1.2.2.2.1
 y.2.1.1.2.2.2.2.1 y.2.1.2.1 y.2.1.2.2.1
 else none
 else none
 else
 bif !ak then some (((0 : Int), false, (0 : Int), [], (0 : Int), PUnit.unit), (1 : Int), PUnit.unit)
 else some ((af, ag, ah, ai, aj, PUnit.unit), (0 : Int), PUnit.unit) := by kernel_rfl
def Jb : Yf := (6, Ja) :: UK
theorem JW : Yg Jb := cons_cons JV Q1
def Zak := FX.mk (false, false, [4, 59]) Jb [] [some Ah, none] Tryz.f14 (shT [(true, Ah), (false, ZA)])
def Zal : Con := cR Zak [Yr] true
theorem Zcf : CO 14 Zal := ZI JW
def Q2 (n : Nat) (a0 : Y5) : Option (Uc × Bool × Unit) := qR Zak [Yr] n (a0, ())
theorem Zcg (n : Nat) (a0) : Q2 n a0 =
  bif !decide ((↑(List.length a0) : Int) = (4 : Int)) then
 some (((0 : Int), false, (0 : Int), [], (0 : Int), PUnit.unit), false, PUnit.unit)
 else
 (nth a0 (Int.toNat (0 : Int))).bind fun y =>
 bif
 !decide
 (y =
 ByteArray.mk
 #[(99 : UInt8), (108 : UInt8), (117 : UInt8), (115 : UInt8), (116 : UInt8), (101 : UInt8),
 (114 : UInt8)]) then
 some (((0 : Int), false, (0 : Int), [], (0 : Int), PUnit.unit), false, PUnit.unit)
 else
 (nth a0 (Int.toNat (2 : Int))).bind fun y =>
 bif !decide (y = ByteArray.mk #[97, 115, 107]) then
 (nth a0 (Int.toNat (2 : Int))).bind fun y =>
 bif
 !decide
 (y = ByteArray.mk #[99, 104, 97, 105, 110]) then
 some (((0 : Int), false, (0 : Int), [], (0 : Int), PUnit.unit), false, PUnit.unit)
 else
 (nth a0 (Int.toNat (1 : Int))).bind fun y =>
 (ZV big y).bind fun y =>
 (nth a0 (Int.toNat (3 : Int))).bind fun c =>
 (ZV big c).bind fun a =>
 (nth a0 (Int.toNat (2 : Int))).bind fun b =>
 (Xa big y.1
 (decide
 (b =
 ByteArray.mk
 #[(99 : UInt8), (104 : UInt8), (97 : UInt8), (105 : UInt8), (110 : UInt8)]))
 a.1).bind
 fun d =>
 bif y.2.1 then
 bif a.2.1 then
 some
 ((y.1,
 decide
 (b =
 ByteArray.mk
 #[(99 : UInt8), (104 : UInt8), (97 : UInt8), (105 : UInt8), (110 : UInt8)]),
 a.1, [], (0 : Int), PUnit.unit),
 d.2)
 else
 some
 ((y.1,
 decide
 (b =
 ByteArray.mk
 #[(99 : UInt8), (104 : UInt8), (97 : UInt8), (105 : UInt8), (110 : UInt8)]),
 a.1, [], (0 : Int), PUnit.unit),
 false, PUnit.unit)
 else
 some
 ((y.1,
 decide
 (b =
 ByteArray.mk
 #[(99 : UInt8), (104 : UInt8), (97 : UInt8), (105 : UInt8), (110 : UInt8)]),
 a.1, [], (0 : Int), PUnit.unit),
 false, PUnit.unit)
 else
 (nth a0 (Int.toNat (1 : Int))).bind fun y =>
 (ZV big y).bind fun y =>
 (nth a0 (Int.toNat (3 : Int))).bind fun c =>
 (ZV big c).bind fun a =>
 (nth a0 (Int.toNat (2 : Int))).bind fun b =>
 (Xa big y.1
 (decide
 (b =
 ByteArray.mk
 #[(99 : UInt8), (104 : UInt8), (97 : UInt8), (105 : UInt8), (110 : UInt8)]))
 a.1).bind
 fun d =>
 bif y.2.1 then
 bif a.2.1 then
 some
 ((y.1,
 decide
 (b =
 ByteArray.mk
 #[(99 : UInt8), (104 : UInt8), (97 : UInt8), (105 : UInt8), (110 : UInt8)]),
 a.1, [], (0 : Int), PUnit.unit),
 d.2)
 else
 some
 ((y.1,
 decide
 (b =
 ByteArray.mk
 #[(99 : UInt8), (104 : UInt8), (97 : UInt8), (105 : UInt8), (110 : UInt8)]),
 a.1, [], (0 : Int), PUnit.unit),
 false, PUnit.unit)
 else
 some
 ((y.1,
 decide
 (b =
 ByteArray.mk
 #[(99 : UInt8), (104 : UInt8), (97 : UInt8), (105 : UInt8), (110 : UInt8)]),
 a.1, [], (0 : Int), PUnit.unit),
 false, PUnit.unit) := by kernel_rfl
def Hs : Yf := (14, Zal) :: Jb
theorem FF : Yg Hs := cons_cons Zcf JW
abbrev BC : W0 := ([.drop, .drop, .is (.ptr 0 0), .drop, .is (.ptr 1 0), .ro ZA, .ro ZA, .is (.own 2 0), .ro Zc, .drop, .drop, .drop, .drop, .drop, .drop, .drop, .drop, .drop, .drop, .drop, .drop, .drop, .drop, .drop, .drop, .drop, .drop, .drop, .drop, .drop, .drop, .drop, .drop, .drop, .drop, .drop, .drop, .drop, .drop, .drop, .drop, .drop, .drop, .drop, .drop, .drop, .drop, .drop, .drop, .drop, .drop, .drop, .drop, .drop, .drop, .drop, .drop, .drop, .drop, .drop, .drop, .drop, .drop, .drop, .drop, .drop, .drop, .drop, .drop, .drop, .drop, .drop, .drop, .drop, .drop, .drop, .drop, .drop, .drop, .drop, .drop, .drop, .drop, .drop, .drop, .drop, .drop, .drop, .drop, .drop, .drop, .drop, .drop, .drop, .drop, .drop, .drop, .drop, .drop, .drop, .drop, .drop, .drop, .drop, .drop, .drop, .drop, .drop, .drop, .drop, .drop, .drop, .drop, .drop, .drop, .drop, .drop, .drop, .drop, .drop, .drop, .drop, .drop, .drop, .drop], [.vars [.ro Zc, .ro ZA, .ro Zc, .own Yz, .ro Zc], .vars [.ro Zc, .ro ZA, .ro Zc, .own Yz, .ro Zc], .arr Zf])
def Jc := FX.mk (false, false, [4, 11, 15, 107, 115]) Hs [(8, BC)] [some Ah, none] Tryz.f7 (shT [(true, Ah), (false, Zk)])
def Jd : Con := cR Jc [Zf] true
theorem JX : CO 7 Jd := ZI FF
def Je (n : Nat) (a0 : ByteArray) : Option (Uc × Int × Unit) := qR Jc [Zf] n (a0, ())
def ZZ (n : Nat) (s5 s6 : Bool) (s8 aa : Int) (ab : Bool) (ac : Int) (ad : List Yl) (ae af : Int) (ag : Bool) (ah : Int) (ai : List Yl) (aj : Int) (b2 : List ByteArray) : Option (Uc × Int × Unit) := rR Jc (zs [Zf]) 8 BC n (s5, s6, s8, ()) ((aa, ab, ac, ad, ae, ()), (af, ag, ah, ai, aj, ()), b2, ())
theorem JY (n : Nat) (a0) : Je n a0 =
  bif decide ((3000 : Int) < (↑a0.size : Int)) then
 some (((0 : Int), false, (0 : Int), [], (0 : Int), PUnit.unit), (-1 : Int), PUnit.unit)
 else
 (DR big a0).bind fun y =>
 ZZ n false false (0 : Int) (0 : Int) false (0 : Int) [] (0 : Int) (0 : Int) false (0 : Int) []
 (0 : Int) y := by kernel_rfl
theorem Q3 (n : Nat) (s5 s6 s8 aa ab ac ad ae af ag ah ai aj b2) : ZZ (n + 1) s5 s6 s8 aa ab ac ad ae af ag ah ai aj b2 =
  bif decide (s8 < (↑b2.length : Int)) then
 if (0 : Int) ≤ s8 then
 if s8 < (↑b2.length : Int) then
 (nth b2 s8.toNat).bind fun y =>
 (Hb big y).bind fun y =>
 bif y.2.1 then
 bif decide ((↑(List.length y.1) : Int) = (0 : Int)) then
 ZZ n s5 s6 (K6.wrap (s8 + (1 : Int))) aa ab ac ad ae af ag ah
 ai aj b2
 else
 if (0 : Int) < (↑(List.length y.1) : Int) then
 (nth y.1 (Int.toNat (0 : Int))).bind fun a =>
 (nth a.data.toList (Int.toNat (0 : Int))).bind fun b =>
 bif decide ((↑b.toNat : Int) = (35 : Int)) then
 ZZ n s5 s6 (K6.wrap (s8 + (1 : Int))) aa ab ac ad ae af ag
 ah ai aj b2
 else
 bif !y.2.1 then
 some
 (((0 : Int), false, (0 : Int), [], (0 : Int), PUnit.unit),
 K6.wrap (s8 + (1 : Int)), PUnit.unit)
 else
 bif s6 then
 some
 (((0 : Int), false, (0 : Int), [], (0 : Int), PUnit.unit),
 K6.wrap (s8 + (1 : Int)), PUnit.unit)
 else
 bif !s5 then
 (Q2 big y.1).bind fun y =>
 bif !y.2.1 then
 some
 (((0 : Int), false, (0 : Int), [], (0 : Int), PUnit.unit),
 K6.wrap (s8 + (1 : Int)), PUnit.unit)
 else
 ZZ n true s6 (K6.wrap (s8 + (1 : Int))) aa ab ac ad
 ae y.1.1 y.1.2.1 y.1.2.2.1 y.1.2.2.2.1
 y.1.2.2.2.2.1 b2
 else
 if (0 : Int) < (↑(List.length y.1) : Int) then
 (nth y.1 (Int.toNat (0 : Int))).bind fun d =>
 bif
 decide
 (d =
 ByteArray.mk #[99, 97, 108, 109]) then
 bif decide ((↑(List.length y.1) : Int) = (2 : Int)) then
 if (1 : Int) < (↑(List.length y.1) : Int) then
 (nth y.1 (Int.toNat (1 : Int))).bind fun y =>
 (ZV big y).bind fun y =>
 bif !y.2.1 then
 some
 (((0 : Int), false, (0 : Int), [], (0 : Int), PUnit.unit),
 K6.wrap (s8 + (1 : Int)), PUnit.unit)
 else
 ZZ n s5 true (K6.wrap (s8 + (1 : Int))) aa ab
 ac ad ae af ag ah ai y.1 b2
 else none
 else
 bif !decide ((↑(List.length y.1) : Int) = (2 : Int)) then
 some
 (((0 : Int), false, (0 : Int), [], (0 : Int), PUnit.unit),
 K6.wrap (s8 + (1 : Int)), PUnit.unit)
 else
 ZZ n s5 true (K6.wrap (s8 + (1 : Int))) aa ab ac
 ad ae af ag ah ai (0 : Int) b2
 else
 (KQ big y.1).bind fun y =>
 bif !y.2.1 then
 some
 (((0 : Int), false, (0 : Int), [], (0 : Int), PUnit.unit),
 K6.wrap (s8 + (1 : Int)), PUnit.unit)
 else
 (AL big y.1).bind fun c =>
 bif !c then
 some
 (((0 : Int), false, (0 : Int), [], (0 : Int), PUnit.unit),
 K6.wrap (s8 + (1 : Int)), PUnit.unit)
 else
 bif decide ((↑ai.length : Int) = (120 : Int)) then
 some
 (((0 : Int), false, (0 : Int), [], (0 : Int), PUnit.unit),
 K6.wrap (s8 + (1 : Int)), PUnit.unit)
 else
 if ai.length + (1 : Nat) ≤ lim then
 ZZ n s5 s6 (K6.wrap (s8 + (1 : Int))) aa ab
 ac ad ae af ag ah (ai.append [y.1]) aj b2
 else none
 else none
 else none
 else
 bif !y.2.1 then
 some
 (((0 : Int), false, (0 : Int), [], (0 : Int), PUnit.unit), K6.wrap (s8 + (1 : Int)),
 PUnit.unit)
 else
 bif s6 then
 some
 (((0 : Int), false, (0 : Int), [], (0 : Int), PUnit.unit), K6.wrap (s8 + (1 : Int)),
 PUnit.unit)
 else
 bif !s5 then
 (Q2 big y.1).bind fun y =>
 bif !y.2.1 then
 some
 (((0 : Int), false, (0 : Int), [], (0 : Int), PUnit.unit), K6.wrap (s8 + (1 : Int)),
 PUnit.unit)
 else
 ZZ n true s6 (K6.wrap (s8 + (1 : Int))) aa ab ac ad ae
 y.1.1 y.1.2.1 y.1.2.2.1 y.1.2.2.2.1 y.1.2.2.2.2.1 b2
 else
 if (0 : Int) < (↑(List.length y.1) : Int) then
 (nth y.1 (Int.toNat (0 : Int))).bind fun a =>
 bif decide (a = ByteArray.mk #[99, 97, 108, 109]) then
 bif decide ((↑(List.length y.1) : Int) = (2 : Int)) then
 if (1 : Int) < (↑(List.length y.1) : Int) then
 (nth y.1 (Int.toNat (1 : Int))).bind fun y =>
 (ZV big y).bind fun y =>
 bif !y.2.1 then
 some
 (((0 : Int), false, (0 : Int), [], (0 : Int), PUnit.unit),
 K6.wrap (s8 + (1 : Int)), PUnit.unit)
 else
 ZZ n s5 true (K6.wrap (s8 + (1 : Int))) aa ab ac ad
 ae af ag ah ai y.1 b2
 else none
 else
 bif !decide ((↑(List.length y.1) : Int) = (2 : Int)) then
 some
 (((0 : Int), false, (0 : Int), [], (0 : Int), PUnit.unit),
 K6.wrap (s8 + (1 : Int)), PUnit.unit)
 else
 ZZ n s5 true (K6.wrap (s8 + (1 : Int))) aa ab ac ad ae
 af ag ah ai (0 : Int) b2
 else
 (KQ big y.1).bind fun y =>
 bif !y.2.1 then
 some
 (((0 : Int), false, (0 : Int), [], (0 : Int), PUnit.unit),
 K6.wrap (s8 + (1 : Int)), PUnit.unit)
 else
 (AL big y.1).bind fun b =>
 bif !b then
 some
 (((0 : Int), false, (0 : Int), [], (0 : Int), PUnit.unit),
 K6.wrap (s8 + (1 : Int)), PUnit.unit)
 else
 bif decide ((↑ai.length : Int) = (120 : Int)) then
 some
 (((0 : Int), false, (0 : Int), [], (0 : Int), PUnit.unit),
 K6.wrap (s8 + (1 : Int)), PUnit.unit)
 else
 if ai.length + (1 : Nat) ≤ lim then
 ZZ n s5 s6 (K6.wrap (s8 + (1 : Int))) aa ab ac ad
 ae af ag ah (ai.append [y.1]) aj b2
 else none
 else none
 else none
 else none
 else
 bif !s5 then some (((0 : Int), false, (0 : Int), [], (0 : Int), PUnit.unit), (1 : Int), PUnit.unit)
 else some ((af, ag, ah, ai, aj, PUnit.unit), (0 : Int), PUnit.unit) := by kernel_rfl
def Jf : Yf := (7, Jd) :: Hs
theorem JZ : Yg Jf := cons_cons JX FF
def ZoU := FX.mk (false, false, []) Jf [] [none] Tryz.f4 (shV ZA)
def Zij : Con := cR ZoU [Z9] true
theorem Zdv : CO 4 Zij := ZI JZ
def ZlP : Yf := (4, Zij) :: Jf
theorem Zkb : Yg ZlP := cons_cons Zdv JZ
theorem ZoV {p : Nat → Prop} {w : World} {k : IntKind} {n : Int} {cargs : List Value} {S : List Nat} {B : List LC} (h : CVL p w [.val (.int k) n] cargs S B) : cargs = [.int k n] ∧ S = [] ∧ B = [] := by
 simp only [CVL] at h
 obtain ⟨c, r, S1, S2, B1, B2, rfl, rfl, rfl, h1, rfl, rfl, rfl⟩ := h
 simp only [CV] at h1
 obtain ⟨rfl, rfl, cs, hr, rfl⟩ := h1
 simp only [TR] at hr
 obtain ⟨rfl, _⟩ := hr
 exact ⟨rfl, rfl, rfl⟩
def BE (_n : Nat) (x : Pg [Zk]) : Option ByteArray := if -9223372036854775808 ≤ x.1 then (if x.1 ≤ 9223372036854775807 then some (ZgS x.1) else none) else none
def BF : Con := roS [Zk] true (shV Zf) (BE big)
theorem Ht : KW Tryz.prog 39 BF := Zf2 ⟨Tryz.f39, by kernel_rfl, rfl, by decide⟩ fun xs v h => by
 obtain ⟨a0, u⟩ := xs
 cases u
 unfold BE at h
 dsimp only at h
 split at h
 ·rename_i h0
  split at h
  ·rename_i h1
   simp only [Option.some.injEq] at h
   subst h
   intro p w cargs S B hcv hnd hS hp hnt
   obtain ⟨rfl, rfl, rfl⟩ := ZoV hcv
   refine (Any.strconv_Itoa Tryz.laysM171 a0 h0 h1 w (Zi4 hnt)).mono ?_
   rintro e w' ⟨rfl, k, os, rfl⟩
   exact ⟨_, [], [], rfl, List.nodup_nil, (fun k hk => by cases hk), ZgR w k os, ⟨rfl, rfl, [.string (ZgS a0)], ⟨rfl, rfl⟩, rfl⟩, rfl⟩
  ·cases h
 ·cases h
def UL : Yf := (39, BF) :: ZlP
theorem Q4 : Yg UL := cons_cons Ht Zkb
def Zik := FX.mk (false, false, []) UL [] [none] Tryz.f18 (shV Zf)
def Zam : Con := cR Zik [Zk] true
theorem Zch : CO 18 Zam := ZI Q4
def Zan : Yf := (18, Zam) :: UL
theorem Zci : Yg Zan := cons_cons Zch Q4
def Zil := FX.mk (false, false, [3, 5, 23, 25, 27, 29, 52]) Zan [] [none] Tryz.f8 (shV Zf)
def Zao : Con := cR Zil [Zf] true
theorem Zcj : CO 8 Zao := ZI Zci
def XR : Yf := [(4, Zij), (5, VC), (6, Ja), (7, Jd), (8, Zao)]
theorem BP : Yg XR := cons_cons Zdv (cons_cons Uy (cons_cons JV (cons_cons JX (cons_cons Zcj (H6)))))
abbrev Xi : W0 := ([.drop, .drop, .drop, .drop, .is (.ptr 1 0), .ro Zc, .is (.ptr 3 0), .drop, .is (.ptr 5 0), .ro Zc, .ro Zc, .drop, .drop, .drop, .drop, .drop, .drop, .drop, .drop, .drop, .drop, .drop, .drop, .drop, .drop, .drop, .drop, .drop, .drop, .drop, .drop, .drop, .drop, .drop, .drop, .drop, .drop, .drop, .drop, .drop, .drop, .drop, .drop, .drop, .drop, .drop, .drop, .drop, .drop, .drop, .drop, .drop, .drop, .drop, .drop, .drop, .drop, .drop, .drop, .drop, .drop, .drop, .drop, .drop, .drop, .drop, .drop, .drop, .drop, .drop, .drop, .drop, .drop, .drop, .drop, .drop, .drop, .drop, .drop, .drop, .drop, .drop, .drop, .drop, .drop, .drop, .drop, .drop, .drop, .drop, .drop, .drop, .drop, .drop, .drop, .drop, .drop, .drop, .drop, .drop, .drop, .drop, .drop, .drop, .drop, .drop, .drop, .drop, .drop, .drop, .drop, .drop, .drop, .drop, .drop, .drop, .drop], [.drop, .vars [.ro Zc, .ro ZA, .ro Zc, .own Zy, .ro Zc], .drop, .vars [.ro Zc, .ro ZA, .ro Zc, .own Zy, .ro Zc], .drop, .vars [.ro Zc, .ro ZA, .ro Zc, .own Zy, .ro Zc]])
def UU : KP := [(10, Xi)]
def Q5 (n : Nat) (x : Pg [Z9]) := evX (false, false, [4, 6, 8, 36, 39, 45, 47, 52, 54, 59, 61, 66, 68, 73, 79, 84, 100, 103, 999999]) XR UU [none] Tryz.f3 (shV ZA) n (Zkt [Z9] x)
def W7 (n : Nat) (a0 : Vq) : Option Bool := Q5 n (a0, ())
def BQ (n : Nat) (x : KD Xi.1) (y : BD Xi.2) := ZfZ (env (false, false, [4, 6, 8, 36, 39, 45, 47, 52, 54, 59, 61, 66, 68, 73, 79, 84, 100, 103, 999999]) XR) UU (body Tryz.f3) (Zq3 (false, false, [4, 6, 8, 36, 39, 45, 47, 52, 54, 59, 61, 66, 68, 73, 79, 84, 100, 103, 999999]) XR [none] Tryz.f3 (shV ZA) [.val Z9 (WI Z9)]) n 10 Xi x y
def Xj (n : Nat) (s5 : Int) (s9 : Int) (s10 : Int) (aa : Int) (ab : Bool) (ac : Int) (ad : (List Zs)) (ae : Int) (af : Int) (ag : Bool) (ah : Int) (ai : (List Zs)) (aj : Int) (ak : Int) (al : Bool) (am : Int) (an : (List Zs)) (ao : Int) : Option Bool := BQ n (s5, s9, s10, ()) ((aa, ab, ac, ad, ae, ()), (af, ag, ah, ai, aj, ()), (ak, al, am, an, ao, ()), ())
theorem BR (n : Nat) (a0 : Vq) : W7 n a0 =
  bif decide ((1048576 : Int) < (↑(List.length a0) : Int)) then some true
 else
 (VD big a0).bind fun y =>
 (Xc big y).bind fun a =>
 (Je big y).bind fun b =>
 if
 (ByteArray.mk
 #[(35 : UInt8), (32 : UInt8), (115 : UInt8), (97 : UInt8), (105 : UInt8), (100 : UInt8),
 (10 : UInt8), (32 : UInt8), (32 : UInt8), (32 : UInt8), (10 : UInt8)]).size +
 ByteArray.size y ≤
 lim then
 if
 (ByteArray.mk
 #[(35 : UInt8), (32 : UInt8), (115 : UInt8), (97 : UInt8), (105 : UInt8), (100 : UInt8),
 (10 : UInt8), (32 : UInt8), (32 : UInt8), (32 : UInt8), (10 : UInt8)] ++
 y).size +
 (ByteArray.mk
 #[(10 : UInt8), (32 : UInt8), (32 : UInt8), (35 : UInt8), (32 : UInt8), (109 : UInt8),
 (111 : UInt8), (114 : UInt8), (101 : UInt8), (10 : UInt8)]).size ≤
 lim then
 (Xc big
 (ByteArray.mk
 #[(35 : UInt8), (32 : UInt8), (115 : UInt8), (97 : UInt8), (105 : UInt8), (100 : UInt8),
 (10 : UInt8), (32 : UInt8), (32 : UInt8), (32 : UInt8), (10 : UInt8)] ++
 y ++
 ByteArray.mk
 #[(10 : UInt8), (32 : UInt8), (32 : UInt8), (35 : UInt8), (32 : UInt8), (109 : UInt8),
 (111 : UInt8), (114 : UInt8), (101 : UInt8), (10 : UInt8)])).bind
 fun y =>
 bif !decide (a.2.1 = b.2.1) then some false
 else
 bif
 !decide
 ((↑(List.length a.1.2.2.2.1) : Int) =
 (↑(List.length b.1.2.2.2.1) : Int)) then
 some false
 else
 bif !decide (a.1.1 = b.1.1) then some false
 else
 bif !a.1.2.1 == b.1.2.1 then some false
 else
 bif !decide (a.1.2.2.1 = b.1.2.2.1) then some false
 else
 bif !decide (a.1.2.2.2.2.1 = b.1.2.2.2.2.1) then some false
 else
 Xj n a.2.1 y.2.1 (0 : Int) a.1.1 a.1.2.1
 a.1.2.2.1 a.1.2.2.2.1 a.1.2.2.2.2.1 b.1.1
 b.1.2.1 b.1.2.2.1 b.1.2.2.2.1 b.1.2.2.2.2.1
 y.1.1 y.1.2.1 y.1.2.2.1 y.1.2.2.2.1 y.1.2.2.2.2.1
 else none
 else none := by kernel_rfl
theorem WT (n : Nat) (s5 : Int) (s9 : Int) (s10 : Int) (aa : Int) (ab : Bool) (ac : Int) (ad : (List Zs)) (ae : Int) (af : Int) (ag : Bool) (ah : Int) (ai : (List Zs)) (aj : Int) (ak : Int) (al : Bool) (am : Int) (an : (List Zs)) (ao : Int) : Xj (n + 1) s5 s9 s10 aa ab ac ad ae af ag ah ai aj ak al am an ao =
  bif decide (s10 < (↑ad.length : Int)) then
 if (0 : Int) ≤ s10 then
 if s10 < (↑ad.length : Int) then
 (nth ad s10.toNat).bind fun y =>
 if (0 : Int) ≤ s10 then
 if s10 < (↑ai.length : Int) then
 (nth ai s10.toNat).bind fun a =>
 bif !eqD Yz y a then some false
 else
 Xj n s5 s9 (K6.wrap (s10 + (1 : Int))) aa ab ac ad ae af ag
 ah ai aj ak al am an ao
 else none
 else none
 else none
 else none
 else
 bif !decide (s5 = (0 : Int)) then some true
 else
 bif decide (s9 = (-1 : Int)) then some true
 else
 bif decide (s9 = (0 : Int)) then
 bif decide ((↑an.length : Int) = (↑ad.length : Int)) then some true else some false
 else some false := by kernel_rfl
end
end Go.Sx.Tryz
