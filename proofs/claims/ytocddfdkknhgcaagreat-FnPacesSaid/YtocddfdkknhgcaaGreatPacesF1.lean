/- The functions of the seat: what each comes to. -/
import Derived.Test.YtocddfdkknhgcaaGreatTypes
set_option linter.unusedVariables false
set_option linter.unusedSimpArgs false
set_option maxRecDepth 100000
namespace Go.Sx.Tryz
open Go Go.Sx Go.Proofs
noncomputable def ZcO : List (Nat × Con) := []
theorem ZrZ : ∀ q ∈ ZcO, Zo Tryz.prog q.1 q.2 := Tryz.cons_nil
abbrev Kv : List Wa × List BK := ([.ro Ya, .drop, .drop, .ro Za, .ro Za, .drop, .drop, .drop, .drop, .drop, .drop, .drop, .drop, .drop, .drop, .drop, .drop, .drop, .drop, .drop, .drop, .drop, .drop, .drop, .drop, .drop, .drop, .drop, .drop, .drop, .drop, .drop], [])
def ZkE : KP := [(3, Kv)]
noncomputable def Zqo (n : Nat) (x : YI [Ya]) := evX (false, false, []) ZcO ZkE [none] Tryz.f57 (shP Zv) n (YV [Ya] x)
noncomputable def ZcP : Con := roS [Ya] false (shP Zv) (Zqo big)
theorem Zaa : Zo Tryz.prog 57 ZcP := ZI ⟨Tryz.f57, by kernel_rfl, rfl, by decide⟩ fun _ _ h => Zw ZrZ (f := Tryz.f57) (by kernel_rfl) rfl (by kernel_rfl) (by kernel_rfl) big h
noncomputable def JG (n : Nat) (a0 : YZ) : Option ZF := Zqo n (a0, ())
noncomputable def ZuC (n : Nat) (x : KD Kv.1) (y : BD Kv.2) := Yh (env (false, false, []) ZcO) ZkE (body Tryz.f57) (VV (false, false, []) ZcO [none] Tryz.f57 (shP Zv) [.val Ya (ZT Ya)]) n 3 Kv x y
noncomputable def Kw (n : Nat) (s0 : YZ) (s3 : Int) (s4 : Int) : Option ZF := ZuC n (s0, s3, s4, ()) ()
theorem Zr0 (n : Nat) (a0 : YZ) : JG n a0 =
  Kw n a0 (IntKind.i64.wrap ((78001 : Int) + (↑(List.length a0) : Int))) (0 : Int) := by kernel_rfl
theorem ZkF (n : Nat) (s0 : YZ) (s3 : Int) (s4 : Int) : Kw (n + 1) s0 s3 s4 =
  bif decide (s4 < (↑(List.length s0) : Int)) then
 bif decide (s4 < (4000 : Int)) then
 if (0 : Int) ≤ s4 then
 (nth s0 s4.toNat).bind fun y =>
 Kw n s0
 (IntKind.i64.wrap
 (↑(BitVec.ofInt IntKind.i64.bits
 (IntKind.i64.wrap
 (IntKind.i64.wrap (IntKind.i64.wrap (s3 * (131 : Int)) + IntKind.i64.wrap y) + (7 : Int))) &&&
 BitVec.ofInt IntKind.i64.bits (1073741823 : Int)).toNat :
 Int))
 (IntKind.i64.wrap (s4 + (1 : Int)))
 else none
 else some (s0, (0 : Int), s3, ())
 else some (s0, (0 : Int), s3, ()) := by kernel_rfl
end Go.Sx.Tryz
set_option maxRecDepth 100000
namespace Go.Sx.Tryz
open Go Go.Sx Go.Proofs
noncomputable def ZkG : List (Nat × Con) := []
theorem Zn8 : ∀ q ∈ ZkG, Zo Tryz.prog q.1 q.2 := Tryz.cons_nil
def ZuD : KP := []
noncomputable def ZkH (n : Nat) (x : AP.denL [.mr Zv]) := evX (false, false, [4, 5, 6, 7, 11, 13, 14, 15, 18, 19, 20, 25, 26, 27, 29, 30, 31, 36, 37, 38, 40, 41, 42, 49, 50, 51, 52, 55]) ZkG ZuD [none] Tryz.f58 (shO (shV Zn) [.mr Zv]) n (AP.encL [.mr Zv] x)
noncomputable def ZkI : Con := apS [.mr Zv] false (shO (shV Zn) [.mr Zv]) (ZkH big)
theorem Zn9 : Zo Tryz.prog 58 ZkI := Y3 ⟨Tryz.f58, by kernel_rfl, rfl, by decide⟩ fun _ _ h => Zw Zn8 (f := Tryz.f58) (by kernel_rfl) rfl (by kernel_rfl) (by kernel_rfl) big h
noncomputable def WU (n : Nat) (a0 : ZF) : Option (Int × ZF × Unit) := ZkH n (a0, ())
theorem Zoa (n : Nat) (a0 : ZF) : WU n a0 =
  bif decide (a0.2.1 < (↑(List.length a0.1) : Int)) then
 if (0 : Int) ≤ a0.2.1 then
 (nth a0.1 (Int.toNat a0.2.1)).bind fun y =>
 some
 (IntKind.i64.wrap
 (↑(BitVec.ofInt IntKind.i64.bits
 (IntKind.i64.wrap
 (IntKind.i64.wrap
 (↑(BitVec.ofInt IntKind.i64.bits
 (IntKind.i64.wrap
 (↑(BitVec.ofInt IntKind.i64.bits
 ((IntKind.i64.wrap
 (IntKind.i64.wrap
 (a0.2.2.1 * (6364136223846793005 : Int)) +
 (1442695040888963407 : Int))).fdiv
 ((2 : Int) ^ min (Int.toNat (33 : Int)) IntKind.i64.bits)) ^^^
 BitVec.ofInt IntKind.i64.bits
 ((IntKind.i64.wrap
 (IntKind.i64.wrap
 (a0.2.2.1 * (6364136223846793005 : Int)) +
 (1442695040888963407 : Int))).fdiv
 ((2 : Int) ^
 min (Int.toNat (45 : Int)) IntKind.i64.bits))).toNat :
 Int)) &&&
 BitVec.ofInt IntKind.i64.bits (255 : Int)).toNat :
 Int) +
 IntKind.i64.wrap y)) &&&
 BitVec.ofInt IntKind.i64.bits (255 : Int)).toNat :
 Int),
 (a0.1, IntKind.i64.wrap (a0.2.1 + (1 : Int)),
 IntKind.i64.wrap
 (IntKind.i64.wrap (a0.2.2.1 * (6364136223846793005 : Int)) + (1442695040888963407 : Int)),
 ()),
 ())
 else none
 else
 some
 (IntKind.i64.wrap
 (↑(BitVec.ofInt IntKind.i64.bits
 (IntKind.i64.wrap
 (↑(BitVec.ofInt IntKind.i64.bits
 ((IntKind.i64.wrap
 (IntKind.i64.wrap (a0.2.2.1 * (6364136223846793005 : Int)) +
 (1442695040888963407 : Int))).fdiv
 ((2 : Int) ^ min (Int.toNat (33 : Int)) IntKind.i64.bits)) ^^^
 BitVec.ofInt IntKind.i64.bits
 ((IntKind.i64.wrap
 (IntKind.i64.wrap (a0.2.2.1 * (6364136223846793005 : Int)) +
 (1442695040888963407 : Int))).fdiv
 ((2 : Int) ^ min (Int.toNat (45 : Int)) IntKind.i64.bits))).toNat :
 Int)) &&&
 BitVec.ofInt IntKind.i64.bits (255 : Int)).toNat :
 Int),
 (a0.1, a0.2.1,
 IntKind.i64.wrap
 (IntKind.i64.wrap (a0.2.2.1 * (6364136223846793005 : Int)) + (1442695040888963407 : Int)),
 ()),
 ()) := by kernel_rfl
end Go.Sx.Tryz
set_option maxRecDepth 100000
namespace Go.Sx.Tryz
open Go Go.Sx Go.Proofs
noncomputable def ZhA : List (Nat × Con) := [(58, ZkI)]
theorem ZkJ : ∀ q ∈ ZhA, Zo Tryz.prog q.1 q.2 := Tryz.cons_cons Zn9 (Tryz.cons_nil)
def Zr1 : KP := []
noncomputable def ZhB (n : Nat) (x : AP.denL [.mr Zv, .ro Zn]) := evX (false, false, []) ZhA Zr1 [none] Tryz.f59 (shO (shV Zn) [.mr Zv]) n (AP.encL [.mr Zv, .ro Zn] x)
noncomputable def YG : Con := apS [.mr Zv, .ro Zn] false (shO (shV Zn) [.mr Zv]) (ZhB big)
theorem Ym : Zo Tryz.prog 59 YG := Y3 ⟨Tryz.f59, by kernel_rfl, rfl, by decide⟩ fun _ _ h => Zw ZkJ (f := Tryz.f59) (by kernel_rfl) rfl (by kernel_rfl) (by kernel_rfl) big h
noncomputable def ZY (n : Nat) (a0 : ZF) (a1 : Int) : Option (Int × ZF × Unit) := ZhB n (a0, a1, ())
theorem ZkK (n : Nat) (a0 : ZF) (a1 : Int) : ZY n a0 a1 =
  bif decide (a1 ≤ (0 : Int)) then some ((0 : Int), a0, ())
 else
 bif decide (a1 ≤ (256 : Int)) then
 (WU big a0).bind fun y => if a1 = (0 : Int) then none else some (Int.tmod y.1 a1, y.2)
 else
 (WU big a0).bind fun y =>
 (WU big y.2.1).bind fun y_1 =>
 (WU big y_1.2.1).bind fun y_2 =>
 (WU big y_2.2.1).bind fun y_3 =>
 if a1 = (0 : Int) then none
 else
 some
 ((IntKind.i64.wrap
 (IntKind.i64.wrap
 (IntKind.i64.wrap
 (IntKind.i64.wrap (y.1 * (16777216 : Int)) +
 IntKind.i64.wrap (y_1.1 * (65536 : Int))) +
 IntKind.i64.wrap (y_2.1 * (256 : Int))) +
 y_3.1)).tmod
 a1,
 y_3.2) := by kernel_rfl
end Go.Sx.Tryz
set_option maxRecDepth 100000
namespace Go.Sx.Tryz
open Go Go.Sx Go.Proofs
noncomputable def ZkL : List (Nat × Con) := [(59, YG)]
theorem Zob : ∀ q ∈ ZkL, Zo Tryz.prog q.1 q.2 := Tryz.cons_cons Ym (Tryz.cons_nil)
def ZuE : KP := []
noncomputable def ZkM (n : Nat) (x : AP.denL [.mr Zv, .ro Zn]) := evX (false, false, []) ZkL ZuE [none] Tryz.f63 (shO (shV ZE) [.mr Zv]) n (AP.encL [.mr Zv, .ro Zn] x)
noncomputable def Zab : Con := apS [.mr Zv, .ro Zn] false (shO (shV ZE) [.mr Zv]) (ZkM big)
theorem Jj : Zo Tryz.prog 63 Zab := Y3 ⟨Tryz.f63, by kernel_rfl, rfl, by decide⟩ fun _ _ h => Zw Zob (f := Tryz.f63) (by kernel_rfl) rfl (by kernel_rfl) (by kernel_rfl) big h
noncomputable def Q3 (n : Nat) (a0 : ZF) (a1 : Int) : Option (Bool × ZF × Unit) := ZkM n (a0, a1, ())
theorem Zoc (n : Nat) (a0 : ZF) (a1 : Int) : Q3 n a0 a1 =
  (ZY big a0 a1).bind fun y => some (decide (y.1 = (0 : Int)), y.2) := by kernel_rfl
end Go.Sx.Tryz
set_option maxRecDepth 100000
namespace Go.Sx.Tryz
open Go Go.Sx Go.Proofs
noncomputable def Zdq : List (Nat × Con) := [(59, YG)]
theorem ZgO : ∀ q ∈ Zdq, Zo Tryz.prog q.1 q.2 := Tryz.cons_cons Ym (Tryz.cons_nil)
def ZkN : KP := []
noncomputable def Zdr (n : Nat) (x : AP.denL [.mr Zv, .ro YJ]) := evX (false, false, []) Zdq ZkN [none] Tryz.f62 (shO (shV Zn) [.mr Zv]) n (AP.encL [.mr Zv, .ro YJ] x)
noncomputable def XV : Con := apS [.mr Zv, .ro YJ] false (shO (shV Zn) [.mr Zv]) (Zdr big)
theorem XE : Zo Tryz.prog 62 XV := Y3 ⟨Tryz.f62, by kernel_rfl, rfl, by decide⟩ fun _ _ h => Zw ZgO (f := Tryz.f62) (by kernel_rfl) rfl (by kernel_rfl) (by kernel_rfl) big h
noncomputable def Xe (n : Nat) (a0 : ZF) (a1 : YF) : Option (Int × ZF × Unit) := Zdr n (a0, a1, ())
theorem ZgP (n : Nat) (a0 : ZF) (a1 : YF) : Xe n a0 a1 =
  (ZY big a0 (↑(List.length a1) : Int)).bind fun y =>
 if (0 : Int) ≤ y.1 then (nth a1 (Int.toNat y.1)).bind fun y_1 => some (y_1, y.2) else none := by kernel_rfl
end Go.Sx.Tryz
set_option maxRecDepth 100000
namespace Go.Sx.Tryz
open Go Go.Sx Go.Proofs
noncomputable def ZkO : List (Nat × Con) := [(59, YG)]
theorem Zod : ∀ q ∈ ZkO, Zo Tryz.prog q.1 q.2 := Tryz.cons_cons Ym (Tryz.cons_nil)
def ZuF : KP := []
noncomputable def ZkP (n : Nat) (x : AP.denL [.mr Zv, .ro ZbE]) := evX (false, false, []) ZkO ZuF [none] Tryz.f199 (shO (shV Zx) [.mr Zv]) n (AP.encL [.mr Zv, .ro ZbE] x)
noncomputable def ZkQ : Con := apS [.mr Zv, .ro ZbE] false (shO (shV Zx) [.mr Zv]) (ZkP big)
theorem Zoe : Zo Tryz.prog 199 ZkQ := Y3 ⟨Tryz.f199, by kernel_rfl, rfl, by decide⟩ fun _ _ h => Zw Zod (f := Tryz.f199) (by kernel_rfl) rfl (by kernel_rfl) (by kernel_rfl) big h
noncomputable def Zeh (n : Nat) (a0 : ZF) (a1 : ZuB) : Option (ByteArray × ZF × Unit) := ZkP n (a0, a1, ())
theorem Zof (n : Nat) (a0 : ZF) (a1 : ZuB) : Zeh n a0 a1 =
  (ZY big a0 (↑(List.length a1) : Int)).bind fun y =>
 if (0 : Int) ≤ y.1 then (nth a1 (Int.toNat y.1)).bind fun y_1 => some (y_1, y.2) else none := by kernel_rfl
end Go.Sx.Tryz
set_option maxRecDepth 100000
namespace Go.Sx.Tryz
open Go Go.Sx Go.Proofs
noncomputable def ZuG : List (Nat × Con) := []
theorem ZuH : ∀ q ∈ ZuG, Zo Tryz.prog q.1 q.2 := Tryz.cons_nil
def Zzm : KP := []
noncomputable def ZuI (n : Nat) (x : YI [Zn, Zn, Zn]) := evX (false, false, []) ZuG Zzm [none] Tryz.f67 (shV ZE) n (YV [Zn, Zn, Zn] x)
noncomputable def Yn : Con := roS [Zn, Zn, Zn] true (shV ZE) (ZuI big)
theorem Z3 : Zo Tryz.prog 67 Yn := ZI ⟨Tryz.f67, by kernel_rfl, rfl, by decide⟩ fun _ _ h => Zw ZuH (f := Tryz.f67) (by kernel_rfl) rfl (by kernel_rfl) (by kernel_rfl) big h
noncomputable def ZQ (n : Nat) (a0 : Int) (a1 : Int) (a2 : Int) : Option Bool := ZuI n (a0, a1, a2, ())
theorem ZhC (n : Nat) (a0 : Int) (a1 : Int) (a2 : Int) : ZQ n a0 a1 a2 =
  bif decide (a1 ≤ a0) then some (decide (a0 ≤ a2)) else some false := by kernel_rfl
end Go.Sx.Tryz
set_option maxRecDepth 100000
namespace Go.Sx.Tryz
open Go Go.Sx Go.Proofs
noncomputable def Zqp : List (Nat × Con) := [(199, ZkQ)]
theorem Zr2 : ∀ q ∈ Zqp, Zo Tryz.prog q.1 q.2 := Tryz.cons_cons Zoe (Tryz.cons_nil)
def Zxd : KP := []
noncomputable def Zqq (n : Nat) (x : AP.denL [.mr Zv]) := evX (false, false, []) Zqp Zxd [none] Tryz.f226 (shO (shV Zx) [.mr Zv]) n (AP.encL [.mr Zv] x)
noncomputable def Zqr : Con := apS [.mr Zv] false (shO (shV Zx) [.mr Zv]) (Zqq big)
theorem Zr3 : Zo Tryz.prog 226 Zqr := Y3 ⟨Tryz.f226, by kernel_rfl, rfl, by decide⟩ fun _ _ h => Zw Zr2 (f := Tryz.f226) (by kernel_rfl) rfl (by kernel_rfl) (by kernel_rfl) big h
noncomputable def Zqs (n : Nat) (a0 : ZF) : Option (ByteArray × ZF × Unit) := Zqq n (a0, ())
theorem Zr4 (n : Nat) (a0 : ZF) : Zqs n a0 =
  (Zeh big a0
 [ByteArray.mk #[(97 : UInt8)], ByteArray.mk #[(98 : UInt8)], ByteArray.mk #[(99 : UInt8)],
 ByteArray.mk #[(97 : UInt8), (98 : UInt8), (99 : UInt8)]]).bind
 fun y => some y := by kernel_rfl
end Go.Sx.Tryz
set_option maxRecDepth 100000
namespace Go.Sx.Tryz
open Go Go.Sx Go.Proofs
noncomputable def Zqt : List (Nat × Con) := [(59, YG), (226, Zqr), (62, XV)]
theorem Zr5 : ∀ q ∈ Zqt, Zo Tryz.prog q.1 q.2 := Tryz.cons_cons Ym (Tryz.cons_cons Zr3 (Tryz.cons_cons XE (Tryz.cons_nil)))
def Zxe : KP := []
noncomputable def Zqu (n : Nat) (x : AP.denL [.mr Zv]) := evX (false, false, []) Zqt Zxe [none] Tryz.f187 (shO (shV VI) [.mr Zv]) n (AP.encL [.mr Zv] x)
noncomputable def Zqv : Con := apS [.mr Zv] false (shO (shV VI) [.mr Zv]) (Zqu big)
theorem Zr6 : Zo Tryz.prog 187 Zqv := Y3 ⟨Tryz.f187, by kernel_rfl, rfl, by decide⟩ fun _ _ h => Zw Zr5 (f := Tryz.f187) (by kernel_rfl) rfl (by kernel_rfl) (by kernel_rfl) big h
noncomputable def ZcQ (n : Nat) (a0 : ZF) : Option (Vc × ZF × Unit) := Zqu n (a0, ())
theorem Zr7 (n : Nat) (a0 : ZF) : ZcQ n a0 =
  (ZY big a0 (3 : Int)).bind fun y =>
 (Zqs big y.2.1).bind fun y_1 =>
 (Xe big y_1.2.1 [(0 : Int), (1 : Int), (7 : Int), (500 : Int), (999999999 : Int)]).bind fun y_2 =>
 some ((IntKind.i64.wrap ((1 : Int) + y.1), y_1.1, y_2.1, ()), y_2.2) := by kernel_rfl
end Go.Sx.Tryz
set_option maxRecDepth 100000
namespace Go.Sx.Tryz
open Go Go.Sx Go.Proofs
noncomputable def Zac : List (Nat × Con) := []
theorem Zog : ∀ q ∈ Zac, Zo Tryz.prog q.1 q.2 := Tryz.cons_nil
abbrev Qg : List Wa × List BK := ([.ro Za, .drop, .drop, .ro Za, .ro Za, .drop, .drop, .drop, .drop, .drop, .drop, .drop, .drop, .drop, .drop, .drop, .drop, .drop, .drop, .drop, .drop], [])
def ZhD : KP := [(3, Qg)]
noncomputable def ZkR (n : Nat) (x : YI [Zn]) := evX (false, false, []) Zac ZhD [none] Tryz.f174 (shV Zn) n (YV [Zn] x)
noncomputable def Q4 : Con := roS [Zn] true (shV Zn) (ZkR big)
theorem V8 : Zo Tryz.prog 174 Q4 := ZI ⟨Tryz.f174, by kernel_rfl, rfl, by decide⟩ fun _ _ h => Zw Zog (f := Tryz.f174) (by kernel_rfl) rfl (by kernel_rfl) (by kernel_rfl) big h
noncomputable def Xh (n : Nat) (a0 : Int) : Option Int := ZkR n (a0, ())
noncomputable def Zr8 (n : Nat) (x : KD Qg.1) (y : BD Qg.2) := Yh (env (false, false, []) Zac) ZhD (body Tryz.f174) (VV (false, false, []) Zac [none] Tryz.f174 (shV Zn) [.val Zn (ZT Zn)]) n 3 Qg x y
noncomputable def Qh (n : Nat) (s0 : Int) (s3 : Int) (s4 : Int) : Option Int := Zr8 n (s0, s3, s4, ()) ()
theorem WH (n : Nat) (a0 : Int) : Xh n a0 =
  Qh n a0 (0 : Int) (0 : Int) := by kernel_rfl
theorem Xl (n : Nat) (s0 : Int) (s3 : Int) (s4 : Int) : Qh (n + 1) s0 s3 s4 =
  bif decide (s4 < (7 : Int)) then
 bif decide ((0 : Int) ≤ s0) then
 if IntKind.u64.wrap s4 < (0 : Int) then none
 else
 Qh n s0
 (IntKind.i64.wrap
 (s3 + (s0.fdiv ((2 : Int) ^ min (IntKind.u64.wrap s4).toNat IntKind.i64.bits)).tmod (2 : Int)))
 (IntKind.i64.wrap (s4 + (1 : Int)))
 else some s3
 else some s3 := by kernel_rfl
end Go.Sx.Tryz
set_option maxRecDepth 100000
namespace Go.Sx.Tryz
open Go Go.Sx Go.Proofs
noncomputable def Zqw : List (Nat × Con) := []
theorem Zr9 : ∀ q ∈ Zqw, Zo Tryz.prog q.1 q.2 := Tryz.cons_nil
def Zxf : KP := []
noncomputable def Zqx (n : Nat) (x : YI [Zn]) := evX (false, false, []) Zqw Zxf [none] Tryz.f177 (shV Zn) n (YV [Zn] x)
noncomputable def ZgQ : Con := roS [Zn] true (shV Zn) (Zqx big)
theorem Zfn : Zo Tryz.prog 177 ZgQ := ZI ⟨Tryz.f177, by kernel_rfl, rfl, by decide⟩ fun _ _ h => Zw Zr9 (f := Tryz.f177) (by kernel_rfl) rfl (by kernel_rfl) (by kernel_rfl) big h
noncomputable def JH (n : Nat) (a0 : Int) : Option Int := Zqx n (a0, ())
theorem Zfo (n : Nat) (a0 : Int) : JH n a0 =
  bif decide (a0 < (1 : Int)) then some (0 : Int)
 else some (IntKind.i64.wrap ((IntKind.i64.wrap (a0 - (1 : Int))).tdiv (3 : Int))) := by kernel_rfl
end Go.Sx.Tryz
set_option maxRecDepth 100000
namespace Go.Sx.Tryz
open Go Go.Sx Go.Proofs
noncomputable def Zqy : List (Nat × Con) := [(177, ZgQ)]
theorem Zsa : ∀ q ∈ Zqy, Zo Tryz.prog q.1 q.2 := Tryz.cons_cons Zfn (Tryz.cons_nil)
def Zxg : KP := []
noncomputable def Zqz (n : Nat) (x : YI [Zn]) := evX (false, false, []) Zqy Zxg [none] Tryz.f175 (shV Zn) n (YV [Zn] x)
noncomputable def JI : Con := roS [Zn] true (shV Zn) (Zqz big)
theorem Qi : Zo Tryz.prog 175 JI := ZI ⟨Tryz.f175, by kernel_rfl, rfl, by decide⟩ fun _ _ h => Zw Zsa (f := Tryz.f175) (by kernel_rfl) rfl (by kernel_rfl) (by kernel_rfl) big h
noncomputable def QR (n : Nat) (a0 : Int) : Option Int := Zqz n (a0, ())
theorem Zsb (n : Nat) (a0 : Int) : QR n a0 =
  (JH big a0).bind fun y => some (IntKind.i64.wrap (a0 - y)) := by kernel_rfl
end Go.Sx.Tryz
set_option maxRecDepth 100000
namespace Go.Sx.Tryz
open Go Go.Sx Go.Proofs
noncomputable def ZhE : List (Nat × Con) := []
theorem ZkS : ∀ q ∈ ZhE, Zo Tryz.prog q.1 q.2 := Tryz.cons_nil
def Zsc : KP := []
noncomputable def ZhF (n : Nat) (x : YI [Zn, Zn]) := evX (false, false, []) ZhE Zsc [none] Tryz.f22 (shV Zn) n (YV [Zn, Zn] x)
noncomputable def Xs : Con := roS [Zn, Zn] true (shV Zn) (ZhF big)
theorem Y0 : Zo Tryz.prog 22 Xs := ZI ⟨Tryz.f22, by kernel_rfl, rfl, by decide⟩ fun _ _ h => Zw ZkS (f := Tryz.f22) (by kernel_rfl) rfl (by kernel_rfl) (by kernel_rfl) big h
noncomputable def YA (n : Nat) (a0 : Int) (a1 : Int) : Option Int := ZhF n (a0, a1, ())
theorem ZbF (n : Nat) (a0 : Int) (a1 : Int) : YA n a0 a1 =
  bif decide (a1 < (1 : Int)) then some (0 : Int)
 else
 bif decide (a0 < (0 : Int)) then some (0 : Int)
 else if a1 = (0 : Int) then none else some ((IntKind.i64.wrap (a0.tdiv (4 : Int))).tmod a1) := by kernel_rfl
end Go.Sx.Tryz
set_option maxRecDepth 100000
namespace Go.Sx.Tryz
open Go Go.Sx Go.Proofs
noncomputable def Zyj : List (Nat × Con) := [(67, Yn)]
theorem Zxh : ∀ q ∈ Zyj, Zo Tryz.prog q.1 q.2 := Tryz.cons_cons Z3 (Tryz.cons_nil)
def ZA1 : KP := []
noncomputable def Zyk (n : Nat) (x : YI [Yx, Zn]) := evX (false, false, [2, 5, 10, 20]) Zyj ZA1 [none] Tryz.f114 (shV ZE) n (YV [Yx, Zn] x)
noncomputable def Zad : Con := roS [Yx, Zn] true (shV ZE) (Zyk big)
theorem VW : Zo Tryz.prog 114 Zad := ZI ⟨Tryz.f114, by kernel_rfl, rfl, by decide⟩ fun _ _ h => Zw Zxh (f := Tryz.f114) (by kernel_rfl) rfl (by kernel_rfl) (by kernel_rfl) big h
noncomputable def Ws (n : Nat) (a0 : Zl) (a1 : Int) : Option Bool := Zyk n (a0, a1, ())
theorem Zxi (n : Nat) (a0 : Zl) (a1 : Int) : Ws n a0 a1 =
  bif decide ((0 : Int) < a0.1) then
 (ZQ big a1 (0 : Int) (IntKind.i64.wrap (a0.1 - (1 : Int)))).bind fun y =>
 bif y then
 bif decide (a1 < (7 : Int)) then
 if IntKind.u64.wrap a1 < (0 : Int) then none
 else
 some
 !decide
 ((Int.fdiv a0.2.2.1 ((2 : Int) ^ min (IntKind.u64.wrap a1).toNat IntKind.i64.bits)).tmod
 (2 : Int) =
 (0 : Int))
 else some false
 else some false
 else some false := by kernel_rfl
end Go.Sx.Tryz
set_option maxRecDepth 100000
namespace Go.Sx.Tryz
open Go Go.Sx Go.Proofs
noncomputable def Zfp : List (Nat × Con) := [(67, Yn), (114, Zad)]
theorem Zi3 : ∀ q ∈ Zfp, Zo Tryz.prog q.1 q.2 := Tryz.cons_cons Z3 (Tryz.cons_cons VW (Tryz.cons_nil))
def Zoh : KP := []
noncomputable def Zfq (n : Nat) (x : YI [Yx, Zn]) := evX (false, false, [2, 6, 13]) Zfp Zoh [none] Tryz.f106 (shV ZE) n (YV [Yx, Zn] x)
noncomputable def Wt : Con := roS [Yx, Zn] true (shV ZE) (Zfq big)
theorem XR : Zo Tryz.prog 106 Wt := ZI ⟨Tryz.f106, by kernel_rfl, rfl, by decide⟩ fun _ _ h => Zw Zi3 (f := Tryz.f106) (by kernel_rfl) rfl (by kernel_rfl) (by kernel_rfl) big h
noncomputable def XM (n : Nat) (a0 : Zl) (a1 : Int) : Option Bool := Zfq n (a0, a1, ())
theorem Zi4 (n : Nat) (a0 : Zl) (a1 : Int) : XM n a0 a1 =
  (ZQ big a1 (0 : Int) (IntKind.i64.wrap ((↑(List.length a0.2.2.2.2.1) : Int) - (1 : Int)))).bind
 fun y =>
 bif y then
 (ZQ big a1 (0 : Int) (IntKind.i64.wrap (a0.1 - (1 : Int)))).bind fun y =>
 bif y then (Ws big a0 a1).bind fun y => some !y else some false
 else some false := by kernel_rfl
end Go.Sx.Tryz
set_option maxRecDepth 100000
namespace Go.Sx.Tryz
open Go Go.Sx Go.Proofs
noncomputable def ZhG : List (Nat × Con) := []
theorem ZkT : ∀ q ∈ ZhG, Zo Tryz.prog q.1 q.2 := Tryz.cons_nil
def Zsd : KP := []
noncomputable def ZhH (n : Nat) (x : YI [X3, X3]) := evX (false, false, [2, 3, 5, 7]) ZhG Zsd [none] Tryz.f96 (shV X3) n (YV [X3, X3] x)
noncomputable def W5 : Con := roS [X3, X3] true (shV X3) (ZhH big)
theorem Wj : Zo Tryz.prog 96 W5 := ZI ⟨Tryz.f96, by kernel_rfl, rfl, by decide⟩ fun _ _ h => Zw ZkT (f := Tryz.f96) (by kernel_rfl) rfl (by kernel_rfl) (by kernel_rfl) big h
noncomputable def Xt (n : Nat) (a0 : Zbm) (a1 : Zbm) : Option Zbm := ZhH n (a0, a1, ())
theorem ZkU (n : Nat) (a0 : Zbm) (a1 : Zbm) : Xt n a0 a1 =
  bif decide (a0.2.1 < a1.2.1) then some a1 else some a0 := by kernel_rfl
end Go.Sx.Tryz
set_option maxRecDepth 100000
namespace Go.Sx.Tryz
open Go Go.Sx Go.Proofs
noncomputable def ZcR : List (Nat × Con) := [(96, W5)]
theorem Zse : ∀ q ∈ ZcR, Zo Tryz.prog q.1 q.2 := Tryz.cons_cons Wj (Tryz.cons_nil)
abbrev Kx : List Wa × List BK := ([.drop, .is (.ptr 0 0), .is (.ptr 1 0), .is (.ptr 2 0), .ro Za, .drop, .drop, .drop, .drop, .drop, .drop, .drop, .drop, .drop, .drop, .drop, .drop, .drop, .drop, .drop, .drop, .drop, .drop], [.vars [.ro Za, .ro Za, .ro Za, .ro Za, .ro Za, .ro Za, .ro Za, .ro Za, .ro Za, .ro Za, .ro Za, .ro Za, .ro Za, .ro Za, .ro YJ, .ro ZB, .ro YJ, .ro Yo, .ro ZM, .ro ZG, .ro Za], .vars [.ro Za, .ro Za, .ro Za, .ro Za], .vars [.ro Za, .ro Za, .ro Za, .ro Za]])
def ZkV : KP := [(3, Kx)]
noncomputable def ZqA (n : Nat) (x : YI [ZP]) := evX (false, false, [1, 3, 5, 8, 15]) ZcR ZkV [none] Tryz.f233 (shV X3) n (YV [ZP] x)
noncomputable def ZqB : Con := roS [ZP] true (shV X3) (ZqA big)
theorem Zsf : Zo Tryz.prog 233 ZqB := ZI ⟨Tryz.f233, by kernel_rfl, rfl, by decide⟩ fun _ _ h => Zw Zse (f := Tryz.f233) (by kernel_rfl) rfl (by kernel_rfl) (by kernel_rfl) big h
noncomputable def ZgR (n : Nat) (a0 : Zq) : Option Zbm := ZqA n (a0, ())
noncomputable def ZuJ (n : Nat) (x : KD Kx.1) (y : BD Kx.2) := Yh (env (false, false, [1, 3, 5, 8, 15]) ZcR) ZkV (body Tryz.f233) (VV (false, false, [1, 3, 5, 8, 15]) ZcR [none] Tryz.f233 (shV X3) [.val ZP (ZT ZP)]) n 3 Kx x y
noncomputable def Ky (n : Nat) (s4 : Int) (b0_0 : Int) (b0_1 : Int) (b0_2 : Int) (b0_3 : Int) (b0_4 : Int) (b0_5 : Int) (b0_6 : Int) (b0_7 : Int) (b0_8 : Int) (b0_9 : Int) (b0_10 : Int) (b0_11 : Int) (b0_12 : Int) (b0_13 : Int) (b0_14 : YF) (b0_15 : ZH) (b0_16 : YF) (b0_17 : Yv) (b0_18 : Z6) (b0_19 : ZO) (b0_20 : Int) (b1_0 : Int) (b1_1 : Int) (b1_2 : Int) (b1_3 : Int) (b2_0 : Int) (b2_1 : Int) (b2_2 : Int) (b2_3 : Int) : Option Zbm := ZuJ n (s4, ()) ((b0_0, b0_1, b0_2, b0_3, b0_4, b0_5, b0_6, b0_7, b0_8, b0_9, b0_10, b0_11, b0_12, b0_13, b0_14, b0_15, b0_16, b0_17, b0_18, b0_19, b0_20, ()), (b1_0, b1_1, b1_2, b1_3, ()), (b2_0, b2_1, b2_2, b2_3, ()), ())
theorem Zsg (n : Nat) (a0 : Zq) : ZgR n a0 =
  Ky n (0 : Int) a0.1 a0.2.1 a0.2.2.1.1 a0.2.2.1.2.1 a0.2.2.1.2.2.1
 a0.2.2.1.2.2.2.1 a0.2.2.2.1.1 a0.2.2.2.1.2.1 a0.2.2.2.1.2.2.1
 a0.2.2.2.1.2.2.2.1 a0.2.2.2.2.1.1 a0.2.2.2.2.1.2.1
 a0.2.2.2.2.1.2.2.1 a0.2.2.2.2.1.2.2.2.1 a0.2.2.2.2.2.1
 a0.2.2.2.2.2.2.1 a0.2.2.2.2.2.2.2.1 a0.2.2.2.2.2.2.2.2.1
 a0.2.2.2.2.2.2.2.2.2.1 a0.2.2.2.2.2.2.2.2.2.2.1
 a0.2.2.2.2.2.2.2.2.2.2.2.1 (0 : Int) (0 : Int) (0 : Int) (0 : Int) a0.2.2.1.1
 a0.2.2.1.2.1 a0.2.2.1.2.2.1 a0.2.2.1.2.2.2.1 := by kernel_rfl
theorem ZbG (n : Nat) (s4 : Int) (b0_0 : Int) (b0_1 : Int) (b0_2 : Int) (b0_3 : Int) (b0_4 : Int) (b0_5 : Int) (b0_6 : Int) (b0_7 : Int) (b0_8 : Int) (b0_9 : Int) (b0_10 : Int) (b0_11 : Int) (b0_12 : Int) (b0_13 : Int) (b0_14 : YF) (b0_15 : ZH) (b0_16 : YF) (b0_17 : Yv) (b0_18 : Z6) (b0_19 : ZO) (b0_20 : Int) (b1_0 : Int) (b1_1 : Int) (b1_2 : Int) (b1_3 : Int) (b2_0 : Int) (b2_1 : Int) (b2_2 : Int) (b2_3 : Int) : Ky (n + 1) s4 b0_0 b0_1 b0_2 b0_3 b0_4 b0_5 b0_6 b0_7 b0_8 b0_9 b0_10 b0_11 b0_12 b0_13 b0_14 b0_15 b0_16 b0_17 b0_18 b0_19 b0_20 b1_0 b1_1 b1_2 b1_3 b2_0 b2_1 b2_2 b2_3 =
  bif decide (s4 < (↑(List.length b0_19) : Int)) then
 if (0 : Int) ≤ s4 then
 (nth b0_19 s4.toNat).bind fun y =>
 (Xt big (b2_0, b2_1, b2_2, b2_3, ()) y.2.2.2.2.2.1).bind fun y =>
 Ky n (IntKind.i64.wrap (s4 + (1 : Int))) b0_0 b0_1 b0_2 b0_3 b0_4 b0_5 b0_6 b0_7 b0_8 b0_9 b0_10
 b0_11 b0_12 b0_13 b0_14 b0_15 b0_16 b0_17 b0_18 b0_19 b0_20 b1_0 b1_1 b1_2 b1_3 y.1 y.2.1
 y.2.2.1 y.2.2.2.1
 else none
 else some (b2_0, b2_1, b2_2, b2_3, ()) := by kernel_rfl
end Go.Sx.Tryz
set_option maxRecDepth 100000
namespace Go.Sx.Tryz
open Go Go.Sx Go.Proofs
noncomputable def ZhI : List (Nat × Con) := []
theorem ZkW : ∀ q ∈ ZhI, Zo Tryz.prog q.1 q.2 := Tryz.cons_nil
def Zsh : KP := []
noncomputable def ZhJ (n : Nat) (x : YI [YC]) := evX (false, false, [1, 3, 6]) ZhI Zsh [some YU] Tryz.f149 (shF YU) n (YV [YC] x)
noncomputable def ZbH : Con := roS [YC] true (shF YU) (ZhJ big)
theorem ZbI : Zo Tryz.prog 149 ZbH := ZI ⟨Tryz.f149, by kernel_rfl, rfl, by decide⟩ fun _ _ h => Zw ZkW (f := Tryz.f149) (by kernel_rfl) rfl (by kernel_rfl) (by kernel_rfl) big h
noncomputable def Kz (n : Nat) (a0 : ZN) : Option ZN := ZhJ n (a0, ())
theorem ZkX (n : Nat) (a0 : ZN) : Kz n a0 =
  if (0 : Nat) + List.length a0.2.2.1 ≤ lim then some a0 else none := by kernel_rfl
end Go.Sx.Tryz
set_option maxRecDepth 100000
namespace Go.Sx.Tryz
open Go Go.Sx Go.Proofs
noncomputable def Zae : List (Nat × Con) := [(149, ZbH)]
theorem Zoi : ∀ q ∈ Zae, Zo Tryz.prog q.1 q.2 := Tryz.cons_cons ZbI (Tryz.cons_nil)
abbrev Qj : List Wa × List BK := ([.ro Zh, .drop, .drop, .own ZJ, .ro Za, .drop, .drop, .drop, .drop, .drop, .drop, .drop, .drop, .drop, .drop, .drop, .drop, .drop, .drop, .drop, .drop], [])
def ZhK : KP := [(3, Qj)]
noncomputable def ZkY (n : Nat) (x : YI [Zh]) := evX (true, false, []) Zae ZhK [some Yq] Tryz.f146 (shF Yq) n (YV [Zh] x)
noncomputable def ZkZ : Con := roS [Zh] true (shF Yq) (ZkY big)
theorem Zoj : Zo Tryz.prog 146 ZkZ := ZI ⟨Tryz.f146, by kernel_rfl, rfl, by decide⟩ fun _ _ h => Zw Zoi (f := Tryz.f146) (by kernel_rfl) rfl (by kernel_rfl) (by kernel_rfl) big h
noncomputable def Zei (n : Nat) (a0 : Zp) : Option Zp := ZkY n (a0, ())
noncomputable def Zsi (n : Nat) (x : KD Qj.1) (y : BD Qj.2) := Yh (env (true, false, []) Zae) ZhK (body Tryz.f146) (VV (true, false, []) Zae [some Yq] Tryz.f146 (shF Yq) [.val Zh (ZT Zh)]) n 3 Qj x y
noncomputable def Qk (n : Nat) (s0 : Zp) (s3 : (List Zm)) (s4 : Int) : Option Zp := Zsi n (s0, s3, s4, ()) ()
theorem Zok (n : Nat) (a0 : Zp) : Zei n a0 =
  Qk n a0 [] (0 : Int) := by kernel_rfl
theorem UK (n : Nat) (s0 : Zp) (s3 : (List Zm)) (s4 : Int) : Qk (n + 1) s0 s3 s4 =
  bif decide (s4 < (↑(List.length s0) : Int)) then
 if (0 : Int) ≤ s4 then
 (nth s0 s4.toNat).bind fun y =>
 (Kz big y).bind fun y_1 =>
 if s3.length + [y_1].length ≤ lim then
 Qk n s0 (s3.append [y_1]) (IntKind.i64.wrap (s4 + (1 : Int)))
 else none
 else none
 else some s3 := by kernel_rfl
end Go.Sx.Tryz
set_option maxRecDepth 100000
namespace Go.Sx.Tryz
open Go Go.Sx Go.Proofs
noncomputable def Ql : List (Nat × Con) := []
theorem Zi5 : ∀ q ∈ Ql, Zo Tryz.prog q.1 q.2 := Tryz.cons_nil
abbrev Vh : List Wa × List BK := ([.drop, .drop, .is (.ptr 0 0), .is (.ptr 1 0), .drop, .ro Za, .drop, .drop, .drop, .drop, .drop, .drop, .drop, .drop, .drop, .drop, .drop, .drop, .drop, .drop, .drop, .drop, .drop, .drop, .drop, .drop, .drop, .drop, .drop, .drop, .drop, .drop, .drop, .drop, .drop, .drop, .drop, .drop, .drop, .drop, .drop, .drop, .drop, .drop, .drop, .drop, .drop, .drop, .drop, .drop, .drop, .drop], [.vars [.ro Za, .ro Za, .ro Yu, .ro Za, .ro Za, .ro Za, .ro Za], .vars [.ro Za, .ro Za, .ro Yu, .ro Za, .ro Za, .ro Za, .ro Za]])
def Zds : KP := [(4, Vh)]
noncomputable def Zfr (n : Nat) (x : YI [YC, YC]) := evX (false, false, [2, 3, 6, 8, 12, 14, 19, 21, 26, 29, 35, 41, 46]) Ql Zds [none] Tryz.f159 (shV ZE) n (YV [YC, YC] x)
noncomputable def Zfs : Con := roS [YC, YC] true (shV ZE) (Zfr big)
theorem Zi6 : Zo Tryz.prog 159 Zfs := ZI ⟨Tryz.f159, by kernel_rfl, rfl, by decide⟩ fun _ _ h => Zw Zi5 (f := Tryz.f159) (by kernel_rfl) rfl (by kernel_rfl) (by kernel_rfl) big h
noncomputable def Zaf (n : Nat) (a0 : ZN) (a1 : ZN) : Option Bool := Zfr n (a0, a1, ())
noncomputable def Zk0 (n : Nat) (x : KD Vh.1) (y : BD Vh.2) := Yh (env (false, false, [2, 3, 6, 8, 12, 14, 19, 21, 26, 29, 35, 41, 46]) Ql) Zds (body Tryz.f159) (VV (false, false, [2, 3, 6, 8, 12, 14, 19, 21, 26, 29, 35, 41, 46]) Ql [none] Tryz.f159 (shV ZE) [.val YC (ZT YC), .val YC (ZT YC)]) n 4 Vh x y
noncomputable def Vi (n : Nat) (s5 : Int) (b0_0 : Int) (b0_1 : Int) (b0_2 : Xg) (b0_3 : Int) (b0_4 : Int) (b0_5 : Int) (b0_6 : Int) (b1_0 : Int) (b1_1 : Int) (b1_2 : Xg) (b1_3 : Int) (b1_4 : Int) (b1_5 : Int) (b1_6 : Int) : Option Bool := Zk0 n (s5, ()) ((b0_0, b0_1, b0_2, b0_3, b0_4, b0_5, b0_6, ()), (b1_0, b1_1, b1_2, b1_3, b1_4, b1_5, b1_6, ()), ())
theorem Zi7 (n : Nat) (a0 : ZN) (a1 : ZN) : Zaf n a0 a1 =
  bif !decide (a0.1 = a1.1) then some false
 else
 bif !decide (a0.2.1 = a1.2.1) then some false
 else
 bif !eqD X3 a0.2.2.2.1 a1.2.2.2.1 then some false
 else
 bif !decide ((↑(List.length a0.2.2.1) : Int) = (↑(List.length a1.2.2.1) : Int)) then some false
 else
 Vi n (0 : Int) a0.1 a0.2.1 a0.2.2.1 a0.2.2.2.1.1 a0.2.2.2.1.2.1
 a0.2.2.2.1.2.2.1 a0.2.2.2.1.2.2.2.1 a1.1 a1.2.1 a1.2.2.1
 a1.2.2.2.1.1 a1.2.2.2.1.2.1 a1.2.2.2.1.2.2.1
 a1.2.2.2.1.2.2.2.1 := by kernel_rfl
theorem KA (n : Nat) (s5 : Int) (b0_0 : Int) (b0_1 : Int) (b0_2 : Xg) (b0_3 : Int) (b0_4 : Int) (b0_5 : Int) (b0_6 : Int) (b1_0 : Int) (b1_1 : Int) (b1_2 : Xg) (b1_3 : Int) (b1_4 : Int) (b1_5 : Int) (b1_6 : Int) : Vi (n + 1) s5 b0_0 b0_1 b0_2 b0_3 b0_4 b0_5 b0_6 b1_0 b1_1 b1_2 b1_3 b1_4 b1_5 b1_6 =
  bif decide (s5 < (↑(List.length b0_2) : Int)) then
 if (0 : Int) ≤ s5 then
 (nth b0_2 s5.toNat).bind fun y =>
 if (0 : Int) ≤ s5 then
 (nth b1_2 s5.toNat).bind fun y_1 =>
 bif !eqD VI y y_1 then some false
 else
 Vi n (IntKind.i64.wrap (s5 + (1 : Int))) b0_0 b0_1 b0_2 b0_3 b0_4 b0_5 b0_6 b1_0 b1_1 b1_2
 b1_3 b1_4 b1_5 b1_6
 else none
 else none
 else some true := by kernel_rfl
end Go.Sx.Tryz
set_option maxRecDepth 100000
namespace Go.Sx.Tryz
open Go Go.Sx Go.Proofs
noncomputable def Zag : List (Nat × Con) := [(159, Zfs)]
theorem Zol : ∀ q ∈ Zag, Zo Tryz.prog q.1 q.2 := Tryz.cons_cons Zi6 (Tryz.cons_nil)
abbrev Qm : List Wa × List BK := ([.ro Zh, .drop, .drop, .is (.ptr 0 0), .drop, .ro Za, .drop, .drop, .drop, .drop, .drop, .drop, .drop, .drop, .drop, .drop, .drop, .drop, .drop], [.vars [.ro Za, .ro Za, .ro Yu, .ro Za, .ro Za, .ro Za, .ro Za]])
def ZhL : KP := [(2, Qm)]
noncomputable def Zk1 (n : Nat) (x : YI [Zh, YC]) := evX (false, false, [3]) Zag ZhL [none] Tryz.f162 (shV Zn) n (YV [Zh, YC] x)
noncomputable def Zk2 : Con := roS [Zh, YC] true (shV Zn) (Zk1 big)
theorem Zom : Zo Tryz.prog 162 Zk2 := ZI ⟨Tryz.f162, by kernel_rfl, rfl, by decide⟩ fun _ _ h => Zw Zol (f := Tryz.f162) (by kernel_rfl) rfl (by kernel_rfl) (by kernel_rfl) big h
noncomputable def Zej (n : Nat) (a0 : Zp) (a1 : ZN) : Option Int := Zk1 n (a0, a1, ())
noncomputable def Zsj (n : Nat) (x : KD Qm.1) (y : BD Qm.2) := Yh (env (false, false, [3]) Zag) ZhL (body Tryz.f162) (VV (false, false, [3]) Zag [none] Tryz.f162 (shV Zn) [.val Zh (ZT Zh), .val YC (ZT YC)]) n 2 Qm x y
noncomputable def Qn (n : Nat) (s0 : Zp) (s5 : Int) (b0_0 : Int) (b0_1 : Int) (b0_2 : Xg) (b0_3 : Int) (b0_4 : Int) (b0_5 : Int) (b0_6 : Int) : Option Int := Zsj n (s0, s5, ()) ((b0_0, b0_1, b0_2, b0_3, b0_4, b0_5, b0_6, ()), ())
theorem Zon (n : Nat) (a0 : Zp) (a1 : ZN) : Zej n a0 a1 =
  Qn n a0 (0 : Int) a1.1 a1.2.1 a1.2.2.1 a1.2.2.2.1.1 a1.2.2.2.1.2.1
 a1.2.2.2.1.2.2.1 a1.2.2.2.1.2.2.2.1 := by kernel_rfl
theorem ZaX (n : Nat) (s0 : Zp) (s5 : Int) (b0_0 : Int) (b0_1 : Int) (b0_2 : Xg) (b0_3 : Int) (b0_4 : Int) (b0_5 : Int) (b0_6 : Int) : Qn (n + 1) s0 s5 b0_0 b0_1 b0_2 b0_3 b0_4 b0_5 b0_6 =
  bif decide (s5 < (↑(List.length s0) : Int)) then
 if (0 : Int) ≤ s5 then
 (nth s0 s5.toNat).bind fun y =>
 (Zaf big y (b0_0, b0_1, b0_2, (b0_3, b0_4, b0_5, b0_6, ()), ())).bind fun y =>
 bif y then some s5
 else Qn n s0 (IntKind.i64.wrap (s5 + (1 : Int))) b0_0 b0_1 b0_2 b0_3 b0_4 b0_5 b0_6
 else none
 else some (-1 : Int) := by kernel_rfl
end Go.Sx.Tryz
set_option maxRecDepth 100000
namespace Go.Sx.Tryz
open Go Go.Sx Go.Proofs
noncomputable def Zft : List (Nat × Con) := [(67, Yn)]
theorem ZuK : ∀ q ∈ Zft, Zo Tryz.prog q.1 q.2 := Tryz.cons_cons Z3 (Tryz.cons_nil)
abbrev Zah : List Wa × List BK := ([.ro Zx, .drop, .drop, .ro Za, .drop, .drop, .drop, .drop, .drop, .drop, .drop, .drop, .drop, .drop, .drop, .drop, .drop, .drop, .drop, .drop, .drop, .drop, .drop], [])
def ZqC : KP := [(2, Zah)]
noncomputable def ZuL (n : Nat) (x : YI [Zx]) := evX (false, false, []) Zft ZqC [none] Tryz.f143 (shV ZE) n (YV [Zx] x)
noncomputable def Zfu : Con := roS [Zx] true (shV ZE) (ZuL big)
theorem ZbJ : Zo Tryz.prog 143 Zfu := ZI ⟨Tryz.f143, by kernel_rfl, rfl, by decide⟩ fun _ _ h => Zw ZuK (f := Tryz.f143) (by kernel_rfl) rfl (by kernel_rfl) (by kernel_rfl) big h
noncomputable def ZbK (n : Nat) (a0 : ByteArray) : Option Bool := ZuL n (a0, ())
noncomputable def Zxj (n : Nat) (x : KD Zah.1) (y : BD Zah.2) := Yh (env (false, false, []) Zft) ZqC (body Tryz.f143) (VV (false, false, []) Zft [none] Tryz.f143 (shV ZE) [.val Zx (ZT Zx)]) n 2 Zah x y
noncomputable def Zai (n : Nat) (s0 : ByteArray) (s3 : Int) : Option Bool := Zxj n (s0, s3, ()) ()
theorem ZuM (n : Nat) (a0 : ByteArray) : ZbK n a0 =
  Zai n a0 (0 : Int) := by kernel_rfl
theorem Zdt (n : Nat) (s0 : ByteArray) (s3 : Int) : Zai (n + 1) s0 s3 =
  bif decide (s3 < (↑s0.size : Int)) then
 if (0 : Int) ≤ s3 then
 (nth s0.data.toList s3.toNat).bind fun y =>
 bif decide ((↑y.toNat : Int) < (97 : Int)) then some false
 else
 if (0 : Int) ≤ s3 then
 (nth s0.data.toList s3.toNat).bind fun y =>
 bif decide ((122 : Int) < (↑y.toNat : Int)) then some false
 else Zai n s0 (IntKind.i64.wrap (s3 + (1 : Int)))
 else none
 else none
 else (ZQ big (↑s0.size : Int) (1 : Int) (3 : Int)).bind fun y => some y := by kernel_rfl
end Go.Sx.Tryz
set_option maxRecDepth 100000
namespace Go.Sx.Tryz
open Go Go.Sx Go.Proofs
noncomputable def ZuN : List (Nat × Con) := [(67, Yn), (143, Zfu)]
theorem ZuO : ∀ q ∈ ZuN, Zo Tryz.prog q.1 q.2 := Tryz.cons_cons Z3 (Tryz.cons_cons ZbJ (Tryz.cons_nil))
def Zzn : KP := []
noncomputable def ZuP (n : Nat) (x : YI [VI]) := evX (false, false, [1, 3, 7, 12]) ZuN Zzn [none] Tryz.f194 (shV ZE) n (YV [VI] x)
noncomputable def Zk3 : Con := roS [VI] true (shV ZE) (ZuP big)
theorem ZhM : Zo Tryz.prog 194 Zk3 := ZI ⟨Tryz.f194, by kernel_rfl, rfl, by decide⟩ fun _ _ h => Zw ZuO (f := Tryz.f194) (by kernel_rfl) rfl (by kernel_rfl) (by kernel_rfl) big h
noncomputable def Zfv (n : Nat) (a0 : Vc) : Option Bool := ZuP n (a0, ())
theorem ZuQ (n : Nat) (a0 : Vc) : Zfv n a0 =
  (ZQ big a0.1 (1 : Int) (3 : Int)).bind fun y =>
 bif y then
 (ZbK big a0.2.1).bind fun y =>
 bif y then (ZQ big a0.2.2.1 (0 : Int) (1000000000 : Int)).bind fun y => some y else some false
 else some false := by kernel_rfl
end Go.Sx.Tryz
set_option maxRecDepth 100000
namespace Go.Sx.Tryz
open Go Go.Sx Go.Proofs
noncomputable def Zaj : List (Nat × Con) := [(67, Yn), (194, Zk3)]
theorem Zoo : ∀ q ∈ Zaj, Zo Tryz.prog q.1 q.2 := Tryz.cons_cons Z3 (Tryz.cons_cons ZhM (Tryz.cons_nil))
abbrev Qo : List Wa × List BK := ([.ro Zh, .drop, .drop, .is (.ptr 0 0), .drop, .ro Za, .drop, .drop, .drop, .drop, .drop, .drop, .drop, .drop, .drop, .drop, .drop, .drop, .drop, .drop, .drop, .drop, .drop, .drop, .drop, .drop, .drop, .drop, .drop, .drop, .drop, .drop, .drop, .drop, .drop, .drop, .drop, .drop, .drop, .drop, .drop, .drop, .drop, .drop, .drop, .drop, .drop, .drop, .drop, .drop, .drop, .drop, .drop, .drop, .drop, .drop, .drop, .drop, .drop, .drop, .drop, .drop, .drop, .drop, .drop, .drop, .drop], [.vars [.ro Za, .ro Za, .ro Yu, .ro Za, .ro Za, .ro Za, .ro Za]])
def ZhN : KP := [(4, Qo)]
noncomputable def Zk4 (n : Nat) (x : YI [Zh, YC]) := evX (false, false, [3, 6, 14, 17, 25, 30, 36, 42, 49, 50, 52, 56, 57, 60]) Zaj ZhN [none] Tryz.f161 (shV ZE) n (YV [Zh, YC] x)
noncomputable def Zk5 : Con := roS [Zh, YC] true (shV ZE) (Zk4 big)
theorem Zop : Zo Tryz.prog 161 Zk5 := ZI ⟨Tryz.f161, by kernel_rfl, rfl, by decide⟩ fun _ _ h => Zw Zoo (f := Tryz.f161) (by kernel_rfl) rfl (by kernel_rfl) (by kernel_rfl) big h
noncomputable def Zek (n : Nat) (a0 : Zp) (a1 : ZN) : Option Bool := Zk4 n (a0, a1, ())
noncomputable def Zsk (n : Nat) (x : KD Qo.1) (y : BD Qo.2) := Yh (env (false, false, [3, 6, 14, 17, 25, 30, 36, 42, 49, 50, 52, 56, 57, 60]) Zaj) ZhN (body Tryz.f161) (VV (false, false, [3, 6, 14, 17, 25, 30, 36, 42, 49, 50, 52, 56, 57, 60]) Zaj [none] Tryz.f161 (shV ZE) [.val Zh (ZT Zh), .val YC (ZT YC)]) n 4 Qo x y
noncomputable def Qp (n : Nat) (s0 : Zp) (s5 : Int) (b0_0 : Int) (b0_1 : Int) (b0_2 : Xg) (b0_3 : Int) (b0_4 : Int) (b0_5 : Int) (b0_6 : Int) : Option Bool := Zsk n (s0, s5, ()) ((b0_0, b0_1, b0_2, b0_3, b0_4, b0_5, b0_6, ()), ())
theorem Zoq (n : Nat) (a0 : Zp) (a1 : ZN) : Zek n a0 a1 =
  (ZQ big a1.1 (0 : Int) (IntKind.i64.wrap ((↑(List.length a0) : Int) - (1 : Int)))).bind fun y =>
 bif !y then some false
 else
 if (0 : Int) ≤ a1.1 then
 (nth a0 (Int.toNat a1.1)).bind fun y =>
 bif decide (a1.2.1 ≤ y.2.1) then some false
 else
 bif decide ((900 : Int) < a1.2.1) then some false
 else
 bif decide ((4 : Int) < (↑(List.length a1.2.2.1) : Int)) then some false
 else
 Qp n a0 (0 : Int) a1.1 a1.2.1 a1.2.2.1 a1.2.2.2.1.1
 a1.2.2.2.1.2.1 a1.2.2.2.1.2.2.1 a1.2.2.2.1.2.2.2.1
 else none := by kernel_rfl
theorem ZaY (n : Nat) (s0 : Zp) (s5 : Int) (b0_0 : Int) (b0_1 : Int) (b0_2 : Xg) (b0_3 : Int) (b0_4 : Int) (b0_5 : Int) (b0_6 : Int) : Qp (n + 1) s0 s5 b0_0 b0_1 b0_2 b0_3 b0_4 b0_5 b0_6 =
  bif decide (s5 < (↑(List.length b0_2) : Int)) then
 if (0 : Int) ≤ s5 then
 (nth b0_2 s5.toNat).bind fun y =>
 (Zfv big y).bind fun y =>
 bif !y then some false
 else Qp n s0 (IntKind.i64.wrap (s5 + (1 : Int))) b0_0 b0_1 b0_2 b0_3 b0_4 b0_5 b0_6
 else none
 else
 bif decide (b0_5 = b0_0) then
 if (0 : Int) ≤ b0_0 then (nth s0 b0_0.toNat).bind fun y => some (decide (b0_4 = y.2.1)) else none
 else some false := by kernel_rfl
end Go.Sx.Tryz
set_option maxRecDepth 100000
namespace Go.Sx.Tryz
open Go Go.Sx Go.Proofs
noncomputable def ZhO : List (Nat × Con) := [(146, ZkZ), (162, Zk2), (161, Zk5), (149, ZbH)]
theorem Zk6 : ∀ q ∈ ZhO, Zo Tryz.prog q.1 q.2 := Tryz.cons_cons Zoj (Tryz.cons_cons Zom (Tryz.cons_cons Zop (Tryz.cons_cons ZbI (Tryz.cons_nil))))
def Zsl : KP := []
noncomputable def ZhP (n : Nat) (x : YI [Zh, YC]) := evX (true, false, [3]) ZhO Zsl [some Yq, none] Tryz.f197 (shT [(true, Yq), (false, Zn)]) n (YV [Zh, YC] x)
noncomputable def ZbL : Con := roS [Zh, YC] true (shT [(true, Yq), (false, Zn)]) (ZhP big)
theorem ZbM : Zo Tryz.prog 197 ZbL := ZI ⟨Tryz.f197, by kernel_rfl, rfl, by decide⟩ fun _ _ h => Zw Zk6 (f := Tryz.f197) (by kernel_rfl) rfl (by kernel_rfl) (by kernel_rfl) big h
noncomputable def XH (n : Nat) (a0 : Zp) (a1 : ZN) : Option (Zp × Int × Unit) := ZhP n (a0, a1, ())
theorem Zk7 (n : Nat) (a0 : Zp) (a1 : ZN) : XH n a0 a1 =
  (Zei big a0).bind fun y =>
 (Zej big a0 a1).bind fun y_1 =>
 bif decide ((0 : Int) ≤ y_1) then some (y, y_1, ())
 else
 (Zek big a0 a1).bind fun y_2 =>
 bif !y_2 then some (y, (-1 : Int), ())
 else
 bif decide ((60 : Int) ≤ (↑(List.length a0) : Int)) then some (y, (-1 : Int), ())
 else
 (Kz big a1).bind fun y_3 =>
 if List.length y + [y_3].length ≤ lim then
 some (List.append y [y_3], (↑(List.length a0) : Int), ())
 else none := by kernel_rfl
end Go.Sx.Tryz
set_option maxRecDepth 100000
namespace Go.Sx.Tryz
open Go Go.Sx Go.Proofs
noncomputable def Zk8 : List (Nat × Con) := []
theorem Zor : ∀ q ∈ Zk8, Zo Tryz.prog q.1 q.2 := Tryz.cons_nil
def ZuR : KP := []
noncomputable def Zk9 (n : Nat) (x : YI [ZP]) := evX (false, false, [1, 3, 6, 11, 16, 21, 26, 31]) Zk8 ZuR [some ZC] Tryz.f68 (shF ZC) n (YV [ZP] x)
noncomputable def Y8 : Con := roS [ZP] true (shF ZC) (Zk9 big)
theorem YB : Zo Tryz.prog 68 Y8 := ZI ⟨Tryz.f68, by kernel_rfl, rfl, by decide⟩ fun _ _ h => Zw Zor (f := Tryz.f68) (by kernel_rfl) rfl (by kernel_rfl) (by kernel_rfl) big h
noncomputable def YD (n : Nat) (a0 : Zq) : Option Zq := Zk9 n (a0, ())
theorem Zdu (n : Nat) (a0 : Zq) : YD n a0 =
  if (0 : Nat) + List.length a0.2.2.2.2.2.1 ≤ lim then
 if (0 : Nat) + List.length a0.2.2.2.2.2.2.1 ≤ lim then
 if (0 : Nat) + List.length a0.2.2.2.2.2.2.2.1 ≤ lim then
 if (0 : Nat) + List.length a0.2.2.2.2.2.2.2.2.1 ≤ lim then
 if (0 : Nat) + List.length a0.2.2.2.2.2.2.2.2.2.1 ≤ lim then
 if (0 : Nat) + List.length a0.2.2.2.2.2.2.2.2.2.2.1 ≤ lim then some a0 else none
 else none
 else none
 else none
 else none
 else none := by kernel_rfl
end Go.Sx.Tryz
set_option maxRecDepth 100000
namespace Go.Sx.Tryz
open Go Go.Sx Go.Proofs
noncomputable def ZqD : List (Nat × Con) := [(67, Yn)]
theorem Zsm : ∀ q ∈ ZqD, Zo Tryz.prog q.1 q.2 := Tryz.cons_cons Z3 (Tryz.cons_nil)
def Zxk : KP := []
noncomputable def ZqE (n : Nat) (x : YI [Zh, Zn, ZV]) := evX (false, false, [5, 10, 15, 20, 29, 34, 39]) ZqD Zxk [none] Tryz.f113 (shV ZE) n (YV [Zh, Zn, ZV] x)
noncomputable def ZgS : Con := roS [Zh, Zn, ZV] true (shV ZE) (ZqE big)
theorem Zfw : Zo Tryz.prog 113 ZgS := ZI ⟨Tryz.f113, by kernel_rfl, rfl, by decide⟩ fun _ _ h => Zw Zsm (f := Tryz.f113) (by kernel_rfl) rfl (by kernel_rfl) (by kernel_rfl) big h
noncomputable def ZcS (n : Nat) (a0 : Zp) (a1 : Int) (a2 : ZX) : Option Bool := ZqE n (a0, a1, a2, ())
theorem Zsn (n : Nat) (a0 : Zp) (a1 : Int) (a2 : ZX) : ZcS n a0 a1 a2 =
  (ZQ big a1 (1 : Int) (7 : Int)).bind fun y =>
 bif y then
 (ZQ big a2.1 (1 : Int) (4 : Int)).bind fun y =>
 bif y then
 (ZQ big a2.2.1 (1 : Int) (900 : Int)).bind fun y =>
 bif y then
 (ZQ big a2.2.2.1 (1 : Int) (IntKind.i64.wrap ((↑(List.length a0) : Int) - (1 : Int)))).bind
 fun y =>
 bif y then
 if (0 : Int) ≤ a2.2.2.1 then
 (nth a0 (Int.toNat a2.2.2.1)).bind fun y =>
 bif decide (y.2.1 = a2.2.1) then
 (ZQ big a2.2.2.2.1 (0 : Int) (IntKind.i64.wrap (a1 - (1 : Int)))).bind fun y =>
 some y
 else some false
 else none
 else some false
 else some false
 else some false
 else some false := by kernel_rfl
end Go.Sx.Tryz
set_option maxRecDepth 100000
namespace Go.Sx.Tryz
open Go Go.Sx Go.Proofs
noncomputable def Zla : List (Nat × Con) := [(113, ZgS), (67, Yn), (174, Q4), (175, JI)]
theorem Zos : ∀ q ∈ Zla, Zo Tryz.prog q.1 q.2 := Tryz.cons_cons Zfw (Tryz.cons_cons Z3 (Tryz.cons_cons V8 (Tryz.cons_cons Qi (Tryz.cons_nil))))
def ZuS : KP := []
noncomputable def Zlb (n : Nat) (x : YI [Zh, Zn, X3]) := evX (false, false, [5, 12, 14, 16, 21, 29]) Zla ZuS [none] Tryz.f125 (shV ZE) n (YV [Zh, Zn, X3] x)
noncomputable def Zel : Con := roS [Zh, Zn, X3] true (shV ZE) (Zlb big)
theorem Zdv : Zo Tryz.prog 125 Zel := ZI ⟨Tryz.f125, by kernel_rfl, rfl, by decide⟩ fun _ _ h => Zw Zos (f := Tryz.f125) (by kernel_rfl) rfl (by kernel_rfl) (by kernel_rfl) big h
noncomputable def Xv (n : Nat) (a0 : Zp) (a1 : Int) (a2 : Zbm) : Option Bool := Zlb n (a0, a1, a2, ())
theorem Zot (n : Nat) (a0 : Zp) (a1 : Int) (a2 : Zbm) : Xv n a0 a1 a2 =
  bif eqD X3 a2 ((0 : Int), (0 : Int), (0 : Int), (0 : Int), ()) then some true
 else
 (ZcS big a0 a1 (a2.1, a2.2.1, a2.2.2.1, (0 : Int), ())).bind fun y =>
 bif !y then some false
 else
 if IntKind.u64.wrap a1 < (0 : Int) then none
 else
 (ZQ big a2.2.2.2.1 (0 : Int)
 (IntKind.i64.wrap
 (IntKind.i64.wrap ((1 : Int) * (2 : Int) ^ min (IntKind.u64.wrap a1).toNat IntKind.i64.bits) -
 (1 : Int)))).bind
 fun y =>
 bif y then
 (Xh big a2.2.2.2.1).bind fun y =>
 (QR big a1).bind fun y_1 => some (decide (y_1 ≤ y))
 else some false := by kernel_rfl
end Go.Sx.Tryz
set_option maxRecDepth 100000
namespace Go.Sx.Tryz
open Go Go.Sx Go.Proofs
noncomputable def Zlc : List (Nat × Con) := [(68, Y8)]
theorem Zou : ∀ q ∈ Zlc, Zo Tryz.prog q.1 q.2 := Tryz.cons_cons YB (Tryz.cons_nil)
def ZuT : KP := []
noncomputable def Zld (n : Nat) (x : YI [ZP, Zn]) := evX (false, false, [2, 5, 9]) Zlc ZuT [some ZC] Tryz.f39 (shF ZC) n (YV [ZP, Zn] x)
noncomputable def WV : Con := roS [ZP, Zn] true (shF ZC) (Zld big)
theorem XW : Zo Tryz.prog 39 WV := ZI ⟨Tryz.f39, by kernel_rfl, rfl, by decide⟩ fun _ _ h => Zw Zou (f := Tryz.f39) (by kernel_rfl) rfl (by kernel_rfl) (by kernel_rfl) big h
noncomputable def Xw (n : Nat) (a0 : Zq) (a1 : Int) : Option Zq := Zld n (a0, a1, ())
theorem Zdw (n : Nat) (a0 : Zq) (a1 : Int) : Xw n a0 a1 =
  (YD big a0).bind fun y =>
 bif decide (a0.2.1 < a1) then
 bif decide (a1 ≤ (900 : Int)) then
 some
 (y.1, a1, y.2.2.1, y.2.2.2.1, y.2.2.2.2.1, y.2.2.2.2.2.1,
 y.2.2.2.2.2.2.1, y.2.2.2.2.2.2.2.1, y.2.2.2.2.2.2.2.2.1, [],
 [], y.2.2.2.2.2.2.2.2.2.2.2)
 else some y
 else some y := by kernel_rfl
end Go.Sx.Tryz
set_option maxRecDepth 100000
namespace Go.Sx.Tryz
open Go Go.Sx Go.Proofs
noncomputable def ZcT : List (Nat × Con) := []
theorem Zso : ∀ q ∈ ZcT, Zo Tryz.prog q.1 q.2 := Tryz.cons_nil
abbrev KB : List Wa × List BK := ([.ro ZM, .drop, .drop, .is (.ptr 0 0), .drop, .ro Za, .drop, .drop, .drop, .drop, .drop, .drop, .drop, .drop, .drop, .drop, .drop, .drop, .drop, .drop, .drop, .drop, .drop, .drop, .drop, .drop, .drop, .drop, .drop, .drop, .drop, .drop, .drop, .drop, .drop, .drop, .drop, .drop, .drop, .drop], [.vars [.ro Za, .ro Za, .ro Za, .ro Za]])
def Zle : KP := [(2, KB)]
noncomputable def ZqF (n : Nat) (x : YI [ZM, ZV]) := evX (false, false, [3, 17, 26, 36]) ZcT Zle [none] Tryz.f261 (shV ZE) n (YV [ZM, ZV] x)
noncomputable def ZqG : Con := roS [ZM, ZV] true (shV ZE) (ZqF big)
theorem Zsp : Zo Tryz.prog 261 ZqG := ZI ⟨Tryz.f261, by kernel_rfl, rfl, by decide⟩ fun _ _ h => Zw Zso (f := Tryz.f261) (by kernel_rfl) rfl (by kernel_rfl) (by kernel_rfl) big h
noncomputable def ZgT (n : Nat) (a0 : Z6) (a1 : ZX) : Option Bool := ZqF n (a0, a1, ())
noncomputable def ZuU (n : Nat) (x : KD KB.1) (y : BD KB.2) := Yh (env (false, false, [3, 17, 26, 36]) ZcT) Zle (body Tryz.f261) (VV (false, false, [3, 17, 26, 36]) ZcT [none] Tryz.f261 (shV ZE) [.val ZM (ZT ZM), .val ZV (ZT ZV)]) n 2 KB x y
noncomputable def W6 (n : Nat) (s0 : Z6) (s5 : Int) (b0_0 : Int) (b0_1 : Int) (b0_2 : Int) (b0_3 : Int) : Option Bool := ZuU n (s0, s5, ()) ((b0_0, b0_1, b0_2, b0_3, ()), ())
theorem Zsq (n : Nat) (a0 : Z6) (a1 : ZX) : ZgT n a0 a1 =
  W6 n a0 (0 : Int) a1.1 a1.2.1 a1.2.2.1 a1.2.2.2.1 := by kernel_rfl
theorem ZbN (n : Nat) (s0 : Z6) (s5 : Int) (b0_0 : Int) (b0_1 : Int) (b0_2 : Int) (b0_3 : Int) : W6 (n + 1) s0 s5 b0_0 b0_1 b0_2 b0_3 =
  bif decide (s5 < (↑(List.length s0) : Int)) then
 if (0 : Int) ≤ s5 then
 (nth s0 s5.toNat).bind fun y =>
 bif decide (y.2.2.2.1 = b0_3) then
 if (0 : Int) ≤ s5 then
 (nth s0 s5.toNat).bind fun y =>
 bif decide (y.1 = b0_0) then
 if (0 : Int) ≤ s5 then
 (nth s0 s5.toNat).bind fun y =>
 bif decide (y.2.1 = b0_1) then some true
 else W6 n s0 (IntKind.i64.wrap (s5 + (1 : Int))) b0_0 b0_1 b0_2 b0_3
 else none
 else W6 n s0 (IntKind.i64.wrap (s5 + (1 : Int))) b0_0 b0_1 b0_2 b0_3
 else none
 else W6 n s0 (IntKind.i64.wrap (s5 + (1 : Int))) b0_0 b0_1 b0_2 b0_3
 else none
 else some false := by kernel_rfl
end Go.Sx.Tryz
set_option maxRecDepth 100000
namespace Go.Sx.Tryz
open Go Go.Sx Go.Proofs
noncomputable def Wu : List (Nat × Con) := []
theorem Zi8 : ∀ q ∈ Wu, Zo Tryz.prog q.1 q.2 := Tryz.cons_nil
abbrev Vj : List Wa × List BK := ([.ro ZM, .ro Za, .ro Za, .ro Za, .drop, .drop, .drop, .drop, .drop, .ro Za, .ro Za, .drop, .drop, .drop, .drop, .drop, .drop, .drop, .drop, .drop, .drop, .drop, .drop, .drop, .drop, .drop, .drop, .drop, .drop, .drop, .drop, .drop, .drop, .drop, .drop, .drop, .drop, .drop, .drop, .drop, .drop, .drop, .drop, .drop, .drop, .drop, .drop, .drop, .drop, .drop, .drop, .drop, .drop, .drop, .drop], [])
abbrev Vk : List Wa × List BK := ([.ro ZM, .ro Za, .ro Za, .ro Za, .drop, .drop, .drop, .drop, .drop, .ro Za, .ro Za, .ro Za, .drop, .drop, .drop, .drop, .drop, .drop, .drop, .drop, .drop, .drop, .drop, .drop, .drop, .drop, .drop, .drop, .drop, .drop, .drop, .drop, .drop, .drop, .drop, .drop, .drop, .drop, .drop, .drop, .drop, .drop, .drop, .drop, .drop, .drop, .drop, .drop, .drop, .drop, .drop, .drop, .drop, .drop, .drop], [])
def Jk : KP := [(3, Vj), (6, Vk)]
noncomputable def Zfx (n : Nat) (x : YI [ZM, Zn, Zn, Zn]) := evX (false, false, [12, 27, 32, 38, 44]) Wu Jk [none] Tryz.f176 (shV Zn) n (YV [ZM, Zn, Zn, Zn] x)
noncomputable def Qq : Con := roS [ZM, Zn, Zn, Zn] true (shV Zn) (Zfx big)
theorem UL : Zo Tryz.prog 176 Qq := ZI ⟨Tryz.f176, by kernel_rfl, rfl, by decide⟩ fun _ _ h => Zw Zi8 (f := Tryz.f176) (by kernel_rfl) rfl (by kernel_rfl) (by kernel_rfl) big h
noncomputable def Vl (n : Nat) (a0 : Z6) (a1 : Int) (a2 : Int) (a3 : Int) : Option Int := Zfx n (a0, a1, a2, a3, ())
noncomputable def Zlf (n : Nat) (x : KD Vj.1) (y : BD Vj.2) := Yh (env (false, false, [12, 27, 32, 38, 44]) Wu) Jk (body Tryz.f176) (VV (false, false, [12, 27, 32, 38, 44]) Wu [none] Tryz.f176 (shV Zn) [.val ZM (ZT ZM), .val Zn (ZT Zn), .val Zn (ZT Zn), .val Zn (ZT Zn)]) n 3 Vj x y
noncomputable def Wk (n : Nat) (s0 : Z6) (s1 : Int) (s2 : Int) (s3 : Int) (s9 : Int) (s10 : Int) : Option Int := Zlf n (s0, s1, s2, s3, s9, s10, ()) ()
noncomputable def Zlg (n : Nat) (x : KD Vk.1) (y : BD Vk.2) := Yh (env (false, false, [12, 27, 32, 38, 44]) Wu) Jk (body Tryz.f176) (VV (false, false, [12, 27, 32, 38, 44]) Wu [none] Tryz.f176 (shV Zn) [.val ZM (ZT ZM), .val Zn (ZT Zn), .val Zn (ZT Zn), .val Zn (ZT Zn)]) n 6 Vk x y
noncomputable def Y1 (n : Nat) (s0 : Z6) (s1 : Int) (s2 : Int) (s3 : Int) (s9 : Int) (s10 : Int) (s11 : Int) : Option Int := Zlg n (s0, s1, s2, s3, s9, s10, s11, ()) ()
theorem Zi9 (n : Nat) (a0 : Z6) (a1 : Int) (a2 : Int) (a3 : Int) : Vl n a0 a1 a2 a3 =
  Wk n a0 a1 a2 a3 (0 : Int) (0 : Int) := by kernel_rfl
theorem KC (n : Nat) (s0 : Z6) (s1 : Int) (s2 : Int) (s3 : Int) (s9 : Int) (s10 : Int) : Wk (n + 1) s0 s1 s2 s3 s9 s10 =
  bif decide (s10 < (7 : Int)) then Y1 n s0 s1 s2 s3 s9 s10 (0 : Int) else some s9 := by kernel_rfl
theorem KE (n : Nat) (s0 : Z6) (s1 : Int) (s2 : Int) (s3 : Int) (s9 : Int) (s10 : Int) (s11 : Int) : Y1 (n + 1) s0 s1 s2 s3 s9 s10 s11 =
  bif decide (s11 < (↑(List.length s0) : Int)) then
 if (0 : Int) ≤ s11 then
 (nth s0 s11.toNat).bind fun y =>
 bif decide (y.2.2.2.1 = s10) then
 bif decide (y.1 = s1) then
 bif decide (y.2.1 = s2) then
 bif decide (y.2.2.1 = s3) then
 if IntKind.u64.wrap s10 < (0 : Int) then none
 else
 Wk n s0 s1 s2 s3
 (IntKind.i64.wrap
 (s9 +
 IntKind.i64.wrap ((1 : Int) * (2 : Int) ^ min (IntKind.u64.wrap s10).toNat IntKind.i64.bits)))
 (IntKind.i64.wrap (s10 + (1 : Int)))
 else Y1 n s0 s1 s2 s3 s9 s10 (IntKind.i64.wrap (s11 + (1 : Int)))
 else Y1 n s0 s1 s2 s3 s9 s10 (IntKind.i64.wrap (s11 + (1 : Int)))
 else Y1 n s0 s1 s2 s3 s9 s10 (IntKind.i64.wrap (s11 + (1 : Int)))
 else Y1 n s0 s1 s2 s3 s9 s10 (IntKind.i64.wrap (s11 + (1 : Int)))
 else none
 else Wk n s0 s1 s2 s3 s9 (IntKind.i64.wrap (s10 + (1 : Int))) := by kernel_rfl
end Go.Sx.Tryz
set_option maxRecDepth 100000
namespace Go.Sx.Tryz
open Go Go.Sx Go.Proofs
noncomputable def Zyl : List (Nat × Con) := [(176, Qq), (174, Q4), (175, JI)]
theorem Zxl : ∀ q ∈ Zyl, Zo Tryz.prog q.1 q.2 := Tryz.cons_cons UL (Tryz.cons_cons V8 (Tryz.cons_cons Qi (Tryz.cons_nil)))
def ZA2 : KP := []
noncomputable def Zym (n : Nat) (x : YI [ZM, Zn, Zn, Zn, Zn]) := evX (false, false, [12, 22]) Zyl ZA2 [none, none] Tryz.f248 (shT [(false, X3), (false, ZE)]) n (YV [ZM, Zn, Zn, Zn, Zn] x)
noncomputable def Zsr : Con := roS [ZM, Zn, Zn, Zn, Zn] true (shT [(false, X3), (false, ZE)]) (Zym big)
theorem Zlh : Zo Tryz.prog 248 Zsr := ZI ⟨Tryz.f248, by kernel_rfl, rfl, by decide⟩ fun _ _ h => Zw Zxl (f := Tryz.f248) (by kernel_rfl) rfl (by kernel_rfl) (by kernel_rfl) big h
noncomputable def Zfy (n : Nat) (a0 : Z6) (a1 : Int) (a2 : Int) (a3 : Int) (a4 : Int) : Option (Zbm × Bool × Unit) := Zym n (a0, a1, a2, a3, a4, ())
theorem Zxm (n : Nat) (a0 : Z6) (a1 : Int) (a2 : Int) (a3 : Int) (a4 : Int) : Zfy n a0 a1 a2 a3 a4 =
  (Vl big a0 a1 a2 a3).bind fun y =>
 (Xh big y).bind fun y_1 =>
 (QR big a4).bind fun y_2 =>
 bif decide (y_1 < y_2) then some (((0 : Int), (0 : Int), (0 : Int), (0 : Int), ()), false, ())
 else some ((a1, a2, a3, y, ()), true, ()) := by kernel_rfl
end Go.Sx.Tryz
set_option maxRecDepth 100000
namespace Go.Sx.Tryz
open Go Go.Sx Go.Proofs
noncomputable def ZhQ : List (Nat × Con) := []
theorem Zli : ∀ q ∈ ZhQ, Zo Tryz.prog q.1 q.2 := Tryz.cons_nil
def Zss : KP := []
noncomputable def ZuV (n : Nat) (x : YI [ZP, Zn, Zn, X3, ZV]) := evX (false, false, [5, 8, 9, 11, 13, 16, 23]) ZhQ Zss [none] Tryz.f69 (shV ZD) n (YV [ZP, Zn, Zn, X3, ZV] x)
noncomputable def Ux : Con := roS [ZP, Zn, Zn, X3, ZV] true (shV ZD) (ZuV big)
theorem Vm : Zo Tryz.prog 69 Ux := ZI ⟨Tryz.f69, by kernel_rfl, rfl, by decide⟩ fun _ _ h => Zw Zli (f := Tryz.f69) (by kernel_rfl) rfl (by kernel_rfl) (by kernel_rfl) big h
end Go.Sx.Tryz
set_option maxRecDepth 100000
namespace Go.Sx.Tryz
open Go Go.Sx Go.Proofs
noncomputable def Zlj : List (Nat × Con) := []
theorem Zov : ∀ q ∈ Zlj, Zo Tryz.prog q.1 q.2 := Tryz.cons_nil
def ZuW : KP := []
noncomputable def Zlk (n : Nat) (x : YI [ZP, Zn, Zn]) := evX (false, false, [3, 7, 8, 13, 14, 19, 20]) Zlj ZuW [none] Tryz.f15 (shV ZE) n (YV [ZP, Zn, Zn] x)
noncomputable def Zak : Con := roS [ZP, Zn, Zn] true (shV ZE) (Zlk big)
theorem Jl : Zo Tryz.prog 15 Zak := ZI ⟨Tryz.f15, by kernel_rfl, rfl, by decide⟩ fun _ _ h => Zw Zov (f := Tryz.f15) (by kernel_rfl) rfl (by kernel_rfl) (by kernel_rfl) big h
noncomputable def VX (n : Nat) (a0 : Zq) (a1 : Int) (a2 : Int) : Option Bool := Zlk n (a0, a1, a2, ())
theorem Zow (n : Nat) (a0 : Zq) (a1 : Int) (a2 : Int) : VX n a0 a1 a2 =
  bif decide (a0.2.2.2.2.1.2.1 < a2) then some true
 else
 bif decide (a0.2.2.2.2.1.2.1 = a2) then some (decide (a0.2.2.2.2.1.1 < a1))
 else some false := by kernel_rfl
end Go.Sx.Tryz
set_option maxRecDepth 100000
namespace Go.Sx.Tryz
open Go Go.Sx Go.Proofs
noncomputable def KF : List (Nat × Con) := [(67, Yn)]
theorem Zll : ∀ q ∈ KF, Zo Tryz.prog q.1 q.2 := Tryz.cons_cons Z3 (Tryz.cons_nil)
abbrev V9 : List Wa × List BK := ([.ro Zh, .ro Za, .drop, .drop, .drop, .ro Za, .drop, .drop, .drop, .drop, .drop, .drop, .drop, .drop, .drop, .drop, .drop, .drop, .drop, .drop, .drop, .drop, .drop, .drop, .drop, .drop, .drop, .drop, .drop, .drop, .drop, .drop, .drop, .drop, .drop, .drop], [])
def Zfz : KP := [(2, V9)]
noncomputable def ZhR (n : Nat) (x : YI [Zh, Zn]) := evX (false, false, []) KF Zfz [none] Tryz.f84 (shV Zn) n (YV [Zh, Zn] x)
noncomputable def KG : Con := roS [Zh, Zn] true (shV Zn) (ZhR big)
theorem Q5 : Zo Tryz.prog 84 KG := ZI ⟨Tryz.f84, by kernel_rfl, rfl, by decide⟩ fun _ _ h => Zw Zll (f := Tryz.f84) (by kernel_rfl) rfl (by kernel_rfl) (by kernel_rfl) big h
noncomputable def Uy (n : Nat) (a0 : Zp) (a1 : Int) : Option Int := ZhR n (a0, a1, ())
noncomputable def Zox (n : Nat) (x : KD V9.1) (y : BD V9.2) := Yh (env (false, false, []) KF) Zfz (body Tryz.f84) (VV (false, false, []) KF [none] Tryz.f84 (shV Zn) [.val Zh (ZT Zh), .val Zn (ZT Zn)]) n 2 V9 x y
noncomputable def Ua (n : Nat) (s0 : Zp) (s1 : Int) (s5 : Int) : Option Int := Zox n (s0, s1, s5, ()) ()
theorem Zlm (n : Nat) (a0 : Zp) (a1 : Int) : Uy n a0 a1 =
  Ua n a0 a1 (0 : Int) := by kernel_rfl
theorem VY (n : Nat) (s0 : Zp) (s1 : Int) (s5 : Int) : Ua (n + 1) s0 s1 s5 =
  bif !decide (s1 = (0 : Int)) then
 (ZQ big s1 (0 : Int) (IntKind.i64.wrap ((↑(List.length s0) : Int) - (1 : Int)))).bind fun y =>
 bif !y then some (-1 : Int)
 else
 if (0 : Int) ≤ s1 then
 (nth s0 s1.toNat).bind fun y =>
 (ZQ big y.1 (0 : Int) (IntKind.i64.wrap (s1 - (1 : Int)))).bind fun y =>
 bif !y then some (-1 : Int)
 else
 if (0 : Int) ≤ s1 then
 (nth s0 s1.toNat).bind fun y => Ua n s0 y.1 (IntKind.i64.wrap (s5 + (1 : Int)))
 else none
 else none
 else bif decide ((↑(List.length s0) : Int) = (0 : Int)) then some (-1 : Int) else some s5 := by kernel_rfl
end Go.Sx.Tryz
set_option maxRecDepth 100000
namespace Go.Sx.Tryz
open Go Go.Sx Go.Proofs
noncomputable def Zal : List (Nat × Con) := [(84, KG)]
theorem Zoy : ∀ q ∈ Zal, Zo Tryz.prog q.1 q.2 := Tryz.cons_cons Q5 (Tryz.cons_nil)
abbrev Qr : List Wa × List BK := ([.ro Zh, .ro Za, .ro Za, .drop, .drop, .drop, .drop, .drop, .drop, .drop, .drop, .drop, .drop, .drop, .drop, .drop, .drop, .drop, .drop, .drop, .drop, .drop, .drop, .drop, .drop, .drop], [])
def ZhS : KP := [(3, Qr)]
noncomputable def Zln (n : Nat) (x : YI [Zh, Zn, Zn]) := evX (false, false, []) Zal ZhS [none] Tryz.f31 (shV ZE) n (YV [Zh, Zn, Zn] x)
noncomputable def Zam : Con := roS [Zh, Zn, Zn] true (shV ZE) (Zln big)
theorem Jm : Zo Tryz.prog 31 Zam := ZI ⟨Tryz.f31, by kernel_rfl, rfl, by decide⟩ fun _ _ h => Zw Zoy (f := Tryz.f31) (by kernel_rfl) rfl (by kernel_rfl) (by kernel_rfl) big h
noncomputable def Q6 (n : Nat) (a0 : Zp) (a1 : Int) (a2 : Int) : Option Bool := Zln n (a0, a1, a2, ())
noncomputable def Zst (n : Nat) (x : KD Qr.1) (y : BD Qr.2) := Yh (env (false, false, []) Zal) ZhS (body Tryz.f31) (VV (false, false, []) Zal [none] Tryz.f31 (shV ZE) [.val Zh (ZT Zh), .val Zn (ZT Zn), .val Zn (ZT Zn)]) n 3 Qr x y
noncomputable def Qs (n : Nat) (s0 : Zp) (s1 : Int) (s2 : Int) : Option Bool := Zst n (s0, s1, s2, ()) ()
theorem Zoz (n : Nat) (a0 : Zp) (a1 : Int) (a2 : Int) : Q6 n a0 a1 a2 =
  (Uy big a0 a1).bind fun y =>
 bif decide (y < (0 : Int)) then some false else Qs n a0 a1 a2 := by kernel_rfl
theorem ZaZ (n : Nat) (s0 : Zp) (s1 : Int) (s2 : Int) : Qs (n + 1) s0 s1 s2 =
  bif decide ((0 : Int) < s1) then
 bif !decide (s1 = s2) then
 if (0 : Int) ≤ s1 then (nth s0 s1.toNat).bind fun y => Qs n s0 y.1 s2 else none
 else some (decide (s1 = s2))
 else some (decide (s1 = s2)) := by kernel_rfl
end Go.Sx.Tryz
set_option maxRecDepth 100000
namespace Go.Sx.Tryz
open Go Go.Sx Go.Proofs
noncomputable def ZfA : List (Nat × Con) := [(67, Yn), (31, Zam)]
theorem Zja : ∀ q ∈ ZfA, Zo Tryz.prog q.1 q.2 := Tryz.cons_cons Z3 (Tryz.cons_cons Jm (Tryz.cons_nil))
def ZoA : KP := []
noncomputable def ZfB (n : Nat) (x : YI [Zh, X3, Zn]) := evX (false, false, [4, 15, 25]) ZfA ZoA [none] Tryz.f38 (shV ZE) n (YV [Zh, X3, Zn] x)
noncomputable def Zan : Con := roS [Zh, X3, Zn] true (shV ZE) (ZfB big)
theorem Za0 : Zo Tryz.prog 38 Zan := ZI ⟨Tryz.f38, by kernel_rfl, rfl, by decide⟩ fun _ _ h => Zw Zja (f := Tryz.f38) (by kernel_rfl) rfl (by kernel_rfl) (by kernel_rfl) big h
noncomputable def Qt (n : Nat) (a0 : Zp) (a1 : Zbm) (a2 : Int) : Option Bool := ZfB n (a0, a1, a2, ())
theorem Zjb (n : Nat) (a0 : Zp) (a1 : Zbm) (a2 : Int) : Qt n a0 a1 a2 =
  (ZQ big a2 (0 : Int) (IntKind.i64.wrap ((↑(List.length a0) : Int) - (1 : Int)))).bind fun y =>
 bif !y then some false
 else
 (Q6 big a0 a2 a1.2.2.1).bind fun y =>
 bif y then some true
 else
 if (0 : Int) ≤ a2 then (nth a0 a2.toNat).bind fun y => some (decide (a1.2.1 < y.2.2.2.1.2.1))
 else none := by kernel_rfl
end Go.Sx.Tryz
set_option maxRecDepth 100000
namespace Go.Sx.Tryz
open Go Go.Sx Go.Proofs
noncomputable def ZhT : List (Nat × Con) := [(84, KG), (67, Yn)]
theorem Zlo : ∀ q ∈ ZhT, Zo Tryz.prog q.1 q.2 := Tryz.cons_cons Q5 (Tryz.cons_cons Z3 (Tryz.cons_nil))
def Zsu : KP := []
noncomputable def ZhU (n : Nat) (x : YI [Zh, Zn]) := evX (false, false, []) ZhT Zsu [none, none, none, none] Tryz.f95 (shT [(false, Zn), (false, Zn), (false, Zn), (false, ZE)]) n (YV [Zh, Zn] x)
noncomputable def ZbO : Con := roS [Zh, Zn] true (shT [(false, Zn), (false, Zn), (false, Zn), (false, ZE)]) (ZhU big)
theorem ZbP : Zo Tryz.prog 95 ZbO := ZI ⟨Tryz.f95, by kernel_rfl, rfl, by decide⟩ fun _ _ h => Zw Zlo (f := Tryz.f95) (by kernel_rfl) rfl (by kernel_rfl) (by kernel_rfl) big h
noncomputable def KH (n : Nat) (a0 : Zp) (a1 : Int) : Option (Int × Int × Int × Bool × Unit) := ZhU n (a0, a1, ())
theorem Zlp (n : Nat) (a0 : Zp) (a1 : Int) : KH n a0 a1 =
  (Uy big a0 a1).bind fun y =>
 bif decide (y < (1 : Int)) then some ((0 : Int), (0 : Int), (0 : Int), false, ())
 else
 if (0 : Int) ≤ a1 then
 (nth a0 a1.toNat).bind fun y =>
 (ZQ big y.2.2.2.1.2.2.1 (0 : Int) (IntKind.i64.wrap (a1 - (1 : Int)))).bind fun y_1 =>
 bif !y_1 then some ((0 : Int), (0 : Int), (0 : Int), false, ())
 else
 if (0 : Int) ≤ y.2.2.2.1.2.2.1 then
 (nth a0 (Int.toNat y.2.2.2.1.2.2.1)).bind fun y_2 =>
 (ZQ big y_2.2.2.2.1.2.2.1 (0 : Int)
 (IntKind.i64.wrap ((↑(List.length a0) : Int) - (1 : Int)))).bind
 fun y_3 =>
 bif !y_3 then some ((0 : Int), (0 : Int), (0 : Int), false, ())
 else
 if (0 : Int) ≤ y_2.2.2.2.1.2.2.1 then
 (nth a0 (Int.toNat y_2.2.2.2.1.2.2.1)).bind fun y_4 =>
 (ZQ big y_4.2.2.2.1.2.2.1 (0 : Int)
 (IntKind.i64.wrap ((↑(List.length a0) : Int) - (1 : Int)))).bind
 fun y_5 =>
 bif !y_5 then some ((0 : Int), (0 : Int), (0 : Int), false, ())
 else
 some
 (y.2.2.2.1.2.2.1, y_2.2.2.2.1.2.2.1,
 y_4.2.2.2.1.2.2.1, true, ())
 else none
 else none
 else none := by kernel_rfl
end Go.Sx.Tryz
set_option maxRecDepth 100000
namespace Go.Sx.Tryz
open Go Go.Sx Go.Proofs
noncomputable def Zlq : List (Nat × Con) := []
theorem ZoB : ∀ q ∈ Zlq, Zo Tryz.prog q.1 q.2 := Tryz.cons_nil
def ZuX : KP := []
noncomputable def Zlr (n : Nat) (x : YI [Zh, Zn, Zn]) := evX (false, false, []) Zlq ZuX [none] Tryz.f98 (shV ZE) n (YV [Zh, Zn, Zn] x)
noncomputable def Zem : Con := roS [Zh, Zn, Zn] true (shV ZE) (Zlr big)
theorem Zdx : Zo Tryz.prog 98 Zem := ZI ⟨Tryz.f98, by kernel_rfl, rfl, by decide⟩ fun _ _ h => Zw ZoB (f := Tryz.f98) (by kernel_rfl) rfl (by kernel_rfl) (by kernel_rfl) big h
noncomputable def Q7 (n : Nat) (a0 : Zp) (a1 : Int) (a2 : Int) : Option Bool := Zlr n (a0, a1, a2, ())
theorem ZoC (n : Nat) (a0 : Zp) (a1 : Int) (a2 : Int) : Q7 n a0 a1 a2 =
  bif !decide (a1 = (0 : Int)) then
 bif !decide (a2 = (0 : Int)) then
 if (0 : Int) ≤ a1 then
 (nth a0 a1.toNat).bind fun y =>
 if (0 : Int) ≤ a2 then
 (nth a0 a2.toNat).bind fun y_1 => some (decide (y.2.1 = IntKind.i64.wrap (y_1.2.1 + (1 : Int))))
 else none
 else none
 else some false
 else some false := by kernel_rfl
end Go.Sx.Tryz
set_option maxRecDepth 100000
namespace Go.Sx.Tryz
open Go Go.Sx Go.Proofs
noncomputable def ZhV : List (Nat × Con) := [(95, ZbO), (98, Zem)]
theorem Zls : ∀ q ∈ ZhV, Zo Tryz.prog q.1 q.2 := Tryz.cons_cons ZbP (Tryz.cons_cons Zdx (Tryz.cons_nil))
def Zsv : KP := []
noncomputable def ZhW (n : Nat) (x : YI [Zh, Zn]) := evX (false, false, []) ZhV Zsv [none, none] Tryz.f97 (shT [(false, Zn), (false, ZE)]) n (YV [Zh, Zn] x)
noncomputable def ZhX : Con := roS [Zh, Zn] true (shT [(false, Zn), (false, ZE)]) (ZhW big)
theorem Zlt : Zo Tryz.prog 97 ZhX := ZI ⟨Tryz.f97, by kernel_rfl, rfl, by decide⟩ fun _ _ h => Zw Zls (f := Tryz.f97) (by kernel_rfl) rfl (by kernel_rfl) (by kernel_rfl) big h
noncomputable def ZbQ (n : Nat) (a0 : Zp) (a1 : Int) : Option (Int × Bool × Unit) := ZhW n (a0, a1, ())
theorem Zlu (n : Nat) (a0 : Zp) (a1 : Int) : ZbQ n a0 a1 =
  (KH big a0 a1).bind fun y =>
 bif !y.2.2.2.1 then some ((0 : Int), false, ())
 else
 (Q7 big a0 y.1 y.2.1).bind fun y_1 =>
 bif !y_1 then some ((0 : Int), false, ())
 else
 if (0 : Int) ≤ y.2.1 then
 (nth a0 (Int.toNat y.2.1)).bind fun y_2 =>
 if (0 : Int) ≤ y.2.2.1 then
 (nth a0 (Int.toNat y.2.2.1)).bind fun y_3 =>
 bif !decide (y_2.2.1 = IntKind.i64.wrap (y_3.2.1 + (1 : Int))) then
 some ((0 : Int), false, ())
 else some (y.2.2.1, true, ())
 else none
 else none := by kernel_rfl
end Go.Sx.Tryz
set_option maxRecDepth 100000
namespace Go.Sx.Tryz
open Go Go.Sx Go.Proofs
noncomputable def ZuY : List (Nat × Con) := [(22, Xs), (175, JI)]
theorem ZuZ : ∀ q ∈ ZuY, Zo Tryz.prog q.1 q.2 := Tryz.cons_cons Y0 (Tryz.cons_cons Qi (Tryz.cons_nil))
def Zzo : KP := []
noncomputable def Zu0 (n : Nat) (x : YI [ZP, Zn, ZE]) := evX (false, false, [3, 7, 11, 15, 17, 21, 28, 35, 36, 38]) ZuY Zzo [none] Tryz.f188 (shV ZE) n (YV [ZP, Zn, ZE] x)
noncomputable def Zlv : Con := roS [ZP, Zn, ZE] true (shV ZE) (Zu0 big)
theorem ZhY : Zo Tryz.prog 188 Zlv := ZI ⟨Tryz.f188, by kernel_rfl, rfl, by decide⟩ fun _ _ h => Zw ZuZ (f := Tryz.f188) (by kernel_rfl) rfl (by kernel_rfl) (by kernel_rfl) big h
noncomputable def ZfC (n : Nat) (a0 : Zq) (a1 : Int) (a2 : Bool) : Option Bool := Zu0 n (a0, a1, a2, ())
theorem Zu1 (n : Nat) (a0 : Zq) (a1 : Int) (a2 : Bool) : ZfC n a0 a1 a2 =
  (YA big a0.2.1 a1).bind fun y =>
 bif !decide (y = a0.1) then some false
 else
 bif decide (a0.2.1 ≤ a0.2.2.2.2.2.2.2.2.2.2.2.1) then some false
 else
 (QR big a1).bind fun y =>
 bif decide (y ≤ (↑(List.length a0.2.2.2.2.2.2.2.2.2.2.1) : Int)) then some true
 else
 bif decide (a0.2.1 = (1 : Int)) then some true
 else
 bif a2 then some (decide (a0.2.2.1.2.1 = IntKind.i64.wrap (a0.2.1 - (1 : Int))))
 else some false := by kernel_rfl
end Go.Sx.Tryz
set_option maxRecDepth 100000
namespace Go.Sx.Tryz
open Go Go.Sx Go.Proofs
noncomputable def Zdy : List (Nat × Con) := []
theorem ZgU : ∀ q ∈ Zdy, Zo Tryz.prog q.1 q.2 := Tryz.cons_nil
def Zlw : KP := []
noncomputable def ZoD (n : Nat) (x : YI []) := evX (false, false, []) Zdy Zlw [some YU] Tryz.f160 (shF YU) n (YV [] x)
noncomputable def Zdz : Con := roS [] true (shF YU) (ZoD big)
theorem ZgV : Zo Tryz.prog 160 Zdz := ZI ⟨Tryz.f160, by kernel_rfl, rfl, by decide⟩ fun _ _ h => Zw ZgU (f := Tryz.f160) (by kernel_rfl) rfl (by kernel_rfl) (by kernel_rfl) big h
end Go.Sx.Tryz
set_option maxRecDepth 100000
namespace Go.Sx.Tryz
open Go Go.Sx Go.Proofs
noncomputable def Zlx : List (Nat × Con) := [(160, Zdz)]
theorem ZoE : ∀ q ∈ Zlx, Zo Tryz.prog q.1 q.2 := Tryz.cons_cons ZgV (Tryz.cons_nil)
def Zu2 : KP := []
noncomputable def Zxn (n : Nat) (x : YI []) := evX (true, false, []) Zlx Zu2 [some Yq] Tryz.f178 (shF Yq) n (YV [] x)
noncomputable def Zly : Con := roS [] true (shF Yq) (Zxn big)
theorem ZoF : Zo Tryz.prog 178 Zly := ZI ⟨Tryz.f178, by kernel_rfl, rfl, by decide⟩ fun _ _ h => Zw ZoE (f := Tryz.f178) (by kernel_rfl) rfl (by kernel_rfl) (by kernel_rfl) big h
end Go.Sx.Tryz
set_option maxRecDepth 100000
namespace Go.Sx.Tryz
open Go Go.Sx Go.Proofs
noncomputable def Zlz : List (Nat × Con) := []
theorem ZoG : ∀ q ∈ Zlz, Zo Tryz.prog q.1 q.2 := Tryz.cons_nil
def Zu3 : KP := []
noncomputable def Zxo (n : Nat) (x : YI [Zn]) := evX (false, false, []) Zlz Zu3 [some ZC] Tryz.f179 (shF ZC) n (YV [Zn] x)
noncomputable def Zen : Con := roS [Zn] true (shF ZC) (Zxo big)
theorem ZdA : Zo Tryz.prog 179 Zen := ZI ⟨Tryz.f179, by kernel_rfl, rfl, by decide⟩ fun _ _ h => Zw ZoG (f := Tryz.f179) (by kernel_rfl) rfl (by kernel_rfl) (by kernel_rfl) big h
end Go.Sx.Tryz
set_option maxRecDepth 100000
namespace Go.Sx.Tryz
open Go Go.Sx Go.Proofs
noncomputable def Ub : List (Nat × Con) := [(67, Yn), (174, Q4), (177, ZgQ), (178, Zly), (179, Zen)]
theorem ZgW : ∀ q ∈ Ub, Zo Tryz.prog q.1 q.2 := Tryz.cons_cons Z3 (Tryz.cons_cons V8 (Tryz.cons_cons Zfn (Tryz.cons_cons ZoF (Tryz.cons_cons ZdA (Tryz.cons_nil)))))
abbrev WN : List Wa × List BK := ([.ro Za, .drop, .drop, .drop, .drop, .drop, .is (.ptr 0 0), .drop, .is (.ptr 2 0), .ro Za, .drop, .drop, .drop, .drop, .drop, .drop, .drop, .drop, .drop, .drop, .drop, .drop, .drop, .drop, .drop, .drop, .drop, .drop, .drop, .drop, .drop, .drop, .drop, .drop, .drop, .drop, .drop, .drop, .drop, .drop, .drop, .drop, .drop, .drop, .drop, .drop, .drop, .drop], [.vars [.ro Za, .ro ZE, .ro Za, .own YU, .own ZC, .own ZD, .own ZV, .own VI], .drop, .vars [.ro Za, .ro ZE, .ro Za, .own ZJ, .own ZC, .own ZD, .own ZV, .own VI]])
def ZbR : KP := [(5, WN)]
noncomputable def ZdB (n : Nat) (x : YI [Zn, ZE, Zn]) := evX (true, false, [8, 40]) Ub ZbR [some Zr, none] Tryz.f133 (shT [(true, Zr), (false, ZE)]) n (YV [Zn, ZE, Zn] x)
noncomputable def ZdC : Con := roS [Zn, ZE, Zn] true (shT [(true, Zr), (false, ZE)]) (ZdB big)
theorem ZgX : Zo Tryz.prog 133 ZdC := ZI ⟨Tryz.f133, by kernel_rfl, rfl, by decide⟩ fun _ _ h => Zw ZgW (f := Tryz.f133) (by kernel_rfl) rfl (by kernel_rfl) (by kernel_rfl) big h
noncomputable def Jn (n : Nat) (a0 : Int) (a1 : Bool) (a2 : Int) : Option (Zl × Bool × Unit) := ZdB n (a0, a1, a2, ())
noncomputable def Zjc (n : Nat) (x : KD WN.1) (y : BD WN.2) := Yh (env (true, false, [8, 40]) Ub) ZbR (body Tryz.f133) (VV (true, false, [8, 40]) Ub [some Zr, none] Tryz.f133 (shT [(true, Zr), (false, ZE)]) [.val Zn (ZT Zn), .val ZE (ZT ZE), .val Zn (ZT Zn)]) n 5 WN x y
noncomputable def WO (n : Nat) (s0 : Int) (s9 : Int) (b0_0 : Int) (b0_1 : Bool) (b0_2 : Int) (b0_3 : (List ZN)) (b0_4 : (List Zq)) (b0_5 : (List Zs)) (b0_6 : (List ZX)) (b0_7 : (List Vc)) (b2_0 : Int) (b2_1 : Bool) (b2_2 : Int) (b2_3 : (List Zm)) (b2_4 : (List Zq)) (b2_5 : (List Zs)) (b2_6 : (List ZX)) (b2_7 : (List Vc)) : Option (Zl × Bool × Unit) := Zjc n (s0, s9, ()) ((b0_0, b0_1, b0_2, b0_3, b0_4, b0_5, b0_6, b0_7, ()), (b2_0, b2_1, b2_2, b2_3, b2_4, b2_5, b2_6, b2_7, ()), ())
theorem ZgY (n : Nat) (a0 : Int) (a1 : Bool) (a2 : Int) : Jn n a0 a1 a2 =
  (ZQ big a0 (1 : Int) (7 : Int)).bind fun y =>
 bif !y then some (((0 : Int), false, (0 : Int), [], [], [], [], [], ()), false, ())
 else
 if IntKind.u64.wrap a0 < (0 : Int) then none
 else
 (ZQ big a2 (0 : Int)
 (IntKind.i64.wrap
 (IntKind.i64.wrap ((1 : Int) * (2 : Int) ^ min (IntKind.u64.wrap a0).toNat IntKind.i64.bits) -
 (1 : Int)))).bind
 fun y =>
 bif !y then some (((0 : Int), false, (0 : Int), [], [], [], [], [], ()), false, ())
 else
 (Xh big a2).bind fun y =>
 (JH big a0).bind fun y_1 =>
 bif decide (y_1 < y) then
 some (((0 : Int), false, (0 : Int), [], [], [], [], [], ()), false, ())
 else
 WO n a0 (0 : Int) (0 : Int) false (0 : Int) [] [] [] [] [] a0 a1 a2
 [((-1 : Int), (0 : Int), [], ((0 : Int), (0 : Int), (0 : Int), (0 : Int), ()), ())]
 [] [] [] [] := by kernel_rfl
theorem Q8 (n : Nat) (s0 : Int) (s9 : Int) (b0_0 : Int) (b0_1 : Bool) (b0_2 : Int) (b0_3 : (List ZN)) (b0_4 : (List Zq)) (b0_5 : (List Zs)) (b0_6 : (List ZX)) (b0_7 : (List Vc)) (b2_0 : Int) (b2_1 : Bool) (b2_2 : Int) (b2_3 : (List Zm)) (b2_4 : (List Zq)) (b2_5 : (List Zs)) (b2_6 : (List ZX)) (b2_7 : (List Vc)) : WO (n + 1) s0 s9 b0_0 b0_1 b0_2 b0_3 b0_4 b0_5 b0_6 b0_7 b2_0 b2_1 b2_2 b2_3 b2_4 b2_5 b2_6 b2_7 =
  bif decide (s9 < s0) then
 if b2_4.length + (1 : Nat) ≤ lim then
 WO n s0 (IntKind.i64.wrap (s9 + (1 : Int))) b0_0 b0_1 b0_2 b0_3 b0_4 b0_5 b0_6 b0_7 b2_0 b2_1 b2_2
 b2_3
 (b2_4.append
 [(s9, (1 : Int), ((0 : Int), (0 : Int), (0 : Int), (0 : Int), ()),
 ((0 : Int), (0 : Int), (0 : Int), (0 : Int), ()), ((0 : Int), (0 : Int), (0 : Int), (0 : Int), ()), [],
 [], [], [], [], [], (0 : Int), ())])
 b2_5 b2_6 b2_7
 else none
 else some ((b2_0, b2_1, b2_2, b2_3, b2_4, b2_5, b2_6, b2_7, ()), true, ()) := by kernel_rfl
end Go.Sx.Tryz
set_option maxRecDepth 100000
namespace Go.Sx.Tryz
open Go Go.Sx Go.Proofs
noncomputable def ZfD : List (Nat × Con) := [(84, KG)]
theorem Zu4 : ∀ q ∈ ZfD, Zo Tryz.prog q.1 q.2 := Tryz.cons_cons Q5 (Tryz.cons_nil)
abbrev Zao : List Wa × List BK := ([.ro Zh, .ro Za, .drop, .drop, .drop, .own Za, .drop, .drop, .drop, .drop, .drop, .drop, .drop, .drop, .drop, .drop, .drop, .drop, .drop, .drop, .drop, .drop, .drop, .drop], [])
def ZqH : KP := [(4, Zao)]
noncomputable def Zu5 (n : Nat) (x : YI [Zh, Zn]) := evX (false, false, []) ZfD ZqH [some Wz] Tryz.f83 (shF Wz) n (YV [Zh, Zn] x)
noncomputable def Zu6 : Con := roS [Zh, Zn] true (shF Wz) (Zu5 big)
theorem Zu7 : Zo Tryz.prog 83 Zu6 := ZI ⟨Tryz.f83, by kernel_rfl, rfl, by decide⟩ fun _ _ h => Zw Zu4 (f := Tryz.f83) (by kernel_rfl) rfl (by kernel_rfl) (by kernel_rfl) big h
noncomputable def ZlA (n : Nat) (a0 : Zp) (a1 : Int) : Option YF := Zu5 n (a0, a1, ())
noncomputable def Zxp (n : Nat) (x : KD Zao.1) (y : BD Zao.2) := Yh (env (false, false, []) ZfD) ZqH (body Tryz.f83) (VV (false, false, []) ZfD [some Wz] Tryz.f83 (shF Wz) [.val Zh (ZT Zh), .val Zn (ZT Zn)]) n 4 Zao x y
noncomputable def Zap (n : Nat) (s0 : Zp) (s1 : Int) (s5 : (List Int)) : Option YF := Zxp n (s0, s1, s5, ()) ()
theorem Zu8 (n : Nat) (a0 : Zp) (a1 : Int) : ZlA n a0 a1 =
  (Uy big a0 a1).bind fun y => bif decide (y < (0 : Int)) then some [] else Zap n a0 a1 [] := by kernel_rfl
theorem ZdD (n : Nat) (s0 : Zp) (s1 : Int) (s5 : (List Int)) : Zap (n + 1) s0 s1 s5 =
  bif decide ((0 : Int) < s1) then
 if [s1].length + s5.length ≤ lim then
 if (0 : Int) ≤ s1 then (nth s0 s1.toNat).bind fun y => Zap n s0 y.1 (s1 :: s5) else none
 else none
 else some s5 := by kernel_rfl
end Go.Sx.Tryz
set_option maxRecDepth 100000
namespace Go.Sx.Tryz
open Go Go.Sx Go.Proofs
noncomputable def KI : List (Nat × Con) := [(31, Zam), (83, Zu6)]
theorem ZlB : ∀ q ∈ KI, Zo Tryz.prog q.1 q.2 := Tryz.cons_cons Jm (Tryz.cons_cons Zu7 (Tryz.cons_nil))
abbrev Uc : List Wa × List BK := ([.drop, .drop, .ro Za, .drop, .drop, .drop, .drop, .is (.own 0 0), .own Za, .ro Za, .drop, .drop, .drop, .drop, .drop, .drop, .drop, .drop, .drop, .drop, .drop, .drop, .drop, .drop, .drop, .drop, .drop, .drop, .drop, .drop, .drop, .drop, .drop, .drop, .drop, .drop, .drop, .drop, .drop, .drop], [.arr Za])
def ZfE : KP := [(6, Uc)]
noncomputable def ZhZ (n : Nat) (x : YI [Zh, Zn, Zn]) := evX (false, false, []) KI ZfE [some Wz] Tryz.f30 (shF Wz) n (YV [Zh, Zn, Zn] x)
noncomputable def ZbS : Con := roS [Zh, Zn, Zn] true (shF Wz) (ZhZ big)
theorem ZbT : Zo Tryz.prog 30 ZbS := ZI ⟨Tryz.f30, by kernel_rfl, rfl, by decide⟩ fun _ _ h => Zw ZlB (f := Tryz.f30) (by kernel_rfl) rfl (by kernel_rfl) (by kernel_rfl) big h
noncomputable def KJ (n : Nat) (a0 : Zp) (a1 : Int) (a2 : Int) : Option YF := ZhZ n (a0, a1, a2, ())
noncomputable def ZoH (n : Nat) (x : KD Uc.1) (y : BD Uc.2) := Yh (env (false, false, []) KI) ZfE (body Tryz.f30) (VV (false, false, []) KI [some Wz] Tryz.f30 (shF Wz) [.val Zh (ZT Zh), .val Zn (ZT Zn), .val Zn (ZT Zn)]) n 6 Uc x y
noncomputable def WI (n : Nat) (s2 : Int) (s8 : (List Int)) (s9 : Int) (b0 : (List Int)) : Option YF := ZoH n (s2, s8, s9, ()) (b0, ())
theorem ZlC (n : Nat) (a0 : Zp) (a1 : Int) (a2 : Int) : KJ n a0 a1 a2 =
  (Q6 big a0 a1 a2).bind fun y =>
 bif !y then some [] else (ZlA big a0 a1).bind fun y => WI n a2 [] (0 : Int) y := by kernel_rfl
theorem JJ (n : Nat) (s2 : Int) (s8 : (List Int)) (s9 : Int) (b0 : (List Int)) : WI (n + 1) s2 s8 s9 b0 =
  bif decide (s9 < (↑b0.length : Int)) then
 if (0 : Int) ≤ s9 then
 if s9 < (↑b0.length : Int) then
 (nth b0 s9.toNat).bind fun y =>
 bif decide (s2 < y) then
 if (0 : Int) ≤ s9 then
 if s9 < (↑b0.length : Int) then
 (nth b0 s9.toNat).bind fun y =>
 if s8.length + [y].length ≤ lim then
 WI n s2 (s8.append [y]) (IntKind.i64.wrap (s9 + (1 : Int))) b0
 else none
 else none
 else none
 else WI n s2 s8 (IntKind.i64.wrap (s9 + (1 : Int))) b0
 else none
 else none
 else some s8 := by kernel_rfl
end Go.Sx.Tryz
set_option maxRecDepth 100000
namespace Go.Sx.Tryz
open Go Go.Sx Go.Proofs
noncomputable def ZlD : List (Nat × Con) := []
theorem ZoI : ∀ q ∈ ZlD, Zo Tryz.prog q.1 q.2 := Tryz.cons_nil
def Zu9 : KP := []
noncomputable def ZlE (n : Nat) (x : YI [ZP]) := evX (false, false, [1, 3, 7, 9]) ZlD Zu9 [none] Tryz.f88 (shV Zn) n (YV [ZP] x)
noncomputable def Zeo : Con := roS [ZP] true (shV Zn) (ZlE big)
theorem ZdE : Zo Tryz.prog 88 Zeo := ZI ⟨Tryz.f88, by kernel_rfl, rfl, by decide⟩ fun _ _ h => Zw ZoI (f := Tryz.f88) (by kernel_rfl) rfl (by kernel_rfl) (by kernel_rfl) big h
noncomputable def Q9 (n : Nat) (a0 : Zq) : Option Int := ZlE n (a0, ())
theorem ZoJ (n : Nat) (a0 : Zq) : Q9 n a0 =
  bif decide ((↑(List.length a0.2.2.2.2.2.1) : Int) = (0 : Int)) then some (0 : Int)
 else
 if (0 : Int) ≤ IntKind.i64.wrap ((↑(List.length a0.2.2.2.2.2.1) : Int) - (1 : Int)) then
 (nth a0.2.2.2.2.2.1
 (IntKind.i64.wrap ((↑(List.length a0.2.2.2.2.2.1) : Int) - (1 : Int))).toNat).bind
 fun y => some y
 else none := by kernel_rfl
end Go.Sx.Tryz
set_option maxRecDepth 100000
namespace Go.Sx.Tryz
open Go Go.Sx Go.Proofs
noncomputable def ZcU : List (Nat × Con) := [(176, Qq)]
theorem Zsw : ∀ q ∈ ZcU, Zo Tryz.prog q.1 q.2 := Tryz.cons_cons UL (Tryz.cons_nil)
abbrev KK : List Wa × List BK := ([.drop, .drop, .ro Za, .drop, .is (.ptr 0 0), .drop, .drop, .ro Za, .ro Za, .drop, .drop, .drop, .drop, .drop, .drop, .drop, .drop, .drop, .drop, .drop, .drop, .drop, .drop, .drop, .drop, .drop, .drop, .drop, .drop, .drop, .drop, .drop, .drop, .drop, .drop, .drop, .drop, .drop, .drop, .drop, .drop, .drop, .drop, .drop, .drop, .drop, .drop, .drop, .drop, .drop, .drop, .drop, .drop, .drop, .drop], [.vars [.ro Za, .ro Za, .ro Za, .ro Za]])
def ZlF : KP := [(5, KK)]
noncomputable def ZqI (n : Nat) (x : YI [ZM, X3, Zn]) := evX (false, false, [4, 9, 13, 15, 17, 24, 47, 51]) ZcU ZlF [none] Tryz.f126 (shV ZE) n (YV [ZM, X3, Zn] x)
noncomputable def ZgZ : Con := roS [ZM, X3, Zn] true (shV ZE) (ZqI big)
theorem ZfF : Zo Tryz.prog 126 ZgZ := ZI ⟨Tryz.f126, by kernel_rfl, rfl, by decide⟩ fun _ _ h => Zw Zsw (f := Tryz.f126) (by kernel_rfl) rfl (by kernel_rfl) (by kernel_rfl) big h
noncomputable def W7 (n : Nat) (a0 : Z6) (a1 : Zbm) (a2 : Int) : Option Bool := ZqI n (a0, a1, a2, ())
noncomputable def Zva (n : Nat) (x : KD KK.1) (y : BD KK.2) := Yh (env (false, false, [4, 9, 13, 15, 17, 24, 47, 51]) ZcU) ZlF (body Tryz.f126) (VV (false, false, [4, 9, 13, 15, 17, 24, 47, 51]) ZcU [none] Tryz.f126 (shV ZE) [.val ZM (ZT ZM), .val X3 (ZT X3), .val Zn (ZT Zn)]) n 5 KK x y
noncomputable def W8 (n : Nat) (s2 : Int) (s7 : Int) (s8 : Int) (b0_0 : Int) (b0_1 : Int) (b0_2 : Int) (b0_3 : Int) : Option Bool := Zva n (s2, s7, s8, ()) ((b0_0, b0_1, b0_2, b0_3, ()), ())
theorem Zsx (n : Nat) (a0 : Z6) (a1 : Zbm) (a2 : Int) : W7 n a0 a1 a2 =
  bif decide (a1.2.1 = (0 : Int)) then some true
 else
 (Vl big a0 a1.1 a1.2.1 a1.2.2.1).bind fun y =>
 W8 n a2 y (0 : Int) a1.1 a1.2.1 a1.2.2.1 a1.2.2.2.1 := by kernel_rfl
theorem ZbU (n : Nat) (s2 : Int) (s7 : Int) (s8 : Int) (b0_0 : Int) (b0_1 : Int) (b0_2 : Int) (b0_3 : Int) : W8 (n + 1) s2 s7 s8 b0_0 b0_1 b0_2 b0_3 =
  bif decide (s8 < (7 : Int)) then
 if IntKind.u64.wrap s8 < (0 : Int) then none
 else
 bif
 !decide
 ((b0_3.fdiv ((2 : Int) ^ min (IntKind.u64.wrap s8).toNat IntKind.i64.bits)).tmod (2 : Int) =
 (0 : Int)) then
 if IntKind.u64.wrap s8 < (0 : Int) then none
 else
 bif
 decide
 ((s2.fdiv ((2 : Int) ^ min (IntKind.u64.wrap s8).toNat IntKind.i64.bits)).tmod (2 : Int) =
 (0 : Int)) then
 if IntKind.u64.wrap s8 < (0 : Int) then none
 else
 bif
 decide
 ((s7.fdiv ((2 : Int) ^ min (IntKind.u64.wrap s8).toNat IntKind.i64.bits)).tmod (2 : Int) =
 (0 : Int)) then
 some false
 else W8 n s2 s7 (IntKind.i64.wrap (s8 + (1 : Int))) b0_0 b0_1 b0_2 b0_3
 else W8 n s2 s7 (IntKind.i64.wrap (s8 + (1 : Int))) b0_0 b0_1 b0_2 b0_3
 else W8 n s2 s7 (IntKind.i64.wrap (s8 + (1 : Int))) b0_0 b0_1 b0_2 b0_3
 else bif decide ((0 : Int) ≤ b0_3) then some (decide (b0_3 < (128 : Int))) else some false := by kernel_rfl
end Go.Sx.Tryz
set_option maxRecDepth 100000
namespace Go.Sx.Tryz
open Go Go.Sx Go.Proofs
noncomputable def Zvb : List (Nat × Con) := [(68, Y8)]
theorem Zvc : ∀ q ∈ Zvb, Zo Tryz.prog q.1 q.2 := Tryz.cons_cons YB (Tryz.cons_nil)
def Zzp : KP := []
noncomputable def Zvd (n : Nat) (x : YI [ZP, Zn, Zn, Zn]) := evX (false, false, [4, 10, 11, 17]) Zvb Zzp [some ZC, none] Tryz.f253 (shT [(true, ZC), (false, ZV)]) n (YV [ZP, Zn, Zn, Zn] x)
noncomputable def Zve : Con := roS [ZP, Zn, Zn, Zn] true (shT [(true, ZC), (false, ZV)]) (Zvd big)
theorem Zvf : Zo Tryz.prog 253 Zve := ZI ⟨Tryz.f253, by kernel_rfl, rfl, by decide⟩ fun _ _ h => Zw Zvc (f := Tryz.f253) (by kernel_rfl) rfl (by kernel_rfl) (by kernel_rfl) big h
noncomputable def ZlG (n : Nat) (a0 : Zq) (a1 : Int) (a2 : Int) (a3 : Int) : Option (Zq × ZX × Unit) := Zvd n (a0, a1, a2, a3, ())
theorem Zvg (n : Nat) (a0 : Zq) (a1 : Int) (a2 : Int) (a3 : Int) : ZlG n a0 a1 a2 a3 = (YD big a0).bind fun y => (fun zB => XA zB zB) (some ((y.1, y.2.1, y.2.2.1, y.2.2.2.1, (a1, a2, a3, a0.1, ()), y.2.2.2.2.2), (a1, a2, a3, a0.1, ()), ())) := by kernel_rfl
end Go.Sx.Tryz
set_option maxRecDepth 100000
namespace Go.Sx.Tryz
open Go Go.Sx Go.Proofs
noncomputable def ZlH : List (Nat × Con) := [(253, Zve), (69, Ux)]
theorem ZoK : ∀ q ∈ ZlH, Zo Tryz.prog q.1 q.2 := Tryz.cons_cons Zvf (Tryz.cons_cons Vm (Tryz.cons_nil))
def Zvh : KP := []
noncomputable def ZlI (n : Nat) (x : AP.denL [.mu ZC, .ro Zn, .ro Zn, .ro Zn, .ro Zn]) := evX (false, false, [11, 12, 14, 15, 23, 26, 27]) ZlH Zvh [some ZR] Tryz.f236 (shO (shF ZR) [.mu ZC]) n (AP.encL [.mu ZC, .ro Zn, .ro Zn, .ro Zn, .ro Zn] x)
noncomputable def Zaq : Con := apS [.mu ZC, .ro Zn, .ro Zn, .ro Zn, .ro Zn] true (shO (shF ZR) [.mu ZC]) (ZlI big)
theorem Jo : Zo Tryz.prog 236 Zaq := Y3 ⟨Tryz.f236, by kernel_rfl, rfl, by decide⟩ fun _ _ h => Zw ZoK (f := Tryz.f236) (by kernel_rfl) rfl (by kernel_rfl) (by kernel_rfl) big h
noncomputable def VZ (n : Nat) (a0 : Zq) (a1 : Int) (a2 : Int) (a3 : Int) (a4 : Int) : Option (ZO × Zq × Unit) := ZlI n (a0, a1, a2, a3, a4, ())
theorem ZoL (n : Nat) (a0 : Zq) (a1 : Int) (a2 : Int) (a3 : Int) (a4 : Int) : VZ n a0 a1 a2 a3 a4 =
  (ZlG big a0 a1 a2 a3).bind fun y =>
 some
 ([((2 : Int), y.1.1, a4, y.2.1.2.1, (0 : Int),
 ((0 : Int), (0 : Int), (0 : Int), (0 : Int), ()), y.2)],
 y.1, ()) := by kernel_rfl
end Go.Sx.Tryz
set_option maxRecDepth 100000
namespace Go.Sx.Tryz
open Go Go.Sx Go.Proofs
noncomputable def Zh0 : List (Nat × Con) := [(67, Yn), (68, Y8), (39, WV), (22, Xs), (69, Ux)]
theorem ZlJ : ∀ q ∈ Zh0, Zo Tryz.prog q.1 q.2 := Tryz.cons_cons Z3 (Tryz.cons_cons YB (Tryz.cons_cons XW (Tryz.cons_cons Y0 (Tryz.cons_cons Vm (Tryz.cons_nil)))))
def Zsy : KP := []
noncomputable def Zh1 (n : Nat) (x : YI [ZP, Zn]) := evX (false, false, [2, 7, 8, 20, 26, 30]) Zh0 Zsy [some ZC, none, none] Tryz.f18 (shT [(true, ZC), (false, ZD), (false, ZE)]) n (YV [ZP, Zn] x)
noncomputable def ZbV : Con := roS [ZP, Zn] true (shT [(true, ZC), (false, ZD), (false, ZE)]) (Zh1 big)
theorem ZbW : Zo Tryz.prog 18 ZbV := ZI ⟨Tryz.f18, by kernel_rfl, rfl, by decide⟩ fun _ _ h => Zw ZlJ (f := Tryz.f18) (by kernel_rfl) rfl (by kernel_rfl) (by kernel_rfl) big h
noncomputable def Uz (n : Nat) (a0 : Zq) (a1 : Int) : Option (Zq × Zs × Bool × Unit) := Zh1 n (a0, a1, ())
theorem ZbX (n : Nat) (a0 : Zq) (a1 : Int) : Uz n a0 a1 =
  bif decide ((900 : Int) ≤ a0.2.1) then
 (YD big a0).bind fun y =>
 some
 (y,
 ((0 : Int), (0 : Int), (0 : Int), (0 : Int), (0 : Int),
 ((0 : Int), (0 : Int), (0 : Int), (0 : Int), ()),
 ((0 : Int), (0 : Int), (0 : Int), (0 : Int), ()), ()),
 false, ())
 else
 (ZQ big a1 (1 : Int) (7 : Int)).bind fun y =>
 bif !y then
 (YD big a0).bind fun y =>
 some
 (y,
 ((0 : Int), (0 : Int), (0 : Int), (0 : Int), (0 : Int),
 ((0 : Int), (0 : Int), (0 : Int), (0 : Int), ()),
 ((0 : Int), (0 : Int), (0 : Int), (0 : Int), ()), ()),
 false, ())
 else
 (Xw big a0 (IntKind.i64.wrap (a0.2.1 + (1 : Int)))).bind fun y =>
 (YA big y.2.1 a1).bind fun y_1 =>
 some
 (y,
 ((4 : Int), y.1, y_1, y.2.1, (0 : Int), y.2.2.1,
 ((0 : Int), (0 : Int), (0 : Int), (0 : Int), ()), ()),
 true, ()) := by kernel_rfl
end Go.Sx.Tryz
set_option maxRecDepth 100000
namespace Go.Sx.Tryz
open Go Go.Sx Go.Proofs
noncomputable def Zvi : List (Nat × Con) := [(233, ZqB), (197, ZbL), (68, Y8)]
theorem Zvj : ∀ q ∈ Zvi, Zo Tryz.prog q.1 q.2 := Tryz.cons_cons Zsf (Tryz.cons_cons ZbM (Tryz.cons_cons YB (Tryz.cons_nil)))
def Zzq : KP := []
noncomputable def Zvk (n : Nat) (x : YI [Zh, ZP, Yu]) := evX (false, false, [4, 9, 12, 17, 19, 33]) Zvi Zzq [some Yq, some ZC, none] Tryz.f213 (shT [(true, Yq), (true, ZC), (false, Zn)]) n (YV [Zh, ZP, Yu] x)
noncomputable def Zvl : Con := roS [Zh, ZP, Yu] true (shT [(true, Yq), (true, ZC), (false, Zn)]) (Zvk big)
theorem Zvm : Zo Tryz.prog 213 Zvl := ZI ⟨Tryz.f213, by kernel_rfl, rfl, by decide⟩ fun _ _ h => Zw Zvj (f := Tryz.f213) (by kernel_rfl) rfl (by kernel_rfl) (by kernel_rfl) big h
noncomputable def Wl (n : Nat) (a0 : Zp) (a1 : Zq) (a2 : Xg) : Option (Zp × Zq × Int × Unit) := Zvk n (a0, a1, a2, ())
theorem Zvn (n : Nat) (a0 : Zp) (a1 : Zq) (a2 : Xg) : Wl n a0 a1 a2 =
  (ZgR big a1).bind fun y =>
 (XH big a0 (y.2.2.1, a1.2.1, a2, y, ())).bind fun y_1 =>
 (YD big a1).bind fun y_2 =>
 bif decide (y_1.2.1 < (0 : Int)) then some (y_1.1, y_2, (-1 : Int), ())
 else
 some
 (y_1.1,
 (y_2.1, y_2.2.1, y, y_2.2.2.2.1, y_2.2.2.2.2.1, y_2.2.2.2.2.2.1,
 y_2.2.2.2.2.2.2.1, y_2.2.2.2.2.2.2.2.1,
 y_2.2.2.2.2.2.2.2.2.1, y_2.2.2.2.2.2.2.2.2.2.1,
 y_2.2.2.2.2.2.2.2.2.2.2.1, a1.2.1, ()),
 y_1.2) := by kernel_rfl
end Go.Sx.Tryz
set_option maxRecDepth 100000
namespace Go.Sx.Tryz
open Go Go.Sx Go.Proofs
noncomputable def Zar : List (Nat × Con) := [(67, Yn)]
theorem ZoM : ∀ q ∈ Zar, Zo Tryz.prog q.1 q.2 := Tryz.cons_cons Z3 (Tryz.cons_nil)
abbrev Qu : List Wa × List BK := ([.drop, .drop, .ro Za, .ro Za, .drop, .is (.ptr 0 0), .drop, .drop, .drop, .own Zg, .is (.ptr 2 0), .ro Za, .drop, .drop, .drop, .drop, .drop, .drop, .drop, .drop, .drop, .drop, .drop, .drop, .drop, .drop, .drop, .drop, .drop, .drop, .drop, .drop, .drop, .drop, .drop, .drop, .drop, .drop, .drop, .drop, .drop, .drop, .drop, .drop, .drop], [.vars [.ro Za, .ro Za, .ro Za, .ro Za, .ro Za, .ro Za, .ro Za, .ro Za, .ro Za, .ro Za, .ro Za, .ro Za, .ro Za, .ro Za, .ro YJ, .ro ZB, .ro YJ, .ro Yo, .ro ZM, .ro ZG, .ro Za], .drop, .vars [.ro Za, .ro Za, .ro Za, .ro Za]])
def Zh2 : KP := [(6, Qu)]
noncomputable def ZlK (n : Nat) (x : YI [Zh, ZP, Zn, Zn]) := evX (false, false, [5, 10, 34, 37]) Zar Zh2 [some ZR] Tryz.f215 (shF ZR) n (YV [Zh, ZP, Zn, Zn] x)
noncomputable def ZlL : Con := roS [Zh, ZP, Zn, Zn] true (shF ZR) (ZlK big)
theorem ZoN : Zo Tryz.prog 215 ZlL := ZI ⟨Tryz.f215, by kernel_rfl, rfl, by decide⟩ fun _ _ h => Zw ZoM (f := Tryz.f215) (by kernel_rfl) rfl (by kernel_rfl) (by kernel_rfl) big h
noncomputable def Zep (n : Nat) (a0 : Zp) (a1 : Zq) (a2 : Int) (a3 : Int) : Option ZO := ZlK n (a0, a1, a2, a3, ())
noncomputable def Zsz (n : Nat) (x : KD Qu.1) (y : BD Qu.2) := Yh (env (false, false, [5, 10, 34, 37]) Zar) Zh2 (body Tryz.f215) (VV (false, false, [5, 10, 34, 37]) Zar [some ZR] Tryz.f215 (shF ZR) [.val Zh (ZT Zh), .val ZP (ZT ZP), .val Zn (ZT Zn), .val Zn (ZT Zn)]) n 6 Qu x y
noncomputable def Vn (n : Nat) (s2 : Int) (s3 : Int) (s9 : (List Zc)) (s11 : Int) (b0_0 : Int) (b0_1 : Int) (b0_2 : Int) (b0_3 : Int) (b0_4 : Int) (b0_5 : Int) (b0_6 : Int) (b0_7 : Int) (b0_8 : Int) (b0_9 : Int) (b0_10 : Int) (b0_11 : Int) (b0_12 : Int) (b0_13 : Int) (b0_14 : YF) (b0_15 : ZH) (b0_16 : YF) (b0_17 : Yv) (b0_18 : Z6) (b0_19 : ZO) (b0_20 : Int) (b2_0 : Int) (b2_1 : Int) (b2_2 : Int) (b2_3 : Int) : Option ZO := Zsz n (s2, s3, s9, s11, ()) ((b0_0, b0_1, b0_2, b0_3, b0_4, b0_5, b0_6, b0_7, b0_8, b0_9, b0_10, b0_11, b0_12, b0_13, b0_14, b0_15, b0_16, b0_17, b0_18, b0_19, b0_20, ()), (b2_0, b2_1, b2_2, b2_3, ()), ())
theorem ZoO (n : Nat) (a0 : Zp) (a1 : Zq) (a2 : Int) (a3 : Int) : Zep n a0 a1 a2 a3 =
  (ZQ big a2 (0 : Int) (IntKind.i64.wrap ((↑(List.length a0) : Int) - (1 : Int)))).bind fun y =>
 bif y then
 if (0 : Int) ≤ a2 then
 (nth a0 a2.toNat).bind fun y =>
 Vn n a2 a3 [] (0 : Int) a1.1 a1.2.1 a1.2.2.1.1 a1.2.2.1.2.1
 a1.2.2.1.2.2.1 a1.2.2.1.2.2.2.1 a1.2.2.2.1.1 a1.2.2.2.1.2.1
 a1.2.2.2.1.2.2.1 a1.2.2.2.1.2.2.2.1 a1.2.2.2.2.1.1
 a1.2.2.2.2.1.2.1 a1.2.2.2.2.1.2.2.1 a1.2.2.2.2.1.2.2.2.1
 a1.2.2.2.2.2.1 a1.2.2.2.2.2.2.1 a1.2.2.2.2.2.2.2.1
 a1.2.2.2.2.2.2.2.2.1 a1.2.2.2.2.2.2.2.2.2.1
 a1.2.2.2.2.2.2.2.2.2.2.1 a1.2.2.2.2.2.2.2.2.2.2.2.1
 y.2.2.2.1.1 y.2.2.2.1.2.1 y.2.2.2.1.2.2.1
 y.2.2.2.1.2.2.2.1
 else none
 else
 Vn n a2 a3 [] (0 : Int) a1.1 a1.2.1 a1.2.2.1.1 a1.2.2.1.2.1
 a1.2.2.1.2.2.1 a1.2.2.1.2.2.2.1 a1.2.2.2.1.1 a1.2.2.2.1.2.1
 a1.2.2.2.1.2.2.1 a1.2.2.2.1.2.2.2.1 a1.2.2.2.2.1.1
 a1.2.2.2.2.1.2.1 a1.2.2.2.2.1.2.2.1 a1.2.2.2.2.1.2.2.2.1
 a1.2.2.2.2.2.1 a1.2.2.2.2.2.2.1 a1.2.2.2.2.2.2.2.1
 a1.2.2.2.2.2.2.2.2.1 a1.2.2.2.2.2.2.2.2.2.1
 a1.2.2.2.2.2.2.2.2.2.2.1 a1.2.2.2.2.2.2.2.2.2.2.2.1 (0 : Int)
 (0 : Int) (0 : Int) (0 : Int) := by kernel_rfl
theorem Za1 (n : Nat) (s2 : Int) (s3 : Int) (s9 : (List Zc)) (s11 : Int) (b0_0 : Int) (b0_1 : Int) (b0_2 : Int) (b0_3 : Int) (b0_4 : Int) (b0_5 : Int) (b0_6 : Int) (b0_7 : Int) (b0_8 : Int) (b0_9 : Int) (b0_10 : Int) (b0_11 : Int) (b0_12 : Int) (b0_13 : Int) (b0_14 : YF) (b0_15 : ZH) (b0_16 : YF) (b0_17 : Yv) (b0_18 : Z6) (b0_19 : ZO) (b0_20 : Int) (b2_0 : Int) (b2_1 : Int) (b2_2 : Int) (b2_3 : Int) : Vn (n + 1) s2 s3 s9 s11 b0_0 b0_1 b0_2 b0_3 b0_4 b0_5 b0_6 b0_7 b0_8 b0_9 b0_10 b0_11 b0_12 b0_13 b0_14 b0_15 b0_16 b0_17 b0_18 b0_19 b0_20 b2_0 b2_1 b2_2 b2_3 =
  bif decide (s11 < s3) then
 bif decide (s11 < (7 : Int)) then
 if
 s9.length +
 [((1 : Int), b0_0, s11, b0_1, s2, (b2_0, b2_1, b2_2, b2_3, ()),
 ((0 : Int), (0 : Int), (0 : Int), (0 : Int), ()), ())].length ≤
 lim then
 Vn n s2 s3
 (s9.append
 [((1 : Int), b0_0, s11, b0_1, s2, (b2_0, b2_1, b2_2, b2_3, ()),
 ((0 : Int), (0 : Int), (0 : Int), (0 : Int), ()), ())])
 (IntKind.i64.wrap (s11 + (1 : Int))) b0_0 b0_1 b0_2 b0_3 b0_4 b0_5 b0_6 b0_7 b0_8 b0_9 b0_10 b0_11 b0_12 b0_13
 b0_14 b0_15 b0_16 b0_17 b0_18 b0_19 b0_20 b2_0 b2_1 b2_2 b2_3
 else none
 else some s9
 else some s9 := by kernel_rfl
end Go.Sx.Tryz
set_option maxRecDepth 100000
namespace Go.Sx.Tryz
open Go Go.Sx Go.Proofs
noncomputable def ZlM : List (Nat × Con) := [(67, Yn)]
theorem ZoP : ∀ q ∈ ZlM, Zo Tryz.prog q.1 q.2 := Tryz.cons_cons Z3 (Tryz.cons_nil)
def Zvo : KP := []
noncomputable def ZlN (n : Nat) (x : YI [Yx, Zn, Zn, Zn, Zn]) := evX (false, false, [5, 12, 14, 19]) ZlM Zvo [none] Tryz.f222 (shV ZD) n (YV [Yx, Zn, Zn, Zn, Zn] x)
noncomputable def ZlO : Con := roS [Yx, Zn, Zn, Zn, Zn] true (shV ZD) (ZlN big)
theorem ZoQ : Zo Tryz.prog 222 ZlO := ZI ⟨Tryz.f222, by kernel_rfl, rfl, by decide⟩ fun _ _ h => Zw ZoP (f := Tryz.f222) (by kernel_rfl) rfl (by kernel_rfl) (by kernel_rfl) big h
noncomputable def Zeq (n : Nat) (a0 : Zl) (a1 : Int) (a2 : Int) (a3 : Int) (a4 : Int) : Option Zs := ZlN n (a0, a1, a2, a3, a4, ())
theorem ZoR (n : Nat) (a0 : Zl) (a1 : Int) (a2 : Int) (a3 : Int) (a4 : Int) : Zeq n a0 a1 a2 a3 a4 =
  (ZQ big a4 (0 : Int) (IntKind.i64.wrap ((↑(List.length a0.2.2.2.1) : Int) - (1 : Int)))).bind fun y =>
 bif y then
 if (0 : Int) ≤ a4 then
 (nth a0.2.2.2.1 a4.toNat).bind fun y =>
 some
 ((2 : Int), a1, a2, y.2.1, (0 : Int), ((0 : Int), (0 : Int), (0 : Int), (0 : Int), ()),
 (a3, y.2.1, a4, a1, ()), ())
 else none
 else
 some
 ((2 : Int), a1, a2, (0 : Int), (0 : Int), ((0 : Int), (0 : Int), (0 : Int), (0 : Int), ()),
 (a3, (0 : Int), a4, a1, ()), ()) := by kernel_rfl
end Go.Sx.Tryz
set_option maxRecDepth 100000
namespace Go.Sx.Tryz
open Go Go.Sx Go.Proofs
noncomputable def Zas : List (Nat × Con) := [(143, Zfu), (67, Yn)]
theorem ZoS : ∀ q ∈ Zas, Zo Tryz.prog q.1 q.2 := Tryz.cons_cons ZbJ (Tryz.cons_cons Z3 (Tryz.cons_nil))
abbrev Qv : List Wa × List BK := ([.ro ZB, .drop, .drop, .ro Za, .drop, .drop, .drop, .drop, .drop, .drop, .drop, .drop, .drop, .drop, .drop, .drop, .drop, .drop, .drop, .drop, .drop, .drop, .drop, .drop, .drop, .drop, .drop, .drop, .drop, .drop, .drop, .drop, .drop, .drop, .drop, .drop, .drop, .drop, .drop, .drop, .drop, .drop, .drop, .drop, .drop, .drop, .drop], [])
def Zh3 : KP := [(2, Qv)]
noncomputable def ZlP (n : Nat) (x : YI [ZB]) := evX (false, false, []) Zas Zh3 [none] Tryz.f142 (shV ZE) n (YV [ZB] x)
noncomputable def Zer : Con := roS [ZB] true (shV ZE) (ZlP big)
theorem ZdF : Zo Tryz.prog 142 Zer := ZI ⟨Tryz.f142, by kernel_rfl, rfl, by decide⟩ fun _ _ h => Zw ZoS (f := Tryz.f142) (by kernel_rfl) rfl (by kernel_rfl) (by kernel_rfl) big h
noncomputable def Zat (n : Nat) (a0 : ZH) : Option Bool := ZlP n (a0, ())
noncomputable def ZsA (n : Nat) (x : KD Qv.1) (y : BD Qv.2) := Yh (env (false, false, []) Zas) Zh3 (body Tryz.f142) (VV (false, false, []) Zas [none] Tryz.f142 (shV ZE) [.val ZB (ZT ZB)]) n 2 Qv x y
noncomputable def Vo (n : Nat) (s0 : ZH) (s3 : Int) : Option Bool := ZsA n (s0, s3, ()) ()
theorem ZoT (n : Nat) (a0 : ZH) : Zat n a0 =
  Vo n a0 (0 : Int) := by kernel_rfl
theorem Za2 (n : Nat) (s0 : ZH) (s3 : Int) : Vo (n + 1) s0 s3 =
  bif decide (s3 < (↑(List.length s0) : Int)) then
 if (0 : Int) ≤ s3 then
 (nth s0 s3.toNat).bind fun y =>
 (ZbK big y.1).bind fun y =>
 bif !y then some false
 else
 if (0 : Int) ≤ s3 then
 (nth s0 s3.toNat).bind fun y =>
 (ZQ big y.2.1 (0 : Int) (1000000000 : Int)).bind fun y =>
 bif !y then some false
 else
 bif decide ((0 : Int) < s3) then
 if (0 : Int) ≤ IntKind.i64.wrap (s3 - (1 : Int)) then
 (nth s0 (IntKind.i64.wrap (s3 - (1 : Int))).toNat).bind fun y =>
 if (0 : Int) ≤ s3 then
 (nth s0 s3.toNat).bind fun y_1 =>
 bif !Op.bytesLess (ByteArray.toList y.1) (ByteArray.toList y_1.1) then some false
 else Vo n s0 (IntKind.i64.wrap (s3 + (1 : Int)))
 else none
 else none
 else Vo n s0 (IntKind.i64.wrap (s3 + (1 : Int)))
 else none
 else none
 else some (decide ((↑(List.length s0) : Int) ≤ (12 : Int))) := by kernel_rfl
end Go.Sx.Tryz
set_option maxRecDepth 100000
namespace Go.Sx.Tryz
open Go Go.Sx Go.Proofs
noncomputable def QS : List (Nat × Con) := []
theorem ZsB : ∀ q ∈ QS, Zo Tryz.prog q.1 q.2 := Tryz.cons_nil
abbrev KL : List Wa × List BK := ([.ro ZB, .drop, .drop, .is (.ptr 0 0), .drop, .own Zt, .ro Za, .drop, .drop, .drop, .drop, .drop, .drop, .drop, .drop, .drop, .drop, .drop, .drop, .drop, .drop, .drop, .drop, .drop, .drop, .drop, .drop, .drop, .drop, .drop, .drop, .drop, .drop, .drop, .drop, .drop, .drop, .drop, .drop, .drop, .drop, .drop, .drop, .drop, .drop, .drop, .drop, .drop, .drop, .drop, .drop, .drop, .drop, .drop, .drop, .drop], [.vars [.ro Zx, .ro Za]])
abbrev KM : List Wa × List BK := ([.ro ZB, .drop, .drop, .is (.ptr 0 0), .drop, .own Zt, .drop, .ro Za, .drop, .drop, .drop, .drop, .drop, .drop, .drop, .drop, .drop, .drop, .drop, .drop, .drop, .drop, .drop, .drop, .drop, .drop, .drop, .drop, .drop, .drop, .drop, .drop, .drop, .drop, .drop, .drop, .drop, .drop, .drop, .drop, .drop, .drop, .drop, .drop, .drop, .drop, .drop, .drop, .drop, .drop, .drop, .drop, .drop, .drop, .drop, .drop], [.vars [.ro Zx, .ro Za]])
def Zes : KP := [(3, KL), (9, KM)]
noncomputable def ZqJ (n : Nat) (x : YI [ZB, W3]) := evX (false, false, [3, 20, 45]) QS Zes [some Z4] Tryz.f144 (shF Z4) n (YV [ZB, W3] x)
noncomputable def Zg0 : Con := roS [ZB, W3] true (shF Z4) (ZqJ big)
theorem ZfG : Zo Tryz.prog 144 Zg0 := ZI ⟨Tryz.f144, by kernel_rfl, rfl, by decide⟩ fun _ _ h => Zw ZsB (f := Tryz.f144) (by kernel_rfl) rfl (by kernel_rfl) (by kernel_rfl) big h
noncomputable def XF (n : Nat) (a0 : ZH) (a1 : Yj) : Option ZH := ZqJ n (a0, a1, ())
noncomputable def Zvp (n : Nat) (x : KD KL.1) (y : BD KL.2) := Yh (env (false, false, [3, 20, 45]) QS) Zes (body Tryz.f144) (VV (false, false, [3, 20, 45]) QS [some Z4] Tryz.f144 (shF Z4) [.val ZB (ZT ZB), .val W3 (ZT W3)]) n 3 KL x y
noncomputable def UA (n : Nat) (s0 : ZH) (s5 : (List Zf)) (s6 : Int) (b0_0 : ByteArray) (b0_1 : Int) : Option ZH := Zvp n (s0, s5, s6, ()) ((b0_0, b0_1, ()), ())
noncomputable def Zvq (n : Nat) (x : KD KM.1) (y : BD KM.2) := Yh (env (false, false, [3, 20, 45]) QS) Zes (body Tryz.f144) (VV (false, false, [3, 20, 45]) QS [some Z4] Tryz.f144 (shF Z4) [.val ZB (ZT ZB), .val W3 (ZT W3)]) n 9 KM x y
noncomputable def UB (n : Nat) (s0 : ZH) (s5 : (List Zf)) (s7 : Int) (b0_0 : ByteArray) (b0_1 : Int) : Option ZH := Zvq n (s0, s5, s7, ()) ((b0_0, b0_1, ()), ())
theorem ZsC (n : Nat) (a0 : ZH) (a1 : Yj) : XF n a0 a1 =
  UA n a0 [] (0 : Int) a1.1 a1.2.1 := by kernel_rfl
theorem ZbY (n : Nat) (s0 : ZH) (s5 : (List Zf)) (s6 : Int) (b0_0 : ByteArray) (b0_1 : Int) : UA (n + 1) s0 s5 s6 b0_0 b0_1 =
  bif decide (s6 < (↑(List.length s0) : Int)) then
 if (0 : Int) ≤ s6 then
 (nth s0 s6.toNat).bind fun y =>
 bif Op.bytesLess (ByteArray.toList y.1) b0_0.toList then
 if (0 : Int) ≤ s6 then
 (nth s0 s6.toNat).bind fun y =>
 if s5.length + [y].length ≤ lim then
 UA n s0 (s5.append [y]) (IntKind.i64.wrap (s6 + (1 : Int))) b0_0 b0_1
 else none
 else none
 else UA n s0 s5 (IntKind.i64.wrap (s6 + (1 : Int))) b0_0 b0_1
 else none
 else
 if s5.length + [(b0_0, b0_1, ())].length ≤ lim then
 UB n s0 (s5.append [(b0_0, b0_1, ())]) (0 : Int) b0_0 b0_1
 else none := by kernel_rfl
theorem ZbZ (n : Nat) (s0 : ZH) (s5 : (List Zf)) (s7 : Int) (b0_0 : ByteArray) (b0_1 : Int) : UB (n + 1) s0 s5 s7 b0_0 b0_1 =
  bif decide (s7 < (↑(List.length s0) : Int)) then
 if (0 : Int) ≤ s7 then
 (nth s0 s7.toNat).bind fun y =>
 bif !(Op.bytesLess (ByteArray.toList y.1) b0_0.toList || decide (y.1 = b0_0)) then
 if (0 : Int) ≤ s7 then
 (nth s0 s7.toNat).bind fun y =>
 if s5.length + [y].length ≤ lim then
 UB n s0 (s5.append [y]) (IntKind.i64.wrap (s7 + (1 : Int))) b0_0 b0_1
 else none
 else none
 else UB n s0 s5 (IntKind.i64.wrap (s7 + (1 : Int))) b0_0 b0_1
 else none
 else some s5 := by kernel_rfl
end Go.Sx.Tryz
set_option maxRecDepth 100000
namespace Go.Sx.Tryz
open Go Go.Sx Go.Proofs
noncomputable def ZcV : List (Nat × Con) := []
theorem ZsD : ∀ q ∈ ZcV, Zo Tryz.prog q.1 q.2 := Tryz.cons_nil
abbrev KN : List Wa × List BK := ([.ro ZB, .ro Zx, .drop, .drop, .drop, .ro Za, .drop, .drop, .drop, .drop, .drop, .drop, .drop, .drop, .drop, .drop, .drop, .drop, .drop, .drop], [])
def ZlQ : KP := [(2, KN)]
noncomputable def ZqK (n : Nat) (x : YI [ZB, Zx]) := evX (false, false, []) ZcV ZlQ [none] Tryz.f195 (shV Zn) n (YV [ZB, Zx] x)
noncomputable def Zg1 : Con := roS [ZB, Zx] true (shV Zn) (ZqK big)
theorem ZfH : Zo Tryz.prog 195 Zg1 := ZI ⟨Tryz.f195, by kernel_rfl, rfl, by decide⟩ fun _ _ h => Zw ZsD (f := Tryz.f195) (by kernel_rfl) rfl (by kernel_rfl) (by kernel_rfl) big h
noncomputable def ZcW (n : Nat) (a0 : ZH) (a1 : ByteArray) : Option Int := ZqK n (a0, a1, ())
noncomputable def Zvr (n : Nat) (x : KD KN.1) (y : BD KN.2) := Yh (env (false, false, []) ZcV) ZlQ (body Tryz.f195) (VV (false, false, []) ZcV [none] Tryz.f195 (shV Zn) [.val ZB (ZT ZB), .val Zx (ZT Zx)]) n 2 KN x y
noncomputable def KO (n : Nat) (s0 : ZH) (s1 : ByteArray) (s5 : Int) : Option Int := Zvr n (s0, s1, s5, ()) ()
theorem ZsE (n : Nat) (a0 : ZH) (a1 : ByteArray) : ZcW n a0 a1 =
  KO n a0 a1 (0 : Int) := by kernel_rfl
theorem Zb0 (n : Nat) (s0 : ZH) (s1 : ByteArray) (s5 : Int) : KO (n + 1) s0 s1 s5 =
  bif decide (s5 < (↑(List.length s0) : Int)) then
 if (0 : Int) ≤ s5 then
 (nth s0 s5.toNat).bind fun y =>
 bif decide (y.1 = s1) then some s5 else KO n s0 s1 (IntKind.i64.wrap (s5 + (1 : Int)))
 else none
 else some (-1 : Int) := by kernel_rfl
end Go.Sx.Tryz
set_option maxRecDepth 100000
namespace Go.Sx.Tryz
open Go Go.Sx Go.Proofs
noncomputable def Zyn : List (Nat × Con) := [(142, Zer), (194, Zk3), (195, Zg1), (67, Yn), (144, Zg0)]
theorem Zxq : ∀ q ∈ Zyn, Zo Tryz.prog q.1 q.2 := Tryz.cons_cons ZdF (Tryz.cons_cons ZhM (Tryz.cons_cons ZfH (Tryz.cons_cons Z3 (Tryz.cons_cons ZfG (Tryz.cons_nil)))))
def ZA3 : KP := []
noncomputable def Zyo (n : Nat) (x : YI [ZB, VI]) := evX (false, false, [3, 22, 25, 27, 38, 41, 49, 66]) Zyn ZA3 [some Z4, none] Tryz.f145 (shT [(true, Z4), (false, Zn)]) n (YV [ZB, VI] x)
noncomputable def ZsF : Con := roS [ZB, VI] true (shT [(true, Z4), (false, Zn)]) (Zyo big)
theorem ZlR : Zo Tryz.prog 145 ZsF := ZI ⟨Tryz.f145, by kernel_rfl, rfl, by decide⟩ fun _ _ h => Zw Zxq (f := Tryz.f145) (by kernel_rfl) rfl (by kernel_rfl) (by kernel_rfl) big h
noncomputable def ZjJ (n : Nat) (a0 : ZH) (a1 : Vc) : Option (ZH × Int × Unit) := Zyo n (a0, a1, ())
theorem Zxr (n : Nat) (a0 : ZH) (a1 : Vc) : ZjJ n a0 a1 =
  if (0 : Nat) + List.length a0 ≤ lim then
 (Zat big a0).bind fun y =>
 bif !y then some (a0, (2 : Int), ())
 else
 (Zfv big a1).bind fun y =>
 bif !y then some (a0, (2 : Int), ())
 else
 (ZcW big a0 a1.2.1).bind fun y =>
 bif !decide (a1.1 = (1 : Int)) then
 bif decide (y < (0 : Int)) then some (a0, (1 : Int), ())
 else
 if (0 : Int) ≤ y then
 (nth a0 (Int.toNat y)).bind fun y_1 =>
 bif decide (a1.1 = (3 : Int)) then
 if (0 : Int) ≤ y then
 (nth a0 (Int.toNat y)).bind fun y_2 =>
 (ZQ big (IntKind.i64.wrap (y_2.2.1 - a1.2.2.1)) (0 : Int)
 (1000000000 : Int)).bind
 fun y_3 =>
 bif !y_3 then some (a0, (2 : Int), ())
 else
 bif decide (y < (0 : Int)) then
 bif decide ((12 : Int) ≤ (↑(List.length a0) : Int)) then
 some (a0, (2 : Int), ())
 else
 (XF big a0
 (a1.2.1, IntKind.i64.wrap (y_2.2.1 - a1.2.2.1), ())).bind
 fun y => some (y, (0 : Int), ())
 else
 (XF big a0
 (a1.2.1, IntKind.i64.wrap (y_2.2.1 - a1.2.2.1), ())).bind
 fun y => some (y, (0 : Int), ())
 else none
 else
 (ZQ big (IntKind.i64.wrap (y_1.2.1 + a1.2.2.1)) (0 : Int)
 (1000000000 : Int)).bind
 fun y_2 =>
 bif !y_2 then some (a0, (2 : Int), ())
 else
 bif decide (y < (0 : Int)) then
 bif decide ((12 : Int) ≤ (↑(List.length a0) : Int)) then some (a0, (2 : Int), ())
 else
 (XF big a0
 (a1.2.1, IntKind.i64.wrap (y_1.2.1 + a1.2.2.1), ())).bind
 fun y => some (y, (0 : Int), ())
 else
 (XF big a0 (a1.2.1, IntKind.i64.wrap (y_1.2.1 + a1.2.2.1), ())).bind
 fun y => some (y, (0 : Int), ())
 else none
 else
 (ZQ big a1.2.2.1 (0 : Int) (1000000000 : Int)).bind fun y_1 =>
 bif !y_1 then some (a0, (2 : Int), ())
 else
 bif decide (y < (0 : Int)) then
 bif decide ((12 : Int) ≤ (↑(List.length a0) : Int)) then some (a0, (2 : Int), ())
 else (XF big a0 a1.2).bind fun y => some (y, (0 : Int), ())
 else (XF big a0 a1.2).bind fun y => some (y, (0 : Int), ())
 else none := by kernel_rfl
end Go.Sx.Tryz
set_option maxRecDepth 100000
namespace Go.Sx.Tryz
open Go Go.Sx Go.Proofs
noncomputable def Zau : List (Nat × Con) := [(145, ZsF)]
theorem ZoU : ∀ q ∈ Zau, Zo Tryz.prog q.1 q.2 := Tryz.cons_cons ZlR (Tryz.cons_nil)
abbrev Qw : List Wa × List BK := ([.drop, .ro Yu, .drop, .drop, .drop, .drop, .own Zt, .own Za, .ro Za, .drop, .drop, .drop, .drop, .drop, .drop, .drop, .drop, .drop, .drop, .drop, .drop, .drop, .drop, .drop, .drop, .drop, .drop, .drop, .drop, .drop, .drop, .drop, .drop, .drop, .drop, .drop, .drop], [])
def Zh4 : KP := [(4, Qw)]
noncomputable def ZlS (n : Nat) (x : YI [ZB, Yu]) := evX (false, false, []) Zau Zh4 [some Z4, some Wz] Tryz.f82 (shT [(true, Z4), (true, Wz)]) n (YV [ZB, Yu] x)
noncomputable def Zet : Con := roS [ZB, Yu] true (shT [(true, Z4), (true, Wz)]) (ZlS big)
theorem ZdG : Zo Tryz.prog 82 Zet := ZI ⟨Tryz.f82, by kernel_rfl, rfl, by decide⟩ fun _ _ h => Zw ZoU (f := Tryz.f82) (by kernel_rfl) rfl (by kernel_rfl) (by kernel_rfl) big h
noncomputable def Zav (n : Nat) (a0 : ZH) (a1 : Xg) : Option (ZH × YF × Unit) := ZlS n (a0, a1, ())
noncomputable def ZsG (n : Nat) (x : KD Qw.1) (y : BD Qw.2) := Yh (env (false, false, []) Zau) Zh4 (body Tryz.f82) (VV (false, false, []) Zau [some Z4, some Wz] Tryz.f82 (shT [(true, Z4), (true, Wz)]) [.val ZB (ZT ZB), .val Yu (ZT Yu)]) n 4 Qw x y
noncomputable def Qx (n : Nat) (s1 : Xg) (s6 : (List Zf)) (s7 : (List Int)) (s8 : Int) : Option (ZH × YF × Unit) := ZsG n (s1, s6, s7, s8, ()) ()
theorem ZoV (n : Nat) (a0 : ZH) (a1 : Xg) : Zav n a0 a1 =
  if (0 : Nat) + List.length a0 ≤ lim then Qx n a1 a0 [] (0 : Int) else none := by kernel_rfl
theorem Za3 (n : Nat) (s1 : Xg) (s6 : (List Zf)) (s7 : (List Int)) (s8 : Int) : Qx (n + 1) s1 s6 s7 s8 =
  bif decide (s8 < (↑(List.length s1) : Int)) then
 if (0 : Int) ≤ s8 then
 (nth s1 s8.toNat).bind fun y =>
 (ZjJ big s6 y).bind fun y =>
 if s7.length + (1 : Nat) ≤ lim then
 Qx n s1 y.1 (s7.append [y.2.1]) (IntKind.i64.wrap (s8 + (1 : Int)))
 else none
 else none
 else some (s6, s7, ()) := by kernel_rfl
end Go.Sx.Tryz
set_option maxRecDepth 100000
namespace Go.Sx.Tryz
open Go Go.Sx Go.Proofs
noncomputable def ZqL : List (Nat × Con) := [(195, Zg1)]
theorem ZsH : ∀ q ∈ ZqL, Zo Tryz.prog q.1 q.2 := Tryz.cons_cons ZfH (Tryz.cons_nil)
def Zxs : KP := []
noncomputable def ZqM (n : Nat) (x : YI [ZB, Zx]) := evX (false, false, []) ZqL Zxs [none] Tryz.f151 (shV W4) n (YV [ZB, Zx] x)
noncomputable def ZqN : Con := roS [ZB, Zx] true (shV W4) (ZqM big)
theorem ZsI : Zo Tryz.prog 151 ZqN := ZI ⟨Tryz.f151, by kernel_rfl, rfl, by decide⟩ fun _ _ h => Zw ZsH (f := Tryz.f151) (by kernel_rfl) rfl (by kernel_rfl) (by kernel_rfl) big h
noncomputable def Zg2 (n : Nat) (a0 : ZH) (a1 : ByteArray) : Option YW := ZqM n (a0, a1, ())
theorem ZsJ (n : Nat) (a0 : ZH) (a1 : ByteArray) : Zg2 n a0 a1 =
  (ZcW big a0 a1).bind fun y =>
 bif decide (y < (0 : Int)) then some (a1, false, (0 : Int), ())
 else if (0 : Int) ≤ y then (nth a0 (Int.toNat y)).bind fun y => some (a1, true, y.2) else none := by kernel_rfl
end Go.Sx.Tryz
set_option maxRecDepth 100000
namespace Go.Sx.Tryz
open Go Go.Sx Go.Proofs
noncomputable def ZcX : List (Nat × Con) := [(142, Zer), (143, Zfu), (67, Yn), (144, Zg0)]
theorem ZsK : ∀ q ∈ ZcX, Zo Tryz.prog q.1 q.2 := Tryz.cons_cons ZdF (Tryz.cons_cons ZbJ (Tryz.cons_cons Z3 (Tryz.cons_cons ZfG (Tryz.cons_nil))))
abbrev KQ : List Wa × List BK := ([.ro ZB, .drop, .drop, .is (.ptr 0 0), .drop, .own Zt, .ro Za, .drop, .drop, .drop, .drop, .drop, .drop, .drop, .drop, .drop, .drop, .drop, .drop, .drop, .drop, .drop, .drop, .drop, .drop, .drop, .drop, .drop, .drop, .drop, .drop, .drop, .drop, .drop, .drop, .drop, .drop, .drop, .drop, .drop, .drop, .drop, .drop, .drop, .drop, .drop, .drop, .drop, .drop, .drop, .drop, .drop, .drop, .drop, .drop, .drop, .drop], [.vars [.ro Zx, .ro ZE, .ro Za]])
def ZlT : KP := [(7, KQ)]
noncomputable def ZqO (n : Nat) (x : YI [ZB, W4]) := evX (false, false, [3, 11, 17, 25, 28, 30, 46]) ZcX ZlT [some Z4] Tryz.f81 (shF Z4) n (YV [ZB, W4] x)
noncomputable def ZqP : Con := roS [ZB, W4] true (shF Z4) (ZqO big)
theorem ZsL : Zo Tryz.prog 81 ZqP := ZI ⟨Tryz.f81, by kernel_rfl, rfl, by decide⟩ fun _ _ h => Zw ZsK (f := Tryz.f81) (by kernel_rfl) rfl (by kernel_rfl) (by kernel_rfl) big h
noncomputable def Zg3 (n : Nat) (a0 : ZH) (a1 : YW) : Option ZH := ZqO n (a0, a1, ())
noncomputable def Zvs (n : Nat) (x : KD KQ.1) (y : BD KQ.2) := Yh (env (false, false, [3, 11, 17, 25, 28, 30, 46]) ZcX) ZlT (body Tryz.f81) (VV (false, false, [3, 11, 17, 25, 28, 30, 46]) ZcX [some Z4] Tryz.f81 (shF Z4) [.val ZB (ZT ZB), .val W4 (ZT W4)]) n 7 KQ x y
noncomputable def UC (n : Nat) (s0 : ZH) (s5 : (List Zf)) (s6 : Int) (b0_0 : ByteArray) (b0_1 : Bool) (b0_2 : Int) : Option ZH := Zvs n (s0, s5, s6, ()) ((b0_0, b0_1, b0_2, ()), ())
theorem ZsM (n : Nat) (a0 : ZH) (a1 : YW) : Zg3 n a0 a1 =
  (Zat big a0).bind fun y =>
 bif !y then if (0 : Nat) + List.length a0 ≤ lim then some a0 else none
 else
 (ZbK big a1.1).bind fun y =>
 bif !y then if (0 : Nat) + List.length a0 ≤ lim then some a0 else none
 else
 (ZQ big a1.2.2.1 (0 : Int) (1000000000 : Int)).bind fun y =>
 bif !y then if (0 : Nat) + List.length a0 ≤ lim then some a0 else none
 else
 bif a1.2.1 then (XF big a0 (a1.1, a1.2.2)).bind fun y => some y
 else UC n a0 [] (0 : Int) a1.1 a1.2.1 a1.2.2.1 := by kernel_rfl
theorem Zb1 (n : Nat) (s0 : ZH) (s5 : (List Zf)) (s6 : Int) (b0_0 : ByteArray) (b0_1 : Bool) (b0_2 : Int) : UC (n + 1) s0 s5 s6 b0_0 b0_1 b0_2 =
  bif decide (s6 < (↑(List.length s0) : Int)) then
 if (0 : Int) ≤ s6 then
 (nth s0 s6.toNat).bind fun y =>
 bif !decide (y.1 = b0_0) then
 if (0 : Int) ≤ s6 then
 (nth s0 s6.toNat).bind fun y =>
 if s5.length + [y].length ≤ lim then
 UC n s0 (s5.append [y]) (IntKind.i64.wrap (s6 + (1 : Int))) b0_0 b0_1 b0_2
 else none
 else none
 else UC n s0 s5 (IntKind.i64.wrap (s6 + (1 : Int))) b0_0 b0_1 b0_2
 else none
 else some s5 := by kernel_rfl
end Go.Sx.Tryz
set_option maxRecDepth 100000
namespace Go.Sx.Tryz
open Go Go.Sx Go.Proofs
noncomputable def Qy : List (Nat × Con) := [(81, ZqP)]
theorem Zjd : ∀ q ∈ Qy, Zo Tryz.prog q.1 q.2 := Tryz.cons_cons ZsL (Tryz.cons_nil)
abbrev Vp : List Wa × List BK := ([.drop, .ro Yo, .drop, .drop, .drop, .own Zt, .ro Za, .drop, .drop, .drop, .drop, .drop, .drop, .drop, .drop, .drop, .drop, .drop, .drop, .drop, .drop, .drop, .drop, .drop], [])
def ZdH : KP := [(3, Vp)]
noncomputable def ZfI (n : Nat) (x : YI [ZB, Yo]) := evX (false, false, []) Qy ZdH [some Z4] Tryz.f27 (shF Z4) n (YV [ZB, Yo] x)
noncomputable def ZfJ : Con := roS [ZB, Yo] true (shF Z4) (ZfI big)
theorem Zje : Zo Tryz.prog 27 ZfJ := ZI ⟨Tryz.f27, by kernel_rfl, rfl, by decide⟩ fun _ _ h => Zw Zjd (f := Tryz.f27) (by kernel_rfl) rfl (by kernel_rfl) (by kernel_rfl) big h
noncomputable def Zaw (n : Nat) (a0 : ZH) (a1 : Yv) : Option ZH := ZfI n (a0, a1, ())
noncomputable def ZlU (n : Nat) (x : KD Vp.1) (y : BD Vp.2) := Yh (env (false, false, []) Qy) ZdH (body Tryz.f27) (VV (false, false, []) Qy [some Z4] Tryz.f27 (shF Z4) [.val ZB (ZT ZB), .val Yo (ZT Yo)]) n 3 Vp x y
noncomputable def Vq (n : Nat) (s1 : Yv) (s5 : (List Zf)) (s6 : Int) : Option ZH := ZlU n (s1, s5, s6, ()) ()
theorem Zjf (n : Nat) (a0 : ZH) (a1 : Yv) : Zaw n a0 a1 =
  if (0 : Nat) + List.length a0 ≤ lim then
 Vq n a1 a0 (IntKind.i64.wrap ((↑(List.length a1) : Int) - (1 : Int)))
 else none := by kernel_rfl
theorem KR (n : Nat) (s1 : Yv) (s5 : (List Zf)) (s6 : Int) : Vq (n + 1) s1 s5 s6 =
  bif decide ((0 : Int) ≤ s6) then
 if (0 : Int) ≤ s6 then
 (nth s1 s6.toNat).bind fun y =>
 (Zg3 big s5 y).bind fun y => Vq n s1 y (IntKind.i64.wrap (s6 - (1 : Int)))
 else none
 else some s5 := by kernel_rfl
end Go.Sx.Tryz
set_option maxRecDepth 100000
namespace Go.Sx.Tryz
open Go Go.Sx Go.Proofs
noncomputable def KS : List (Nat × Con) := [(151, ZqN), (145, ZsF)]
theorem ZlV : ∀ q ∈ KS, Zo Tryz.prog q.1 q.2 := Tryz.cons_cons ZsI (Tryz.cons_cons ZlR (Tryz.cons_nil))
abbrev Ud : List Wa × List BK := ([.drop, .ro Yu, .drop, .drop, .drop, .drop, .own Zt, .own Zy, .ro Za, .drop, .drop, .drop, .drop, .drop, .drop, .drop, .drop, .drop, .drop, .drop, .drop, .drop, .drop, .drop, .drop, .drop, .drop, .drop, .drop, .drop, .drop, .drop, .drop, .drop, .drop, .drop, .drop, .drop, .drop, .drop], [])
def ZfK : KP := [(4, Ud)]
noncomputable def Zh5 (n : Nat) (x : YI [ZB, Yu]) := evX (false, false, []) KS ZfK [some Z4, some V7] Tryz.f90 (shT [(true, Z4), (true, V7)]) n (YV [ZB, Yu] x)
noncomputable def Zh6 : Con := roS [ZB, Yu] true (shT [(true, Z4), (true, V7)]) (Zh5 big)
theorem ZlW : Zo Tryz.prog 90 Zh6 := ZI ⟨Tryz.f90, by kernel_rfl, rfl, by decide⟩ fun _ _ h => Zw ZlV (f := Tryz.f90) (by kernel_rfl) rfl (by kernel_rfl) (by kernel_rfl) big h
noncomputable def Zb2 (n : Nat) (a0 : ZH) (a1 : Xg) : Option (ZH × Yv × Unit) := Zh5 n (a0, a1, ())
noncomputable def ZoW (n : Nat) (x : KD Ud.1) (y : BD Ud.2) := Yh (env (false, false, []) KS) ZfK (body Tryz.f90) (VV (false, false, []) KS [some Z4, some V7] Tryz.f90 (shT [(true, Z4), (true, V7)]) [.val ZB (ZT ZB), .val Yu (ZT Yu)]) n 4 Ud x y
noncomputable def Ue (n : Nat) (s1 : Xg) (s6 : (List Zf)) (s7 : (List Zi)) (s8 : Int) : Option (ZH × Yv × Unit) := ZoW n (s1, s6, s7, s8, ()) ()
theorem ZlX (n : Nat) (a0 : ZH) (a1 : Xg) : Zb2 n a0 a1 =
  if (0 : Nat) + List.length a0 ≤ lim then Ue n a1 a0 [] (0 : Int) else none := by kernel_rfl
theorem JK (n : Nat) (s1 : Xg) (s6 : (List Zf)) (s7 : (List Zi)) (s8 : Int) : Ue (n + 1) s1 s6 s7 s8 =
  bif decide (s8 < (↑(List.length s1) : Int)) then
 if (0 : Int) ≤ s8 then
 (nth s1 s8.toNat).bind fun y =>
 (Zg2 big s6 y.2.1).bind fun y =>
 if s7.length + [y].length ≤ lim then
 if (0 : Int) ≤ s8 then
 (nth s1 s8.toNat).bind fun y_1 =>
 (ZjJ big s6 y_1).bind fun y_2 =>
 Ue n s1 y_2.1 (s7.append [y]) (IntKind.i64.wrap (s8 + (1 : Int)))
 else none
 else none
 else none
 else some (s6, s7, ()) := by kernel_rfl
end Go.Sx.Tryz
set_option maxRecDepth 100000
namespace Go.Sx.Tryz
open Go Go.Sx Go.Proofs
noncomputable def ZlY : List (Nat × Con) := [(27, ZfJ)]
theorem ZoX : ∀ q ∈ ZlY, Zo Tryz.prog q.1 q.2 := Tryz.cons_cons Zje (Tryz.cons_nil)
def Zvt : KP := []
noncomputable def ZlZ (n : Nat) (x : AP.denL [.mu ZC]) := evX (false, false, [2, 3, 4, 5, 7, 8, 9, 12, 14, 16, 18, 20]) ZlY Zvt [] Tryz.f89 (shO shN [.mu ZC]) n (AP.encL [.mu ZC] x)
noncomputable def Zeu : Con := apS [.mu ZC] true (shO shN [.mu ZC]) (ZlZ big)
theorem ZdI : Zo Tryz.prog 89 Zeu := Y3 ⟨Tryz.f89, by kernel_rfl, rfl, by decide⟩ fun _ _ h => Zw ZoX (f := Tryz.f89) (by kernel_rfl) rfl (by kernel_rfl) (by kernel_rfl) big h
noncomputable def Zax (n : Nat) (a0 : Zq) : Option (Unit × Zq × Unit) := ZlZ n (a0, ())
theorem ZoY (n : Nat) (a0 : Zq) : Zax n a0 =
  (Zaw big a0.2.2.2.2.2.2.1 a0.2.2.2.2.2.2.2.2.1).bind fun y =>
 some
 ((),
 (a0.1, a0.2.1, a0.2.2.1, a0.2.2.2.1, a0.2.2.2.2.1, a0.2.2.2.2.2.1, y,
 [], [], a0.2.2.2.2.2.2.2.2.2),
 ()) := by kernel_rfl
end Go.Sx.Tryz
set_option maxRecDepth 100000
namespace Go.Sx.Tryz
open Go Go.Sx Go.Proofs
noncomputable def Zay : List (Nat × Con) := [(68, Y8), (88, Zeo), (31, Zam), (89, Zeu), (30, ZbS), (82, Zet)]
theorem ZoZ : ∀ q ∈ Zay, Zo Tryz.prog q.1 q.2 := Tryz.cons_cons YB (Tryz.cons_cons ZdE (Tryz.cons_cons Jm (Tryz.cons_cons ZdI (Tryz.cons_cons ZbT (Tryz.cons_cons ZdG (Tryz.cons_nil))))))
abbrev Qz : List Wa × List BK := ([.ro Zh, .drop, .drop, .drop, .drop, .drop, .is (.ptr 1 0), .is (.ptr 8 0), .is (.own 15 0), .ro Za, .drop, .drop, .drop, .drop, .drop, .drop, .drop, .drop, .drop, .drop, .drop, .drop, .drop, .drop, .drop, .drop, .drop, .drop, .drop, .drop, .drop, .drop, .drop, .drop, .drop, .drop, .drop, .drop, .drop, .drop, .drop, .drop, .drop, .drop, .drop, .drop, .drop, .drop, .drop, .drop, .drop, .drop, .drop, .drop, .drop, .drop], [.drop, .vars [.ro Za, .ro Za, .ro Za, .ro Za, .ro Za, .ro Za, .ro Za, .ro Za, .ro Za, .ro Za, .ro Za, .ro Za, .ro Za, .ro Za, .own Zn, .own W3, .own Zn, .own W4, .own ZV, .own ZD, .ro Za], .drop, .drop, .drop, .drop, .drop, .drop, .vars [.ro Za, .ro Za, .ro Za, .ro Za, .ro Za, .ro Za, .ro Za, .ro Za, .ro Za, .ro Za, .ro Za, .ro Za, .ro Za, .ro Za, .own Za, .own Zt, .own Za, .own Zy, .own Zk, .own Zg, .ro Za], .drop, .drop, .drop, .drop, .drop, .drop, .arr Za])
def Zh7 : KP := [(7, Qz)]
noncomputable def Zl0 (n : Nat) (x : YI [Zh, ZP, Zn]) := evX (false, false, [4, 7, 31, 41]) Zay Zh7 [some ZC] Tryz.f40 (shF ZC) n (YV [Zh, ZP, Zn] x)
noncomputable def Zev : Con := roS [Zh, ZP, Zn] true (shF ZC) (Zl0 big)
theorem ZdJ : Zo Tryz.prog 40 Zev := ZI ⟨Tryz.f40, by kernel_rfl, rfl, by decide⟩ fun _ _ h => Zw ZoZ (f := Tryz.f40) (by kernel_rfl) rfl (by kernel_rfl) (by kernel_rfl) big h
noncomputable def Zaz (n : Nat) (a0 : Zp) (a1 : Zq) (a2 : Int) : Option Zq := Zl0 n (a0, a1, a2, ())
noncomputable def ZsN (n : Nat) (x : KD Qz.1) (y : BD Qz.2) := Yh (env (false, false, [4, 7, 31, 41]) Zay) Zh7 (body Tryz.f40) (VV (false, false, [4, 7, 31, 41]) Zay [some ZC] Tryz.f40 (shF ZC) [.val Zh (ZT Zh), .val ZP (ZT ZP), .val Zn (ZT Zn)]) n 7 Qz x y
noncomputable def QA (n : Nat) (s0 : Zp) (s9 : Int) (b1_0 : Int) (b1_1 : Int) (b1_2 : Int) (b1_3 : Int) (b1_4 : Int) (b1_5 : Int) (b1_6 : Int) (b1_7 : Int) (b1_8 : Int) (b1_9 : Int) (b1_10 : Int) (b1_11 : Int) (b1_12 : Int) (b1_13 : Int) (b1_14 : (List Int)) (b1_15 : (List Yj)) (b1_16 : (List Int)) (b1_17 : (List YW)) (b1_18 : (List ZX)) (b1_19 : (List Zs)) (b1_20 : Int) (b8_0 : Int) (b8_1 : Int) (b8_2 : Int) (b8_3 : Int) (b8_4 : Int) (b8_5 : Int) (b8_6 : Int) (b8_7 : Int) (b8_8 : Int) (b8_9 : Int) (b8_10 : Int) (b8_11 : Int) (b8_12 : Int) (b8_13 : Int) (b8_14 : (List Int)) (b8_15 : (List Zf)) (b8_16 : (List Int)) (b8_17 : (List Zi)) (b8_18 : (List Ze)) (b8_19 : (List Zc)) (b8_20 : Int) (b15 : (List Int)) : Option Zq := ZsN n (s0, s9, ()) ((b1_0, b1_1, b1_2, b1_3, b1_4, b1_5, b1_6, b1_7, b1_8, b1_9, b1_10, b1_11, b1_12, b1_13, b1_14, b1_15, b1_16, b1_17, b1_18, b1_19, b1_20, ()), (b8_0, b8_1, b8_2, b8_3, b8_4, b8_5, b8_6, b8_7, b8_8, b8_9, b8_10, b8_11, b8_12, b8_13, b8_14, b8_15, b8_16, b8_17, b8_18, b8_19, b8_20, ()), b15, ())
theorem Zo0 (n : Nat) (a0 : Zp) (a1 : Zq) (a2 : Int) : Zaz n a0 a1 a2 =
  (YD big a1).bind fun y =>
 (Q9 big a1).bind fun y_1 =>
 (Q6 big a0 a2 y_1).bind fun y_2 =>
 bif !y_2 then some y
 else
 (Zax big y).bind fun y =>
 (Q9 big a1).bind fun y_3 =>
 (KJ big a0 a2 y_3).bind fun y_4 =>
 QA n a0 (0 : Int) (0 : Int) (0 : Int) (0 : Int) (0 : Int) (0 : Int) (0 : Int) (0 : Int)
 (0 : Int) (0 : Int) (0 : Int) (0 : Int) (0 : Int) (0 : Int) (0 : Int) [] [] [] [] [] [] (0 : Int)
 y.2.1.1 y.2.1.2.1 y.2.1.2.2.1.1 y.2.1.2.2.1.2.1
 y.2.1.2.2.1.2.2.1 y.2.1.2.2.1.2.2.2.1 y.2.1.2.2.2.1.1
 y.2.1.2.2.2.1.2.1 y.2.1.2.2.2.1.2.2.1
 y.2.1.2.2.2.1.2.2.2.1 y.2.1.2.2.2.2.1.1
 y.2.1.2.2.2.2.1.2.1 y.2.1.2.2.2.2.1.2.2.1
 y.2.1.2.2.2.2.1.2.2.2.1 y.2.1.2.2.2.2.2.1
 y.2.1.2.2.2.2.2.2.1 y.2.1.2.2.2.2.2.2.2.1
 y.2.1.2.2.2.2.2.2.2.2.1 y.2.1.2.2.2.2.2.2.2.2.2.1
 y.2.1.2.2.2.2.2.2.2.2.2.2.1
 y.2.1.2.2.2.2.2.2.2.2.2.2.2.1 y_4 := by kernel_rfl
theorem Za4 (n : Nat) (s0 : Zp) (s9 : Int) (b1_0 : Int) (b1_1 : Int) (b1_2 : Int) (b1_3 : Int) (b1_4 : Int) (b1_5 : Int) (b1_6 : Int) (b1_7 : Int) (b1_8 : Int) (b1_9 : Int) (b1_10 : Int) (b1_11 : Int) (b1_12 : Int) (b1_13 : Int) (b1_14 : (List Int)) (b1_15 : (List Yj)) (b1_16 : (List Int)) (b1_17 : (List YW)) (b1_18 : (List ZX)) (b1_19 : (List Zs)) (b1_20 : Int) (b8_0 : Int) (b8_1 : Int) (b8_2 : Int) (b8_3 : Int) (b8_4 : Int) (b8_5 : Int) (b8_6 : Int) (b8_7 : Int) (b8_8 : Int) (b8_9 : Int) (b8_10 : Int) (b8_11 : Int) (b8_12 : Int) (b8_13 : Int) (b8_14 : (List Int)) (b8_15 : (List Zf)) (b8_16 : (List Int)) (b8_17 : (List Zi)) (b8_18 : (List Ze)) (b8_19 : (List Zc)) (b8_20 : Int) (b15 : (List Int)) : QA (n + 1) s0 s9 b1_0 b1_1 b1_2 b1_3 b1_4 b1_5 b1_6 b1_7 b1_8 b1_9 b1_10 b1_11 b1_12 b1_13 b1_14 b1_15 b1_16 b1_17 b1_18 b1_19 b1_20 b8_0 b8_1 b8_2 b8_3 b8_4 b8_5 b8_6 b8_7 b8_8 b8_9 b8_10 b8_11 b8_12 b8_13 b8_14 b8_15 b8_16 b8_17 b8_18 b8_19 b8_20 b15 =
  bif decide (s9 < (↑b15.length : Int)) then
 if (0 : Int) ≤ s9 then
 if s9 < (↑b15.length : Int) then
 (nth b15 s9.toNat).bind fun y =>
 if b8_14.length + [y].length ≤ lim then
 if (0 : Int) ≤ s9 then
 if s9 < (↑b15.length : Int) then
 (nth b15 s9.toNat).bind fun y_1 =>
 if (0 : Int) ≤ y_1 then
 (nth s0 (Int.toNat y_1)).bind fun y_2 =>
 (Zav big b8_15 y_2.2.2.1).bind fun y_3 =>
 QA n s0 (IntKind.i64.wrap (s9 + (1 : Int))) b1_0 b1_1 b1_2 b1_3 b1_4 b1_5 b1_6 b1_7
 b1_8 b1_9 b1_10 b1_11 b1_12 b1_13 b1_14 b1_15 b1_16 b1_17 b1_18 b1_19 b1_20 b8_0 b8_1 b8_2
 b8_3 b8_4 b8_5 b8_6 b8_7 b8_8 b8_9 b8_10 b8_11 b8_12 b8_13 (b8_14.append [y]) y_3.1 b8_16
 b8_17 b8_18 b8_19 b8_20 b15
 else none
 else none
 else none
 else none
 else none
 else none
 else
 some
 (b8_0, b8_1, (b8_2, b8_3, b8_4, b8_5, ()), (b8_6, b8_7, b8_8, b8_9, ()),
 (b8_10, b8_11, b8_12, b8_13, ()), b8_14, b8_15, b8_16, b8_17, b8_18, b8_19, b8_20, ()) := by kernel_rfl
end Go.Sx.Tryz
set_option maxRecDepth 100000
namespace Go.Sx.Tryz
open Go Go.Sx Go.Proofs
noncomputable def KT : List (Nat × Con) := [(68, Y8), (89, Zeu), (88, Zeo), (30, ZbS), (90, Zh6)]
theorem Zl1 : ∀ q ∈ KT, Zo Tryz.prog q.1 q.2 := Tryz.cons_cons YB (Tryz.cons_cons ZdI (Tryz.cons_cons ZdE (Tryz.cons_cons ZbT (Tryz.cons_cons ZlW (Tryz.cons_nil)))))
abbrev Uf : List Wa × List BK := ([.ro Zh, .drop, .drop, .drop, .drop, .drop, .is (.ptr 1 0), .is (.ptr 8 0), .is (.own 15 0), .ro Za, .drop, .drop, .drop, .drop, .drop, .drop, .drop, .drop, .drop, .drop, .drop, .drop, .drop, .drop, .drop, .drop, .drop, .drop, .drop, .drop, .drop, .drop, .drop, .drop, .drop, .drop, .drop, .drop, .drop, .drop, .drop, .drop, .drop, .drop, .drop, .drop, .drop, .drop, .drop, .drop, .drop, .drop, .drop, .drop, .drop, .drop, .drop], [.drop, .vars [.ro Za, .ro Za, .ro Za, .ro Za, .ro Za, .ro Za, .ro Za, .ro Za, .ro Za, .ro Za, .ro Za, .ro Za, .ro Za, .ro Za, .own Zn, .own W3, .own Zn, .own W4, .own ZV, .own ZD, .ro Za], .drop, .drop, .drop, .drop, .drop, .drop, .vars [.ro Za, .ro Za, .ro Za, .ro Za, .ro Za, .ro Za, .ro Za, .ro Za, .ro Za, .ro Za, .ro Za, .ro Za, .ro Za, .ro Za, .own Za, .own Zt, .own Za, .own Zy, .own Zk, .own Zg, .ro Za], .drop, .drop, .drop, .drop, .drop, .drop, .arr Za])
def ZfL : KP := [(5, Uf)]
noncomputable def Zh8 (n : Nat) (x : YI [Zh, ZP, Zn]) := evX (false, false, [4, 7, 27, 42, 51]) KT ZfL [some ZC] Tryz.f41 (shF ZC) n (YV [Zh, ZP, Zn] x)
noncomputable def Zh9 : Con := roS [Zh, ZP, Zn] true (shF ZC) (Zh8 big)
theorem Zl2 : Zo Tryz.prog 41 Zh9 := ZI ⟨Tryz.f41, by kernel_rfl, rfl, by decide⟩ fun _ _ h => Zw Zl1 (f := Tryz.f41) (by kernel_rfl) rfl (by kernel_rfl) (by kernel_rfl) big h
noncomputable def KU (n : Nat) (a0 : Zp) (a1 : Zq) (a2 : Int) : Option Zq := Zh8 n (a0, a1, a2, ())
noncomputable def Zo1 (n : Nat) (x : KD Uf.1) (y : BD Uf.2) := Yh (env (false, false, [4, 7, 27, 42, 51]) KT) ZfL (body Tryz.f41) (VV (false, false, [4, 7, 27, 42, 51]) KT [some ZC] Tryz.f41 (shF ZC) [.val Zh (ZT Zh), .val ZP (ZT ZP), .val Zn (ZT Zn)]) n 5 Uf x y
noncomputable def Ug (n : Nat) (s0 : Zp) (s9 : Int) (b1_0 : Int) (b1_1 : Int) (b1_2 : Int) (b1_3 : Int) (b1_4 : Int) (b1_5 : Int) (b1_6 : Int) (b1_7 : Int) (b1_8 : Int) (b1_9 : Int) (b1_10 : Int) (b1_11 : Int) (b1_12 : Int) (b1_13 : Int) (b1_14 : (List Int)) (b1_15 : (List Yj)) (b1_16 : (List Int)) (b1_17 : (List YW)) (b1_18 : (List ZX)) (b1_19 : (List Zs)) (b1_20 : Int) (b8_0 : Int) (b8_1 : Int) (b8_2 : Int) (b8_3 : Int) (b8_4 : Int) (b8_5 : Int) (b8_6 : Int) (b8_7 : Int) (b8_8 : Int) (b8_9 : Int) (b8_10 : Int) (b8_11 : Int) (b8_12 : Int) (b8_13 : Int) (b8_14 : (List Int)) (b8_15 : (List Zf)) (b8_16 : (List Int)) (b8_17 : (List Zi)) (b8_18 : (List Ze)) (b8_19 : (List Zc)) (b8_20 : Int) (b15 : (List Int)) : Option Zq := Zo1 n (s0, s9, ()) ((b1_0, b1_1, b1_2, b1_3, b1_4, b1_5, b1_6, b1_7, b1_8, b1_9, b1_10, b1_11, b1_12, b1_13, b1_14, b1_15, b1_16, b1_17, b1_18, b1_19, b1_20, ()), (b8_0, b8_1, b8_2, b8_3, b8_4, b8_5, b8_6, b8_7, b8_8, b8_9, b8_10, b8_11, b8_12, b8_13, b8_14, b8_15, b8_16, b8_17, b8_18, b8_19, b8_20, ()), b15, ())
theorem Zl3 (n : Nat) (a0 : Zp) (a1 : Zq) (a2 : Int) : KU n a0 a1 a2 =
  (YD big a1).bind fun y =>
 (Zax big y).bind fun y =>
 (Q9 big a1).bind fun y_1 =>
 (KJ big a0 a2 y_1).bind fun y_2 =>
 Ug n a0 (0 : Int) (0 : Int) (0 : Int) (0 : Int) (0 : Int) (0 : Int) (0 : Int) (0 : Int) (0 : Int)
 (0 : Int) (0 : Int) (0 : Int) (0 : Int) (0 : Int) (0 : Int) [] [] [] [] [] [] (0 : Int) y.2.1.1
 y.2.1.2.1 y.2.1.2.2.1.1 y.2.1.2.2.1.2.1 y.2.1.2.2.1.2.2.1
 y.2.1.2.2.1.2.2.2.1 y.2.1.2.2.2.1.1 y.2.1.2.2.2.1.2.1
 y.2.1.2.2.2.1.2.2.1 y.2.1.2.2.2.1.2.2.2.1
 y.2.1.2.2.2.2.1.1 y.2.1.2.2.2.2.1.2.1
 y.2.1.2.2.2.2.1.2.2.1 y.2.1.2.2.2.2.1.2.2.2.1
 y.2.1.2.2.2.2.2.1 y.2.1.2.2.2.2.2.2.1
 y.2.1.2.2.2.2.2.2.2.1 y.2.1.2.2.2.2.2.2.2.2.1
 y.2.1.2.2.2.2.2.2.2.2.2.1 y.2.1.2.2.2.2.2.2.2.2.2.2.1
 y.2.1.2.2.2.2.2.2.2.2.2.2.2.1 y_2 := by kernel_rfl
theorem JL (n : Nat) (s0 : Zp) (s9 : Int) (b1_0 : Int) (b1_1 : Int) (b1_2 : Int) (b1_3 : Int) (b1_4 : Int) (b1_5 : Int) (b1_6 : Int) (b1_7 : Int) (b1_8 : Int) (b1_9 : Int) (b1_10 : Int) (b1_11 : Int) (b1_12 : Int) (b1_13 : Int) (b1_14 : (List Int)) (b1_15 : (List Yj)) (b1_16 : (List Int)) (b1_17 : (List YW)) (b1_18 : (List ZX)) (b1_19 : (List Zs)) (b1_20 : Int) (b8_0 : Int) (b8_1 : Int) (b8_2 : Int) (b8_3 : Int) (b8_4 : Int) (b8_5 : Int) (b8_6 : Int) (b8_7 : Int) (b8_8 : Int) (b8_9 : Int) (b8_10 : Int) (b8_11 : Int) (b8_12 : Int) (b8_13 : Int) (b8_14 : (List Int)) (b8_15 : (List Zf)) (b8_16 : (List Int)) (b8_17 : (List Zi)) (b8_18 : (List Ze)) (b8_19 : (List Zc)) (b8_20 : Int) (b15 : (List Int)) : Ug (n + 1) s0 s9 b1_0 b1_1 b1_2 b1_3 b1_4 b1_5 b1_6 b1_7 b1_8 b1_9 b1_10 b1_11 b1_12 b1_13 b1_14 b1_15 b1_16 b1_17 b1_18 b1_19 b1_20 b8_0 b8_1 b8_2 b8_3 b8_4 b8_5 b8_6 b8_7 b8_8 b8_9 b8_10 b8_11 b8_12 b8_13 b8_14 b8_15 b8_16 b8_17 b8_18 b8_19 b8_20 b15 =
  bif decide (s9 < (↑b15.length : Int)) then
 if (0 : Int) ≤ s9 then
 if s9 < (↑b15.length : Int) then
 (nth b15 s9.toNat).bind fun y =>
 if (0 : Int) ≤ y then
 (nth s0 (Int.toNat y)).bind fun y =>
 (Zb2 big b8_15 y.2.2.1).bind fun y =>
 if (0 : Int) ≤ s9 then
 if s9 < (↑b15.length : Int) then
 (nth b15 s9.toNat).bind fun y_1 =>
 if b8_16.length + [y_1].length ≤ lim then
 if b8_17.length + List.length y.2.1 ≤ lim then
 Ug n s0 (IntKind.i64.wrap (s9 + (1 : Int))) b1_0 b1_1 b1_2 b1_3 b1_4 b1_5 b1_6
 b1_7 b1_8 b1_9 b1_10 b1_11 b1_12 b1_13 b1_14 b1_15 b1_16 b1_17 b1_18 b1_19 b1_20 b8_0 b8_1
 b8_2 b8_3 b8_4 b8_5 b8_6 b8_7 b8_8 b8_9 b8_10 b8_11 b8_12 b8_13 b8_14 y.1
 (b8_16.append [y_1]) (b8_17.append y.2.1) b8_18 b8_19 b8_20 b15
 else none
 else none
 else none
 else none
 else none
 else none
 else none
 else
 some
 (b8_0, b8_1, (b8_2, b8_3, b8_4, b8_5, ()), (b8_6, b8_7, b8_8, b8_9, ()),
 (b8_10, b8_11, b8_12, b8_13, ()), b8_14, b8_15, b8_16, b8_17, b8_18, b8_19, b8_20, ()) := by kernel_rfl
end Go.Sx.Tryz
set_option maxRecDepth 100000
namespace Go.Sx.Tryz
open Go Go.Sx Go.Proofs
noncomputable def ZdK : List (Nat × Con) := [(68, Y8), (95, ZbO), (96, W5), (97, ZhX), (40, Zev), (98, Zem), (41, Zh9)]
theorem Zg4 : ∀ q ∈ ZdK, Zo Tryz.prog q.1 q.2 := Tryz.cons_cons YB (Tryz.cons_cons ZbP (Tryz.cons_cons Wj (Tryz.cons_cons Zlt (Tryz.cons_cons ZdJ (Tryz.cons_cons Zdx (Tryz.cons_cons Zl2 (Tryz.cons_nil)))))))
def Zl4 : KP := []
noncomputable def ZdL (n : Nat) (x : YI [Zh, ZP, Zn]) := evX (false, false, [4, 7, 27, 36]) ZdK Zl4 [some ZC] Tryz.f44 (shF ZC) n (YV [Zh, ZP, Zn] x)
noncomputable def ZdM : Con := roS [Zh, ZP, Zn] true (shF ZC) (ZdL big)
theorem Zg5 : Zo Tryz.prog 44 ZdM := ZI ⟨Tryz.f44, by kernel_rfl, rfl, by decide⟩ fun _ _ h => Zw Zg4 (f := Tryz.f44) (by kernel_rfl) rfl (by kernel_rfl) (by kernel_rfl) big h
noncomputable def XX (n : Nat) (a0 : Zp) (a1 : Zq) (a2 : Int) : Option Zq := ZdL n (a0, a1, a2, ())
theorem Zg6 (n : Nat) (a0 : Zp) (a1 : Zq) (a2 : Int) : XX n a0 a1 a2 =
  (YD big a1).bind fun y =>
 (KH big a0 a2).bind fun y_1 =>
 bif !y_1.2.2.2.1 then some y
 else
 if (0 : Int) ≤ a2 then
 (nth a0 a2.toNat).bind fun y_2 =>
 (Xt big y.2.2.1 y_2.2.2.2.1).bind fun y_3 =>
 if (0 : Int) ≤ y_1.1 then
 (nth a0 (Int.toNat y_1.1)).bind fun y_4 =>
 (Xt big y.2.2.2.1 y_4.2.2.2.1).bind fun y_5 =>
 (ZbQ big a0 a2).bind fun y_6 =>
 bif y_6.2.1 then
 (Zaz big a0 (y.1, y.2.1, y_3, y_5, y.2.2.2.2) y_6.1).bind fun y =>
 (Q7 big a0 y_1.1 y_1.2.1).bind fun y_7 =>
 bif y_7 then (KU big a0 y y_1.2.1).bind fun y => some y else some y
 else
 (Q7 big a0 y_1.1 y_1.2.1).bind fun y_7 =>
 bif y_7 then
 (KU big a0 (y.1, y.2.1, y_3, y_5, y.2.2.2.2) y_1.2.1).bind
 fun y => some y
 else some (y.1, y.2.1, y_3, y_5, y.2.2.2.2)
 else none
 else none := by kernel_rfl
end Go.Sx.Tryz
set_option maxRecDepth 100000
namespace Go.Sx.Tryz
open Go Go.Sx Go.Proofs
noncomputable def KV : List (Nat × Con) := [(67, Yn), (82, Zet)]
theorem Zl5 : ∀ q ∈ KV, Zo Tryz.prog q.1 q.2 := Tryz.cons_cons Z3 (Tryz.cons_cons ZdG (Tryz.cons_nil))
abbrev Uh : List Wa × List BK := ([.ro Zh, .ro YJ, .drop, .drop, .drop, .own Zt, .ro Za, .drop, .drop, .drop, .drop, .drop, .drop, .drop, .drop, .drop, .drop, .drop, .drop, .drop, .drop, .drop, .drop, .drop, .drop, .drop, .drop, .drop, .drop, .drop, .drop, .drop, .drop, .drop, .drop, .drop], [])
def ZfM : KP := [(3, Uh)]
noncomputable def Zia (n : Nat) (x : YI [Zh, YJ]) := evX (false, false, []) KV ZfM [some Z4] Tryz.f28 (shF Z4) n (YV [Zh, YJ] x)
noncomputable def Zib : Con := roS [Zh, YJ] true (shF Z4) (Zia big)
theorem Zl6 : Zo Tryz.prog 28 Zib := ZI ⟨Tryz.f28, by kernel_rfl, rfl, by decide⟩ fun _ _ h => Zw Zl5 (f := Tryz.f28) (by kernel_rfl) rfl (by kernel_rfl) (by kernel_rfl) big h
noncomputable def Zb3 (n : Nat) (a0 : Zp) (a1 : YF) : Option ZH := Zia n (a0, a1, ())
noncomputable def Zo2 (n : Nat) (x : KD Uh.1) (y : BD Uh.2) := Yh (env (false, false, []) KV) ZfM (body Tryz.f28) (VV (false, false, []) KV [some Z4] Tryz.f28 (shF Z4) [.val Zh (ZT Zh), .val YJ (ZT YJ)]) n 3 Uh x y
noncomputable def WJ (n : Nat) (s0 : Zp) (s1 : YF) (s5 : (List Zf)) (s6 : Int) : Option ZH := Zo2 n (s0, s1, s5, s6, ()) ()
theorem Zl7 (n : Nat) (a0 : Zp) (a1 : YF) : Zb3 n a0 a1 =
  WJ n a0 a1 [] (0 : Int) := by kernel_rfl
theorem JM (n : Nat) (s0 : Zp) (s1 : YF) (s5 : (List Zf)) (s6 : Int) : WJ (n + 1) s0 s1 s5 s6 =
  bif decide (s6 < (↑(List.length s1) : Int)) then
 if (0 : Int) ≤ s6 then
 (nth s1 s6.toNat).bind fun y =>
 (ZQ big y (0 : Int) (IntKind.i64.wrap ((↑(List.length s0) : Int) - (1 : Int)))).bind fun y =>
 bif y then
 if (0 : Int) ≤ s6 then
 (nth s1 s6.toNat).bind fun y =>
 if (0 : Int) ≤ y then
 (nth s0 (Int.toNat y)).bind fun y =>
 (Zav big s5 y.2.2.1).bind fun y =>
 WJ n s0 s1 y.1 (IntKind.i64.wrap (s6 + (1 : Int)))
 else none
 else none
 else WJ n s0 s1 s5 (IntKind.i64.wrap (s6 + (1 : Int)))
 else none
 else some s5 := by kernel_rfl
end Go.Sx.Tryz
set_option maxRecDepth 100000
namespace Go.Sx.Tryz
open Go Go.Sx Go.Proofs
noncomputable def Zic : List (Nat × Con) := [(67, Yn), (125, Zel), (113, ZgS)]
theorem Zl8 : ∀ q ∈ Zic, Zo Tryz.prog q.1 q.2 := Tryz.cons_cons Z3 (Tryz.cons_cons Zdv (Tryz.cons_cons Zfw (Tryz.cons_nil)))
def ZsO : KP := []
noncomputable def Zid (n : Nat) (x : YI [Zh, Zn, ZD]) := evX (false, false, [5, 10, 16, 24, 32, 41, 45, 50, 54, 61, 65, 71, 75, 83, 88, 94, 99, 106, 114, 118, 119, 121, 126, 127, 129, 137, 141, 142, 144, 150, 154, 155, 157]) Zic ZsO [none] Tryz.f234 (shV ZE) n (YV [Zh, Zn, ZD] x)
noncomputable def UD : Con := roS [Zh, Zn, ZD] true (shV ZE) (Zid big)
theorem Vr : Zo Tryz.prog 234 UD := ZI ⟨Tryz.f234, by kernel_rfl, rfl, by decide⟩ fun _ _ h => Zw Zl8 (f := Tryz.f234) (by kernel_rfl) rfl (by kernel_rfl) (by kernel_rfl) big h
noncomputable def W9 (n : Nat) (a0 : Zp) (a1 : Int) (a2 : Zs) : Option Bool := Zid n (a0, a1, a2, ())
theorem Zl9 (n : Nat) (a0 : Zp) (a1 : Int) (a2 : Zs) : W9 n a0 a1 a2 = bif decide (a1 < (1 : Int)) then some false else (ZQ big a2.1 (1 : Int) (4 : Int)).bind fun y => bif !y then some false else (ZQ big a2.2.1 (0 : Int) (IntKind.i64.wrap (a1 - (1 : Int)))).bind fun y => bif !y then some false else (ZQ big a2.2.2.1 (0 : Int) (IntKind.i64.wrap (a1 - (1 : Int)))).bind fun y => bif !y then some false else (ZQ big a2.2.2.2.1 (1 : Int) (900 : Int)).bind fun y => (fun zC0 => (fun zC1 => bif !y then some false else bif decide ((7 : Int) < a1) then some false else bif !decide (a2.1 = (1 : Int)) then bif !decide (a2.2.2.2.2.1 = (0 : Int)) then some false else bif !decide (a2.1 = (2 : Int)) then bif !eqD ZV a2.2.2.2.2.2.2.1 ((0 : Int), (0 : Int), (0 : Int), (0 : Int), ()) then some false else zC1 else zC1 else bif !decide (a2.1 = (2 : Int)) then bif !eqD ZV a2.2.2.2.2.2.2.1 ((0 : Int), (0 : Int), (0 : Int), (0 : Int), ()) then some false else zC1 else zC1) (bif decide (a2.1 = (2 : Int)) then bif !eqD X3 a2.2.2.2.2.2.1 ((0 : Int), (0 : Int), (0 : Int), (0 : Int), ()) then some false else zC0 else zC0)) (bif decide (a2.1 = (1 : Int)) then (ZQ big a2.2.2.2.2.1 (1 : Int) (IntKind.i64.wrap ((↑(List.length a0) : Int) - (1 : Int)))).bind fun y => bif y then if (0 : Int) ≤ a2.2.2.2.2.1 then (nth a0 (Int.toNat a2.2.2.2.2.1)).bind fun y => bif decide (y.2.1 = a2.2.2.2.1) then if (0 : Int) ≤ a2.2.2.2.2.1 then (nth a0 (Int.toNat a2.2.2.2.2.1)).bind fun y => bif eqD X3 y.2.2.2.1 a2.2.2.2.2.2.1 then (Xv big a0 a1 a2.2.2.2.2.2.1).bind fun y => some y else some false else none else some false else none else some false else bif decide (a2.1 = (2 : Int)) then (ZcS big a0 a1 a2.2.2.2.2.2.2.1).bind fun y => bif y then bif decide (a2.2.2.2.2.2.2.1.2.2.2.1 = a2.2.1) then some (decide (a2.2.2.2.2.2.2.1.2.1 = a2.2.2.2.1)) else some false else some false else bif decide (a2.1 = (3 : Int)) then (Xv big a0 a1 a2.2.2.2.2.2.1).bind fun y => bif y then some (decide (a2.2.2.2.2.2.1.2.1 = a2.2.2.2.1)) else some false else (Xv big a0 a1 a2.2.2.2.2.2.1).bind fun y => bif y then some (decide (a2.2.2.2.2.2.1.2.1 < a2.2.2.2.1)) else some false) := by kernel_rfl
end Go.Sx.Tryz
set_option maxRecDepth 100000
namespace Go.Sx.Tryz
open Go Go.Sx Go.Proofs
noncomputable def Zvu : List (Nat × Con) := [(39, WV), (96, W5), (40, Zev), (22, Xs), (69, Ux), (15, Zak), (236, Zaq)]
theorem Zvv : ∀ q ∈ Zvu, Zo Tryz.prog q.1 q.2 := Tryz.cons_cons XW (Tryz.cons_cons Wj (Tryz.cons_cons ZdJ (Tryz.cons_cons Y0 (Tryz.cons_cons Vm (Tryz.cons_cons Jl (Tryz.cons_cons Jo (Tryz.cons_nil)))))))
def Zzr : KP := []
noncomputable def Zvw (n : Nat) (x : AP.denL [.ro Zh, .ro Zn, .mu ZC, .ro ZD]) := evX (false, false, [7, 9, 10, 11, 12, 14, 18, 20, 25, 26, 27, 28, 32, 36, 37, 38, 39, 43, 47, 49, 50, 52, 55, 60, 61, 63, 64, 65, 69, 70, 71, 76, 77, 79, 82, 88, 91, 93, 95]) Zvu Zzr [some ZR] Tryz.f237 (shO (shF ZR) [.mu ZC]) n (AP.encL [.ro Zh, .ro Zn, .mu ZC, .ro ZD] x)
noncomputable def Zvx : Con := apS [.ro Zh, .ro Zn, .mu ZC, .ro ZD] true (shO (shF ZR) [.mu ZC]) (Zvw big)
theorem Zvy : Zo Tryz.prog 237 Zvx := Y3 ⟨Tryz.f237, by kernel_rfl, rfl, by decide⟩ fun _ _ h => Zw Zvv (f := Tryz.f237) (by kernel_rfl) rfl (by kernel_rfl) (by kernel_rfl) big h
noncomputable def Zma (n : Nat) (a0 : Zp) (a1 : Int) (a2 : Zq) (a3 : Zs) : Option (ZO × Zq × Unit) := Zvw n (a0, a1, a2, a3, ())
theorem Zvz (n : Nat) (a0 : Zp) (a1 : Int) (a2 : Zq) (a3 : Zs) : Zma n a0 a1 a2 a3 =
  (Xw big a2 a3.2.2.2.1).bind fun y =>
 bif decide (a3.2.2.2.2.2.1.1 = (1 : Int)) then
 (Xt big y.2.2.1 a3.2.2.2.2.2.1).bind fun y_1 =>
 (VX big (y.1, y.2.1, y_1, y.2.2.2)
 (IntKind.i64.wrap (a3.2.2.2.2.2.1.1 + (1 : Int))) a3.2.2.2.1).bind
 fun y_2 =>
 bif !y_2 then some ([], (y.1, y.2.1, y_1, y.2.2.2), ())
 else
 (VZ big (y.1, y.2.1, y_1, y.2.2.2)
 (IntKind.i64.wrap (a3.2.2.2.2.2.1.1 + (1 : Int))) a3.2.2.2.1
 a3.2.2.2.2.2.1.2.2.1 a3.2.1).bind
 fun y => some y
 else
 bif decide (a3.2.2.2.2.2.1.1 = (2 : Int)) then
 (Xt big y.2.2.2.1 a3.2.2.2.2.2.1).bind fun y_1 =>
 (VX big (y.1, y.2.1, y.2.2.1, y_1, y.2.2.2.2)
 (IntKind.i64.wrap (a3.2.2.2.2.2.1.1 + (1 : Int))) a3.2.2.2.1).bind
 fun y_2 =>
 bif !y_2 then some ([], (y.1, y.2.1, y.2.2.1, y_1, y.2.2.2.2), ())
 else
 (VZ big (y.1, y.2.1, y.2.2.1, y_1, y.2.2.2.2)
 (IntKind.i64.wrap (a3.2.2.2.2.2.1.1 + (1 : Int))) a3.2.2.2.1
 a3.2.2.2.2.2.1.2.2.1 a3.2.1).bind
 fun y => some y
 else
 bif decide (a3.2.2.2.2.2.1.1 = (3 : Int)) then
 (Zaz big a0 y a3.2.2.2.2.2.1.2.2.1).bind fun y =>
 (Xw big y (IntKind.i64.wrap (a3.2.2.2.1 + (1 : Int)))).bind fun y =>
 (YA big y.2.1 a1).bind fun y_1 =>
 some
 ([((4 : Int), y.1, y_1, y.2.1, (0 : Int), y.2.2.1,
 ((0 : Int), (0 : Int), (0 : Int), (0 : Int), ()), ())],
 y, ())
 else some ([], y, ()) := by kernel_rfl
end Go.Sx.Tryz
set_option maxRecDepth 100000
namespace Go.Sx.Tryz
open Go Go.Sx Go.Proofs
noncomputable def ZcY : List (Nat × Con) := [(22, Xs), (39, WV)]
theorem ZsP : ∀ q ∈ ZcY, Zo Tryz.prog q.1 q.2 := Tryz.cons_cons Y0 (Tryz.cons_cons XW (Tryz.cons_nil))
abbrev KW : List Wa × List BK := ([.is (.ptr 6 0), .drop, .drop, .drop, .drop, .is (.ptr 7 0), .ro Za, .drop, .drop, .drop, .drop, .drop, .drop, .drop, .drop, .drop, .drop, .drop, .drop, .drop, .drop, .drop, .drop, .drop, .drop, .drop, .drop, .drop, .drop, .drop, .drop, .drop, .drop, .drop, .drop, .drop, .drop, .drop, .drop, .drop, .drop, .drop, .drop, .drop, .drop, .drop, .drop, .drop, .drop, .drop, .drop, .drop, .drop, .drop, .drop, .drop, .drop, .drop, .drop, .drop, .drop, .drop, .drop, .drop, .drop, .drop, .drop, .drop, .drop, .drop, .drop, .drop, .drop, .drop, .drop], [.drop, .drop, .drop, .drop, .drop, .drop, .vars [.ro Za, .ro Za, .ro Za, .ro Za, .ro Za, .ro Za, .ro Za, .ro Za, .ro Za, .ro Za, .ro Za, .ro Za, .ro Za, .ro Za, .own Za, .own Zt, .own Za, .own Zy, .own Zk, .own Zg, .ro Za], .vars [.ro Za, .ro Za, .ro Za, .ro Za, .ro Za, .ro Za, .ro Za, .ro Za, .ro Za, .ro Za, .ro Za, .ro Za, .ro Za]])
def Zmb : KP := [(4, KW)]
noncomputable def ZqQ (n : Nat) (x : AP.denL [.mu ZC, .ro Zn, .ro ZD]) := evX (false, false, [5, 7, 11, 12, 13, 17, 19, 20, 21, 25, 27, 28, 29, 35, 36, 37, 39, 44, 45, 46, 52, 53, 54, 60, 63, 65, 66, 67, 73]) ZcY Zmb [] Tryz.f252 (shO shN [.mu ZC]) n (AP.encL [.mu ZC, .ro Zn, .ro ZD] x)
noncomputable def ZqR : Con := apS [.mu ZC, .ro Zn, .ro ZD] true (shO shN [.mu ZC]) (ZqQ big)
theorem ZsQ : Zo Tryz.prog 252 ZqR := Y3 ⟨Tryz.f252, by kernel_rfl, rfl, by decide⟩ fun _ _ h => Zw ZsP (f := Tryz.f252) (by kernel_rfl) rfl (by kernel_rfl) (by kernel_rfl) big h
noncomputable def Zg7 (n : Nat) (a0 : Zq) (a1 : Int) (a2 : Zs) : Option (Unit × Zq × Unit) := ZqQ n (a0, a1, a2, ())
noncomputable def ZvA (n : Nat) (x : KD KW.1) (y : BD KW.2) := Yh (env (false, false, [5, 7, 11, 12, 13, 17, 19, 20, 21, 25, 27, 28, 29, 35, 36, 37, 39, 44, 45, 46, 52, 53, 54, 60, 63, 65, 66, 67, 73]) ZcY) Zmb (body Tryz.f252) (VV (false, false, [5, 7, 11, 12, 13, 17, 19, 20, 21, 25, 27, 28, 29, 35, 36, 37, 39, 44, 45, 46, 52, 53, 54, 60, 63, 65, 66, 67, 73]) ZcY [] Tryz.f252 (shO shN [.mu ZC]) [AP.enc (.mu ZC) (ZT ZC), AP.enc (.ro Zn) (ZT Zn), AP.enc (.ro ZD) (ZT ZD)]) n 4 KW x y
noncomputable def Wm (n : Nat) (s6 : Int) (b6_0 : Int) (b6_1 : Int) (b6_2 : Int) (b6_3 : Int) (b6_4 : Int) (b6_5 : Int) (b6_6 : Int) (b6_7 : Int) (b6_8 : Int) (b6_9 : Int) (b6_10 : Int) (b6_11 : Int) (b6_12 : Int) (b6_13 : Int) (b6_14 : (List Int)) (b6_15 : (List Zf)) (b6_16 : (List Int)) (b6_17 : (List Zi)) (b6_18 : (List Ze)) (b6_19 : (List Zc)) (b6_20 : Int) (b7_0 : Int) (b7_1 : Int) (b7_2 : Int) (b7_3 : Int) (b7_4 : Int) (b7_5 : Int) (b7_6 : Int) (b7_7 : Int) (b7_8 : Int) (b7_9 : Int) (b7_10 : Int) (b7_11 : Int) (b7_12 : Int) : Option (Unit × Zq × Unit) := ZvA n (s6, ()) ((b6_0, b6_1, b6_2, b6_3, b6_4, b6_5, b6_6, b6_7, b6_8, b6_9, b6_10, b6_11, b6_12, b6_13, b6_14, b6_15, b6_16, b6_17, b6_18, b6_19, b6_20, ()), (b7_0, b7_1, b7_2, b7_3, b7_4, b7_5, b7_6, b7_7, b7_8, b7_9, b7_10, b7_11, b7_12, ()), ())
theorem ZsR (n : Nat) (a0 : Zq) (a1 : Int) (a2 : Zs) : Zg7 n a0 a1 a2 = (YA big a2.2.2.2.1 a1).bind fun y => (fun zC0 => bif !decide (y = a0.1) then some ((), a0, ()) else bif !decide (a2.2.2.2.1 = a0.2.1) then bif !decide (a2.2.2.2.1 = IntKind.i64.wrap (a0.2.1 + (1 : Int))) then some ((), a0, ()) else zC0 else zC0) ((Xw big a0 a2.2.2.2.1).bind fun y => Wm n (0 : Int) y.1 y.2.1 y.2.2.1.1 y.2.2.1.2.1 y.2.2.1.2.2.1 y.2.2.1.2.2.2.1 y.2.2.2.1.1 y.2.2.2.1.2.1 y.2.2.2.1.2.2.1 y.2.2.2.1.2.2.2.1 y.2.2.2.2.1.1 y.2.2.2.2.1.2.1 y.2.2.2.2.1.2.2.1 y.2.2.2.2.1.2.2.2.1 y.2.2.2.2.2.1 y.2.2.2.2.2.2.1 y.2.2.2.2.2.2.2.1 y.2.2.2.2.2.2.2.2.1 y.2.2.2.2.2.2.2.2.2.1 y.2.2.2.2.2.2.2.2.2.2.1 y.2.2.2.2.2.2.2.2.2.2.2.1 a2.1 a2.2.1 a2.2.2.1 a2.2.2.2.1 a2.2.2.2.2.1 a2.2.2.2.2.2.1.1 a2.2.2.2.2.2.1.2.1 a2.2.2.2.2.2.1.2.2.1 a2.2.2.2.2.2.1.2.2.2.1 a2.2.2.2.2.2.2.1.1 a2.2.2.2.2.2.2.1.2.1 a2.2.2.2.2.2.2.1.2.2.1 a2.2.2.2.2.2.2.1.2.2.2.1) := by kernel_rfl
theorem Zb4 (n : Nat) (s6 : Int) (b6_0 : Int) (b6_1 : Int) (b6_2 : Int) (b6_3 : Int) (b6_4 : Int) (b6_5 : Int) (b6_6 : Int) (b6_7 : Int) (b6_8 : Int) (b6_9 : Int) (b6_10 : Int) (b6_11 : Int) (b6_12 : Int) (b6_13 : Int) (b6_14 : (List Int)) (b6_15 : (List Zf)) (b6_16 : (List Int)) (b6_17 : (List Zi)) (b6_18 : (List Ze)) (b6_19 : (List Zc)) (b6_20 : Int) (b7_0 : Int) (b7_1 : Int) (b7_2 : Int) (b7_3 : Int) (b7_4 : Int) (b7_5 : Int) (b7_6 : Int) (b7_7 : Int) (b7_8 : Int) (b7_9 : Int) (b7_10 : Int) (b7_11 : Int) (b7_12 : Int) : Wm (n + 1) s6 b6_0 b6_1 b6_2 b6_3 b6_4 b6_5 b6_6 b6_7 b6_8 b6_9 b6_10 b6_11 b6_12 b6_13 b6_14 b6_15 b6_16 b6_17 b6_18 b6_19 b6_20 b7_0 b7_1 b7_2 b7_3 b7_4 b7_5 b7_6 b7_7 b7_8 b7_9 b7_10 b7_11 b7_12 = bif decide (s6 < (↑b6_19.length : Int)) then if (0 : Int) ≤ s6 then if s6 < (↑b6_19.length : Int) then (nth b6_19 s6.toNat).bind fun y => bif decide (y.2.1 = b7_1) then some ((), (b6_0, b6_1, (b6_2, b6_3, b6_4, b6_5, ()), (b6_6, b6_7, b6_8, b6_9, ()), (b6_10, b6_11, b6_12, b6_13, ()), b6_14, b6_15, b6_16, b6_17, b6_18, b6_19, b6_20, ()), ()) else Wm n (IntKind.i64.wrap (s6 + (1 : Int))) b6_0 b6_1 b6_2 b6_3 b6_4 b6_5 b6_6 b6_7 b6_8 b6_9 b6_10 b6_11 b6_12 b6_13 b6_14 b6_15 b6_16 b6_17 b6_18 b6_19 b6_20 b7_0 b7_1 b7_2 b7_3 b7_4 b7_5 b7_6 b7_7 b7_8 b7_9 b7_10 b7_11 b7_12 else none else none else (fun zB => (fun zB => XA (XA zB zB) zB) (zB)) (if (0 : Nat) + b6_19.length ≤ lim then if b6_19.length + [(b7_0, b7_1, b7_2, b7_3, b7_4, (b7_5, b7_6, b7_7, b7_8, ()), (b7_9, b7_10, b7_11, b7_12, ()), ())].length ≤ lim then some ((), (b6_0, b6_1, (b6_2, b6_3, b6_4, b6_5, ()), (b6_6, b6_7, b6_8, b6_9, ()), (b6_10, b6_11, b6_12, b6_13, ()), b6_14, b6_15, b6_16, b6_17, b6_18, b6_19.append [(b7_0, b7_1, b7_2, b7_3, b7_4, (b7_5, b7_6, b7_7, b7_8, ()), (b7_9, b7_10, b7_11, b7_12, ()), ())], b6_20, ()), ()) else none else none) := by kernel_rfl
end Go.Sx.Tryz
set_option maxRecDepth 100000
namespace Go.Sx.Tryz
open Go Go.Sx Go.Proofs
noncomputable def V0 : List (Nat × Con) := [(22, Xs), (39, WV), (261, ZqG), (176, Qq), (174, Q4), (175, JI), (248, Zsr), (96, W5), (69, Ux)]
theorem Zo3 : ∀ q ∈ V0, Zo Tryz.prog q.1 q.2 := Tryz.cons_cons Y0 (Tryz.cons_cons XW (Tryz.cons_cons Zsp (Tryz.cons_cons UL (Tryz.cons_cons V8 (Tryz.cons_cons Qi (Tryz.cons_cons Zlh (Tryz.cons_cons Wj (Tryz.cons_cons Vm (Tryz.cons_nil)))))))))
abbrev Ui : List Wa × List BK := ([.is (.ptr 6 0), .ro Za, .drop, .drop, .drop, .drop, .drop, .own Zg, .drop, .is (.ptr 17 0), .drop, .ro Za, .drop, .drop, .drop, .drop, .drop, .drop, .drop, .drop, .drop, .drop, .drop, .drop, .drop, .drop, .drop, .drop, .drop, .drop, .drop, .drop, .drop, .drop, .drop, .drop, .drop, .drop, .drop, .drop, .drop, .drop, .drop, .drop, .drop, .drop, .drop, .drop, .drop, .drop, .drop, .drop, .drop, .drop, .drop, .drop, .drop, .drop, .drop, .drop, .drop, .drop, .drop, .drop, .drop, .drop, .drop, .drop, .drop, .drop, .drop, .drop, .drop, .drop, .drop, .drop, .drop, .drop, .drop, .drop, .drop, .drop, .drop, .drop, .drop, .drop, .drop, .drop, .drop, .drop, .drop, .drop, .drop, .drop, .drop, .drop, .drop, .drop, .drop, .drop, .drop, .drop, .drop, .drop, .drop, .drop, .drop, .drop, .drop, .drop, .drop, .drop, .drop, .drop, .drop, .drop, .drop, .drop, .drop, .drop, .drop, .drop, .drop, .drop, .drop, .drop, .drop, .drop, .drop, .drop, .drop, .drop, .drop, .drop, .drop, .drop, .drop, .drop, .drop, .drop, .drop, .drop], [.drop, .drop, .drop, .drop, .drop, .drop, .vars [.ro Za, .ro Za, .ro Za, .ro Za, .ro Za, .ro Za, .ro Za, .ro Za, .ro Za, .ro Za, .ro Za, .ro Za, .ro Za, .ro Za, .own Za, .own Zt, .own Za, .own Zy, .own Zk, .own Zg, .ro Za], .drop, .drop, .drop, .drop, .drop, .drop, .drop, .drop, .drop, .drop, .vars [.ro Za, .ro Za, .ro Za, .ro Za]])
abbrev XN : List Wa × List BK := ([.is (.ptr 6 0), .ro Za, .drop, .drop, .drop, .is (.ptr 7 0), .drop, .own Zg, .ro Za, .drop, .drop, .drop, .drop, .drop, .drop, .drop, .drop, .drop, .drop, .drop, .drop, .drop, .drop, .drop, .drop, .drop, .drop, .drop, .drop, .drop, .drop, .drop, .drop, .drop, .drop, .drop, .drop, .drop, .drop, .drop, .drop, .drop, .drop, .drop, .drop, .drop, .drop, .drop, .drop, .drop, .drop, .drop, .drop, .drop, .drop, .drop, .drop, .drop, .drop, .drop, .drop, .drop, .drop, .drop, .drop, .drop, .drop, .drop, .drop, .drop, .drop, .drop, .drop, .drop, .drop, .drop, .drop, .drop, .drop, .drop, .drop, .drop, .drop, .drop, .drop, .drop, .drop, .drop, .drop, .drop, .drop, .drop, .drop, .drop, .drop, .drop, .drop, .drop, .drop, .drop, .drop, .drop, .drop, .drop, .drop, .drop, .drop, .drop, .drop, .drop, .drop, .drop, .drop, .drop, .drop, .drop, .drop, .drop, .drop, .drop, .drop, .drop, .drop, .drop, .drop, .drop, .drop, .drop, .drop, .drop, .drop, .drop, .drop, .drop, .drop, .drop, .drop, .drop, .drop, .drop, .drop, .drop], [.drop, .drop, .drop, .drop, .drop, .drop, .vars [.ro Za, .ro Za, .ro Za, .ro Za, .ro Za, .ro Za, .ro Za, .ro Za, .ro Za, .ro Za, .ro Za, .ro Za, .ro Za, .ro Za, .own Za, .own Zt, .own Za, .own Zy, .own Zk, .own Zg, .ro Za], .vars [.ro Za, .ro Za, .ro Za, .ro Za]])
def Zb5 : KP := [(17, Ui), (5000007, XN)]
noncomputable def Zmc (n : Nat) (x : AP.denL [.mu ZC, .ro Zn, .ro ZV]) := evX (false, false, [5, 9, 13, 15, 18, 24, 25, 26, 31, 32, 33, 38, 39, 40, 45, 46, 47, 55, 56, 57, 62, 63, 64, 70, 72, 73, 74, 80, 82, 83, 84, 86, 88, 90, 99, 100, 101, 103, 105, 107, 113, 116, 117, 118, 119, 123, 132, 133, 999999]) V0 Zb5 [some ZR] Tryz.f258 (shO (shF ZR) [.mu ZC]) n (AP.encL [.mu ZC, .ro Zn, .ro ZV] x)
noncomputable def Zmd : Con := apS [.mu ZC, .ro Zn, .ro ZV] true (shO (shF ZR) [.mu ZC]) (Zmc big)
theorem Zo4 : Zo Tryz.prog 258 Zmd := Y3 ⟨Tryz.f258, by kernel_rfl, rfl, by decide⟩ fun _ _ h => Zw Zo3 (f := Tryz.f258) (by kernel_rfl) rfl (by kernel_rfl) (by kernel_rfl) big h
noncomputable def Zew (n : Nat) (a0 : Zq) (a1 : Int) (a2 : ZX) : Option (ZO × Zq × Unit) := Zmc n (a0, a1, a2, ())
noncomputable def Zo5 (n : Nat) (x : KD Ui.1) (y : BD Ui.2) := Yh (env (false, false, [5, 9, 13, 15, 18, 24, 25, 26, 31, 32, 33, 38, 39, 40, 45, 46, 47, 55, 56, 57, 62, 63, 64, 70, 72, 73, 74, 80, 82, 83, 84, 86, 88, 90, 99, 100, 101, 103, 105, 107, 113, 116, 117, 118, 119, 123, 132, 133, 999999]) V0) Zb5 (body Tryz.f258) (VV (false, false, [5, 9, 13, 15, 18, 24, 25, 26, 31, 32, 33, 38, 39, 40, 45, 46, 47, 55, 56, 57, 62, 63, 64, 70, 72, 73, 74, 80, 82, 83, 84, 86, 88, 90, 99, 100, 101, 103, 105, 107, 113, 116, 117, 118, 119, 123, 132, 133, 999999]) V0 [some ZR] Tryz.f258 (shO (shF ZR) [.mu ZC]) [AP.enc (.mu ZC) (ZT ZC), AP.enc (.ro Zn) (ZT Zn), AP.enc (.ro ZV) (ZT ZV)]) n 17 Ui x y
noncomputable def Uj (n : Nat) (s1 : Int) (s7 : (List Zc)) (s11 : Int) (b6_0 : Int) (b6_1 : Int) (b6_2 : Int) (b6_3 : Int) (b6_4 : Int) (b6_5 : Int) (b6_6 : Int) (b6_7 : Int) (b6_8 : Int) (b6_9 : Int) (b6_10 : Int) (b6_11 : Int) (b6_12 : Int) (b6_13 : Int) (b6_14 : (List Int)) (b6_15 : (List Zf)) (b6_16 : (List Int)) (b6_17 : (List Zi)) (b6_18 : (List Ze)) (b6_19 : (List Zc)) (b6_20 : Int) (b17_0 : Int) (b17_1 : Int) (b17_2 : Int) (b17_3 : Int) : Option (ZO × Zq × Unit) := Zo5 n (s1, s7, s11, ()) ((b6_0, b6_1, b6_2, b6_3, b6_4, b6_5, b6_6, b6_7, b6_8, b6_9, b6_10, b6_11, b6_12, b6_13, b6_14, b6_15, b6_16, b6_17, b6_18, b6_19, b6_20, ()), (b17_0, b17_1, b17_2, b17_3, ()), ())
noncomputable def Zex (n : Nat) (x : KD XN.1) (y : BD XN.2) := Yh (env (false, false, [5, 9, 13, 15, 18, 24, 25, 26, 31, 32, 33, 38, 39, 40, 45, 46, 47, 55, 56, 57, 62, 63, 64, 70, 72, 73, 74, 80, 82, 83, 84, 86, 88, 90, 99, 100, 101, 103, 105, 107, 113, 116, 117, 118, 119, 123, 132, 133, 999999]) V0) Zb5 (body Tryz.f258) (VV (false, false, [5, 9, 13, 15, 18, 24, 25, 26, 31, 32, 33, 38, 39, 40, 45, 46, 47, 55, 56, 57, 62, 63, 64, 70, 72, 73, 74, 80, 82, 83, 84, 86, 88, 90, 99, 100, 101, 103, 105, 107, 113, 116, 117, 118, 119, 123, 132, 133, 999999]) V0 [some ZR] Tryz.f258 (shO (shF ZR) [.mu ZC]) [AP.enc (.mu ZC) (ZT ZC), AP.enc (.ro Zn) (ZT Zn), AP.enc (.ro ZV) (ZT ZV)]) n 5000007 XN x y
noncomputable def Xi (n : Nat) (s1 : Int) (s7 : (List Zc)) (s8 : Int) (b6_0 : Int) (b6_1 : Int) (b6_2 : Int) (b6_3 : Int) (b6_4 : Int) (b6_5 : Int) (b6_6 : Int) (b6_7 : Int) (b6_8 : Int) (b6_9 : Int) (b6_10 : Int) (b6_11 : Int) (b6_12 : Int) (b6_13 : Int) (b6_14 : (List Int)) (b6_15 : (List Zf)) (b6_16 : (List Int)) (b6_17 : (List Zi)) (b6_18 : (List Ze)) (b6_19 : (List Zc)) (b6_20 : Int) (b7_0 : Int) (b7_1 : Int) (b7_2 : Int) (b7_3 : Int) : Option (ZO × Zq × Unit) := Zex n (s1, s7, s8, ()) ((b6_0, b6_1, b6_2, b6_3, b6_4, b6_5, b6_6, b6_7, b6_8, b6_9, b6_10, b6_11, b6_12, b6_13, b6_14, b6_15, b6_16, b6_17, b6_18, b6_19, b6_20, ()), (b7_0, b7_1, b7_2, b7_3, ()), ())
theorem Zo6 (n : Nat) (a0 : Zq) (a1 : Int) (a2 : ZX) : Zew n a0 a1 a2 = bif decide (a2.1 = (4 : Int)) then (YA big (IntKind.i64.wrap (a2.2.1 + (1 : Int))) a1).bind fun y => (fun zC0 => bif decide (y = a0.1) then bif decide (IntKind.i64.wrap (a2.2.1 + (1 : Int)) = IntKind.i64.wrap (a0.2.1 + (1 : Int))) then (Xw big a0 (IntKind.i64.wrap (a2.2.1 + (1 : Int)))).bind fun y => Xi n a1 [] (IntKind.i64.wrap (a2.2.1 + (1 : Int))) y.1 y.2.1 y.2.2.1.1 y.2.2.1.2.1 y.2.2.1.2.2.1 y.2.2.1.2.2.2.1 y.2.2.2.1.1 y.2.2.2.1.2.1 y.2.2.2.1.2.2.1 y.2.2.2.1.2.2.2.1 y.2.2.2.2.1.1 y.2.2.2.2.1.2.1 y.2.2.2.2.1.2.2.1 y.2.2.2.2.1.2.2.2.1 y.2.2.2.2.2.1 y.2.2.2.2.2.2.1 y.2.2.2.2.2.2.2.1 y.2.2.2.2.2.2.2.2.1 y.2.2.2.2.2.2.2.2.2.1 y.2.2.2.2.2.2.2.2.2.2.1 y.2.2.2.2.2.2.2.2.2.2.2.1 a2.1 a2.2.1 a2.2.2.1 a2.2.2.2.1 else zC0 else zC0) (Xi n a1 [] (IntKind.i64.wrap (a2.2.1 + (1 : Int))) a0.1 a0.2.1 a0.2.2.1.1 a0.2.2.1.2.1 a0.2.2.1.2.2.1 a0.2.2.1.2.2.2.1 a0.2.2.2.1.1 a0.2.2.2.1.2.1 a0.2.2.2.1.2.2.1 a0.2.2.2.1.2.2.2.1 a0.2.2.2.2.1.1 a0.2.2.2.2.1.2.1 a0.2.2.2.2.1.2.2.1 a0.2.2.2.2.1.2.2.2.1 a0.2.2.2.2.2.1 a0.2.2.2.2.2.2.1 a0.2.2.2.2.2.2.2.1 a0.2.2.2.2.2.2.2.2.1 a0.2.2.2.2.2.2.2.2.2.1 a0.2.2.2.2.2.2.2.2.2.2.1 a0.2.2.2.2.2.2.2.2.2.2.2.1 a2.1 a2.2.1 a2.2.2.1 a2.2.2.2.1) else Xi n a1 [] a2.2.1 a0.1 a0.2.1 a0.2.2.1.1 a0.2.2.1.2.1 a0.2.2.1.2.2.1 a0.2.2.1.2.2.2.1 a0.2.2.2.1.1 a0.2.2.2.1.2.1 a0.2.2.2.1.2.2.1 a0.2.2.2.1.2.2.2.1 a0.2.2.2.2.1.1 a0.2.2.2.2.1.2.1 a0.2.2.2.2.1.2.2.1 a0.2.2.2.2.1.2.2.2.1 a0.2.2.2.2.2.1 a0.2.2.2.2.2.2.1 a0.2.2.2.2.2.2.2.1 a0.2.2.2.2.2.2.2.2.1 a0.2.2.2.2.2.2.2.2.2.1 a0.2.2.2.2.2.2.2.2.2.2.1 a0.2.2.2.2.2.2.2.2.2.2.2.1 a2.1 a2.2.1 a2.2.2.1 a2.2.2.2.1 := by kernel_rfl
theorem JN (n : Nat) (s1 : Int) (s7 : (List Zc)) (s11 : Int) (b6_0 : Int) (b6_1 : Int) (b6_2 : Int) (b6_3 : Int) (b6_4 : Int) (b6_5 : Int) (b6_6 : Int) (b6_7 : Int) (b6_8 : Int) (b6_9 : Int) (b6_10 : Int) (b6_11 : Int) (b6_12 : Int) (b6_13 : Int) (b6_14 : (List Int)) (b6_15 : (List Zf)) (b6_16 : (List Int)) (b6_17 : (List Zi)) (b6_18 : (List Ze)) (b6_19 : (List Zc)) (b6_20 : Int) (b17_0 : Int) (b17_1 : Int) (b17_2 : Int) (b17_3 : Int) : Uj (n + 1) s1 s7 s11 b6_0 b6_1 b6_2 b6_3 b6_4 b6_5 b6_6 b6_7 b6_8 b6_9 b6_10 b6_11 b6_12 b6_13 b6_14 b6_15 b6_16 b6_17 b6_18 b6_19 b6_20 b17_0 b17_1 b17_2 b17_3 = bif decide (s11 < s1) then if s7.length + [((3 : Int), b6_0, s11, b6_1, (0 : Int), (b17_0, b17_1, b17_2, b17_3, ()), ((0 : Int), (0 : Int), (0 : Int), (0 : Int), ()), ())].length ≤ lim then Uj n s1 (s7.append [((3 : Int), b6_0, s11, b6_1, (0 : Int), (b17_0, b17_1, b17_2, b17_3, ()), ((0 : Int), (0 : Int), (0 : Int), (0 : Int), ()), ())]) (IntKind.i64.wrap (s11 + (1 : Int))) b6_0 b6_1 b6_2 b6_3 b6_4 b6_5 b6_6 b6_7 b6_8 b6_9 b6_10 b6_11 b6_12 b6_13 b6_14 b6_15 b6_16 b6_17 b6_18 b6_19 b6_20 b17_0 b17_1 b17_2 b17_3 else none else some (s7, (b6_0, b6_1, (b6_2, b6_3, b6_4, b6_5, ()), (b6_6, b6_7, b6_8, b6_9, ()), (b6_10, b6_11, b6_12, b6_13, ()), b6_14, b6_15, b6_16, b6_17, b6_18, b6_19, b6_20, ()), ()) := by kernel_rfl
theorem Zbn (n : Nat) (s1 : Int) (s7 : (List Zc)) (s8 : Int) (b6_0 : Int) (b6_1 : Int) (b6_2 : Int) (b6_3 : Int) (b6_4 : Int) (b6_5 : Int) (b6_6 : Int) (b6_7 : Int) (b6_8 : Int) (b6_9 : Int) (b6_10 : Int) (b6_11 : Int) (b6_12 : Int) (b6_13 : Int) (b6_14 : (List Int)) (b6_15 : (List Zf)) (b6_16 : (List Int)) (b6_17 : (List Zi)) (b6_18 : (List Ze)) (b6_19 : (List Zc)) (b6_20 : Int) (b7_0 : Int) (b7_1 : Int) (b7_2 : Int) (b7_3 : Int) : Xi (n + 1) s1 s7 s8 b6_0 b6_1 b6_2 b6_3 b6_4 b6_5 b6_6 b6_7 b6_8 b6_9 b6_10 b6_11 b6_12 b6_13 b6_14 b6_15 b6_16 b6_17 b6_18 b6_19 b6_20 b7_0 b7_1 b7_2 b7_3 = bif !decide (b6_1 = s8) then some (s7, (b6_0, b6_1, (b6_2, b6_3, b6_4, b6_5, ()), (b6_6, b6_7, b6_8, b6_9, ()), (b6_10, b6_11, b6_12, b6_13, ()), b6_14, b6_15, b6_16, b6_17, b6_18, b6_19, b6_20, ()), ()) else (YA big s8 s1).bind fun y => bif !decide (y = b6_0) then some (s7, (b6_0, b6_1, (b6_2, b6_3, b6_4, b6_5, ()), (b6_6, b6_7, b6_8, b6_9, ()), (b6_10, b6_11, b6_12, b6_13, ()), b6_14, b6_15, b6_16, b6_17, b6_18, b6_19, b6_20, ()), ()) else (ZgT big b6_18 (b7_0, b7_1, b7_2, b7_3, ())).bind fun y => bif y then some (s7, (b6_0, b6_1, (b6_2, b6_3, b6_4, b6_5, ()), (b6_6, b6_7, b6_8, b6_9, ()), (b6_10, b6_11, b6_12, b6_13, ()), b6_14, b6_15, b6_16, b6_17, b6_18, b6_19, b6_20, ()), ()) else (fun zB => (fun zB => XA (XA zB zB) zB) (zB)) (if (0 : Nat) + b6_18.length ≤ lim then if b6_18.length + [(b7_0, b7_1, b7_2, b7_3, ())].length ≤ lim then (Vl big (b6_18.append [(b7_0, b7_1, b7_2, b7_3, ())]) b7_0 b7_1 b7_2).bind fun y => (Xh big y).bind fun y => (QR big s1).bind fun y_1 => bif !decide (y = y_1) then some (s7, (b6_0, b6_1, (b6_2, b6_3, b6_4, b6_5, ()), (b6_6, b6_7, b6_8, b6_9, ()), (b6_10, b6_11, b6_12, b6_13, ()), b6_14, b6_15, b6_16, b6_17, b6_18.append [(b7_0, b7_1, b7_2, b7_3, ())], b6_19, b6_20, ()), ()) else (Zfy big (b6_18.append [(b7_0, b7_1, b7_2, b7_3, ())]) b7_0 b7_1 b7_2 s1).bind fun y => bif decide (b7_0 = (4 : Int)) then (Xt big (b6_2, b6_3, b6_4, b6_5, ()) y.1).bind fun y => some (s7, (b6_0, b6_1, y, (b6_6, b6_7, b6_8, b6_9, ()), (b6_10, b6_11, b6_12, b6_13, ()), b6_14, b6_15, b6_16, b6_17, b6_18.append [(b7_0, b7_1, b7_2, b7_3, ())], b6_19, b6_20, ()), ()) else Uj n s1 s7 (0 : Int) b6_0 b6_1 b6_2 b6_3 b6_4 b6_5 b6_6 b6_7 b6_8 b6_9 b6_10 b6_11 b6_12 b6_13 b6_14 b6_15 b6_16 b6_17 (b6_18.append [(b7_0, b7_1, b7_2, b7_3, ())]) b6_19 b6_20 y.1.1 y.1.2.1 y.1.2.2.1 y.1.2.2.2.1 else none else none) := by kernel_rfl
end Go.Sx.Tryz
set_option maxRecDepth 100000
namespace Go.Sx.Tryz
open Go Go.Sx Go.Proofs
noncomputable def Zie : List (Nat × Con) := [(258, Zmd)]
theorem Zme : ∀ q ∈ Zie, Zo Tryz.prog q.1 q.2 := Tryz.cons_cons Zo4 (Tryz.cons_nil)
def ZsS : KP := []
noncomputable def Zif (n : Nat) (x : AP.denL [.gs ZC, .ro Zn, .ro ZV]) := evX (false, false, [3, 5]) Zie ZsS [some ZC, some ZR] Tryz.f251 (shT [(true, ZC), (true, ZR)]) n (AP.encL [.gs ZC, .ro Zn, .ro ZV] x)
noncomputable def Zig : Con := apS [.gs ZC, .ro Zn, .ro ZV] true (shT [(true, ZC), (true, ZR)]) (Zif big)
theorem Zmf : Zo Tryz.prog 251 Zig := Y3 ⟨Tryz.f251, by kernel_rfl, rfl, by decide⟩ fun _ _ h => Zw Zme (f := Tryz.f251) (by kernel_rfl) rfl (by kernel_rfl) (by kernel_rfl) big h
noncomputable def Zb6 (n : Nat) (a0 : Zq) (a1 : Int) (a2 : ZX) : Option (Zq × ZO × Unit) := Zif n (a0, a1, a2, ())
theorem Zmg (n : Nat) (a0 : Zq) (a1 : Int) (a2 : ZX) : Zb6 n a0 a1 a2 =
  (Zew big a0 a1 a2).bind fun y => some (y.2.1, y.1, ()) := by kernel_rfl
end Go.Sx.Tryz
set_option maxRecDepth 100000
namespace Go.Sx.Tryz
open Go Go.Sx Go.Proofs
noncomputable def Zih : List (Nat × Con) := [(68, Y8), (234, UD), (251, Zig), (252, ZqR)]
theorem Zmh : ∀ q ∈ Zih, Zo Tryz.prog q.1 q.2 := Tryz.cons_cons YB (Tryz.cons_cons Vr (Tryz.cons_cons Zmf (Tryz.cons_cons ZsQ (Tryz.cons_nil))))
def ZsT : KP := []
noncomputable def Zii (n : Nat) (x : YI [Zh, Zn, ZP, ZD]) := evX (false, false, [6, 7, 10, 21, 23, 29, 35]) Zih ZsT [some ZC, some ZR] Tryz.f235 (shT [(true, ZC), (true, ZR)]) n (YV [Zh, Zn, ZP, ZD] x)
noncomputable def Zb7 : Con := roS [Zh, Zn, ZP, ZD] true (shT [(true, ZC), (true, ZR)]) (Zii big)
theorem Zb8 : Zo Tryz.prog 235 Zb7 := ZI ⟨Tryz.f235, by kernel_rfl, rfl, by decide⟩ fun _ _ h => Zw Zmh (f := Tryz.f235) (by kernel_rfl) rfl (by kernel_rfl) (by kernel_rfl) big h
noncomputable def Wn (n : Nat) (a0 : Zp) (a1 : Int) (a2 : Zq) (a3 : Zs) : Option (Zq × ZO × Unit) := Zii n (a0, a1, a2, a3, ())
theorem Zmi (n : Nat) (a0 : Zp) (a1 : Int) (a2 : Zq) (a3 : Zs) : Wn n a0 a1 a2 a3 =
  (YD big a2).bind fun y =>
 (W9 big a0 a1 a3).bind fun y_1 =>
 bif !y_1 then some (y, [], ())
 else
 bif !decide (a3.2.2.1 = a2.1) then some (y, [], ())
 else
 bif decide (a3.1 = (2 : Int)) then
 (Zb6 big y a1 a3.2.2.2.2.2.2.1).bind fun y => some y
 else
 bif decide (a3.1 = (4 : Int)) then (Zg7 big y a1 a3).bind fun y => some (y.2.1, [], ())
 else some (y, [], ()) := by kernel_rfl
end Go.Sx.Tryz
set_option maxRecDepth 100000
namespace Go.Sx.Tryz
open Go Go.Sx Go.Proofs
noncomputable def Zmj : List (Nat × Con) := [(68, Y8), (234, UD), (235, Zb7), (22, Xs), (237, Zvx), (39, WV), (15, Zak), (38, Zan), (236, Zaq)]
theorem Zo7 : ∀ q ∈ Zmj, Zo Tryz.prog q.1 q.2 := Tryz.cons_cons YB (Tryz.cons_cons Vr (Tryz.cons_cons Zb8 (Tryz.cons_cons Y0 (Tryz.cons_cons Zvy (Tryz.cons_cons XW (Tryz.cons_cons Jl (Tryz.cons_cons Za0 (Tryz.cons_cons Jo (Tryz.cons_nil)))))))))
def ZvB : KP := []
noncomputable def Zmk (n : Nat) (x : YI [Zh, Zn, ZP, ZD]) := evX (false, false, [6, 7, 10, 23, 25, 31, 35, 46, 48, 54, 56, 62, 72, 76, 82, 84, 91, 93, 95]) Zmj ZvB [some ZC, some ZR] Tryz.f217 (shT [(true, ZC), (true, ZR)]) n (YV [Zh, Zn, ZP, ZD] x)
noncomputable def Zml : Con := roS [Zh, Zn, ZP, ZD] true (shT [(true, ZC), (true, ZR)]) (Zmk big)
theorem Zo8 : Zo Tryz.prog 217 Zml := ZI ⟨Tryz.f217, by kernel_rfl, rfl, by decide⟩ fun _ _ h => Zw Zo7 (f := Tryz.f217) (by kernel_rfl) rfl (by kernel_rfl) (by kernel_rfl) big h
noncomputable def ZaA (n : Nat) (a0 : Zp) (a1 : Int) (a2 : Zq) (a3 : Zs) : Option (Zq × ZO × Unit) := Zmk n (a0, a1, a2, a3, ())
theorem Zo9 (n : Nat) (a0 : Zp) (a1 : Int) (a2 : Zq) (a3 : Zs) : ZaA n a0 a1 a2 a3 =
  (YD big a2).bind fun y =>
 (W9 big a0 a1 a3).bind fun y_1 =>
 bif !y_1 then some (y, [], ())
 else
 bif !decide (a3.2.2.1 = a2.1) then some (y, [], ())
 else
 bif decide (a3.1 = (2 : Int)) then (Wn big a0 a1 a2 a3).bind fun y => some y
 else
 bif decide (a3.1 = (4 : Int)) then (Wn big a0 a1 a2 a3).bind fun y => some y
 else
 (YA big a3.2.2.2.1 a1).bind fun y_2 =>
 bif !decide (a3.2.1 = y_2) then some (y, [], ())
 else
 bif decide (a3.2.2.2.1 < a2.2.1) then some (y, [], ())
 else
 bif decide (a3.1 = (3 : Int)) then
 (Zma big a0 a1 y a3).bind fun y => some (y.2.1, y.1, ())
 else
 (Xw big y a3.2.2.2.1).bind fun y =>
 (VX big y (1 : Int) a3.2.2.2.1).bind fun y_3 =>
 bif !y_3 then some (y, [], ())
 else
 (Qt big a0 y.2.2.2.1 a3.2.2.2.2.1).bind fun y_4 =>
 bif !y_4 then some (y, [], ())
 else
 (VZ big y (1 : Int) a3.2.2.2.1 a3.2.2.2.2.1 a3.2.1).bind
 fun y => some (y.2.1, y.1, ()) := by kernel_rfl
end Go.Sx.Tryz
set_option maxRecDepth 100000
namespace Go.Sx.Tryz
open Go Go.Sx Go.Proofs
noncomputable def ZfN : List (Nat × Con) := [(68, Y8), (234, UD), (235, Zb7), (96, W5), (22, Xs), (15, Zak), (38, Zan), (44, ZdM), (236, Zaq), (39, WV)]
theorem Zjg : ∀ q ∈ ZfN, Zo Tryz.prog q.1 q.2 := Tryz.cons_cons YB (Tryz.cons_cons Vr (Tryz.cons_cons Zb8 (Tryz.cons_cons Wj (Tryz.cons_cons Y0 (Tryz.cons_cons Jl (Tryz.cons_cons Za0 (Tryz.cons_cons Zg5 (Tryz.cons_cons Jo (Tryz.cons_cons XW (Tryz.cons_nil))))))))))
def Zpa : KP := []
noncomputable def ZfO (n : Nat) (x : YI [Zh, Zn, ZP, ZD]) := evX (false, false, [6, 7, 10, 23, 25, 31, 44, 46, 61, 63, 71, 76, 78, 83, 85, 91, 98, 100, 102, 109]) ZfN Zpa [some ZC, some ZR] Tryz.f216 (shT [(true, ZC), (true, ZR)]) n (YV [Zh, Zn, ZP, ZD] x)
noncomputable def ZfP : Con := roS [Zh, Zn, ZP, ZD] true (shT [(true, ZC), (true, ZR)]) (ZfO big)
theorem Zjh : Zo Tryz.prog 216 ZfP := ZI ⟨Tryz.f216, by kernel_rfl, rfl, by decide⟩ fun _ _ h => Zw Zjg (f := Tryz.f216) (by kernel_rfl) rfl (by kernel_rfl) (by kernel_rfl) big h
noncomputable def QB (n : Nat) (a0 : Zp) (a1 : Int) (a2 : Zq) (a3 : Zs) : Option (Zq × ZO × Unit) := ZfO n (a0, a1, a2, a3, ())
theorem Zji (n : Nat) (a0 : Zp) (a1 : Int) (a2 : Zq) (a3 : Zs) : QB n a0 a1 a2 a3 =
  (YD big a2).bind fun y =>
 (W9 big a0 a1 a3).bind fun y_1 =>
 bif !y_1 then some (y, [], ())
 else
 bif !decide (a3.2.2.1 = a2.1) then some (y, [], ())
 else
 bif decide (a3.1 = (2 : Int)) then (Wn big a0 a1 a2 a3).bind fun y => some y
 else
 bif decide (a3.1 = (4 : Int)) then
 (Xt big y.2.2.1 a3.2.2.2.2.2.1).bind fun y_2 =>
 (Wn big a0 a1 (y.1, y.2.1, y_2, y.2.2.2) a3).bind fun y => some y
 else
 bif decide (a3.1 = (3 : Int)) then some (y, [], ())
 else
 (YA big a3.2.2.2.1 a1).bind fun y_2 =>
 bif !decide (a3.2.1 = y_2) then some (y, [], ())
 else
 (VX big y (4 : Int) a3.2.2.2.1).bind fun y_3 =>
 bif y_3 then
 (Qt big a0 y.2.2.2.1 a3.2.2.2.2.1).bind fun y_4 =>
 bif y_4 then
 (XX big a0 y a3.2.2.2.2.1).bind fun y =>
 bif !decide (a2.2.1 ≤ a3.2.2.2.1) then some (y, [], ())
 else
 (YA big (IntKind.i64.wrap (a3.2.2.2.1 + (1 : Int))) a1).bind
 fun y_5 =>
 (VZ big y (4 : Int) a3.2.2.2.1 a3.2.2.2.2.1 y_5).bind
 fun y =>
 (Xw big y.2.1 (IntKind.i64.wrap (a3.2.2.2.1 + (1 : Int)))).bind
 fun y_6 => some (y_6, y.1, ())
 else (XX big a0 y a3.2.2.2.2.1).bind fun y => some (y, [], ())
 else
 (XX big a0 y a3.2.2.2.2.1).bind fun y => some (y, [], ()) := by kernel_rfl
end Go.Sx.Tryz
set_option maxRecDepth 100000
namespace Go.Sx.Tryz
open Go Go.Sx Go.Proofs
noncomputable def ZqS : List (Nat × Con) := [(67, Yn)]
theorem ZsU : ∀ q ∈ ZqS, Zo Tryz.prog q.1 q.2 := Tryz.cons_cons Z3 (Tryz.cons_nil)
def Zxt : KP := []
noncomputable def ZqT (n : Nat) (x : AP.denL [.mu Zr, .ro Zn]) := evX (false, false, [6, 8, 9, 10, 17, 18, 19, 24, 26, 27, 28, 33, 34, 35, 41]) ZqS Zxt [none, none] Tryz.f182 (shO (shT [(false, ZD), (false, ZE)]) [.mu Zr]) n (AP.encL [.mu Zr, .ro Zn] x)
noncomputable def Zg8 : Con := apS [.mu Zr, .ro Zn] true (shO (shT [(false, ZD), (false, ZE)]) [.mu Zr]) (ZqT big)
theorem ZfQ : Zo Tryz.prog 182 Zg8 := Y3 ⟨Tryz.f182, by kernel_rfl, rfl, by decide⟩ fun _ _ h => Zw ZsU (f := Tryz.f182) (by kernel_rfl) rfl (by kernel_rfl) (by kernel_rfl) big h
noncomputable def ZcZ (n : Nat) (a0 : Zl) (a1 : Int) : Option ((Zs × Bool × Unit) × Zl × Unit) := ZqT n (a0, a1, ())
theorem ZsV (n : Nat) (a0 : Zl) (a1 : Int) : ZcZ n a0 a1 = (ZQ big a1 (0 : Int) (IntKind.i64.wrap ((↑(List.length a0.2.2.2.2.2.1) : Int) - (1 : Int)))).bind fun y => bif !y then some ((((0 : Int), (0 : Int), (0 : Int), (0 : Int), (0 : Int), ((0 : Int), (0 : Int), (0 : Int), (0 : Int), ()), ((0 : Int), (0 : Int), (0 : Int), (0 : Int), ()), ()), false, ()), a0, ()) else if (0 : Int) ≤ a1 then if a1 < (↑(List.length a0.2.2.2.2.2.1) : Int) then (nth a0.2.2.2.2.2.1 a1.toNat).bind fun y => (fun zC0 => (fun zC1 => (fun zC2 => XA (if (0 : Int) ≤ a1 then if a1 ≤ (↑(List.length a0.2.2.2.2.2.1) : Int) then (fun zB0 zB1 => (fun zB0 zB1 => XA zB0 (XA zB0 zB1)) (zB0) (zB1)) zC1 zC2 else none else none) (XA (if (0 : Int) ≤ a1 then if a1 ≤ (↑(List.length a0.2.2.2.2.2.1) : Int) then (fun zB0 zB1 => (fun zB0 zB1 => XA (XA zB0 (XA zB0 zB1)) (XA (XA zB0 zB1) zB1)) (zB0) (zB1)) zC1 zC2 else none else none) (XA (if (0 : Int) ≤ a1 then if a1 ≤ (↑(List.length a0.2.2.2.2.2.1) : Int) then XA (zC1) (zC2) else none else none) (XA (if (0 : Int) ≤ a1 then if a1 ≤ (↑(List.length a0.2.2.2.2.2.1) : Int) then (fun zB0 zB1 => (fun zB0 zB1 => XA (XA zB0 zB1) zB1) (zB0) (zB1)) zC1 zC2 else none else none) (if (0 : Int) ≤ IntKind.i64.wrap (a1 + (1 : Int)) then if IntKind.i64.wrap (a1 + (1 : Int)) ≤ (↑(List.length a0.2.2.2.2.2.1) : Int) then (fun zB => (fun zB => XA zB zB) (zB)) (if (0 : Int) ≤ a1 then if a1 ≤ (↑(List.length a0.2.2.2.2.2.1) : Int) then if (0 : Nat) + (List.take (a1.toNat - (0 : Nat)) (List.drop (0 : Nat) a0.2.2.2.2.2.1)).length ≤ lim then zC0 else none else none else none) else none else none))))) (if (0 : Int) ≤ IntKind.i64.wrap (a1 + (1 : Int)) then if IntKind.i64.wrap (a1 + (1 : Int)) ≤ (↑(List.length a0.2.2.2.2.2.1) : Int) then if (0 : Nat) + (List.take (a1.toNat - (0 : Nat)) (List.drop (0 : Nat) a0.2.2.2.2.2.1)).length ≤ lim then zC0 else none else none else none)) (if (0 : Nat) + (List.take (a1.toNat - (0 : Nat)) (List.drop (0 : Nat) a0.2.2.2.2.2.1)).length ≤ lim then if (0 : Int) ≤ IntKind.i64.wrap (a1 + (1 : Int)) then if IntKind.i64.wrap (a1 + (1 : Int)) ≤ (↑(List.length a0.2.2.2.2.2.1) : Int) then zC0 else none else none else none)) (if (List.take (a1.toNat - (0 : Nat)) (List.drop (0 : Nat) a0.2.2.2.2.2.1)).length + (List.take (List.length a0.2.2.2.2.2.1 - (IntKind.i64.wrap (a1 + (1 : Int))).toNat) (List.drop (IntKind.i64.wrap (a1 + (1 : Int))).toNat a0.2.2.2.2.2.1)).length ≤ lim then some ((y, true, ()), (a0.1, a0.2.1, a0.2.2.1, a0.2.2.2.1, a0.2.2.2.2.1, (List.take (a1.toNat - (0 : Nat)) (List.drop (0 : Nat) a0.2.2.2.2.2.1)).append (List.take (List.length a0.2.2.2.2.2.1 - (IntKind.i64.wrap (a1 + (1 : Int))).toNat) (List.drop (IntKind.i64.wrap (a1 + (1 : Int))).toNat a0.2.2.2.2.2.1)), a0.2.2.2.2.2.2), ()) else none) else none else none := by kernel_rfl
end Go.Sx.Tryz
set_option maxRecDepth 100000
namespace Go.Sx.Tryz
open Go Go.Sx Go.Proofs
noncomputable def Zmm : List (Nat × Con) := []
theorem Zpb : ∀ q ∈ Zmm, Zo Tryz.prog q.1 q.2 := Tryz.cons_nil
def ZvC : KP := []
noncomputable def Zmn (n : Nat) (x : AP.denL [.mu Zr, .ro ZG]) := evX (false, false, [5, 6, 7, 14, 16, 17, 18, 23]) Zmm ZvC [none] Tryz.f214 (shO (shV ZE) [.mu Zr]) n (AP.encL [.mu Zr, .ro ZG] x)
noncomputable def Ka : Con := apS [.mu Zr, .ro ZG] true (shO (shV ZE) [.mu Zr]) (Zmn big)
theorem Uk : Zo Tryz.prog 214 Ka := Y3 ⟨Tryz.f214, by kernel_rfl, rfl, by decide⟩ fun _ _ h => Zw Zpb (f := Tryz.f214) (by kernel_rfl) rfl (by kernel_rfl) (by kernel_rfl) big h
noncomputable def WW (n : Nat) (a0 : Zl) (a1 : ZO) : Option (Bool × Zl × Unit) := Zmn n (a0, a1, ())
theorem Zpc (n : Nat) (a0 : Zl) (a1 : ZO) : WW n a0 a1 =
  bif
 decide
 ((60 : Int) <
 IntKind.i64.wrap ((↑(List.length a0.2.2.2.2.2.1) : Int) + (↑(List.length a1) : Int))) then
 some (false, a0, ())
 else
 if (0 : Nat) + List.length a0.2.2.2.2.2.1 ≤ lim then
 if List.length a0.2.2.2.2.2.1 + List.length a1 ≤ lim then
 some
 (true,
 (a0.1, a0.2.1, a0.2.2.1, a0.2.2.2.1, a0.2.2.2.2.1,
 List.append a0.2.2.2.2.2.1 a1, a0.2.2.2.2.2.2),
 ())
 else none
 else none := by kernel_rfl
end Go.Sx.Tryz
set_option maxRecDepth 100000
namespace Go.Sx.Tryz
open Go Go.Sx Go.Proofs
noncomputable def ZaB : List (Nat × Con) := []
theorem Zpd : ∀ q ∈ ZaB, Zo Tryz.prog q.1 q.2 := Tryz.cons_nil
abbrev QC : List Wa × List BK := ([.is (.ptr 5 0), .drop, .drop, .is (.ptr 6 0), .ro Za, .drop, .drop, .drop, .drop, .drop, .drop, .drop, .drop, .drop, .drop, .drop, .drop, .drop, .drop, .drop, .drop, .drop, .drop, .drop, .drop, .drop, .drop, .drop, .drop, .drop, .drop, .drop, .drop, .drop, .drop], [.drop, .drop, .drop, .drop, .drop, .vars [.ro Za, .ro ZE, .ro Za, .own ZJ, .own ZW, .own Zg, .own Zk, .own ZU], .vars [.ro Za, .ro Za, .ro Za, .ro Za]])
def Zij : KP := [(2, QC)]
noncomputable def Zmo (n : Nat) (x : AP.denL [.mu Zr, .ro ZV]) := evX (false, false, [3, 6, 7, 8, 14, 15, 16, 23, 25, 26, 27, 33]) ZaB Zij [] Tryz.f218 (shO shN [.mu Zr]) n (AP.encL [.mu Zr, .ro ZV] x)
noncomputable def Zmp : Con := apS [.mu Zr, .ro ZV] true (shO shN [.mu Zr]) (Zmo big)
theorem Zpe : Zo Tryz.prog 218 Zmp := Y3 ⟨Tryz.f218, by kernel_rfl, rfl, by decide⟩ fun _ _ h => Zw Zpd (f := Tryz.f218) (by kernel_rfl) rfl (by kernel_rfl) (by kernel_rfl) big h
noncomputable def Zey (n : Nat) (a0 : Zl) (a1 : ZX) : Option (Unit × Zl × Unit) := Zmo n (a0, a1, ())
noncomputable def ZsW (n : Nat) (x : KD QC.1) (y : BD QC.2) := Yh (env (false, false, [3, 6, 7, 8, 14, 15, 16, 23, 25, 26, 27, 33]) ZaB) Zij (body Tryz.f218) (VV (false, false, [3, 6, 7, 8, 14, 15, 16, 23, 25, 26, 27, 33]) ZaB [] Tryz.f218 (shO shN [.mu Zr]) [AP.enc (.mu Zr) (ZT Zr), AP.enc (.ro ZV) (ZT ZV)]) n 2 QC x y
noncomputable def QD (n : Nat) (s4 : Int) (b5_0 : Int) (b5_1 : Bool) (b5_2 : Int) (b5_3 : (List Zm)) (b5_4 : (List Zu)) (b5_5 : (List Zc)) (b5_6 : (List Ze)) (b5_7 : (List ZL)) (b6_0 : Int) (b6_1 : Int) (b6_2 : Int) (b6_3 : Int) : Option (Unit × Zl × Unit) := ZsW n (s4, ()) ((b5_0, b5_1, b5_2, b5_3, b5_4, b5_5, b5_6, b5_7, ()), (b6_0, b6_1, b6_2, b6_3, ()), ())
theorem Zpf (n : Nat) (a0 : Zl) (a1 : ZX) : Zey n a0 a1 =
  QD n (0 : Int) a0.1 a0.2.1 a0.2.2.1 a0.2.2.2.1 a0.2.2.2.2.1
 a0.2.2.2.2.2.1 a0.2.2.2.2.2.2.1 a0.2.2.2.2.2.2.2.1 a1.1 a1.2.1
 a1.2.2.1 a1.2.2.2.1 := by kernel_rfl
theorem Za5 (n : Nat) (s4 : Int) (b5_0 : Int) (b5_1 : Bool) (b5_2 : Int) (b5_3 : (List Zm)) (b5_4 : (List Zu)) (b5_5 : (List Zc)) (b5_6 : (List Ze)) (b5_7 : (List ZL)) (b6_0 : Int) (b6_1 : Int) (b6_2 : Int) (b6_3 : Int) : QD (n + 1) s4 b5_0 b5_1 b5_2 b5_3 b5_4 b5_5 b5_6 b5_7 b6_0 b6_1 b6_2 b6_3 = bif decide (s4 < (↑b5_6.length : Int)) then if (0 : Int) ≤ s4 then if s4 < (↑b5_6.length : Int) then (nth b5_6 s4.toNat).bind fun y => bif eqD ZV y (b6_0, b6_1, b6_2, b6_3, ()) then some ((), (b5_0, b5_1, b5_2, b5_3, b5_4, b5_5, b5_6, b5_7, ()), ()) else QD n (IntKind.i64.wrap (s4 + (1 : Int))) b5_0 b5_1 b5_2 b5_3 b5_4 b5_5 b5_6 b5_7 b6_0 b6_1 b6_2 b6_3 else none else none else (fun zB => XA (XA zB zB) zB) (if (0 : Nat) + b5_6.length ≤ lim then if b5_6.length + [(b6_0, b6_1, b6_2, b6_3, ())].length ≤ lim then some ((), (b5_0, b5_1, b5_2, b5_3, b5_4, b5_5, b5_6.append [(b6_0, b6_1, b6_2, b6_3, ())], b5_7, ()), ()) else none else none) := by kernel_rfl
end Go.Sx.Tryz
set_option maxRecDepth 100000
namespace Go.Sx.Tryz
open Go Go.Sx Go.Proofs
noncomputable def KX : List (Nat × Con) := [(182, Zg8), (106, Wt), (216, ZfP), (217, Zml), (218, Zmp), (214, Ka)]
theorem Zmq : ∀ q ∈ KX, Zo Tryz.prog q.1 q.2 := Tryz.cons_cons ZfQ (Tryz.cons_cons XR (Tryz.cons_cons Zjh (Tryz.cons_cons Zo8 (Tryz.cons_cons Zpe (Tryz.cons_cons Uk (Tryz.cons_nil))))))
abbrev Vs : List Wa × List BK := ([.is (.ptr 5 0), .drop, .drop, .drop, .drop, .drop, .drop, .is (.own 25 0), .ro Za, .drop, .drop, .drop, .drop, .drop, .drop, .drop, .drop, .drop, .drop, .drop, .drop, .drop, .drop, .drop, .drop, .drop, .drop, .drop, .drop, .drop, .drop, .drop, .drop, .drop, .drop, .drop, .drop, .drop, .drop, .drop, .drop, .drop, .drop, .drop, .drop, .drop, .drop, .drop, .drop, .drop, .drop, .drop, .drop, .drop, .drop, .drop, .drop, .drop, .drop, .drop, .drop, .drop, .drop, .drop, .drop, .drop, .drop, .drop, .drop, .drop, .drop, .drop, .drop, .drop, .drop, .drop, .drop, .drop, .drop, .drop, .drop, .drop, .drop, .drop, .drop, .drop, .drop, .drop, .drop, .drop, .drop, .drop, .drop, .drop, .drop, .drop, .drop, .drop, .drop, .drop, .drop, .drop, .drop, .drop, .drop, .drop, .drop, .drop, .drop, .drop, .drop, .drop, .drop, .drop, .drop, .drop, .drop], [.drop, .drop, .drop, .drop, .drop, .vars [.ro Za, .ro ZE, .ro Za, .own ZJ, .own ZW, .own Zg, .own Zk, .own ZU], .drop, .drop, .drop, .drop, .drop, .drop, .drop, .drop, .drop, .drop, .drop, .drop, .drop, .drop, .drop, .drop, .drop, .drop, .drop, .arr Zg])
def ZfR : KP := [(11, Vs)]
noncomputable def Zik (n : Nat) (x : AP.denL [.mu Zr, .ro Zn]) := evX (true, true, [5, 17, 18, 20, 25, 26, 27, 30, 31, 32, 34, 36, 37, 38, 40, 41, 42, 44, 45, 46, 48, 58, 59, 60, 62, 64, 65, 66, 68, 69, 70, 72, 73, 74, 76, 104, 105, 106]) KX ZfR [none] Tryz.f181 (shO (shV ZE) [.mu Zr]) n (AP.encL [.mu Zr, .ro Zn] x)
noncomputable def Zil : Con := apS [.mu Zr, .ro Zn] true (shO (shV ZE) [.mu Zr]) (Zik big)
theorem Zmr : Zo Tryz.prog 181 Zil := Y3 ⟨Tryz.f181, by kernel_rfl, rfl, by decide⟩ fun _ _ h => Zw Zmq (f := Tryz.f181) (by kernel_rfl) rfl (by kernel_rfl) (by kernel_rfl) big h
noncomputable def Zb9 (n : Nat) (a0 : Zl) (a1 : Int) : Option (Bool × Zl × Unit) := Zik n (a0, a1, ())
noncomputable def Zms (n : Nat) (x : KD Vs.1) (y : BD Vs.2) := Yh (env (true, true, [5, 17, 18, 20, 25, 26, 27, 30, 31, 32, 34, 36, 37, 38, 40, 41, 42, 44, 45, 46, 48, 58, 59, 60, 62, 64, 65, 66, 68, 69, 70, 72, 73, 74, 76, 104, 105, 106]) KX) ZfR (body Tryz.f181) (VV (true, true, [5, 17, 18, 20, 25, 26, 27, 30, 31, 32, 34, 36, 37, 38, 40, 41, 42, 44, 45, 46, 48, 58, 59, 60, 62, 64, 65, 66, 68, 69, 70, 72, 73, 74, 76, 104, 105, 106]) KX [none] Tryz.f181 (shO (shV ZE) [.mu Zr]) [AP.enc (.mu Zr) (ZT Zr), AP.enc (.ro Zn) (ZT Zn)]) n 11 Vs x y
noncomputable def Ys (n : Nat) (s8 : Int) (b5_0 : Int) (b5_1 : Bool) (b5_2 : Int) (b5_3 : (List Zm)) (b5_4 : (List Zu)) (b5_5 : (List Zc)) (b5_6 : (List Ze)) (b5_7 : (List ZL)) (b25 : (List Zc)) : Option (Bool × Zl × Unit) := Zms n (s8, ()) ((b5_0, b5_1, b5_2, b5_3, b5_4, b5_5, b5_6, b5_7, ()), b25, ())
theorem Zmt (n : Nat) (a0 : Zl) (a1 : Int) : Zb9 n a0 a1 = (ZcZ big a0 a1).bind fun y => bif !y.1.2.1 then some (false, y.2) else (XM big y.2.1 y.1.1.2.2.1).bind fun y_1 => bif !y_1 then some (true, y.2) else bif y.2.1.2.1 then if (0 : Int) ≤ y.1.1.2.2.1 then if y.1.1.2.2.1 < (↑(List.length y.2.1.2.2.2.2.1) : Int) then (nth y.2.1.2.2.2.2.1 (Int.toNat y.1.1.2.2.1)).bind fun y_2 => (QB big y.2.1.2.2.2.1 y.2.1.1 y_2 y.1.1).bind fun y_3 => (Zdf y.2.1.2.2.2.2.1 (Int.toNat y.1.1.2.2.1) y_2).bind fun y_4 => if (0 : Int) ≤ y.1.1.2.2.1 then if y.1.1.2.2.1 < (↑y_4.length : Int) then (nth y_4 (Int.toNat y.1.1.2.2.1)).bind fun y_5 => (Zdf y_4 (Int.toNat y.1.1.2.2.1) y_3.1).bind fun y_6 => Ys n (0 : Int) y.2.1.1 y.2.1.2.1 y.2.1.2.2.1 y.2.1.2.2.2.1 y_6 y.2.1.2.2.2.2.2.1 y.2.1.2.2.2.2.2.2.1 y.2.1.2.2.2.2.2.2.2.1 y_3.2.1 else none else none else none else none else if (0 : Int) ≤ y.1.1.2.2.1 then if y.1.1.2.2.1 < (↑(List.length y.2.1.2.2.2.2.1) : Int) then (nth y.2.1.2.2.2.2.1 (Int.toNat y.1.1.2.2.1)).bind fun y_2 => (ZaA big y.2.1.2.2.2.1 y.2.1.1 y_2 y.1.1).bind fun y_3 => (Zdf y.2.1.2.2.2.2.1 (Int.toNat y.1.1.2.2.1) y_2).bind fun y_4 => if (0 : Int) ≤ y.1.1.2.2.1 then if y.1.1.2.2.1 < (↑y_4.length : Int) then (nth y_4 (Int.toNat y.1.1.2.2.1)).bind fun y_5 => (Zdf y_4 (Int.toNat y.1.1.2.2.1) y_3.1).bind fun y_6 => Ys n (0 : Int) y.2.1.1 y.2.1.2.1 y.2.1.2.2.1 y.2.1.2.2.2.1 y_6 y.2.1.2.2.2.2.2.1 y.2.1.2.2.2.2.2.2.1 y.2.1.2.2.2.2.2.2.2.1 y_3.2.1 else none else none else none else none := by kernel_rfl
theorem KY (n : Nat) (s8 : Int) (b5_0 : Int) (b5_1 : Bool) (b5_2 : Int) (b5_3 : (List Zm)) (b5_4 : (List Zu)) (b5_5 : (List Zc)) (b5_6 : (List Ze)) (b5_7 : (List ZL)) (b25 : (List Zc)) : Ys (n + 1) s8 b5_0 b5_1 b5_2 b5_3 b5_4 b5_5 b5_6 b5_7 b25 = bif decide (s8 < (↑b25.length : Int)) then if (0 : Int) ≤ s8 then if s8 < (↑b25.length : Int) then (nth b25 s8.toNat).bind fun y => bif decide (y.1 = (2 : Int)) then if (0 : Int) ≤ s8 then if s8 < (↑b25.length : Int) then (nth b25 s8.toNat).bind fun y => (Zey big (b5_0, b5_1, b5_2, b5_3, b5_4, b5_5, b5_6, b5_7, ()) y.2.2.2.2.2.2.1).bind fun y => bif decide ((↑(List.length y.2.1.2.2.2.2.2.1) : Int) < (60 : Int)) then if (0 : Int) ≤ IntKind.i64.wrap (s8 + (1 : Int)) then if IntKind.i64.wrap (s8 + (1 : Int)) ≤ (↑b25.length : Int) then if (0 : Int) ≤ s8 then if s8 ≤ IntKind.i64.wrap (s8 + (1 : Int)) then (WW big y.2.1 (List.take ((IntKind.i64.wrap (s8 + (1 : Int))).toNat - s8.toNat) (List.drop s8.toNat b25))).bind fun y => Ys n (IntKind.i64.wrap (s8 + (1 : Int))) y.2.1.1 y.2.1.2.1 y.2.1.2.2.1 y.2.1.2.2.2.1 y.2.1.2.2.2.2.1 y.2.1.2.2.2.2.2.1 y.2.1.2.2.2.2.2.2.1 y.2.1.2.2.2.2.2.2.2.1 b25 else none else none else none else none else Ys n (IntKind.i64.wrap (s8 + (1 : Int))) y.2.1.1 y.2.1.2.1 y.2.1.2.2.1 y.2.1.2.2.2.1 y.2.1.2.2.2.2.1 y.2.1.2.2.2.2.2.1 y.2.1.2.2.2.2.2.2.1 y.2.1.2.2.2.2.2.2.2.1 b25 else none else none else bif decide ((↑b5_5.length : Int) < (60 : Int)) then if (0 : Int) ≤ IntKind.i64.wrap (s8 + (1 : Int)) then if IntKind.i64.wrap (s8 + (1 : Int)) ≤ (↑b25.length : Int) then if (0 : Int) ≤ s8 then if s8 ≤ IntKind.i64.wrap (s8 + (1 : Int)) then (WW big (b5_0, b5_1, b5_2, b5_3, b5_4, b5_5, b5_6, b5_7, ()) (List.take ((IntKind.i64.wrap (s8 + (1 : Int))).toNat - s8.toNat) (List.drop s8.toNat b25))).bind fun y => Ys n (IntKind.i64.wrap (s8 + (1 : Int))) y.2.1.1 y.2.1.2.1 y.2.1.2.2.1 y.2.1.2.2.2.1 y.2.1.2.2.2.2.1 y.2.1.2.2.2.2.2.1 y.2.1.2.2.2.2.2.2.1 y.2.1.2.2.2.2.2.2.2.1 b25 else none else none else none else none else Ys n (IntKind.i64.wrap (s8 + (1 : Int))) b5_0 b5_1 b5_2 b5_3 b5_4 b5_5 b5_6 b5_7 b25 else none else none else some (true, (b5_0, b5_1, b5_2, b5_3, b5_4, b5_5, b5_6, b5_7, ()), ()) := by kernel_rfl
end Go.Sx.Tryz
set_option maxRecDepth 100000
namespace Go.Sx.Tryz
open Go Go.Sx Go.Proofs
noncomputable def Zmu : List (Nat × Con) := [(106, Wt), (18, ZbV), (214, Ka)]
theorem Zpg : ∀ q ∈ Zmu, Zo Tryz.prog q.1 q.2 := Tryz.cons_cons XR (Tryz.cons_cons ZbW (Tryz.cons_cons Uk (Tryz.cons_nil)))
def ZvD : KP := []
noncomputable def Zmv (n : Nat) (x : AP.denL [.mu Zr, .ro Zn]) := evX (true, true, [5, 6, 8, 9, 15, 16, 17, 22, 23, 24, 32, 33, 34, 999999]) Zmu ZvD [none] Tryz.f184 (shO (shV ZE) [.mu Zr]) n (AP.encL [.mu Zr, .ro Zn] x)
noncomputable def Zmw : Con := apS [.mu Zr, .ro Zn] true (shO (shV ZE) [.mu Zr]) (Zmv big)
theorem Zph : Zo Tryz.prog 184 Zmw := Y3 ⟨Tryz.f184, by kernel_rfl, rfl, by decide⟩ fun _ _ h => Zw Zpg (f := Tryz.f184) (by kernel_rfl) rfl (by kernel_rfl) (by kernel_rfl) big h
noncomputable def Zez (n : Nat) (a0 : Zl) (a1 : Int) : Option (Bool × Zl × Unit) := Zmv n (a0, a1, ())
theorem Zpi (n : Nat) (a0 : Zl) (a1 : Int) : Zez n a0 a1 = (XM big a0 a1).bind fun y => bif !y then some (false, a0, ()) else if (0 : Int) ≤ a1 then if a1 < (↑(List.length a0.2.2.2.2.1) : Int) then (nth a0.2.2.2.2.1 a1.toNat).bind fun y => (Uz big y a0.1).bind fun y_1 => (Zdf a0.2.2.2.2.1 a1.toNat y).bind fun y => (fun zB => XA zB zB) (bif !y_1.2.2.1 then some (false, (a0.1, a0.2.1, a0.2.2.1, a0.2.2.2.1, y, a0.2.2.2.2.2), ()) else if (0 : Int) ≤ a1 then if a1 < (↑y.length : Int) then (nth y a1.toNat).bind fun y_2 => (Zdf y a1.toNat y_1.1).bind fun y => (WW big (a0.1, a0.2.1, a0.2.2.1, a0.2.2.2.1, y, a0.2.2.2.2.2) [y_1.2.1]).bind fun y => some (true, y.2) else none else none) else none else none := by kernel_rfl
end Go.Sx.Tryz
