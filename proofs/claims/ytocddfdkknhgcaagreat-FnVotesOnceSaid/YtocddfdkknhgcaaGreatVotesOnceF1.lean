/- The functions of the seat: what each comes to. -/
import Derived.Test.YtocddfdkknhgcaaGreatTypes
set_option linter.unusedVariables false
set_option linter.unusedSimpArgs false
set_option maxRecDepth 100000
namespace Go.Sx.Tryz
open Go Go.Sx Go.Proofs
noncomputable def l_s_l01New : List (Nat × Con) := []
theorem l_s_l01New_ok : ∀ q ∈ l_s_l01New, ConOk Tryz.prog q.1 q.2 := Tryz.cons_nil
abbrev k_s_l01New_3 : List Keep × List BK := ([.ro tSlUint8, .drop, .drop, .ro tInt64, .ro tInt64, .drop, .drop, .drop, .drop, .drop, .drop, .drop, .drop, .drop, .drop, .drop, .drop, .drop, .drop, .drop, .drop, .drop, .drop, .drop, .drop, .drop, .drop, .drop, .drop, .drop, .drop, .drop], [])
def kp_s_l01New : KP := [(3, k_s_l01New_3)]
noncomputable def q_s_l01New (n : Nat) (x : Args [tSlUint8]) := evX (false, false, []) l_s_l01New kp_s_l01New [none] Tryz.f57 (shP tSl01Cur) n (encA [tSlUint8] x)
noncomputable def c_s_l01New : Con := roS [tSlUint8] false (shP tSl01Cur) (q_s_l01New big)
theorem c_s_l01New_ok : ConOk Tryz.prog 57 c_s_l01New := roS_ok ⟨Tryz.f57, by kernel_rfl, rfl, by decide⟩ fun _ _ h => evX_ok l_s_l01New_ok (f := Tryz.f57) (by kernel_rfl) rfl (by kernel_rfl) (by kernel_rfl) big h
noncomputable def Q_s_l01New (n : Nat) (a0 : DSlUint8) : Option DSl01Cur := q_s_l01New n (a0, ())
noncomputable def r_s_l01New_3 (n : Nat) (x : KD k_s_l01New_3.1) (y : BD k_s_l01New_3.2) := rounds (env (false, false, []) l_s_l01New) kp_s_l01New (body Tryz.f57) (finX (false, false, []) l_s_l01New [none] Tryz.f57 (shP tSl01Cur) [.val tSlUint8 (zeroD tSlUint8)]) n 3 k_s_l01New_3 x y
noncomputable def R_s_l01New_3 (n : Nat) (s0 : DSlUint8) (s3 : Int) (s4 : Int) : Option DSl01Cur := r_s_l01New_3 n (s0, s3, s4, ()) ()
theorem Q_s_l01New_eq (n : Nat) (a0 : DSlUint8) : Q_s_l01New n a0 =
  R_s_l01New_3 n a0 (IntKind.i64.wrap ((78001 : Int) + (↑(List.length a0) : Int))) (0 : Int) := by kernel_rfl
theorem R_s_l01New_3_eq (n : Nat) (s0 : DSlUint8) (s3 : Int) (s4 : Int) : R_s_l01New_3 (n + 1) s0 s3 s4 =
  bif decide (s4 < (↑(List.length s0) : Int)) then
 bif decide (s4 < (4000 : Int)) then
 if (0 : Int) ≤ s4 then
 (nth s0 s4.toNat).bind fun y =>
 R_s_l01New_3 n s0
 (IntKind.i64.wrap
 (↑(BitVec.ofInt IntKind.i64.bits
 (IntKind.i64.wrap
 (IntKind.i64.wrap (IntKind.i64.wrap (s3 * (131 : Int)) + IntKind.i64.wrap y) + (7 : Int))) &&&
 BitVec.ofInt IntKind.i64.bits (1073741823 : Int)).toNat :
 Int))
 (IntKind.i64.wrap (s4 + (1 : Int)))
 else none
 else some (s0, (0 : Int), s3, ())
 else some (s0, (0 : Int), s3, ()) := by kernel_rfl
end Go.Sx.Tryz
set_option maxRecDepth 100000
namespace Go.Sx.Tryz
open Go Go.Sx Go.Proofs
noncomputable def l_s_l01Byte : List (Nat × Con) := []
theorem l_s_l01Byte_ok : ∀ q ∈ l_s_l01Byte, ConOk Tryz.prog q.1 q.2 := Tryz.cons_nil
def kp_s_l01Byte : KP := []
noncomputable def q_s_l01Byte (n : Nat) (x : AP.denL [.mr tSl01Cur]) := evX (false, false, [4, 5, 6, 7, 11, 13, 14, 15, 18, 19, 20, 25, 26, 27, 29, 30, 31, 36, 37, 38, 40, 41, 42, 49, 50, 51, 52, 55]) l_s_l01Byte kp_s_l01Byte [none] Tryz.f58 (shO (shV tInt) [.mr tSl01Cur]) n (AP.encL [.mr tSl01Cur] x)
noncomputable def c_s_l01Byte : Con := apS [.mr tSl01Cur] false (shO (shV tInt) [.mr tSl01Cur]) (q_s_l01Byte big)
theorem c_s_l01Byte_ok : ConOk Tryz.prog 58 c_s_l01Byte := apS_ok ⟨Tryz.f58, by kernel_rfl, rfl, by decide⟩ fun _ _ h => evX_ok l_s_l01Byte_ok (f := Tryz.f58) (by kernel_rfl) rfl (by kernel_rfl) (by kernel_rfl) big h
noncomputable def Q_s_l01Byte (n : Nat) (a0 : DSl01Cur) : Option (Int × DSl01Cur × Unit) := q_s_l01Byte n (a0, ())
theorem Q_s_l01Byte_eq (n : Nat) (a0 : DSl01Cur) : Q_s_l01Byte n a0 =
  bif decide (a0.2.1 < (↑(List.length a0.1) : Int)) then
 if (0 : Int) ≤ a0.2.1 then
 (nth a0.1 (Int.toNat a0.2.1)).bind fun y =>
 some
 (IntKind.i64.wrap
 (↑(BitVec.ofInt IntKind.i64.bits
 (IntKind.i64.wrap
 (IntKind.i64.wrap
 (↑(BitVec.ofInt IntKind.i64.bits
 (IntKind.i64.wrap
 (↑(BitVec.ofInt IntKind.i64.bits
 ((IntKind.i64.wrap
 (IntKind.i64.wrap
 (a0.2.2.1 * (6364136223846793005 : Int)) +
 (1442695040888963407 : Int))).fdiv
 ((2 : Int) ^ min (Int.toNat (33 : Int)) IntKind.i64.bits)) ^^^
 BitVec.ofInt IntKind.i64.bits
 ((IntKind.i64.wrap
 (IntKind.i64.wrap
 (a0.2.2.1 * (6364136223846793005 : Int)) +
 (1442695040888963407 : Int))).fdiv
 ((2 : Int) ^
 min (Int.toNat (45 : Int)) IntKind.i64.bits))).toNat :
 Int)) &&&
 BitVec.ofInt IntKind.i64.bits (255 : Int)).toNat :
 Int) +
 IntKind.i64.wrap y)) &&&
 BitVec.ofInt IntKind.i64.bits (255 : Int)).toNat :
 Int),
 (a0.1, IntKind.i64.wrap (a0.2.1 + (1 : Int)),
 IntKind.i64.wrap
 (IntKind.i64.wrap (a0.2.2.1 * (6364136223846793005 : Int)) + (1442695040888963407 : Int)),
 ()),
 ())
 else none
 else
 some
 (IntKind.i64.wrap
 (↑(BitVec.ofInt IntKind.i64.bits
 (IntKind.i64.wrap
 (↑(BitVec.ofInt IntKind.i64.bits
 ((IntKind.i64.wrap
 (IntKind.i64.wrap (a0.2.2.1 * (6364136223846793005 : Int)) +
 (1442695040888963407 : Int))).fdiv
 ((2 : Int) ^ min (Int.toNat (33 : Int)) IntKind.i64.bits)) ^^^
 BitVec.ofInt IntKind.i64.bits
 ((IntKind.i64.wrap
 (IntKind.i64.wrap (a0.2.2.1 * (6364136223846793005 : Int)) +
 (1442695040888963407 : Int))).fdiv
 ((2 : Int) ^ min (Int.toNat (45 : Int)) IntKind.i64.bits))).toNat :
 Int)) &&&
 BitVec.ofInt IntKind.i64.bits (255 : Int)).toNat :
 Int),
 (a0.1, a0.2.1,
 IntKind.i64.wrap
 (IntKind.i64.wrap (a0.2.2.1 * (6364136223846793005 : Int)) + (1442695040888963407 : Int)),
 ()),
 ()) := by kernel_rfl
end Go.Sx.Tryz
set_option maxRecDepth 100000
namespace Go.Sx.Tryz
open Go Go.Sx Go.Proofs
noncomputable def l_s_l01Below : List (Nat × Con) := [(58, c_s_l01Byte)]
theorem l_s_l01Below_ok : ∀ q ∈ l_s_l01Below, ConOk Tryz.prog q.1 q.2 := Tryz.cons_cons c_s_l01Byte_ok (Tryz.cons_nil)
def kp_s_l01Below : KP := []
noncomputable def q_s_l01Below (n : Nat) (x : AP.denL [.mr tSl01Cur, .ro tInt]) := evX (false, false, []) l_s_l01Below kp_s_l01Below [none] Tryz.f59 (shO (shV tInt) [.mr tSl01Cur]) n (AP.encL [.mr tSl01Cur, .ro tInt] x)
noncomputable def c_s_l01Below : Con := apS [.mr tSl01Cur, .ro tInt] false (shO (shV tInt) [.mr tSl01Cur]) (q_s_l01Below big)
theorem c_s_l01Below_ok : ConOk Tryz.prog 59 c_s_l01Below := apS_ok ⟨Tryz.f59, by kernel_rfl, rfl, by decide⟩ fun _ _ h => evX_ok l_s_l01Below_ok (f := Tryz.f59) (by kernel_rfl) rfl (by kernel_rfl) (by kernel_rfl) big h
noncomputable def Q_s_l01Below (n : Nat) (a0 : DSl01Cur) (a1 : Int) : Option (Int × DSl01Cur × Unit) := q_s_l01Below n (a0, a1, ())
theorem Q_s_l01Below_eq (n : Nat) (a0 : DSl01Cur) (a1 : Int) : Q_s_l01Below n a0 a1 =
  bif decide (a1 ≤ (0 : Int)) then some ((0 : Int), a0, ())
 else
 bif decide (a1 ≤ (256 : Int)) then
 (Q_s_l01Byte big a0).bind fun y => if a1 = (0 : Int) then none else some (Int.tmod y.1 a1, y.2)
 else
 (Q_s_l01Byte big a0).bind fun y =>
 (Q_s_l01Byte big y.2.1).bind fun y_1 =>
 (Q_s_l01Byte big y_1.2.1).bind fun y_2 =>
 (Q_s_l01Byte big y_2.2.1).bind fun y_3 =>
 if a1 = (0 : Int) then none
 else
 some
 ((IntKind.i64.wrap
 (IntKind.i64.wrap
 (IntKind.i64.wrap
 (IntKind.i64.wrap (y.1 * (16777216 : Int)) +
 IntKind.i64.wrap (y_1.1 * (65536 : Int))) +
 IntKind.i64.wrap (y_2.1 * (256 : Int))) +
 y_3.1)).tmod
 a1,
 y_3.2) := by kernel_rfl
end Go.Sx.Tryz
set_option maxRecDepth 100000
namespace Go.Sx.Tryz
open Go Go.Sx Go.Proofs
noncomputable def l_s_l01Once : List (Nat × Con) := [(59, c_s_l01Below)]
theorem l_s_l01Once_ok : ∀ q ∈ l_s_l01Once, ConOk Tryz.prog q.1 q.2 := Tryz.cons_cons c_s_l01Below_ok (Tryz.cons_nil)
def kp_s_l01Once : KP := []
noncomputable def q_s_l01Once (n : Nat) (x : AP.denL [.mr tSl01Cur, .ro tInt]) := evX (false, false, []) l_s_l01Once kp_s_l01Once [none] Tryz.f63 (shO (shV tBool) [.mr tSl01Cur]) n (AP.encL [.mr tSl01Cur, .ro tInt] x)
noncomputable def c_s_l01Once : Con := apS [.mr tSl01Cur, .ro tInt] false (shO (shV tBool) [.mr tSl01Cur]) (q_s_l01Once big)
theorem c_s_l01Once_ok : ConOk Tryz.prog 63 c_s_l01Once := apS_ok ⟨Tryz.f63, by kernel_rfl, rfl, by decide⟩ fun _ _ h => evX_ok l_s_l01Once_ok (f := Tryz.f63) (by kernel_rfl) rfl (by kernel_rfl) (by kernel_rfl) big h
noncomputable def Q_s_l01Once (n : Nat) (a0 : DSl01Cur) (a1 : Int) : Option (Bool × DSl01Cur × Unit) := q_s_l01Once n (a0, a1, ())
theorem Q_s_l01Once_eq (n : Nat) (a0 : DSl01Cur) (a1 : Int) : Q_s_l01Once n a0 a1 =
  (Q_s_l01Below big a0 a1).bind fun y => some (decide (y.1 = (0 : Int)), y.2) := by kernel_rfl
end Go.Sx.Tryz
set_option maxRecDepth 100000
namespace Go.Sx.Tryz
open Go Go.Sx Go.Proofs
noncomputable def l_s_l01PickInt : List (Nat × Con) := [(59, c_s_l01Below)]
theorem l_s_l01PickInt_ok : ∀ q ∈ l_s_l01PickInt, ConOk Tryz.prog q.1 q.2 := Tryz.cons_cons c_s_l01Below_ok (Tryz.cons_nil)
def kp_s_l01PickInt : KP := []
noncomputable def q_s_l01PickInt (n : Nat) (x : AP.denL [.mr tSl01Cur, .ro tSlInt]) := evX (false, false, []) l_s_l01PickInt kp_s_l01PickInt [none] Tryz.f62 (shO (shV tInt) [.mr tSl01Cur]) n (AP.encL [.mr tSl01Cur, .ro tSlInt] x)
noncomputable def c_s_l01PickInt : Con := apS [.mr tSl01Cur, .ro tSlInt] false (shO (shV tInt) [.mr tSl01Cur]) (q_s_l01PickInt big)
theorem c_s_l01PickInt_ok : ConOk Tryz.prog 62 c_s_l01PickInt := apS_ok ⟨Tryz.f62, by kernel_rfl, rfl, by decide⟩ fun _ _ h => evX_ok l_s_l01PickInt_ok (f := Tryz.f62) (by kernel_rfl) rfl (by kernel_rfl) (by kernel_rfl) big h
noncomputable def Q_s_l01PickInt (n : Nat) (a0 : DSl01Cur) (a1 : DSlInt) : Option (Int × DSl01Cur × Unit) := q_s_l01PickInt n (a0, a1, ())
theorem Q_s_l01PickInt_eq (n : Nat) (a0 : DSl01Cur) (a1 : DSlInt) : Q_s_l01PickInt n a0 a1 =
  (Q_s_l01Below big a0 (↑(List.length a1) : Int)).bind fun y =>
 if (0 : Int) ≤ y.1 then (nth a1 (Int.toNat y.1)).bind fun y_1 => some (y_1, y.2) else none := by kernel_rfl
end Go.Sx.Tryz
set_option maxRecDepth 100000
namespace Go.Sx.Tryz
open Go Go.Sx Go.Proofs
noncomputable def l_s_l01Pick : List (Nat × Con) := [(59, c_s_l01Below)]
theorem l_s_l01Pick_ok : ∀ q ∈ l_s_l01Pick, ConOk Tryz.prog q.1 q.2 := Tryz.cons_cons c_s_l01Below_ok (Tryz.cons_nil)
def kp_s_l01Pick : KP := []
noncomputable def q_s_l01Pick (n : Nat) (x : AP.denL [.mr tSl01Cur, .ro tSlString]) := evX (false, false, []) l_s_l01Pick kp_s_l01Pick [none] Tryz.f199 (shO (shV tString) [.mr tSl01Cur]) n (AP.encL [.mr tSl01Cur, .ro tSlString] x)
noncomputable def c_s_l01Pick : Con := apS [.mr tSl01Cur, .ro tSlString] false (shO (shV tString) [.mr tSl01Cur]) (q_s_l01Pick big)
theorem c_s_l01Pick_ok : ConOk Tryz.prog 199 c_s_l01Pick := apS_ok ⟨Tryz.f199, by kernel_rfl, rfl, by decide⟩ fun _ _ h => evX_ok l_s_l01Pick_ok (f := Tryz.f199) (by kernel_rfl) rfl (by kernel_rfl) (by kernel_rfl) big h
noncomputable def Q_s_l01Pick (n : Nat) (a0 : DSl01Cur) (a1 : DSlString) : Option (ByteArray × DSl01Cur × Unit) := q_s_l01Pick n (a0, a1, ())
theorem Q_s_l01Pick_eq (n : Nat) (a0 : DSl01Cur) (a1 : DSlString) : Q_s_l01Pick n a0 a1 =
  (Q_s_l01Below big a0 (↑(List.length a1) : Int)).bind fun y =>
 if (0 : Int) ≤ y.1 then (nth a1 (Int.toNat y.1)).bind fun y_1 => some (y_1, y.2) else none := by kernel_rfl
end Go.Sx.Tryz
set_option maxRecDepth 100000
namespace Go.Sx.Tryz
open Go Go.Sx Go.Proofs
noncomputable def l_s_l01In : List (Nat × Con) := []
theorem l_s_l01In_ok : ∀ q ∈ l_s_l01In, ConOk Tryz.prog q.1 q.2 := Tryz.cons_nil
def kp_s_l01In : KP := []
noncomputable def q_s_l01In (n : Nat) (x : Args [tInt, tInt, tInt]) := evX (false, false, []) l_s_l01In kp_s_l01In [none] Tryz.f67 (shV tBool) n (encA [tInt, tInt, tInt] x)
noncomputable def c_s_l01In : Con := roS [tInt, tInt, tInt] true (shV tBool) (q_s_l01In big)
theorem c_s_l01In_ok : ConOk Tryz.prog 67 c_s_l01In := roS_ok ⟨Tryz.f67, by kernel_rfl, rfl, by decide⟩ fun _ _ h => evX_ok l_s_l01In_ok (f := Tryz.f67) (by kernel_rfl) rfl (by kernel_rfl) (by kernel_rfl) big h
noncomputable def Q_s_l01In (n : Nat) (a0 : Int) (a1 : Int) (a2 : Int) : Option Bool := q_s_l01In n (a0, a1, a2, ())
theorem Q_s_l01In_eq (n : Nat) (a0 : Int) (a1 : Int) (a2 : Int) : Q_s_l01In n a0 a1 a2 =
  bif decide (a1 ≤ a0) then some (decide (a0 ≤ a2)) else some false := by kernel_rfl
end Go.Sx.Tryz
set_option maxRecDepth 100000
namespace Go.Sx.Tryz
open Go Go.Sx Go.Proofs
noncomputable def l_s_l03Key : List (Nat × Con) := [(199, c_s_l01Pick)]
theorem l_s_l03Key_ok : ∀ q ∈ l_s_l03Key, ConOk Tryz.prog q.1 q.2 := Tryz.cons_cons c_s_l01Pick_ok (Tryz.cons_nil)
def kp_s_l03Key : KP := []
noncomputable def q_s_l03Key (n : Nat) (x : AP.denL [.mr tSl01Cur]) := evX (false, false, []) l_s_l03Key kp_s_l03Key [none] Tryz.f226 (shO (shV tString) [.mr tSl01Cur]) n (AP.encL [.mr tSl01Cur] x)
noncomputable def c_s_l03Key : Con := apS [.mr tSl01Cur] false (shO (shV tString) [.mr tSl01Cur]) (q_s_l03Key big)
theorem c_s_l03Key_ok : ConOk Tryz.prog 226 c_s_l03Key := apS_ok ⟨Tryz.f226, by kernel_rfl, rfl, by decide⟩ fun _ _ h => evX_ok l_s_l03Key_ok (f := Tryz.f226) (by kernel_rfl) rfl (by kernel_rfl) (by kernel_rfl) big h
noncomputable def Q_s_l03Key (n : Nat) (a0 : DSl01Cur) : Option (ByteArray × DSl01Cur × Unit) := q_s_l03Key n (a0, ())
theorem Q_s_l03Key_eq (n : Nat) (a0 : DSl01Cur) : Q_s_l03Key n a0 =
  (Q_s_l01Pick big a0
 [ByteArray.mk #[(97 : UInt8)], ByteArray.mk #[(98 : UInt8)], ByteArray.mk #[(99 : UInt8)],
 ByteArray.mk #[(97 : UInt8), (98 : UInt8), (99 : UInt8)]]).bind
 fun y => some y := by kernel_rfl
end Go.Sx.Tryz
set_option maxRecDepth 100000
namespace Go.Sx.Tryz
open Go Go.Sx Go.Proofs
noncomputable def l_s_l03Cmd : List (Nat × Con) := [(59, c_s_l01Below), (226, c_s_l03Key), (62, c_s_l01PickInt)]
theorem l_s_l03Cmd_ok : ∀ q ∈ l_s_l03Cmd, ConOk Tryz.prog q.1 q.2 := Tryz.cons_cons c_s_l01Below_ok (Tryz.cons_cons c_s_l03Key_ok (Tryz.cons_cons c_s_l01PickInt_ok (Tryz.cons_nil)))
def kp_s_l03Cmd : KP := []
noncomputable def q_s_l03Cmd (n : Nat) (x : AP.denL [.mr tSl01Cur]) := evX (false, false, []) l_s_l03Cmd kp_s_l03Cmd [none] Tryz.f187 (shO (shV tICmd) [.mr tSl01Cur]) n (AP.encL [.mr tSl01Cur] x)
noncomputable def c_s_l03Cmd : Con := apS [.mr tSl01Cur] false (shO (shV tICmd) [.mr tSl01Cur]) (q_s_l03Cmd big)
theorem c_s_l03Cmd_ok : ConOk Tryz.prog 187 c_s_l03Cmd := apS_ok ⟨Tryz.f187, by kernel_rfl, rfl, by decide⟩ fun _ _ h => evX_ok l_s_l03Cmd_ok (f := Tryz.f187) (by kernel_rfl) rfl (by kernel_rfl) (by kernel_rfl) big h
noncomputable def Q_s_l03Cmd (n : Nat) (a0 : DSl01Cur) : Option (DICmd × DSl01Cur × Unit) := q_s_l03Cmd n (a0, ())
theorem Q_s_l03Cmd_eq (n : Nat) (a0 : DSl01Cur) : Q_s_l03Cmd n a0 =
  (Q_s_l01Below big a0 (3 : Int)).bind fun y =>
 (Q_s_l03Key big y.2.1).bind fun y_1 =>
 (Q_s_l01PickInt big y_1.2.1 [(0 : Int), (1 : Int), (7 : Int), (500 : Int), (999999999 : Int)]).bind fun y_2 =>
 some ((IntKind.i64.wrap ((1 : Int) + y.1), y_1.1, y_2.1, ()), y_2.2) := by kernel_rfl
end Go.Sx.Tryz
set_option maxRecDepth 100000
namespace Go.Sx.Tryz
open Go Go.Sx Go.Proofs
noncomputable def l_s_CountOf : List (Nat × Con) := []
theorem l_s_CountOf_ok : ∀ q ∈ l_s_CountOf, ConOk Tryz.prog q.1 q.2 := Tryz.cons_nil
abbrev k_s_CountOf_3 : List Keep × List BK := ([.ro tInt64, .drop, .drop, .ro tInt64, .ro tInt64, .drop, .drop, .drop, .drop, .drop, .drop, .drop, .drop, .drop, .drop, .drop, .drop, .drop, .drop, .drop, .drop], [])
def kp_s_CountOf : KP := [(3, k_s_CountOf_3)]
noncomputable def q_s_CountOf (n : Nat) (x : Args [tInt]) := evX (false, false, []) l_s_CountOf kp_s_CountOf [none] Tryz.f174 (shV tInt) n (encA [tInt] x)
noncomputable def c_s_CountOf : Con := roS [tInt] true (shV tInt) (q_s_CountOf big)
theorem c_s_CountOf_ok : ConOk Tryz.prog 174 c_s_CountOf := roS_ok ⟨Tryz.f174, by kernel_rfl, rfl, by decide⟩ fun _ _ h => evX_ok l_s_CountOf_ok (f := Tryz.f174) (by kernel_rfl) rfl (by kernel_rfl) (by kernel_rfl) big h
noncomputable def Q_s_CountOf (n : Nat) (a0 : Int) : Option Int := q_s_CountOf n (a0, ())
noncomputable def r_s_CountOf_3 (n : Nat) (x : KD k_s_CountOf_3.1) (y : BD k_s_CountOf_3.2) := rounds (env (false, false, []) l_s_CountOf) kp_s_CountOf (body Tryz.f174) (finX (false, false, []) l_s_CountOf [none] Tryz.f174 (shV tInt) [.val tInt (zeroD tInt)]) n 3 k_s_CountOf_3 x y
noncomputable def R_s_CountOf_3 (n : Nat) (s0 : Int) (s3 : Int) (s4 : Int) : Option Int := r_s_CountOf_3 n (s0, s3, s4, ()) ()
theorem Q_s_CountOf_eq (n : Nat) (a0 : Int) : Q_s_CountOf n a0 =
  R_s_CountOf_3 n a0 (0 : Int) (0 : Int) := by kernel_rfl
theorem R_s_CountOf_3_eq (n : Nat) (s0 : Int) (s3 : Int) (s4 : Int) : R_s_CountOf_3 (n + 1) s0 s3 s4 =
  bif decide (s4 < (7 : Int)) then
 bif decide ((0 : Int) ≤ s0) then
 if IntKind.u64.wrap s4 < (0 : Int) then none
 else
 R_s_CountOf_3 n s0
 (IntKind.i64.wrap
 (s3 + (s0.fdiv ((2 : Int) ^ min (IntKind.u64.wrap s4).toNat IntKind.i64.bits)).tmod (2 : Int)))
 (IntKind.i64.wrap (s4 + (1 : Int)))
 else some s3
 else some s3 := by kernel_rfl
end Go.Sx.Tryz
set_option maxRecDepth 100000
namespace Go.Sx.Tryz
open Go Go.Sx Go.Proofs
noncomputable def l_s_Faults : List (Nat × Con) := []
theorem l_s_Faults_ok : ∀ q ∈ l_s_Faults, ConOk Tryz.prog q.1 q.2 := Tryz.cons_nil
def kp_s_Faults : KP := []
noncomputable def q_s_Faults (n : Nat) (x : Args [tInt]) := evX (false, false, []) l_s_Faults kp_s_Faults [none] Tryz.f177 (shV tInt) n (encA [tInt] x)
noncomputable def c_s_Faults : Con := roS [tInt] true (shV tInt) (q_s_Faults big)
theorem c_s_Faults_ok : ConOk Tryz.prog 177 c_s_Faults := roS_ok ⟨Tryz.f177, by kernel_rfl, rfl, by decide⟩ fun _ _ h => evX_ok l_s_Faults_ok (f := Tryz.f177) (by kernel_rfl) rfl (by kernel_rfl) (by kernel_rfl) big h
noncomputable def Q_s_Faults (n : Nat) (a0 : Int) : Option Int := q_s_Faults n (a0, ())
theorem Q_s_Faults_eq (n : Nat) (a0 : Int) : Q_s_Faults n a0 =
  bif decide (a0 < (1 : Int)) then some (0 : Int)
 else some (IntKind.i64.wrap ((IntKind.i64.wrap (a0 - (1 : Int))).tdiv (3 : Int))) := by kernel_rfl
end Go.Sx.Tryz
set_option maxRecDepth 100000
namespace Go.Sx.Tryz
open Go Go.Sx Go.Proofs
noncomputable def l_s_Quorum : List (Nat × Con) := [(177, c_s_Faults)]
theorem l_s_Quorum_ok : ∀ q ∈ l_s_Quorum, ConOk Tryz.prog q.1 q.2 := Tryz.cons_cons c_s_Faults_ok (Tryz.cons_nil)
def kp_s_Quorum : KP := []
noncomputable def q_s_Quorum (n : Nat) (x : Args [tInt]) := evX (false, false, []) l_s_Quorum kp_s_Quorum [none] Tryz.f175 (shV tInt) n (encA [tInt] x)
noncomputable def c_s_Quorum : Con := roS [tInt] true (shV tInt) (q_s_Quorum big)
theorem c_s_Quorum_ok : ConOk Tryz.prog 175 c_s_Quorum := roS_ok ⟨Tryz.f175, by kernel_rfl, rfl, by decide⟩ fun _ _ h => evX_ok l_s_Quorum_ok (f := Tryz.f175) (by kernel_rfl) rfl (by kernel_rfl) (by kernel_rfl) big h
noncomputable def Q_s_Quorum (n : Nat) (a0 : Int) : Option Int := q_s_Quorum n (a0, ())
theorem Q_s_Quorum_eq (n : Nat) (a0 : Int) : Q_s_Quorum n a0 =
  (Q_s_Faults big a0).bind fun y => some (IntKind.i64.wrap (a0 - y)) := by kernel_rfl
end Go.Sx.Tryz
set_option maxRecDepth 100000
namespace Go.Sx.Tryz
open Go Go.Sx Go.Proofs
noncomputable def l_s_LeaderOf : List (Nat × Con) := []
theorem l_s_LeaderOf_ok : ∀ q ∈ l_s_LeaderOf, ConOk Tryz.prog q.1 q.2 := Tryz.cons_nil
def kp_s_LeaderOf : KP := []
noncomputable def q_s_LeaderOf (n : Nat) (x : Args [tInt, tInt]) := evX (false, false, []) l_s_LeaderOf kp_s_LeaderOf [none] Tryz.f22 (shV tInt) n (encA [tInt, tInt] x)
noncomputable def c_s_LeaderOf : Con := roS [tInt, tInt] true (shV tInt) (q_s_LeaderOf big)
theorem c_s_LeaderOf_ok : ConOk Tryz.prog 22 c_s_LeaderOf := roS_ok ⟨Tryz.f22, by kernel_rfl, rfl, by decide⟩ fun _ _ h => evX_ok l_s_LeaderOf_ok (f := Tryz.f22) (by kernel_rfl) rfl (by kernel_rfl) (by kernel_rfl) big h
noncomputable def Q_s_LeaderOf (n : Nat) (a0 : Int) (a1 : Int) : Option Int := q_s_LeaderOf n (a0, a1, ())
theorem Q_s_LeaderOf_eq (n : Nat) (a0 : Int) (a1 : Int) : Q_s_LeaderOf n a0 a1 =
  bif decide (a1 < (1 : Int)) then some (0 : Int)
 else
 bif decide (a0 < (0 : Int)) then some (0 : Int)
 else if a1 = (0 : Int) then none else some ((IntKind.i64.wrap (a0.tdiv (4 : Int))).tmod a1) := by kernel_rfl
end Go.Sx.Tryz
set_option maxRecDepth 100000
namespace Go.Sx.Tryz
open Go Go.Sx Go.Proofs
noncomputable def l_s_Lies : List (Nat × Con) := [(67, c_s_l01In)]
theorem l_s_Lies_ok : ∀ q ∈ l_s_Lies, ConOk Tryz.prog q.1 q.2 := Tryz.cons_cons c_s_l01In_ok (Tryz.cons_nil)
def kp_s_Lies : KP := []
noncomputable def q_s_Lies (n : Nat) (x : Args [tICluster, tInt]) := evX (false, false, [2, 5, 10, 20]) l_s_Lies kp_s_Lies [none] Tryz.f114 (shV tBool) n (encA [tICluster, tInt] x)
noncomputable def c_s_Lies : Con := roS [tICluster, tInt] true (shV tBool) (q_s_Lies big)
theorem c_s_Lies_ok : ConOk Tryz.prog 114 c_s_Lies := roS_ok ⟨Tryz.f114, by kernel_rfl, rfl, by decide⟩ fun _ _ h => evX_ok l_s_Lies_ok (f := Tryz.f114) (by kernel_rfl) rfl (by kernel_rfl) (by kernel_rfl) big h
noncomputable def Q_s_Lies (n : Nat) (a0 : DICluster) (a1 : Int) : Option Bool := q_s_Lies n (a0, a1, ())
theorem Q_s_Lies_eq (n : Nat) (a0 : DICluster) (a1 : Int) : Q_s_Lies n a0 a1 =
  bif decide ((0 : Int) < a0.1) then
 (Q_s_l01In big a1 (0 : Int) (IntKind.i64.wrap (a0.1 - (1 : Int)))).bind fun y =>
 bif y then
 bif decide (a1 < (7 : Int)) then
 if IntKind.u64.wrap a1 < (0 : Int) then none
 else
 some
 !decide
 ((Int.fdiv a0.2.2.1 ((2 : Int) ^ min (IntKind.u64.wrap a1).toNat IntKind.i64.bits)).tmod
 (2 : Int) =
 (0 : Int))
 else some false
 else some false
 else some false := by kernel_rfl
end Go.Sx.Tryz
set_option maxRecDepth 100000
namespace Go.Sx.Tryz
open Go Go.Sx Go.Proofs
noncomputable def l_s_l15Honest : List (Nat × Con) := [(67, c_s_l01In), (114, c_s_Lies)]
theorem l_s_l15Honest_ok : ∀ q ∈ l_s_l15Honest, ConOk Tryz.prog q.1 q.2 := Tryz.cons_cons c_s_l01In_ok (Tryz.cons_cons c_s_Lies_ok (Tryz.cons_nil))
def kp_s_l15Honest : KP := []
noncomputable def q_s_l15Honest (n : Nat) (x : Args [tICluster, tInt]) := evX (false, false, [2, 6, 13]) l_s_l15Honest kp_s_l15Honest [none] Tryz.f106 (shV tBool) n (encA [tICluster, tInt] x)
noncomputable def c_s_l15Honest : Con := roS [tICluster, tInt] true (shV tBool) (q_s_l15Honest big)
theorem c_s_l15Honest_ok : ConOk Tryz.prog 106 c_s_l15Honest := roS_ok ⟨Tryz.f106, by kernel_rfl, rfl, by decide⟩ fun _ _ h => evX_ok l_s_l15Honest_ok (f := Tryz.f106) (by kernel_rfl) rfl (by kernel_rfl) (by kernel_rfl) big h
noncomputable def Q_s_l15Honest (n : Nat) (a0 : DICluster) (a1 : Int) : Option Bool := q_s_l15Honest n (a0, a1, ())
theorem Q_s_l15Honest_eq (n : Nat) (a0 : DICluster) (a1 : Int) : Q_s_l15Honest n a0 a1 =
  (Q_s_l01In big a1 (0 : Int) (IntKind.i64.wrap ((↑(List.length a0.2.2.2.2.1) : Int) - (1 : Int)))).bind
 fun y =>
 bif y then
 (Q_s_l01In big a1 (0 : Int) (IntKind.i64.wrap (a0.1 - (1 : Int)))).bind fun y =>
 bif y then (Q_s_Lies big a0 a1).bind fun y => some !y else some false
 else some false := by kernel_rfl
end Go.Sx.Tryz
set_option maxRecDepth 100000
namespace Go.Sx.Tryz
open Go Go.Sx Go.Proofs
noncomputable def l_s_HigherQc : List (Nat × Con) := []
theorem l_s_HigherQc_ok : ∀ q ∈ l_s_HigherQc, ConOk Tryz.prog q.1 q.2 := Tryz.cons_nil
def kp_s_HigherQc : KP := []
noncomputable def q_s_HigherQc (n : Nat) (x : Args [tIQc, tIQc]) := evX (false, false, [2, 3, 5, 7]) l_s_HigherQc kp_s_HigherQc [none] Tryz.f96 (shV tIQc) n (encA [tIQc, tIQc] x)
noncomputable def c_s_HigherQc : Con := roS [tIQc, tIQc] true (shV tIQc) (q_s_HigherQc big)
theorem c_s_HigherQc_ok : ConOk Tryz.prog 96 c_s_HigherQc := roS_ok ⟨Tryz.f96, by kernel_rfl, rfl, by decide⟩ fun _ _ h => evX_ok l_s_HigherQc_ok (f := Tryz.f96) (by kernel_rfl) rfl (by kernel_rfl) (by kernel_rfl) big h
noncomputable def Q_s_HigherQc (n : Nat) (a0 : DIQc) (a1 : DIQc) : Option DIQc := q_s_HigherQc n (a0, a1, ())
theorem Q_s_HigherQc_eq (n : Nat) (a0 : DIQc) (a1 : DIQc) : Q_s_HigherQc n a0 a1 =
  bif decide (a0.2.1 < a1.2.1) then some a1 else some a0 := by kernel_rfl
end Go.Sx.Tryz
set_option maxRecDepth 100000
namespace Go.Sx.Tryz
open Go Go.Sx Go.Proofs
noncomputable def l_s_BestQc : List (Nat × Con) := [(96, c_s_HigherQc)]
theorem l_s_BestQc_ok : ∀ q ∈ l_s_BestQc, ConOk Tryz.prog q.1 q.2 := Tryz.cons_cons c_s_HigherQc_ok (Tryz.cons_nil)
abbrev k_s_BestQc_3 : List Keep × List BK := ([.drop, .is (.ptr 0 0), .is (.ptr 1 0), .is (.ptr 2 0), .ro tInt64, .drop, .drop, .drop, .drop, .drop, .drop, .drop, .drop, .drop, .drop, .drop, .drop, .drop, .drop, .drop, .drop, .drop, .drop], [.vars [.ro tInt64, .ro tInt64, .ro tInt64, .ro tInt64, .ro tInt64, .ro tInt64, .ro tInt64, .ro tInt64, .ro tInt64, .ro tInt64, .ro tInt64, .ro tInt64, .ro tInt64, .ro tInt64, .ro tSlInt, .ro tSlICell, .ro tSlInt, .ro tSlIUndo, .ro tSlIVote, .ro tSlILetter, .ro tInt64], .vars [.ro tInt64, .ro tInt64, .ro tInt64, .ro tInt64], .vars [.ro tInt64, .ro tInt64, .ro tInt64, .ro tInt64]])
def kp_s_BestQc : KP := [(3, k_s_BestQc_3)]
noncomputable def q_s_BestQc (n : Nat) (x : Args [tIPeer]) := evX (false, false, [1, 3, 5, 8, 15]) l_s_BestQc kp_s_BestQc [none] Tryz.f233 (shV tIQc) n (encA [tIPeer] x)
noncomputable def c_s_BestQc : Con := roS [tIPeer] true (shV tIQc) (q_s_BestQc big)
theorem c_s_BestQc_ok : ConOk Tryz.prog 233 c_s_BestQc := roS_ok ⟨Tryz.f233, by kernel_rfl, rfl, by decide⟩ fun _ _ h => evX_ok l_s_BestQc_ok (f := Tryz.f233) (by kernel_rfl) rfl (by kernel_rfl) (by kernel_rfl) big h
noncomputable def Q_s_BestQc (n : Nat) (a0 : DIPeer) : Option DIQc := q_s_BestQc n (a0, ())
noncomputable def r_s_BestQc_3 (n : Nat) (x : KD k_s_BestQc_3.1) (y : BD k_s_BestQc_3.2) := rounds (env (false, false, [1, 3, 5, 8, 15]) l_s_BestQc) kp_s_BestQc (body Tryz.f233) (finX (false, false, [1, 3, 5, 8, 15]) l_s_BestQc [none] Tryz.f233 (shV tIQc) [.val tIPeer (zeroD tIPeer)]) n 3 k_s_BestQc_3 x y
noncomputable def R_s_BestQc_3 (n : Nat) (s4 : Int) (b0_0 : Int) (b0_1 : Int) (b0_2 : Int) (b0_3 : Int) (b0_4 : Int) (b0_5 : Int) (b0_6 : Int) (b0_7 : Int) (b0_8 : Int) (b0_9 : Int) (b0_10 : Int) (b0_11 : Int) (b0_12 : Int) (b0_13 : Int) (b0_14 : DSlInt) (b0_15 : DSlICell) (b0_16 : DSlInt) (b0_17 : DSlIUndo) (b0_18 : DSlIVote) (b0_19 : DSlILetter) (b0_20 : Int) (b1_0 : Int) (b1_1 : Int) (b1_2 : Int) (b1_3 : Int) (b2_0 : Int) (b2_1 : Int) (b2_2 : Int) (b2_3 : Int) : Option DIQc := r_s_BestQc_3 n (s4, ()) ((b0_0, b0_1, b0_2, b0_3, b0_4, b0_5, b0_6, b0_7, b0_8, b0_9, b0_10, b0_11, b0_12, b0_13, b0_14, b0_15, b0_16, b0_17, b0_18, b0_19, b0_20, ()), (b1_0, b1_1, b1_2, b1_3, ()), (b2_0, b2_1, b2_2, b2_3, ()), ())
theorem Q_s_BestQc_eq (n : Nat) (a0 : DIPeer) : Q_s_BestQc n a0 =
  R_s_BestQc_3 n (0 : Int) a0.1 a0.2.1 a0.2.2.1.1 a0.2.2.1.2.1 a0.2.2.1.2.2.1
 a0.2.2.1.2.2.2.1 a0.2.2.2.1.1 a0.2.2.2.1.2.1 a0.2.2.2.1.2.2.1
 a0.2.2.2.1.2.2.2.1 a0.2.2.2.2.1.1 a0.2.2.2.2.1.2.1
 a0.2.2.2.2.1.2.2.1 a0.2.2.2.2.1.2.2.2.1 a0.2.2.2.2.2.1
 a0.2.2.2.2.2.2.1 a0.2.2.2.2.2.2.2.1 a0.2.2.2.2.2.2.2.2.1
 a0.2.2.2.2.2.2.2.2.2.1 a0.2.2.2.2.2.2.2.2.2.2.1
 a0.2.2.2.2.2.2.2.2.2.2.2.1 (0 : Int) (0 : Int) (0 : Int) (0 : Int) a0.2.2.1.1
 a0.2.2.1.2.1 a0.2.2.1.2.2.1 a0.2.2.1.2.2.2.1 := by kernel_rfl
theorem R_s_BestQc_3_eq (n : Nat) (s4 : Int) (b0_0 : Int) (b0_1 : Int) (b0_2 : Int) (b0_3 : Int) (b0_4 : Int) (b0_5 : Int) (b0_6 : Int) (b0_7 : Int) (b0_8 : Int) (b0_9 : Int) (b0_10 : Int) (b0_11 : Int) (b0_12 : Int) (b0_13 : Int) (b0_14 : DSlInt) (b0_15 : DSlICell) (b0_16 : DSlInt) (b0_17 : DSlIUndo) (b0_18 : DSlIVote) (b0_19 : DSlILetter) (b0_20 : Int) (b1_0 : Int) (b1_1 : Int) (b1_2 : Int) (b1_3 : Int) (b2_0 : Int) (b2_1 : Int) (b2_2 : Int) (b2_3 : Int) : R_s_BestQc_3 (n + 1) s4 b0_0 b0_1 b0_2 b0_3 b0_4 b0_5 b0_6 b0_7 b0_8 b0_9 b0_10 b0_11 b0_12 b0_13 b0_14 b0_15 b0_16 b0_17 b0_18 b0_19 b0_20 b1_0 b1_1 b1_2 b1_3 b2_0 b2_1 b2_2 b2_3 =
  bif decide (s4 < (↑(List.length b0_19) : Int)) then
 if (0 : Int) ≤ s4 then
 (nth b0_19 s4.toNat).bind fun y =>
 (Q_s_HigherQc big (b2_0, b2_1, b2_2, b2_3, ()) y.2.2.2.2.2.1).bind fun y =>
 R_s_BestQc_3 n (IntKind.i64.wrap (s4 + (1 : Int))) b0_0 b0_1 b0_2 b0_3 b0_4 b0_5 b0_6 b0_7 b0_8 b0_9 b0_10
 b0_11 b0_12 b0_13 b0_14 b0_15 b0_16 b0_17 b0_18 b0_19 b0_20 b1_0 b1_1 b1_2 b1_3 y.1 y.2.1
 y.2.2.1 y.2.2.2.1
 else none
 else some (b2_0, b2_1, b2_2, b2_3, ()) := by kernel_rfl
end Go.Sx.Tryz
set_option maxRecDepth 100000
namespace Go.Sx.Tryz
open Go Go.Sx Go.Proofs
noncomputable def l_s_l05Block : List (Nat × Con) := []
theorem l_s_l05Block_ok : ∀ q ∈ l_s_l05Block, ConOk Tryz.prog q.1 q.2 := Tryz.cons_nil
def kp_s_l05Block : KP := []
noncomputable def q_s_l05Block (n : Nat) (x : Args [tIBlock]) := evX (false, false, [1, 3, 6]) l_s_l05Block kp_s_l05Block [some uIBlock] Tryz.f149 (shF uIBlock) n (encA [tIBlock] x)
noncomputable def c_s_l05Block : Con := roS [tIBlock] true (shF uIBlock) (q_s_l05Block big)
theorem c_s_l05Block_ok : ConOk Tryz.prog 149 c_s_l05Block := roS_ok ⟨Tryz.f149, by kernel_rfl, rfl, by decide⟩ fun _ _ h => evX_ok l_s_l05Block_ok (f := Tryz.f149) (by kernel_rfl) rfl (by kernel_rfl) (by kernel_rfl) big h
noncomputable def Q_s_l05Block (n : Nat) (a0 : DIBlock) : Option DIBlock := q_s_l05Block n (a0, ())
theorem Q_s_l05Block_eq (n : Nat) (a0 : DIBlock) : Q_s_l05Block n a0 =
  if (0 : Nat) + List.length a0.2.2.1 ≤ lim then some a0 else none := by kernel_rfl
end Go.Sx.Tryz
set_option maxRecDepth 100000
namespace Go.Sx.Tryz
open Go Go.Sx Go.Proofs
noncomputable def l_s_l05Tree : List (Nat × Con) := [(149, c_s_l05Block)]
theorem l_s_l05Tree_ok : ∀ q ∈ l_s_l05Tree, ConOk Tryz.prog q.1 q.2 := Tryz.cons_cons c_s_l05Block_ok (Tryz.cons_nil)
abbrev k_s_l05Tree_3 : List Keep × List BK := ([.ro tSlIBlock, .drop, .drop, .own uXstruct_Parent_int_View_int_Cmds_impl_Cmd, .ro tInt64, .drop, .drop, .drop, .drop, .drop, .drop, .drop, .drop, .drop, .drop, .drop, .drop, .drop, .drop, .drop, .drop], [])
def kp_s_l05Tree : KP := [(3, k_s_l05Tree_3)]
noncomputable def q_s_l05Tree (n : Nat) (x : Args [tSlIBlock]) := evX (true, false, []) l_s_l05Tree kp_s_l05Tree [some uSlIBlock] Tryz.f146 (shF uSlIBlock) n (encA [tSlIBlock] x)
noncomputable def c_s_l05Tree : Con := roS [tSlIBlock] true (shF uSlIBlock) (q_s_l05Tree big)
theorem c_s_l05Tree_ok : ConOk Tryz.prog 146 c_s_l05Tree := roS_ok ⟨Tryz.f146, by kernel_rfl, rfl, by decide⟩ fun _ _ h => evX_ok l_s_l05Tree_ok (f := Tryz.f146) (by kernel_rfl) rfl (by kernel_rfl) (by kernel_rfl) big h
noncomputable def Q_s_l05Tree (n : Nat) (a0 : DSlIBlock) : Option DSlIBlock := q_s_l05Tree n (a0, ())
noncomputable def r_s_l05Tree_3 (n : Nat) (x : KD k_s_l05Tree_3.1) (y : BD k_s_l05Tree_3.2) := rounds (env (true, false, []) l_s_l05Tree) kp_s_l05Tree (body Tryz.f146) (finX (true, false, []) l_s_l05Tree [some uSlIBlock] Tryz.f146 (shF uSlIBlock) [.val tSlIBlock (zeroD tSlIBlock)]) n 3 k_s_l05Tree_3 x y
noncomputable def R_s_l05Tree_3 (n : Nat) (s0 : DSlIBlock) (s3 : (List DXstruct_Parent_int_View_int_Cmds_impl_Cmd)) (s4 : Int) : Option DSlIBlock := r_s_l05Tree_3 n (s0, s3, s4, ()) ()
theorem Q_s_l05Tree_eq (n : Nat) (a0 : DSlIBlock) : Q_s_l05Tree n a0 =
  R_s_l05Tree_3 n a0 [] (0 : Int) := by kernel_rfl
theorem R_s_l05Tree_3_eq (n : Nat) (s0 : DSlIBlock) (s3 : (List DXstruct_Parent_int_View_int_Cmds_impl_Cmd)) (s4 : Int) : R_s_l05Tree_3 (n + 1) s0 s3 s4 =
  bif decide (s4 < (↑(List.length s0) : Int)) then
 if (0 : Int) ≤ s4 then
 (nth s0 s4.toNat).bind fun y =>
 (Q_s_l05Block big y).bind fun y_1 =>
 if s3.length + [y_1].length ≤ lim then
 R_s_l05Tree_3 n s0 (s3.append [y_1]) (IntKind.i64.wrap (s4 + (1 : Int)))
 else none
 else none
 else some s3 := by kernel_rfl
end Go.Sx.Tryz
set_option maxRecDepth 100000
namespace Go.Sx.Tryz
open Go Go.Sx Go.Proofs
noncomputable def l_s_SameBlock : List (Nat × Con) := []
theorem l_s_SameBlock_ok : ∀ q ∈ l_s_SameBlock, ConOk Tryz.prog q.1 q.2 := Tryz.cons_nil
abbrev k_s_SameBlock_4 : List Keep × List BK := ([.drop, .drop, .is (.ptr 0 0), .is (.ptr 1 0), .drop, .ro tInt64, .drop, .drop, .drop, .drop, .drop, .drop, .drop, .drop, .drop, .drop, .drop, .drop, .drop, .drop, .drop, .drop, .drop, .drop, .drop, .drop, .drop, .drop, .drop, .drop, .drop, .drop, .drop, .drop, .drop, .drop, .drop, .drop, .drop, .drop, .drop, .drop, .drop, .drop, .drop, .drop, .drop, .drop, .drop, .drop, .drop, .drop], [.vars [.ro tInt64, .ro tInt64, .ro tSlICmd, .ro tInt64, .ro tInt64, .ro tInt64, .ro tInt64], .vars [.ro tInt64, .ro tInt64, .ro tSlICmd, .ro tInt64, .ro tInt64, .ro tInt64, .ro tInt64]])
def kp_s_SameBlock : KP := [(4, k_s_SameBlock_4)]
noncomputable def q_s_SameBlock (n : Nat) (x : Args [tIBlock, tIBlock]) := evX (false, false, [2, 3, 6, 8, 12, 14, 19, 21, 26, 29, 35, 41, 46]) l_s_SameBlock kp_s_SameBlock [none] Tryz.f159 (shV tBool) n (encA [tIBlock, tIBlock] x)
noncomputable def c_s_SameBlock : Con := roS [tIBlock, tIBlock] true (shV tBool) (q_s_SameBlock big)
theorem c_s_SameBlock_ok : ConOk Tryz.prog 159 c_s_SameBlock := roS_ok ⟨Tryz.f159, by kernel_rfl, rfl, by decide⟩ fun _ _ h => evX_ok l_s_SameBlock_ok (f := Tryz.f159) (by kernel_rfl) rfl (by kernel_rfl) (by kernel_rfl) big h
noncomputable def Q_s_SameBlock (n : Nat) (a0 : DIBlock) (a1 : DIBlock) : Option Bool := q_s_SameBlock n (a0, a1, ())
noncomputable def r_s_SameBlock_4 (n : Nat) (x : KD k_s_SameBlock_4.1) (y : BD k_s_SameBlock_4.2) := rounds (env (false, false, [2, 3, 6, 8, 12, 14, 19, 21, 26, 29, 35, 41, 46]) l_s_SameBlock) kp_s_SameBlock (body Tryz.f159) (finX (false, false, [2, 3, 6, 8, 12, 14, 19, 21, 26, 29, 35, 41, 46]) l_s_SameBlock [none] Tryz.f159 (shV tBool) [.val tIBlock (zeroD tIBlock), .val tIBlock (zeroD tIBlock)]) n 4 k_s_SameBlock_4 x y
noncomputable def R_s_SameBlock_4 (n : Nat) (s5 : Int) (b0_0 : Int) (b0_1 : Int) (b0_2 : DSlICmd) (b0_3 : Int) (b0_4 : Int) (b0_5 : Int) (b0_6 : Int) (b1_0 : Int) (b1_1 : Int) (b1_2 : DSlICmd) (b1_3 : Int) (b1_4 : Int) (b1_5 : Int) (b1_6 : Int) : Option Bool := r_s_SameBlock_4 n (s5, ()) ((b0_0, b0_1, b0_2, b0_3, b0_4, b0_5, b0_6, ()), (b1_0, b1_1, b1_2, b1_3, b1_4, b1_5, b1_6, ()), ())
theorem Q_s_SameBlock_eq (n : Nat) (a0 : DIBlock) (a1 : DIBlock) : Q_s_SameBlock n a0 a1 =
  bif !decide (a0.1 = a1.1) then some false
 else
 bif !decide (a0.2.1 = a1.2.1) then some false
 else
 bif !eqD tIQc a0.2.2.2.1 a1.2.2.2.1 then some false
 else
 bif !decide ((↑(List.length a0.2.2.1) : Int) = (↑(List.length a1.2.2.1) : Int)) then some false
 else
 R_s_SameBlock_4 n (0 : Int) a0.1 a0.2.1 a0.2.2.1 a0.2.2.2.1.1 a0.2.2.2.1.2.1
 a0.2.2.2.1.2.2.1 a0.2.2.2.1.2.2.2.1 a1.1 a1.2.1 a1.2.2.1
 a1.2.2.2.1.1 a1.2.2.2.1.2.1 a1.2.2.2.1.2.2.1
 a1.2.2.2.1.2.2.2.1 := by kernel_rfl
theorem R_s_SameBlock_4_eq (n : Nat) (s5 : Int) (b0_0 : Int) (b0_1 : Int) (b0_2 : DSlICmd) (b0_3 : Int) (b0_4 : Int) (b0_5 : Int) (b0_6 : Int) (b1_0 : Int) (b1_1 : Int) (b1_2 : DSlICmd) (b1_3 : Int) (b1_4 : Int) (b1_5 : Int) (b1_6 : Int) : R_s_SameBlock_4 (n + 1) s5 b0_0 b0_1 b0_2 b0_3 b0_4 b0_5 b0_6 b1_0 b1_1 b1_2 b1_3 b1_4 b1_5 b1_6 =
  bif decide (s5 < (↑(List.length b0_2) : Int)) then
 if (0 : Int) ≤ s5 then
 (nth b0_2 s5.toNat).bind fun y =>
 if (0 : Int) ≤ s5 then
 (nth b1_2 s5.toNat).bind fun y_1 =>
 bif !eqD tICmd y y_1 then some false
 else
 R_s_SameBlock_4 n (IntKind.i64.wrap (s5 + (1 : Int))) b0_0 b0_1 b0_2 b0_3 b0_4 b0_5 b0_6 b1_0 b1_1 b1_2
 b1_3 b1_4 b1_5 b1_6
 else none
 else none
 else some true := by kernel_rfl
end Go.Sx.Tryz
set_option maxRecDepth 100000
namespace Go.Sx.Tryz
open Go Go.Sx Go.Proofs
noncomputable def l_s_BlockAt : List (Nat × Con) := [(159, c_s_SameBlock)]
theorem l_s_BlockAt_ok : ∀ q ∈ l_s_BlockAt, ConOk Tryz.prog q.1 q.2 := Tryz.cons_cons c_s_SameBlock_ok (Tryz.cons_nil)
abbrev k_s_BlockAt_2 : List Keep × List BK := ([.ro tSlIBlock, .drop, .drop, .is (.ptr 0 0), .drop, .ro tInt64, .drop, .drop, .drop, .drop, .drop, .drop, .drop, .drop, .drop, .drop, .drop, .drop, .drop], [.vars [.ro tInt64, .ro tInt64, .ro tSlICmd, .ro tInt64, .ro tInt64, .ro tInt64, .ro tInt64]])
def kp_s_BlockAt : KP := [(2, k_s_BlockAt_2)]
noncomputable def q_s_BlockAt (n : Nat) (x : Args [tSlIBlock, tIBlock]) := evX (false, false, [3]) l_s_BlockAt kp_s_BlockAt [none] Tryz.f162 (shV tInt) n (encA [tSlIBlock, tIBlock] x)
noncomputable def c_s_BlockAt : Con := roS [tSlIBlock, tIBlock] true (shV tInt) (q_s_BlockAt big)
theorem c_s_BlockAt_ok : ConOk Tryz.prog 162 c_s_BlockAt := roS_ok ⟨Tryz.f162, by kernel_rfl, rfl, by decide⟩ fun _ _ h => evX_ok l_s_BlockAt_ok (f := Tryz.f162) (by kernel_rfl) rfl (by kernel_rfl) (by kernel_rfl) big h
noncomputable def Q_s_BlockAt (n : Nat) (a0 : DSlIBlock) (a1 : DIBlock) : Option Int := q_s_BlockAt n (a0, a1, ())
noncomputable def r_s_BlockAt_2 (n : Nat) (x : KD k_s_BlockAt_2.1) (y : BD k_s_BlockAt_2.2) := rounds (env (false, false, [3]) l_s_BlockAt) kp_s_BlockAt (body Tryz.f162) (finX (false, false, [3]) l_s_BlockAt [none] Tryz.f162 (shV tInt) [.val tSlIBlock (zeroD tSlIBlock), .val tIBlock (zeroD tIBlock)]) n 2 k_s_BlockAt_2 x y
noncomputable def R_s_BlockAt_2 (n : Nat) (s0 : DSlIBlock) (s5 : Int) (b0_0 : Int) (b0_1 : Int) (b0_2 : DSlICmd) (b0_3 : Int) (b0_4 : Int) (b0_5 : Int) (b0_6 : Int) : Option Int := r_s_BlockAt_2 n (s0, s5, ()) ((b0_0, b0_1, b0_2, b0_3, b0_4, b0_5, b0_6, ()), ())
theorem Q_s_BlockAt_eq (n : Nat) (a0 : DSlIBlock) (a1 : DIBlock) : Q_s_BlockAt n a0 a1 =
  R_s_BlockAt_2 n a0 (0 : Int) a1.1 a1.2.1 a1.2.2.1 a1.2.2.2.1.1 a1.2.2.2.1.2.1
 a1.2.2.2.1.2.2.1 a1.2.2.2.1.2.2.2.1 := by kernel_rfl
theorem R_s_BlockAt_2_eq (n : Nat) (s0 : DSlIBlock) (s5 : Int) (b0_0 : Int) (b0_1 : Int) (b0_2 : DSlICmd) (b0_3 : Int) (b0_4 : Int) (b0_5 : Int) (b0_6 : Int) : R_s_BlockAt_2 (n + 1) s0 s5 b0_0 b0_1 b0_2 b0_3 b0_4 b0_5 b0_6 =
  bif decide (s5 < (↑(List.length s0) : Int)) then
 if (0 : Int) ≤ s5 then
 (nth s0 s5.toNat).bind fun y =>
 (Q_s_SameBlock big y (b0_0, b0_1, b0_2, (b0_3, b0_4, b0_5, b0_6, ()), ())).bind fun y =>
 bif y then some s5
 else R_s_BlockAt_2 n s0 (IntKind.i64.wrap (s5 + (1 : Int))) b0_0 b0_1 b0_2 b0_3 b0_4 b0_5 b0_6
 else none
 else some (-1 : Int) := by kernel_rfl
end Go.Sx.Tryz
set_option maxRecDepth 100000
namespace Go.Sx.Tryz
open Go Go.Sx Go.Proofs
noncomputable def l_s_KeyOk : List (Nat × Con) := [(67, c_s_l01In)]
theorem l_s_KeyOk_ok : ∀ q ∈ l_s_KeyOk, ConOk Tryz.prog q.1 q.2 := Tryz.cons_cons c_s_l01In_ok (Tryz.cons_nil)
abbrev k_s_KeyOk_2 : List Keep × List BK := ([.ro tString, .drop, .drop, .ro tInt64, .drop, .drop, .drop, .drop, .drop, .drop, .drop, .drop, .drop, .drop, .drop, .drop, .drop, .drop, .drop, .drop, .drop, .drop, .drop], [])
def kp_s_KeyOk : KP := [(2, k_s_KeyOk_2)]
noncomputable def q_s_KeyOk (n : Nat) (x : Args [tString]) := evX (false, false, []) l_s_KeyOk kp_s_KeyOk [none] Tryz.f143 (shV tBool) n (encA [tString] x)
noncomputable def c_s_KeyOk : Con := roS [tString] true (shV tBool) (q_s_KeyOk big)
theorem c_s_KeyOk_ok : ConOk Tryz.prog 143 c_s_KeyOk := roS_ok ⟨Tryz.f143, by kernel_rfl, rfl, by decide⟩ fun _ _ h => evX_ok l_s_KeyOk_ok (f := Tryz.f143) (by kernel_rfl) rfl (by kernel_rfl) (by kernel_rfl) big h
noncomputable def Q_s_KeyOk (n : Nat) (a0 : ByteArray) : Option Bool := q_s_KeyOk n (a0, ())
noncomputable def r_s_KeyOk_2 (n : Nat) (x : KD k_s_KeyOk_2.1) (y : BD k_s_KeyOk_2.2) := rounds (env (false, false, []) l_s_KeyOk) kp_s_KeyOk (body Tryz.f143) (finX (false, false, []) l_s_KeyOk [none] Tryz.f143 (shV tBool) [.val tString (zeroD tString)]) n 2 k_s_KeyOk_2 x y
noncomputable def R_s_KeyOk_2 (n : Nat) (s0 : ByteArray) (s3 : Int) : Option Bool := r_s_KeyOk_2 n (s0, s3, ()) ()
theorem Q_s_KeyOk_eq (n : Nat) (a0 : ByteArray) : Q_s_KeyOk n a0 =
  R_s_KeyOk_2 n a0 (0 : Int) := by kernel_rfl
theorem R_s_KeyOk_2_eq (n : Nat) (s0 : ByteArray) (s3 : Int) : R_s_KeyOk_2 (n + 1) s0 s3 =
  bif decide (s3 < (↑s0.size : Int)) then
 if (0 : Int) ≤ s3 then
 (nth s0.data.toList s3.toNat).bind fun y =>
 bif decide ((↑y.toNat : Int) < (97 : Int)) then some false
 else
 if (0 : Int) ≤ s3 then
 (nth s0.data.toList s3.toNat).bind fun y =>
 bif decide ((122 : Int) < (↑y.toNat : Int)) then some false
 else R_s_KeyOk_2 n s0 (IntKind.i64.wrap (s3 + (1 : Int)))
 else none
 else none
 else (Q_s_l01In big (↑s0.size : Int) (1 : Int) (3 : Int)).bind fun y => some y := by kernel_rfl
end Go.Sx.Tryz
set_option maxRecDepth 100000
namespace Go.Sx.Tryz
open Go Go.Sx Go.Proofs
noncomputable def l_s_CmdOk : List (Nat × Con) := [(67, c_s_l01In), (143, c_s_KeyOk)]
theorem l_s_CmdOk_ok : ∀ q ∈ l_s_CmdOk, ConOk Tryz.prog q.1 q.2 := Tryz.cons_cons c_s_l01In_ok (Tryz.cons_cons c_s_KeyOk_ok (Tryz.cons_nil))
def kp_s_CmdOk : KP := []
noncomputable def q_s_CmdOk (n : Nat) (x : Args [tICmd]) := evX (false, false, [1, 3, 7, 12]) l_s_CmdOk kp_s_CmdOk [none] Tryz.f194 (shV tBool) n (encA [tICmd] x)
noncomputable def c_s_CmdOk : Con := roS [tICmd] true (shV tBool) (q_s_CmdOk big)
theorem c_s_CmdOk_ok : ConOk Tryz.prog 194 c_s_CmdOk := roS_ok ⟨Tryz.f194, by kernel_rfl, rfl, by decide⟩ fun _ _ h => evX_ok l_s_CmdOk_ok (f := Tryz.f194) (by kernel_rfl) rfl (by kernel_rfl) (by kernel_rfl) big h
noncomputable def Q_s_CmdOk (n : Nat) (a0 : DICmd) : Option Bool := q_s_CmdOk n (a0, ())
theorem Q_s_CmdOk_eq (n : Nat) (a0 : DICmd) : Q_s_CmdOk n a0 =
  (Q_s_l01In big a0.1 (1 : Int) (3 : Int)).bind fun y =>
 bif y then
 (Q_s_KeyOk big a0.2.1).bind fun y =>
 bif y then (Q_s_l01In big a0.2.2.1 (0 : Int) (1000000000 : Int)).bind fun y => some y else some false
 else some false := by kernel_rfl
end Go.Sx.Tryz
set_option maxRecDepth 100000
namespace Go.Sx.Tryz
open Go Go.Sx Go.Proofs
noncomputable def l_s_BlockOk : List (Nat × Con) := [(67, c_s_l01In), (194, c_s_CmdOk)]
theorem l_s_BlockOk_ok : ∀ q ∈ l_s_BlockOk, ConOk Tryz.prog q.1 q.2 := Tryz.cons_cons c_s_l01In_ok (Tryz.cons_cons c_s_CmdOk_ok (Tryz.cons_nil))
abbrev k_s_BlockOk_4 : List Keep × List BK := ([.ro tSlIBlock, .drop, .drop, .is (.ptr 0 0), .drop, .ro tInt64, .drop, .drop, .drop, .drop, .drop, .drop, .drop, .drop, .drop, .drop, .drop, .drop, .drop, .drop, .drop, .drop, .drop, .drop, .drop, .drop, .drop, .drop, .drop, .drop, .drop, .drop, .drop, .drop, .drop, .drop, .drop, .drop, .drop, .drop, .drop, .drop, .drop, .drop, .drop, .drop, .drop, .drop, .drop, .drop, .drop, .drop, .drop, .drop, .drop, .drop, .drop, .drop, .drop, .drop, .drop, .drop, .drop, .drop, .drop, .drop, .drop], [.vars [.ro tInt64, .ro tInt64, .ro tSlICmd, .ro tInt64, .ro tInt64, .ro tInt64, .ro tInt64]])
def kp_s_BlockOk : KP := [(4, k_s_BlockOk_4)]
noncomputable def q_s_BlockOk (n : Nat) (x : Args [tSlIBlock, tIBlock]) := evX (false, false, [3, 6, 14, 17, 25, 30, 36, 42, 49, 50, 52, 56, 57, 60]) l_s_BlockOk kp_s_BlockOk [none] Tryz.f161 (shV tBool) n (encA [tSlIBlock, tIBlock] x)
noncomputable def c_s_BlockOk : Con := roS [tSlIBlock, tIBlock] true (shV tBool) (q_s_BlockOk big)
theorem c_s_BlockOk_ok : ConOk Tryz.prog 161 c_s_BlockOk := roS_ok ⟨Tryz.f161, by kernel_rfl, rfl, by decide⟩ fun _ _ h => evX_ok l_s_BlockOk_ok (f := Tryz.f161) (by kernel_rfl) rfl (by kernel_rfl) (by kernel_rfl) big h
noncomputable def Q_s_BlockOk (n : Nat) (a0 : DSlIBlock) (a1 : DIBlock) : Option Bool := q_s_BlockOk n (a0, a1, ())
noncomputable def r_s_BlockOk_4 (n : Nat) (x : KD k_s_BlockOk_4.1) (y : BD k_s_BlockOk_4.2) := rounds (env (false, false, [3, 6, 14, 17, 25, 30, 36, 42, 49, 50, 52, 56, 57, 60]) l_s_BlockOk) kp_s_BlockOk (body Tryz.f161) (finX (false, false, [3, 6, 14, 17, 25, 30, 36, 42, 49, 50, 52, 56, 57, 60]) l_s_BlockOk [none] Tryz.f161 (shV tBool) [.val tSlIBlock (zeroD tSlIBlock), .val tIBlock (zeroD tIBlock)]) n 4 k_s_BlockOk_4 x y
noncomputable def R_s_BlockOk_4 (n : Nat) (s0 : DSlIBlock) (s5 : Int) (b0_0 : Int) (b0_1 : Int) (b0_2 : DSlICmd) (b0_3 : Int) (b0_4 : Int) (b0_5 : Int) (b0_6 : Int) : Option Bool := r_s_BlockOk_4 n (s0, s5, ()) ((b0_0, b0_1, b0_2, b0_3, b0_4, b0_5, b0_6, ()), ())
theorem Q_s_BlockOk_eq (n : Nat) (a0 : DSlIBlock) (a1 : DIBlock) : Q_s_BlockOk n a0 a1 =
  (Q_s_l01In big a1.1 (0 : Int) (IntKind.i64.wrap ((↑(List.length a0) : Int) - (1 : Int)))).bind fun y =>
 bif !y then some false
 else
 if (0 : Int) ≤ a1.1 then
 (nth a0 (Int.toNat a1.1)).bind fun y =>
 bif decide (a1.2.1 ≤ y.2.1) then some false
 else
 bif decide ((900 : Int) < a1.2.1) then some false
 else
 bif decide ((4 : Int) < (↑(List.length a1.2.2.1) : Int)) then some false
 else
 R_s_BlockOk_4 n a0 (0 : Int) a1.1 a1.2.1 a1.2.2.1 a1.2.2.2.1.1
 a1.2.2.2.1.2.1 a1.2.2.2.1.2.2.1 a1.2.2.2.1.2.2.2.1
 else none := by kernel_rfl
theorem R_s_BlockOk_4_eq (n : Nat) (s0 : DSlIBlock) (s5 : Int) (b0_0 : Int) (b0_1 : Int) (b0_2 : DSlICmd) (b0_3 : Int) (b0_4 : Int) (b0_5 : Int) (b0_6 : Int) : R_s_BlockOk_4 (n + 1) s0 s5 b0_0 b0_1 b0_2 b0_3 b0_4 b0_5 b0_6 =
  bif decide (s5 < (↑(List.length b0_2) : Int)) then
 if (0 : Int) ≤ s5 then
 (nth b0_2 s5.toNat).bind fun y =>
 (Q_s_CmdOk big y).bind fun y =>
 bif !y then some false
 else R_s_BlockOk_4 n s0 (IntKind.i64.wrap (s5 + (1 : Int))) b0_0 b0_1 b0_2 b0_3 b0_4 b0_5 b0_6
 else none
 else
 bif decide (b0_5 = b0_0) then
 if (0 : Int) ≤ b0_0 then (nth s0 b0_0.toNat).bind fun y => some (decide (b0_4 = y.2.1)) else none
 else some false := by kernel_rfl
end Go.Sx.Tryz
set_option maxRecDepth 100000
namespace Go.Sx.Tryz
open Go Go.Sx Go.Proofs
noncomputable def l_s_PutBlock : List (Nat × Con) := [(146, c_s_l05Tree), (162, c_s_BlockAt), (161, c_s_BlockOk), (149, c_s_l05Block)]
theorem l_s_PutBlock_ok : ∀ q ∈ l_s_PutBlock, ConOk Tryz.prog q.1 q.2 := Tryz.cons_cons c_s_l05Tree_ok (Tryz.cons_cons c_s_BlockAt_ok (Tryz.cons_cons c_s_BlockOk_ok (Tryz.cons_cons c_s_l05Block_ok (Tryz.cons_nil))))
def kp_s_PutBlock : KP := []
noncomputable def q_s_PutBlock (n : Nat) (x : Args [tSlIBlock, tIBlock]) := evX (true, false, [3]) l_s_PutBlock kp_s_PutBlock [some uSlIBlock, none] Tryz.f197 (shT [(true, uSlIBlock), (false, tInt)]) n (encA [tSlIBlock, tIBlock] x)
noncomputable def c_s_PutBlock : Con := roS [tSlIBlock, tIBlock] true (shT [(true, uSlIBlock), (false, tInt)]) (q_s_PutBlock big)
theorem c_s_PutBlock_ok : ConOk Tryz.prog 197 c_s_PutBlock := roS_ok ⟨Tryz.f197, by kernel_rfl, rfl, by decide⟩ fun _ _ h => evX_ok l_s_PutBlock_ok (f := Tryz.f197) (by kernel_rfl) rfl (by kernel_rfl) (by kernel_rfl) big h
noncomputable def Q_s_PutBlock (n : Nat) (a0 : DSlIBlock) (a1 : DIBlock) : Option (DSlIBlock × Int × Unit) := q_s_PutBlock n (a0, a1, ())
theorem Q_s_PutBlock_eq (n : Nat) (a0 : DSlIBlock) (a1 : DIBlock) : Q_s_PutBlock n a0 a1 =
  (Q_s_l05Tree big a0).bind fun y =>
 (Q_s_BlockAt big a0 a1).bind fun y_1 =>
 bif decide ((0 : Int) ≤ y_1) then some (y, y_1, ())
 else
 (Q_s_BlockOk big a0 a1).bind fun y_2 =>
 bif !y_2 then some (y, (-1 : Int), ())
 else
 bif decide ((60 : Int) ≤ (↑(List.length a0) : Int)) then some (y, (-1 : Int), ())
 else
 (Q_s_l05Block big a1).bind fun y_3 =>
 if List.length y + [y_3].length ≤ lim then
 some (List.append y [y_3], (↑(List.length a0) : Int), ())
 else none := by kernel_rfl
end Go.Sx.Tryz
set_option maxRecDepth 100000
namespace Go.Sx.Tryz
open Go Go.Sx Go.Proofs
noncomputable def l_s_l09Copy : List (Nat × Con) := []
theorem l_s_l09Copy_ok : ∀ q ∈ l_s_l09Copy, ConOk Tryz.prog q.1 q.2 := Tryz.cons_nil
def kp_s_l09Copy : KP := []
noncomputable def q_s_l09Copy (n : Nat) (x : Args [tIPeer]) := evX (false, false, [1, 3, 6, 11, 16, 21, 26, 31]) l_s_l09Copy kp_s_l09Copy [some uIPeer] Tryz.f68 (shF uIPeer) n (encA [tIPeer] x)
noncomputable def c_s_l09Copy : Con := roS [tIPeer] true (shF uIPeer) (q_s_l09Copy big)
theorem c_s_l09Copy_ok : ConOk Tryz.prog 68 c_s_l09Copy := roS_ok ⟨Tryz.f68, by kernel_rfl, rfl, by decide⟩ fun _ _ h => evX_ok l_s_l09Copy_ok (f := Tryz.f68) (by kernel_rfl) rfl (by kernel_rfl) (by kernel_rfl) big h
noncomputable def Q_s_l09Copy (n : Nat) (a0 : DIPeer) : Option DIPeer := q_s_l09Copy n (a0, ())
theorem Q_s_l09Copy_eq (n : Nat) (a0 : DIPeer) : Q_s_l09Copy n a0 =
  if (0 : Nat) + List.length a0.2.2.2.2.2.1 ≤ lim then
 if (0 : Nat) + List.length a0.2.2.2.2.2.2.1 ≤ lim then
 if (0 : Nat) + List.length a0.2.2.2.2.2.2.2.1 ≤ lim then
 if (0 : Nat) + List.length a0.2.2.2.2.2.2.2.2.1 ≤ lim then
 if (0 : Nat) + List.length a0.2.2.2.2.2.2.2.2.2.1 ≤ lim then
 if (0 : Nat) + List.length a0.2.2.2.2.2.2.2.2.2.2.1 ≤ lim then some a0 else none
 else none
 else none
 else none
 else none
 else none := by kernel_rfl
end Go.Sx.Tryz
set_option maxRecDepth 100000
namespace Go.Sx.Tryz
open Go Go.Sx Go.Proofs
noncomputable def l_s_VoteOk : List (Nat × Con) := [(67, c_s_l01In)]
theorem l_s_VoteOk_ok : ∀ q ∈ l_s_VoteOk, ConOk Tryz.prog q.1 q.2 := Tryz.cons_cons c_s_l01In_ok (Tryz.cons_nil)
def kp_s_VoteOk : KP := []
noncomputable def q_s_VoteOk (n : Nat) (x : Args [tSlIBlock, tInt, tIVote]) := evX (false, false, [5, 10, 15, 20, 29, 34, 39]) l_s_VoteOk kp_s_VoteOk [none] Tryz.f113 (shV tBool) n (encA [tSlIBlock, tInt, tIVote] x)
noncomputable def c_s_VoteOk : Con := roS [tSlIBlock, tInt, tIVote] true (shV tBool) (q_s_VoteOk big)
theorem c_s_VoteOk_ok : ConOk Tryz.prog 113 c_s_VoteOk := roS_ok ⟨Tryz.f113, by kernel_rfl, rfl, by decide⟩ fun _ _ h => evX_ok l_s_VoteOk_ok (f := Tryz.f113) (by kernel_rfl) rfl (by kernel_rfl) (by kernel_rfl) big h
noncomputable def Q_s_VoteOk (n : Nat) (a0 : DSlIBlock) (a1 : Int) (a2 : DIVote) : Option Bool := q_s_VoteOk n (a0, a1, a2, ())
theorem Q_s_VoteOk_eq (n : Nat) (a0 : DSlIBlock) (a1 : Int) (a2 : DIVote) : Q_s_VoteOk n a0 a1 a2 =
  (Q_s_l01In big a1 (1 : Int) (7 : Int)).bind fun y =>
 bif y then
 (Q_s_l01In big a2.1 (1 : Int) (4 : Int)).bind fun y =>
 bif y then
 (Q_s_l01In big a2.2.1 (1 : Int) (900 : Int)).bind fun y =>
 bif y then
 (Q_s_l01In big a2.2.2.1 (1 : Int) (IntKind.i64.wrap ((↑(List.length a0) : Int) - (1 : Int)))).bind
 fun y =>
 bif y then
 if (0 : Int) ≤ a2.2.2.1 then
 (nth a0 (Int.toNat a2.2.2.1)).bind fun y =>
 bif decide (y.2.1 = a2.2.1) then
 (Q_s_l01In big a2.2.2.2.1 (0 : Int) (IntKind.i64.wrap (a1 - (1 : Int)))).bind fun y =>
 some y
 else some false
 else none
 else some false
 else some false
 else some false
 else some false := by kernel_rfl
end Go.Sx.Tryz
set_option maxRecDepth 100000
namespace Go.Sx.Tryz
open Go Go.Sx Go.Proofs
noncomputable def l_s_QcRight : List (Nat × Con) := [(113, c_s_VoteOk), (67, c_s_l01In), (174, c_s_CountOf), (175, c_s_Quorum)]
theorem l_s_QcRight_ok : ∀ q ∈ l_s_QcRight, ConOk Tryz.prog q.1 q.2 := Tryz.cons_cons c_s_VoteOk_ok (Tryz.cons_cons c_s_l01In_ok (Tryz.cons_cons c_s_CountOf_ok (Tryz.cons_cons c_s_Quorum_ok (Tryz.cons_nil))))
def kp_s_QcRight : KP := []
noncomputable def q_s_QcRight (n : Nat) (x : Args [tSlIBlock, tInt, tIQc]) := evX (false, false, [5, 12, 14, 16, 21, 29]) l_s_QcRight kp_s_QcRight [none] Tryz.f125 (shV tBool) n (encA [tSlIBlock, tInt, tIQc] x)
noncomputable def c_s_QcRight : Con := roS [tSlIBlock, tInt, tIQc] true (shV tBool) (q_s_QcRight big)
theorem c_s_QcRight_ok : ConOk Tryz.prog 125 c_s_QcRight := roS_ok ⟨Tryz.f125, by kernel_rfl, rfl, by decide⟩ fun _ _ h => evX_ok l_s_QcRight_ok (f := Tryz.f125) (by kernel_rfl) rfl (by kernel_rfl) (by kernel_rfl) big h
noncomputable def Q_s_QcRight (n : Nat) (a0 : DSlIBlock) (a1 : Int) (a2 : DIQc) : Option Bool := q_s_QcRight n (a0, a1, a2, ())
theorem Q_s_QcRight_eq (n : Nat) (a0 : DSlIBlock) (a1 : Int) (a2 : DIQc) : Q_s_QcRight n a0 a1 a2 =
  bif eqD tIQc a2 ((0 : Int), (0 : Int), (0 : Int), (0 : Int), ()) then some true
 else
 (Q_s_VoteOk big a0 a1 (a2.1, a2.2.1, a2.2.2.1, (0 : Int), ())).bind fun y =>
 bif !y then some false
 else
 if IntKind.u64.wrap a1 < (0 : Int) then none
 else
 (Q_s_l01In big a2.2.2.2.1 (0 : Int)
 (IntKind.i64.wrap
 (IntKind.i64.wrap ((1 : Int) * (2 : Int) ^ min (IntKind.u64.wrap a1).toNat IntKind.i64.bits) -
 (1 : Int)))).bind
 fun y =>
 bif y then
 (Q_s_CountOf big a2.2.2.2.1).bind fun y =>
 (Q_s_Quorum big a1).bind fun y_1 => some (decide (y_1 ≤ y))
 else some false := by kernel_rfl
end Go.Sx.Tryz
set_option maxRecDepth 100000
namespace Go.Sx.Tryz
open Go Go.Sx Go.Proofs
noncomputable def l_s_Entered : List (Nat × Con) := [(68, c_s_l09Copy)]
theorem l_s_Entered_ok : ∀ q ∈ l_s_Entered, ConOk Tryz.prog q.1 q.2 := Tryz.cons_cons c_s_l09Copy_ok (Tryz.cons_nil)
def kp_s_Entered : KP := []
noncomputable def q_s_Entered (n : Nat) (x : Args [tIPeer, tInt]) := evX (false, false, [2, 5, 9]) l_s_Entered kp_s_Entered [some uIPeer] Tryz.f39 (shF uIPeer) n (encA [tIPeer, tInt] x)
noncomputable def c_s_Entered : Con := roS [tIPeer, tInt] true (shF uIPeer) (q_s_Entered big)
theorem c_s_Entered_ok : ConOk Tryz.prog 39 c_s_Entered := roS_ok ⟨Tryz.f39, by kernel_rfl, rfl, by decide⟩ fun _ _ h => evX_ok l_s_Entered_ok (f := Tryz.f39) (by kernel_rfl) rfl (by kernel_rfl) (by kernel_rfl) big h
noncomputable def Q_s_Entered (n : Nat) (a0 : DIPeer) (a1 : Int) : Option DIPeer := q_s_Entered n (a0, a1, ())
theorem Q_s_Entered_eq (n : Nat) (a0 : DIPeer) (a1 : Int) : Q_s_Entered n a0 a1 =
  (Q_s_l09Copy big a0).bind fun y =>
 bif decide (a0.2.1 < a1) then
 bif decide (a1 ≤ (900 : Int)) then
 some
 (y.1, a1, y.2.2.1, y.2.2.2.1, y.2.2.2.2.1, y.2.2.2.2.2.1,
 y.2.2.2.2.2.2.1, y.2.2.2.2.2.2.2.1, y.2.2.2.2.2.2.2.2.1, [],
 [], y.2.2.2.2.2.2.2.2.2.2.2)
 else some y
 else some y := by kernel_rfl
end Go.Sx.Tryz
set_option maxRecDepth 100000
namespace Go.Sx.Tryz
open Go Go.Sx Go.Proofs
noncomputable def l_s_l11Has : List (Nat × Con) := []
theorem l_s_l11Has_ok : ∀ q ∈ l_s_l11Has, ConOk Tryz.prog q.1 q.2 := Tryz.cons_nil
abbrev k_s_l11Has_2 : List Keep × List BK := ([.ro tSlIVote, .drop, .drop, .is (.ptr 0 0), .drop, .ro tInt64, .drop, .drop, .drop, .drop, .drop, .drop, .drop, .drop, .drop, .drop, .drop, .drop, .drop, .drop, .drop, .drop, .drop, .drop, .drop, .drop, .drop, .drop, .drop, .drop, .drop, .drop, .drop, .drop, .drop, .drop, .drop, .drop, .drop, .drop], [.vars [.ro tInt64, .ro tInt64, .ro tInt64, .ro tInt64]])
def kp_s_l11Has : KP := [(2, k_s_l11Has_2)]
noncomputable def q_s_l11Has (n : Nat) (x : Args [tSlIVote, tIVote]) := evX (false, false, [3, 17, 26, 36]) l_s_l11Has kp_s_l11Has [none] Tryz.f261 (shV tBool) n (encA [tSlIVote, tIVote] x)
noncomputable def c_s_l11Has : Con := roS [tSlIVote, tIVote] true (shV tBool) (q_s_l11Has big)
theorem c_s_l11Has_ok : ConOk Tryz.prog 261 c_s_l11Has := roS_ok ⟨Tryz.f261, by kernel_rfl, rfl, by decide⟩ fun _ _ h => evX_ok l_s_l11Has_ok (f := Tryz.f261) (by kernel_rfl) rfl (by kernel_rfl) (by kernel_rfl) big h
noncomputable def Q_s_l11Has (n : Nat) (a0 : DSlIVote) (a1 : DIVote) : Option Bool := q_s_l11Has n (a0, a1, ())
noncomputable def r_s_l11Has_2 (n : Nat) (x : KD k_s_l11Has_2.1) (y : BD k_s_l11Has_2.2) := rounds (env (false, false, [3, 17, 26, 36]) l_s_l11Has) kp_s_l11Has (body Tryz.f261) (finX (false, false, [3, 17, 26, 36]) l_s_l11Has [none] Tryz.f261 (shV tBool) [.val tSlIVote (zeroD tSlIVote), .val tIVote (zeroD tIVote)]) n 2 k_s_l11Has_2 x y
noncomputable def R_s_l11Has_2 (n : Nat) (s0 : DSlIVote) (s5 : Int) (b0_0 : Int) (b0_1 : Int) (b0_2 : Int) (b0_3 : Int) : Option Bool := r_s_l11Has_2 n (s0, s5, ()) ((b0_0, b0_1, b0_2, b0_3, ()), ())
theorem Q_s_l11Has_eq (n : Nat) (a0 : DSlIVote) (a1 : DIVote) : Q_s_l11Has n a0 a1 =
  R_s_l11Has_2 n a0 (0 : Int) a1.1 a1.2.1 a1.2.2.1 a1.2.2.2.1 := by kernel_rfl
theorem R_s_l11Has_2_eq (n : Nat) (s0 : DSlIVote) (s5 : Int) (b0_0 : Int) (b0_1 : Int) (b0_2 : Int) (b0_3 : Int) : R_s_l11Has_2 (n + 1) s0 s5 b0_0 b0_1 b0_2 b0_3 =
  bif decide (s5 < (↑(List.length s0) : Int)) then
 if (0 : Int) ≤ s5 then
 (nth s0 s5.toNat).bind fun y =>
 bif decide (y.2.2.2.1 = b0_3) then
 if (0 : Int) ≤ s5 then
 (nth s0 s5.toNat).bind fun y =>
 bif decide (y.1 = b0_0) then
 if (0 : Int) ≤ s5 then
 (nth s0 s5.toNat).bind fun y =>
 bif decide (y.2.1 = b0_1) then some true
 else R_s_l11Has_2 n s0 (IntKind.i64.wrap (s5 + (1 : Int))) b0_0 b0_1 b0_2 b0_3
 else none
 else R_s_l11Has_2 n s0 (IntKind.i64.wrap (s5 + (1 : Int))) b0_0 b0_1 b0_2 b0_3
 else none
 else R_s_l11Has_2 n s0 (IntKind.i64.wrap (s5 + (1 : Int))) b0_0 b0_1 b0_2 b0_3
 else none
 else some false := by kernel_rfl
end Go.Sx.Tryz
set_option maxRecDepth 100000
namespace Go.Sx.Tryz
open Go Go.Sx Go.Proofs
noncomputable def l_s_SignersOf : List (Nat × Con) := []
theorem l_s_SignersOf_ok : ∀ q ∈ l_s_SignersOf, ConOk Tryz.prog q.1 q.2 := Tryz.cons_nil
abbrev k_s_SignersOf_3 : List Keep × List BK := ([.ro tSlIVote, .ro tInt64, .ro tInt64, .ro tInt64, .drop, .drop, .drop, .drop, .drop, .ro tInt64, .ro tInt64, .drop, .drop, .drop, .drop, .drop, .drop, .drop, .drop, .drop, .drop, .drop, .drop, .drop, .drop, .drop, .drop, .drop, .drop, .drop, .drop, .drop, .drop, .drop, .drop, .drop, .drop, .drop, .drop, .drop, .drop, .drop, .drop, .drop, .drop, .drop, .drop, .drop, .drop, .drop, .drop, .drop, .drop, .drop, .drop], [])
abbrev k_s_SignersOf_6 : List Keep × List BK := ([.ro tSlIVote, .ro tInt64, .ro tInt64, .ro tInt64, .drop, .drop, .drop, .drop, .drop, .ro tInt64, .ro tInt64, .ro tInt64, .drop, .drop, .drop, .drop, .drop, .drop, .drop, .drop, .drop, .drop, .drop, .drop, .drop, .drop, .drop, .drop, .drop, .drop, .drop, .drop, .drop, .drop, .drop, .drop, .drop, .drop, .drop, .drop, .drop, .drop, .drop, .drop, .drop, .drop, .drop, .drop, .drop, .drop, .drop, .drop, .drop, .drop, .drop], [])
def kp_s_SignersOf : KP := [(3, k_s_SignersOf_3), (6, k_s_SignersOf_6)]
noncomputable def q_s_SignersOf (n : Nat) (x : Args [tSlIVote, tInt, tInt, tInt]) := evX (false, false, [12, 27, 32, 38, 44]) l_s_SignersOf kp_s_SignersOf [none] Tryz.f176 (shV tInt) n (encA [tSlIVote, tInt, tInt, tInt] x)
noncomputable def c_s_SignersOf : Con := roS [tSlIVote, tInt, tInt, tInt] true (shV tInt) (q_s_SignersOf big)
theorem c_s_SignersOf_ok : ConOk Tryz.prog 176 c_s_SignersOf := roS_ok ⟨Tryz.f176, by kernel_rfl, rfl, by decide⟩ fun _ _ h => evX_ok l_s_SignersOf_ok (f := Tryz.f176) (by kernel_rfl) rfl (by kernel_rfl) (by kernel_rfl) big h
noncomputable def Q_s_SignersOf (n : Nat) (a0 : DSlIVote) (a1 : Int) (a2 : Int) (a3 : Int) : Option Int := q_s_SignersOf n (a0, a1, a2, a3, ())
noncomputable def r_s_SignersOf_3 (n : Nat) (x : KD k_s_SignersOf_3.1) (y : BD k_s_SignersOf_3.2) := rounds (env (false, false, [12, 27, 32, 38, 44]) l_s_SignersOf) kp_s_SignersOf (body Tryz.f176) (finX (false, false, [12, 27, 32, 38, 44]) l_s_SignersOf [none] Tryz.f176 (shV tInt) [.val tSlIVote (zeroD tSlIVote), .val tInt (zeroD tInt), .val tInt (zeroD tInt), .val tInt (zeroD tInt)]) n 3 k_s_SignersOf_3 x y
noncomputable def R_s_SignersOf_3 (n : Nat) (s0 : DSlIVote) (s1 : Int) (s2 : Int) (s3 : Int) (s9 : Int) (s10 : Int) : Option Int := r_s_SignersOf_3 n (s0, s1, s2, s3, s9, s10, ()) ()
noncomputable def r_s_SignersOf_6 (n : Nat) (x : KD k_s_SignersOf_6.1) (y : BD k_s_SignersOf_6.2) := rounds (env (false, false, [12, 27, 32, 38, 44]) l_s_SignersOf) kp_s_SignersOf (body Tryz.f176) (finX (false, false, [12, 27, 32, 38, 44]) l_s_SignersOf [none] Tryz.f176 (shV tInt) [.val tSlIVote (zeroD tSlIVote), .val tInt (zeroD tInt), .val tInt (zeroD tInt), .val tInt (zeroD tInt)]) n 6 k_s_SignersOf_6 x y
noncomputable def R_s_SignersOf_6 (n : Nat) (s0 : DSlIVote) (s1 : Int) (s2 : Int) (s3 : Int) (s9 : Int) (s10 : Int) (s11 : Int) : Option Int := r_s_SignersOf_6 n (s0, s1, s2, s3, s9, s10, s11, ()) ()
theorem Q_s_SignersOf_eq (n : Nat) (a0 : DSlIVote) (a1 : Int) (a2 : Int) (a3 : Int) : Q_s_SignersOf n a0 a1 a2 a3 =
  R_s_SignersOf_3 n a0 a1 a2 a3 (0 : Int) (0 : Int) := by kernel_rfl
theorem R_s_SignersOf_3_eq (n : Nat) (s0 : DSlIVote) (s1 : Int) (s2 : Int) (s3 : Int) (s9 : Int) (s10 : Int) : R_s_SignersOf_3 (n + 1) s0 s1 s2 s3 s9 s10 =
  bif decide (s10 < (7 : Int)) then R_s_SignersOf_6 n s0 s1 s2 s3 s9 s10 (0 : Int) else some s9 := by kernel_rfl
theorem R_s_SignersOf_6_eq (n : Nat) (s0 : DSlIVote) (s1 : Int) (s2 : Int) (s3 : Int) (s9 : Int) (s10 : Int) (s11 : Int) : R_s_SignersOf_6 (n + 1) s0 s1 s2 s3 s9 s10 s11 =
  bif decide (s11 < (↑(List.length s0) : Int)) then
 if (0 : Int) ≤ s11 then
 (nth s0 s11.toNat).bind fun y =>
 bif decide (y.2.2.2.1 = s10) then
 bif decide (y.1 = s1) then
 bif decide (y.2.1 = s2) then
 bif decide (y.2.2.1 = s3) then
 if IntKind.u64.wrap s10 < (0 : Int) then none
 else
 R_s_SignersOf_3 n s0 s1 s2 s3
 (IntKind.i64.wrap
 (s9 +
 IntKind.i64.wrap ((1 : Int) * (2 : Int) ^ min (IntKind.u64.wrap s10).toNat IntKind.i64.bits)))
 (IntKind.i64.wrap (s10 + (1 : Int)))
 else R_s_SignersOf_6 n s0 s1 s2 s3 s9 s10 (IntKind.i64.wrap (s11 + (1 : Int)))
 else R_s_SignersOf_6 n s0 s1 s2 s3 s9 s10 (IntKind.i64.wrap (s11 + (1 : Int)))
 else R_s_SignersOf_6 n s0 s1 s2 s3 s9 s10 (IntKind.i64.wrap (s11 + (1 : Int)))
 else R_s_SignersOf_6 n s0 s1 s2 s3 s9 s10 (IntKind.i64.wrap (s11 + (1 : Int)))
 else none
 else R_s_SignersOf_3 n s0 s1 s2 s3 s9 (IntKind.i64.wrap (s10 + (1 : Int))) := by kernel_rfl
end Go.Sx.Tryz
set_option maxRecDepth 100000
namespace Go.Sx.Tryz
open Go Go.Sx Go.Proofs
noncomputable def l_s_QcOf : List (Nat × Con) := [(176, c_s_SignersOf), (174, c_s_CountOf), (175, c_s_Quorum)]
theorem l_s_QcOf_ok : ∀ q ∈ l_s_QcOf, ConOk Tryz.prog q.1 q.2 := Tryz.cons_cons c_s_SignersOf_ok (Tryz.cons_cons c_s_CountOf_ok (Tryz.cons_cons c_s_Quorum_ok (Tryz.cons_nil)))
def kp_s_QcOf : KP := []
noncomputable def q_s_QcOf (n : Nat) (x : Args [tSlIVote, tInt, tInt, tInt, tInt]) := evX (false, false, [12, 22]) l_s_QcOf kp_s_QcOf [none, none] Tryz.f248 (shT [(false, tIQc), (false, tBool)]) n (encA [tSlIVote, tInt, tInt, tInt, tInt] x)
noncomputable def c_s_QcOf : Con := roS [tSlIVote, tInt, tInt, tInt, tInt] true (shT [(false, tIQc), (false, tBool)]) (q_s_QcOf big)
theorem c_s_QcOf_ok : ConOk Tryz.prog 248 c_s_QcOf := roS_ok ⟨Tryz.f248, by kernel_rfl, rfl, by decide⟩ fun _ _ h => evX_ok l_s_QcOf_ok (f := Tryz.f248) (by kernel_rfl) rfl (by kernel_rfl) (by kernel_rfl) big h
noncomputable def Q_s_QcOf (n : Nat) (a0 : DSlIVote) (a1 : Int) (a2 : Int) (a3 : Int) (a4 : Int) : Option (DIQc × Bool × Unit) := q_s_QcOf n (a0, a1, a2, a3, a4, ())
theorem Q_s_QcOf_eq (n : Nat) (a0 : DSlIVote) (a1 : Int) (a2 : Int) (a3 : Int) (a4 : Int) : Q_s_QcOf n a0 a1 a2 a3 a4 =
  (Q_s_SignersOf big a0 a1 a2 a3).bind fun y =>
 (Q_s_CountOf big y).bind fun y_1 =>
 (Q_s_Quorum big a4).bind fun y_2 =>
 bif decide (y_1 < y_2) then some (((0 : Int), (0 : Int), (0 : Int), (0 : Int), ()), false, ())
 else some ((a1, a2, a3, y, ()), true, ()) := by kernel_rfl
end Go.Sx.Tryz
set_option maxRecDepth 100000
namespace Go.Sx.Tryz
open Go Go.Sx Go.Proofs
noncomputable def l_s_Answered : List (Nat × Con) := []
theorem l_s_Answered_ok : ∀ q ∈ l_s_Answered, ConOk Tryz.prog q.1 q.2 := Tryz.cons_nil
def kp_s_Answered : KP := []
noncomputable def q_s_Answered (n : Nat) (x : Args [tIPeer, tInt, tInt, tIQc, tIVote]) := evX (false, false, [5, 8, 9, 11, 13, 16, 23]) l_s_Answered kp_s_Answered [none] Tryz.f69 (shV tILetter) n (encA [tIPeer, tInt, tInt, tIQc, tIVote] x)
noncomputable def c_s_Answered : Con := roS [tIPeer, tInt, tInt, tIQc, tIVote] true (shV tILetter) (q_s_Answered big)
theorem c_s_Answered_ok : ConOk Tryz.prog 69 c_s_Answered := roS_ok ⟨Tryz.f69, by kernel_rfl, rfl, by decide⟩ fun _ _ h => evX_ok l_s_Answered_ok (f := Tryz.f69) (by kernel_rfl) rfl (by kernel_rfl) (by kernel_rfl) big h
end Go.Sx.Tryz
set_option maxRecDepth 100000
namespace Go.Sx.Tryz
open Go Go.Sx Go.Proofs
noncomputable def l_s_MayVote : List (Nat × Con) := []
theorem l_s_MayVote_ok : ∀ q ∈ l_s_MayVote, ConOk Tryz.prog q.1 q.2 := Tryz.cons_nil
def kp_s_MayVote : KP := []
noncomputable def q_s_MayVote (n : Nat) (x : Args [tIPeer, tInt, tInt]) := evX (false, false, [3, 7, 8, 13, 14, 19, 20]) l_s_MayVote kp_s_MayVote [none] Tryz.f15 (shV tBool) n (encA [tIPeer, tInt, tInt] x)
noncomputable def c_s_MayVote : Con := roS [tIPeer, tInt, tInt] true (shV tBool) (q_s_MayVote big)
theorem c_s_MayVote_ok : ConOk Tryz.prog 15 c_s_MayVote := roS_ok ⟨Tryz.f15, by kernel_rfl, rfl, by decide⟩ fun _ _ h => evX_ok l_s_MayVote_ok (f := Tryz.f15) (by kernel_rfl) rfl (by kernel_rfl) (by kernel_rfl) big h
noncomputable def Q_s_MayVote (n : Nat) (a0 : DIPeer) (a1 : Int) (a2 : Int) : Option Bool := q_s_MayVote n (a0, a1, a2, ())
theorem Q_s_MayVote_eq (n : Nat) (a0 : DIPeer) (a1 : Int) (a2 : Int) : Q_s_MayVote n a0 a1 a2 =
  bif decide (a0.2.2.2.2.1.2.1 < a2) then some true
 else
 bif decide (a0.2.2.2.2.1.2.1 = a2) then some (decide (a0.2.2.2.2.1.1 < a1))
 else some false := by kernel_rfl
end Go.Sx.Tryz
set_option maxRecDepth 100000
namespace Go.Sx.Tryz
open Go Go.Sx Go.Proofs
noncomputable def l_s_HeightOf : List (Nat × Con) := [(67, c_s_l01In)]
theorem l_s_HeightOf_ok : ∀ q ∈ l_s_HeightOf, ConOk Tryz.prog q.1 q.2 := Tryz.cons_cons c_s_l01In_ok (Tryz.cons_nil)
abbrev k_s_HeightOf_2 : List Keep × List BK := ([.ro tSlIBlock, .ro tInt64, .drop, .drop, .drop, .ro tInt64, .drop, .drop, .drop, .drop, .drop, .drop, .drop, .drop, .drop, .drop, .drop, .drop, .drop, .drop, .drop, .drop, .drop, .drop, .drop, .drop, .drop, .drop, .drop, .drop, .drop, .drop, .drop, .drop, .drop, .drop], [])
def kp_s_HeightOf : KP := [(2, k_s_HeightOf_2)]
noncomputable def q_s_HeightOf (n : Nat) (x : Args [tSlIBlock, tInt]) := evX (false, false, []) l_s_HeightOf kp_s_HeightOf [none] Tryz.f84 (shV tInt) n (encA [tSlIBlock, tInt] x)
noncomputable def c_s_HeightOf : Con := roS [tSlIBlock, tInt] true (shV tInt) (q_s_HeightOf big)
theorem c_s_HeightOf_ok : ConOk Tryz.prog 84 c_s_HeightOf := roS_ok ⟨Tryz.f84, by kernel_rfl, rfl, by decide⟩ fun _ _ h => evX_ok l_s_HeightOf_ok (f := Tryz.f84) (by kernel_rfl) rfl (by kernel_rfl) (by kernel_rfl) big h
noncomputable def Q_s_HeightOf (n : Nat) (a0 : DSlIBlock) (a1 : Int) : Option Int := q_s_HeightOf n (a0, a1, ())
noncomputable def r_s_HeightOf_2 (n : Nat) (x : KD k_s_HeightOf_2.1) (y : BD k_s_HeightOf_2.2) := rounds (env (false, false, []) l_s_HeightOf) kp_s_HeightOf (body Tryz.f84) (finX (false, false, []) l_s_HeightOf [none] Tryz.f84 (shV tInt) [.val tSlIBlock (zeroD tSlIBlock), .val tInt (zeroD tInt)]) n 2 k_s_HeightOf_2 x y
noncomputable def R_s_HeightOf_2 (n : Nat) (s0 : DSlIBlock) (s1 : Int) (s5 : Int) : Option Int := r_s_HeightOf_2 n (s0, s1, s5, ()) ()
theorem Q_s_HeightOf_eq (n : Nat) (a0 : DSlIBlock) (a1 : Int) : Q_s_HeightOf n a0 a1 =
  R_s_HeightOf_2 n a0 a1 (0 : Int) := by kernel_rfl
theorem R_s_HeightOf_2_eq (n : Nat) (s0 : DSlIBlock) (s1 : Int) (s5 : Int) : R_s_HeightOf_2 (n + 1) s0 s1 s5 =
  bif !decide (s1 = (0 : Int)) then
 (Q_s_l01In big s1 (0 : Int) (IntKind.i64.wrap ((↑(List.length s0) : Int) - (1 : Int)))).bind fun y =>
 bif !y then some (-1 : Int)
 else
 if (0 : Int) ≤ s1 then
 (nth s0 s1.toNat).bind fun y =>
 (Q_s_l01In big y.1 (0 : Int) (IntKind.i64.wrap (s1 - (1 : Int)))).bind fun y =>
 bif !y then some (-1 : Int)
 else
 if (0 : Int) ≤ s1 then
 (nth s0 s1.toNat).bind fun y => R_s_HeightOf_2 n s0 y.1 (IntKind.i64.wrap (s5 + (1 : Int)))
 else none
 else none
 else bif decide ((↑(List.length s0) : Int) = (0 : Int)) then some (-1 : Int) else some s5 := by kernel_rfl
end Go.Sx.Tryz
set_option maxRecDepth 100000
namespace Go.Sx.Tryz
open Go Go.Sx Go.Proofs
noncomputable def l_s_Extends : List (Nat × Con) := [(84, c_s_HeightOf)]
theorem l_s_Extends_ok : ∀ q ∈ l_s_Extends, ConOk Tryz.prog q.1 q.2 := Tryz.cons_cons c_s_HeightOf_ok (Tryz.cons_nil)
abbrev k_s_Extends_3 : List Keep × List BK := ([.ro tSlIBlock, .ro tInt64, .ro tInt64, .drop, .drop, .drop, .drop, .drop, .drop, .drop, .drop, .drop, .drop, .drop, .drop, .drop, .drop, .drop, .drop, .drop, .drop, .drop, .drop, .drop, .drop, .drop], [])
def kp_s_Extends : KP := [(3, k_s_Extends_3)]
noncomputable def q_s_Extends (n : Nat) (x : Args [tSlIBlock, tInt, tInt]) := evX (false, false, []) l_s_Extends kp_s_Extends [none] Tryz.f31 (shV tBool) n (encA [tSlIBlock, tInt, tInt] x)
noncomputable def c_s_Extends : Con := roS [tSlIBlock, tInt, tInt] true (shV tBool) (q_s_Extends big)
theorem c_s_Extends_ok : ConOk Tryz.prog 31 c_s_Extends := roS_ok ⟨Tryz.f31, by kernel_rfl, rfl, by decide⟩ fun _ _ h => evX_ok l_s_Extends_ok (f := Tryz.f31) (by kernel_rfl) rfl (by kernel_rfl) (by kernel_rfl) big h
noncomputable def Q_s_Extends (n : Nat) (a0 : DSlIBlock) (a1 : Int) (a2 : Int) : Option Bool := q_s_Extends n (a0, a1, a2, ())
noncomputable def r_s_Extends_3 (n : Nat) (x : KD k_s_Extends_3.1) (y : BD k_s_Extends_3.2) := rounds (env (false, false, []) l_s_Extends) kp_s_Extends (body Tryz.f31) (finX (false, false, []) l_s_Extends [none] Tryz.f31 (shV tBool) [.val tSlIBlock (zeroD tSlIBlock), .val tInt (zeroD tInt), .val tInt (zeroD tInt)]) n 3 k_s_Extends_3 x y
noncomputable def R_s_Extends_3 (n : Nat) (s0 : DSlIBlock) (s1 : Int) (s2 : Int) : Option Bool := r_s_Extends_3 n (s0, s1, s2, ()) ()
theorem Q_s_Extends_eq (n : Nat) (a0 : DSlIBlock) (a1 : Int) (a2 : Int) : Q_s_Extends n a0 a1 a2 =
  (Q_s_HeightOf big a0 a1).bind fun y =>
 bif decide (y < (0 : Int)) then some false else R_s_Extends_3 n a0 a1 a2 := by kernel_rfl
theorem R_s_Extends_3_eq (n : Nat) (s0 : DSlIBlock) (s1 : Int) (s2 : Int) : R_s_Extends_3 (n + 1) s0 s1 s2 =
  bif decide ((0 : Int) < s1) then
 bif !decide (s1 = s2) then
 if (0 : Int) ≤ s1 then (nth s0 s1.toNat).bind fun y => R_s_Extends_3 n s0 y.1 s2 else none
 else some (decide (s1 = s2))
 else some (decide (s1 = s2)) := by kernel_rfl
end Go.Sx.Tryz
set_option maxRecDepth 100000
namespace Go.Sx.Tryz
open Go Go.Sx Go.Proofs
noncomputable def l_s_SafeBlock : List (Nat × Con) := [(67, c_s_l01In), (31, c_s_Extends)]
theorem l_s_SafeBlock_ok : ∀ q ∈ l_s_SafeBlock, ConOk Tryz.prog q.1 q.2 := Tryz.cons_cons c_s_l01In_ok (Tryz.cons_cons c_s_Extends_ok (Tryz.cons_nil))
def kp_s_SafeBlock : KP := []
noncomputable def q_s_SafeBlock (n : Nat) (x : Args [tSlIBlock, tIQc, tInt]) := evX (false, false, [4, 15, 25]) l_s_SafeBlock kp_s_SafeBlock [none] Tryz.f38 (shV tBool) n (encA [tSlIBlock, tIQc, tInt] x)
noncomputable def c_s_SafeBlock : Con := roS [tSlIBlock, tIQc, tInt] true (shV tBool) (q_s_SafeBlock big)
theorem c_s_SafeBlock_ok : ConOk Tryz.prog 38 c_s_SafeBlock := roS_ok ⟨Tryz.f38, by kernel_rfl, rfl, by decide⟩ fun _ _ h => evX_ok l_s_SafeBlock_ok (f := Tryz.f38) (by kernel_rfl) rfl (by kernel_rfl) (by kernel_rfl) big h
noncomputable def Q_s_SafeBlock (n : Nat) (a0 : DSlIBlock) (a1 : DIQc) (a2 : Int) : Option Bool := q_s_SafeBlock n (a0, a1, a2, ())
theorem Q_s_SafeBlock_eq (n : Nat) (a0 : DSlIBlock) (a1 : DIQc) (a2 : Int) : Q_s_SafeBlock n a0 a1 a2 =
  (Q_s_l01In big a2 (0 : Int) (IntKind.i64.wrap ((↑(List.length a0) : Int) - (1 : Int)))).bind fun y =>
 bif !y then some false
 else
 (Q_s_Extends big a0 a2 a1.2.2.1).bind fun y =>
 bif y then some true
 else
 if (0 : Int) ≤ a2 then (nth a0 a2.toNat).bind fun y => some (decide (a1.2.1 < y.2.2.2.1.2.1))
 else none := by kernel_rfl
end Go.Sx.Tryz
set_option maxRecDepth 100000
namespace Go.Sx.Tryz
open Go Go.Sx Go.Proofs
noncomputable def l_s_l12Three : List (Nat × Con) := [(84, c_s_HeightOf), (67, c_s_l01In)]
theorem l_s_l12Three_ok : ∀ q ∈ l_s_l12Three, ConOk Tryz.prog q.1 q.2 := Tryz.cons_cons c_s_HeightOf_ok (Tryz.cons_cons c_s_l01In_ok (Tryz.cons_nil))
def kp_s_l12Three : KP := []
noncomputable def q_s_l12Three (n : Nat) (x : Args [tSlIBlock, tInt]) := evX (false, false, []) l_s_l12Three kp_s_l12Three [none, none, none, none] Tryz.f95 (shT [(false, tInt), (false, tInt), (false, tInt), (false, tBool)]) n (encA [tSlIBlock, tInt] x)
noncomputable def c_s_l12Three : Con := roS [tSlIBlock, tInt] true (shT [(false, tInt), (false, tInt), (false, tInt), (false, tBool)]) (q_s_l12Three big)
theorem c_s_l12Three_ok : ConOk Tryz.prog 95 c_s_l12Three := roS_ok ⟨Tryz.f95, by kernel_rfl, rfl, by decide⟩ fun _ _ h => evX_ok l_s_l12Three_ok (f := Tryz.f95) (by kernel_rfl) rfl (by kernel_rfl) (by kernel_rfl) big h
noncomputable def Q_s_l12Three (n : Nat) (a0 : DSlIBlock) (a1 : Int) : Option (Int × Int × Int × Bool × Unit) := q_s_l12Three n (a0, a1, ())
theorem Q_s_l12Three_eq (n : Nat) (a0 : DSlIBlock) (a1 : Int) : Q_s_l12Three n a0 a1 =
  (Q_s_HeightOf big a0 a1).bind fun y =>
 bif decide (y < (1 : Int)) then some ((0 : Int), (0 : Int), (0 : Int), false, ())
 else
 if (0 : Int) ≤ a1 then
 (nth a0 a1.toNat).bind fun y =>
 (Q_s_l01In big y.2.2.2.1.2.2.1 (0 : Int) (IntKind.i64.wrap (a1 - (1 : Int)))).bind fun y_1 =>
 bif !y_1 then some ((0 : Int), (0 : Int), (0 : Int), false, ())
 else
 if (0 : Int) ≤ y.2.2.2.1.2.2.1 then
 (nth a0 (Int.toNat y.2.2.2.1.2.2.1)).bind fun y_2 =>
 (Q_s_l01In big y_2.2.2.2.1.2.2.1 (0 : Int)
 (IntKind.i64.wrap ((↑(List.length a0) : Int) - (1 : Int)))).bind
 fun y_3 =>
 bif !y_3 then some ((0 : Int), (0 : Int), (0 : Int), false, ())
 else
 if (0 : Int) ≤ y_2.2.2.2.1.2.2.1 then
 (nth a0 (Int.toNat y_2.2.2.2.1.2.2.1)).bind fun y_4 =>
 (Q_s_l01In big y_4.2.2.2.1.2.2.1 (0 : Int)
 (IntKind.i64.wrap ((↑(List.length a0) : Int) - (1 : Int)))).bind
 fun y_5 =>
 bif !y_5 then some ((0 : Int), (0 : Int), (0 : Int), false, ())
 else
 some
 (y.2.2.2.1.2.2.1, y_2.2.2.2.1.2.2.1,
 y_4.2.2.2.1.2.2.1, true, ())
 else none
 else none
 else none := by kernel_rfl
end Go.Sx.Tryz
set_option maxRecDepth 100000
namespace Go.Sx.Tryz
open Go Go.Sx Go.Proofs
noncomputable def l_s_l12Next : List (Nat × Con) := []
theorem l_s_l12Next_ok : ∀ q ∈ l_s_l12Next, ConOk Tryz.prog q.1 q.2 := Tryz.cons_nil
def kp_s_l12Next : KP := []
noncomputable def q_s_l12Next (n : Nat) (x : Args [tSlIBlock, tInt, tInt]) := evX (false, false, []) l_s_l12Next kp_s_l12Next [none] Tryz.f98 (shV tBool) n (encA [tSlIBlock, tInt, tInt] x)
noncomputable def c_s_l12Next : Con := roS [tSlIBlock, tInt, tInt] true (shV tBool) (q_s_l12Next big)
theorem c_s_l12Next_ok : ConOk Tryz.prog 98 c_s_l12Next := roS_ok ⟨Tryz.f98, by kernel_rfl, rfl, by decide⟩ fun _ _ h => evX_ok l_s_l12Next_ok (f := Tryz.f98) (by kernel_rfl) rfl (by kernel_rfl) (by kernel_rfl) big h
noncomputable def Q_s_l12Next (n : Nat) (a0 : DSlIBlock) (a1 : Int) (a2 : Int) : Option Bool := q_s_l12Next n (a0, a1, a2, ())
theorem Q_s_l12Next_eq (n : Nat) (a0 : DSlIBlock) (a1 : Int) (a2 : Int) : Q_s_l12Next n a0 a1 a2 =
  bif !decide (a1 = (0 : Int)) then
 bif !decide (a2 = (0 : Int)) then
 if (0 : Int) ≤ a1 then
 (nth a0 a1.toNat).bind fun y =>
 if (0 : Int) ≤ a2 then
 (nth a0 a2.toNat).bind fun y_1 => some (decide (y.2.1 = IntKind.i64.wrap (y_1.2.1 + (1 : Int))))
 else none
 else none
 else some false
 else some false := by kernel_rfl
end Go.Sx.Tryz
set_option maxRecDepth 100000
namespace Go.Sx.Tryz
open Go Go.Sx Go.Proofs
noncomputable def l_s_ThreeRow : List (Nat × Con) := [(95, c_s_l12Three), (98, c_s_l12Next)]
theorem l_s_ThreeRow_ok : ∀ q ∈ l_s_ThreeRow, ConOk Tryz.prog q.1 q.2 := Tryz.cons_cons c_s_l12Three_ok (Tryz.cons_cons c_s_l12Next_ok (Tryz.cons_nil))
def kp_s_ThreeRow : KP := []
noncomputable def q_s_ThreeRow (n : Nat) (x : Args [tSlIBlock, tInt]) := evX (false, false, []) l_s_ThreeRow kp_s_ThreeRow [none, none] Tryz.f97 (shT [(false, tInt), (false, tBool)]) n (encA [tSlIBlock, tInt] x)
noncomputable def c_s_ThreeRow : Con := roS [tSlIBlock, tInt] true (shT [(false, tInt), (false, tBool)]) (q_s_ThreeRow big)
theorem c_s_ThreeRow_ok : ConOk Tryz.prog 97 c_s_ThreeRow := roS_ok ⟨Tryz.f97, by kernel_rfl, rfl, by decide⟩ fun _ _ h => evX_ok l_s_ThreeRow_ok (f := Tryz.f97) (by kernel_rfl) rfl (by kernel_rfl) (by kernel_rfl) big h
noncomputable def Q_s_ThreeRow (n : Nat) (a0 : DSlIBlock) (a1 : Int) : Option (Int × Bool × Unit) := q_s_ThreeRow n (a0, a1, ())
theorem Q_s_ThreeRow_eq (n : Nat) (a0 : DSlIBlock) (a1 : Int) : Q_s_ThreeRow n a0 a1 =
  (Q_s_l12Three big a0 a1).bind fun y =>
 bif !y.2.2.2.1 then some ((0 : Int), false, ())
 else
 (Q_s_l12Next big a0 y.1 y.2.1).bind fun y_1 =>
 bif !y_1 then some ((0 : Int), false, ())
 else
 if (0 : Int) ≤ y.2.1 then
 (nth a0 (Int.toNat y.2.1)).bind fun y_2 =>
 if (0 : Int) ≤ y.2.2.1 then
 (nth a0 (Int.toNat y.2.2.1)).bind fun y_3 =>
 bif !decide (y_2.2.1 = IntKind.i64.wrap (y_3.2.1 + (1 : Int))) then
 some ((0 : Int), false, ())
 else some (y.2.2.1, true, ())
 else none
 else none := by kernel_rfl
end Go.Sx.Tryz
set_option maxRecDepth 100000
namespace Go.Sx.Tryz
open Go Go.Sx Go.Proofs
noncomputable def l_s_Ready : List (Nat × Con) := [(22, c_s_LeaderOf), (175, c_s_Quorum)]
theorem l_s_Ready_ok : ∀ q ∈ l_s_Ready, ConOk Tryz.prog q.1 q.2 := Tryz.cons_cons c_s_LeaderOf_ok (Tryz.cons_cons c_s_Quorum_ok (Tryz.cons_nil))
def kp_s_Ready : KP := []
noncomputable def q_s_Ready (n : Nat) (x : Args [tIPeer, tInt, tBool]) := evX (false, false, [3, 7, 11, 15, 17, 21, 28, 35, 36, 38]) l_s_Ready kp_s_Ready [none] Tryz.f188 (shV tBool) n (encA [tIPeer, tInt, tBool] x)
noncomputable def c_s_Ready : Con := roS [tIPeer, tInt, tBool] true (shV tBool) (q_s_Ready big)
theorem c_s_Ready_ok : ConOk Tryz.prog 188 c_s_Ready := roS_ok ⟨Tryz.f188, by kernel_rfl, rfl, by decide⟩ fun _ _ h => evX_ok l_s_Ready_ok (f := Tryz.f188) (by kernel_rfl) rfl (by kernel_rfl) (by kernel_rfl) big h
noncomputable def Q_s_Ready (n : Nat) (a0 : DIPeer) (a1 : Int) (a2 : Bool) : Option Bool := q_s_Ready n (a0, a1, a2, ())
theorem Q_s_Ready_eq (n : Nat) (a0 : DIPeer) (a1 : Int) (a2 : Bool) : Q_s_Ready n a0 a1 a2 =
  (Q_s_LeaderOf big a0.2.1 a1).bind fun y =>
 bif !decide (y = a0.1) then some false
 else
 bif decide (a0.2.1 ≤ a0.2.2.2.2.2.2.2.2.2.2.2.1) then some false
 else
 (Q_s_Quorum big a1).bind fun y =>
 bif decide (y ≤ (↑(List.length a0.2.2.2.2.2.2.2.2.2.2.1) : Int)) then some true
 else
 bif decide (a0.2.1 = (1 : Int)) then some true
 else
 bif a2 then some (decide (a0.2.2.1.2.1 = IntKind.i64.wrap (a0.2.1 - (1 : Int))))
 else some false := by kernel_rfl
end Go.Sx.Tryz
set_option maxRecDepth 100000
namespace Go.Sx.Tryz
open Go Go.Sx Go.Proofs
noncomputable def l_s_FirstBlock : List (Nat × Con) := []
theorem l_s_FirstBlock_ok : ∀ q ∈ l_s_FirstBlock, ConOk Tryz.prog q.1 q.2 := Tryz.cons_nil
def kp_s_FirstBlock : KP := []
noncomputable def q_s_FirstBlock (n : Nat) (x : Args []) := evX (false, false, []) l_s_FirstBlock kp_s_FirstBlock [some uIBlock] Tryz.f160 (shF uIBlock) n (encA [] x)
noncomputable def c_s_FirstBlock : Con := roS [] true (shF uIBlock) (q_s_FirstBlock big)
theorem c_s_FirstBlock_ok : ConOk Tryz.prog 160 c_s_FirstBlock := roS_ok ⟨Tryz.f160, by kernel_rfl, rfl, by decide⟩ fun _ _ h => evX_ok l_s_FirstBlock_ok (f := Tryz.f160) (by kernel_rfl) rfl (by kernel_rfl) (by kernel_rfl) big h
end Go.Sx.Tryz
set_option maxRecDepth 100000
namespace Go.Sx.Tryz
open Go Go.Sx Go.Proofs
noncomputable def l_s_TreeNew : List (Nat × Con) := [(160, c_s_FirstBlock)]
theorem l_s_TreeNew_ok : ∀ q ∈ l_s_TreeNew, ConOk Tryz.prog q.1 q.2 := Tryz.cons_cons c_s_FirstBlock_ok (Tryz.cons_nil)
def kp_s_TreeNew : KP := []
noncomputable def q_s_TreeNew (n : Nat) (x : Args []) := evX (true, false, []) l_s_TreeNew kp_s_TreeNew [some uSlIBlock] Tryz.f178 (shF uSlIBlock) n (encA [] x)
noncomputable def c_s_TreeNew : Con := roS [] true (shF uSlIBlock) (q_s_TreeNew big)
theorem c_s_TreeNew_ok : ConOk Tryz.prog 178 c_s_TreeNew := roS_ok ⟨Tryz.f178, by kernel_rfl, rfl, by decide⟩ fun _ _ h => evX_ok l_s_TreeNew_ok (f := Tryz.f178) (by kernel_rfl) rfl (by kernel_rfl) (by kernel_rfl) big h
end Go.Sx.Tryz
set_option maxRecDepth 100000
namespace Go.Sx.Tryz
open Go Go.Sx Go.Proofs
noncomputable def l_s_PeerNew : List (Nat × Con) := []
theorem l_s_PeerNew_ok : ∀ q ∈ l_s_PeerNew, ConOk Tryz.prog q.1 q.2 := Tryz.cons_nil
def kp_s_PeerNew : KP := []
noncomputable def q_s_PeerNew (n : Nat) (x : Args [tInt]) := evX (false, false, []) l_s_PeerNew kp_s_PeerNew [some uIPeer] Tryz.f179 (shF uIPeer) n (encA [tInt] x)
noncomputable def c_s_PeerNew : Con := roS [tInt] true (shF uIPeer) (q_s_PeerNew big)
theorem c_s_PeerNew_ok : ConOk Tryz.prog 179 c_s_PeerNew := roS_ok ⟨Tryz.f179, by kernel_rfl, rfl, by decide⟩ fun _ _ h => evX_ok l_s_PeerNew_ok (f := Tryz.f179) (by kernel_rfl) rfl (by kernel_rfl) (by kernel_rfl) big h
end Go.Sx.Tryz
set_option maxRecDepth 100000
namespace Go.Sx.Tryz
open Go Go.Sx Go.Proofs
noncomputable def l_s_ClusterNew : List (Nat × Con) := [(67, c_s_l01In), (174, c_s_CountOf), (177, c_s_Faults), (178, c_s_TreeNew), (179, c_s_PeerNew)]
theorem l_s_ClusterNew_ok : ∀ q ∈ l_s_ClusterNew, ConOk Tryz.prog q.1 q.2 := Tryz.cons_cons c_s_l01In_ok (Tryz.cons_cons c_s_CountOf_ok (Tryz.cons_cons c_s_Faults_ok (Tryz.cons_cons c_s_TreeNew_ok (Tryz.cons_cons c_s_PeerNew_ok (Tryz.cons_nil)))))
abbrev k_s_ClusterNew_5 : List Keep × List BK := ([.ro tInt64, .drop, .drop, .drop, .drop, .drop, .is (.ptr 0 0), .drop, .is (.ptr 2 0), .ro tInt64, .drop, .drop, .drop, .drop, .drop, .drop, .drop, .drop, .drop, .drop, .drop, .drop, .drop, .drop, .drop, .drop, .drop, .drop, .drop, .drop, .drop, .drop, .drop, .drop, .drop, .drop, .drop, .drop, .drop, .drop, .drop, .drop, .drop, .drop, .drop, .drop, .drop, .drop], [.vars [.ro tInt64, .ro tBool, .ro tInt64, .own uIBlock, .own uIPeer, .own tILetter, .own tIVote, .own tICmd], .drop, .vars [.ro tInt64, .ro tBool, .ro tInt64, .own uXstruct_Parent_int_View_int_Cmds_impl_Cmd, .own uIPeer, .own tILetter, .own tIVote, .own tICmd]])
def kp_s_ClusterNew : KP := [(5, k_s_ClusterNew_5)]
noncomputable def q_s_ClusterNew (n : Nat) (x : Args [tInt, tBool, tInt]) := evX (true, false, [8, 40]) l_s_ClusterNew kp_s_ClusterNew [some uICluster, none] Tryz.f133 (shT [(true, uICluster), (false, tBool)]) n (encA [tInt, tBool, tInt] x)
noncomputable def c_s_ClusterNew : Con := roS [tInt, tBool, tInt] true (shT [(true, uICluster), (false, tBool)]) (q_s_ClusterNew big)
theorem c_s_ClusterNew_ok : ConOk Tryz.prog 133 c_s_ClusterNew := roS_ok ⟨Tryz.f133, by kernel_rfl, rfl, by decide⟩ fun _ _ h => evX_ok l_s_ClusterNew_ok (f := Tryz.f133) (by kernel_rfl) rfl (by kernel_rfl) (by kernel_rfl) big h
noncomputable def Q_s_ClusterNew (n : Nat) (a0 : Int) (a1 : Bool) (a2 : Int) : Option (DICluster × Bool × Unit) := q_s_ClusterNew n (a0, a1, a2, ())
noncomputable def r_s_ClusterNew_5 (n : Nat) (x : KD k_s_ClusterNew_5.1) (y : BD k_s_ClusterNew_5.2) := rounds (env (true, false, [8, 40]) l_s_ClusterNew) kp_s_ClusterNew (body Tryz.f133) (finX (true, false, [8, 40]) l_s_ClusterNew [some uICluster, none] Tryz.f133 (shT [(true, uICluster), (false, tBool)]) [.val tInt (zeroD tInt), .val tBool (zeroD tBool), .val tInt (zeroD tInt)]) n 5 k_s_ClusterNew_5 x y
noncomputable def R_s_ClusterNew_5 (n : Nat) (s0 : Int) (s9 : Int) (b0_0 : Int) (b0_1 : Bool) (b0_2 : Int) (b0_3 : (List DIBlock)) (b0_4 : (List DIPeer)) (b0_5 : (List DILetter)) (b0_6 : (List DIVote)) (b0_7 : (List DICmd)) (b2_0 : Int) (b2_1 : Bool) (b2_2 : Int) (b2_3 : (List DXstruct_Parent_int_View_int_Cmds_impl_Cmd)) (b2_4 : (List DIPeer)) (b2_5 : (List DILetter)) (b2_6 : (List DIVote)) (b2_7 : (List DICmd)) : Option (DICluster × Bool × Unit) := r_s_ClusterNew_5 n (s0, s9, ()) ((b0_0, b0_1, b0_2, b0_3, b0_4, b0_5, b0_6, b0_7, ()), (b2_0, b2_1, b2_2, b2_3, b2_4, b2_5, b2_6, b2_7, ()), ())
theorem Q_s_ClusterNew_eq (n : Nat) (a0 : Int) (a1 : Bool) (a2 : Int) : Q_s_ClusterNew n a0 a1 a2 =
  (Q_s_l01In big a0 (1 : Int) (7 : Int)).bind fun y =>
 bif !y then some (((0 : Int), false, (0 : Int), [], [], [], [], [], ()), false, ())
 else
 if IntKind.u64.wrap a0 < (0 : Int) then none
 else
 (Q_s_l01In big a2 (0 : Int)
 (IntKind.i64.wrap
 (IntKind.i64.wrap ((1 : Int) * (2 : Int) ^ min (IntKind.u64.wrap a0).toNat IntKind.i64.bits) -
 (1 : Int)))).bind
 fun y =>
 bif !y then some (((0 : Int), false, (0 : Int), [], [], [], [], [], ()), false, ())
 else
 (Q_s_CountOf big a2).bind fun y =>
 (Q_s_Faults big a0).bind fun y_1 =>
 bif decide (y_1 < y) then
 some (((0 : Int), false, (0 : Int), [], [], [], [], [], ()), false, ())
 else
 R_s_ClusterNew_5 n a0 (0 : Int) (0 : Int) false (0 : Int) [] [] [] [] [] a0 a1 a2
 [((-1 : Int), (0 : Int), [], ((0 : Int), (0 : Int), (0 : Int), (0 : Int), ()), ())]
 [] [] [] [] := by kernel_rfl
theorem R_s_ClusterNew_5_eq (n : Nat) (s0 : Int) (s9 : Int) (b0_0 : Int) (b0_1 : Bool) (b0_2 : Int) (b0_3 : (List DIBlock)) (b0_4 : (List DIPeer)) (b0_5 : (List DILetter)) (b0_6 : (List DIVote)) (b0_7 : (List DICmd)) (b2_0 : Int) (b2_1 : Bool) (b2_2 : Int) (b2_3 : (List DXstruct_Parent_int_View_int_Cmds_impl_Cmd)) (b2_4 : (List DIPeer)) (b2_5 : (List DILetter)) (b2_6 : (List DIVote)) (b2_7 : (List DICmd)) : R_s_ClusterNew_5 (n + 1) s0 s9 b0_0 b0_1 b0_2 b0_3 b0_4 b0_5 b0_6 b0_7 b2_0 b2_1 b2_2 b2_3 b2_4 b2_5 b2_6 b2_7 =
  bif decide (s9 < s0) then
 if b2_4.length + (1 : Nat) ≤ lim then
 R_s_ClusterNew_5 n s0 (IntKind.i64.wrap (s9 + (1 : Int))) b0_0 b0_1 b0_2 b0_3 b0_4 b0_5 b0_6 b0_7 b2_0 b2_1 b2_2
 b2_3
 (b2_4.append
 [(s9, (1 : Int), ((0 : Int), (0 : Int), (0 : Int), (0 : Int), ()),
 ((0 : Int), (0 : Int), (0 : Int), (0 : Int), ()), ((0 : Int), (0 : Int), (0 : Int), (0 : Int), ()), [],
 [], [], [], [], [], (0 : Int), ())])
 b2_5 b2_6 b2_7
 else none
 else some ((b2_0, b2_1, b2_2, b2_3, b2_4, b2_5, b2_6, b2_7, ()), true, ()) := by kernel_rfl
end Go.Sx.Tryz
set_option maxRecDepth 100000
namespace Go.Sx.Tryz
open Go Go.Sx Go.Proofs
noncomputable def l_s_RowTo : List (Nat × Con) := [(84, c_s_HeightOf)]
theorem l_s_RowTo_ok : ∀ q ∈ l_s_RowTo, ConOk Tryz.prog q.1 q.2 := Tryz.cons_cons c_s_HeightOf_ok (Tryz.cons_nil)
abbrev k_s_RowTo_4 : List Keep × List BK := ([.ro tSlIBlock, .ro tInt64, .drop, .drop, .drop, .own tInt64, .drop, .drop, .drop, .drop, .drop, .drop, .drop, .drop, .drop, .drop, .drop, .drop, .drop, .drop, .drop, .drop, .drop, .drop], [])
def kp_s_RowTo : KP := [(4, k_s_RowTo_4)]
noncomputable def q_s_RowTo (n : Nat) (x : Args [tSlIBlock, tInt]) := evX (false, false, []) l_s_RowTo kp_s_RowTo [some uSlInt] Tryz.f83 (shF uSlInt) n (encA [tSlIBlock, tInt] x)
noncomputable def c_s_RowTo : Con := roS [tSlIBlock, tInt] true (shF uSlInt) (q_s_RowTo big)
theorem c_s_RowTo_ok : ConOk Tryz.prog 83 c_s_RowTo := roS_ok ⟨Tryz.f83, by kernel_rfl, rfl, by decide⟩ fun _ _ h => evX_ok l_s_RowTo_ok (f := Tryz.f83) (by kernel_rfl) rfl (by kernel_rfl) (by kernel_rfl) big h
noncomputable def Q_s_RowTo (n : Nat) (a0 : DSlIBlock) (a1 : Int) : Option DSlInt := q_s_RowTo n (a0, a1, ())
noncomputable def r_s_RowTo_4 (n : Nat) (x : KD k_s_RowTo_4.1) (y : BD k_s_RowTo_4.2) := rounds (env (false, false, []) l_s_RowTo) kp_s_RowTo (body Tryz.f83) (finX (false, false, []) l_s_RowTo [some uSlInt] Tryz.f83 (shF uSlInt) [.val tSlIBlock (zeroD tSlIBlock), .val tInt (zeroD tInt)]) n 4 k_s_RowTo_4 x y
noncomputable def R_s_RowTo_4 (n : Nat) (s0 : DSlIBlock) (s1 : Int) (s5 : (List Int)) : Option DSlInt := r_s_RowTo_4 n (s0, s1, s5, ()) ()
theorem Q_s_RowTo_eq (n : Nat) (a0 : DSlIBlock) (a1 : Int) : Q_s_RowTo n a0 a1 =
  (Q_s_HeightOf big a0 a1).bind fun y => bif decide (y < (0 : Int)) then some [] else R_s_RowTo_4 n a0 a1 [] := by kernel_rfl
theorem R_s_RowTo_4_eq (n : Nat) (s0 : DSlIBlock) (s1 : Int) (s5 : (List Int)) : R_s_RowTo_4 (n + 1) s0 s1 s5 =
  bif decide ((0 : Int) < s1) then
 if [s1].length + s5.length ≤ lim then
 if (0 : Int) ≤ s1 then (nth s0 s1.toNat).bind fun y => R_s_RowTo_4 n s0 y.1 (s1 :: s5) else none
 else none
 else some s5 := by kernel_rfl
end Go.Sx.Tryz
set_option maxRecDepth 100000
namespace Go.Sx.Tryz
open Go Go.Sx Go.Proofs
noncomputable def l_s_RowAfter : List (Nat × Con) := [(31, c_s_Extends), (83, c_s_RowTo)]
theorem l_s_RowAfter_ok : ∀ q ∈ l_s_RowAfter, ConOk Tryz.prog q.1 q.2 := Tryz.cons_cons c_s_Extends_ok (Tryz.cons_cons c_s_RowTo_ok (Tryz.cons_nil))
abbrev k_s_RowAfter_6 : List Keep × List BK := ([.drop, .drop, .ro tInt64, .drop, .drop, .drop, .drop, .is (.own 0 0), .own tInt64, .ro tInt64, .drop, .drop, .drop, .drop, .drop, .drop, .drop, .drop, .drop, .drop, .drop, .drop, .drop, .drop, .drop, .drop, .drop, .drop, .drop, .drop, .drop, .drop, .drop, .drop, .drop, .drop, .drop, .drop, .drop, .drop], [.arr tInt64])
def kp_s_RowAfter : KP := [(6, k_s_RowAfter_6)]
noncomputable def q_s_RowAfter (n : Nat) (x : Args [tSlIBlock, tInt, tInt]) := evX (false, false, []) l_s_RowAfter kp_s_RowAfter [some uSlInt] Tryz.f30 (shF uSlInt) n (encA [tSlIBlock, tInt, tInt] x)
noncomputable def c_s_RowAfter : Con := roS [tSlIBlock, tInt, tInt] true (shF uSlInt) (q_s_RowAfter big)
theorem c_s_RowAfter_ok : ConOk Tryz.prog 30 c_s_RowAfter := roS_ok ⟨Tryz.f30, by kernel_rfl, rfl, by decide⟩ fun _ _ h => evX_ok l_s_RowAfter_ok (f := Tryz.f30) (by kernel_rfl) rfl (by kernel_rfl) (by kernel_rfl) big h
noncomputable def Q_s_RowAfter (n : Nat) (a0 : DSlIBlock) (a1 : Int) (a2 : Int) : Option DSlInt := q_s_RowAfter n (a0, a1, a2, ())
noncomputable def r_s_RowAfter_6 (n : Nat) (x : KD k_s_RowAfter_6.1) (y : BD k_s_RowAfter_6.2) := rounds (env (false, false, []) l_s_RowAfter) kp_s_RowAfter (body Tryz.f30) (finX (false, false, []) l_s_RowAfter [some uSlInt] Tryz.f30 (shF uSlInt) [.val tSlIBlock (zeroD tSlIBlock), .val tInt (zeroD tInt), .val tInt (zeroD tInt)]) n 6 k_s_RowAfter_6 x y
noncomputable def R_s_RowAfter_6 (n : Nat) (s2 : Int) (s8 : (List Int)) (s9 : Int) (b0 : (List Int)) : Option DSlInt := r_s_RowAfter_6 n (s2, s8, s9, ()) (b0, ())
theorem Q_s_RowAfter_eq (n : Nat) (a0 : DSlIBlock) (a1 : Int) (a2 : Int) : Q_s_RowAfter n a0 a1 a2 =
  (Q_s_Extends big a0 a1 a2).bind fun y =>
 bif !y then some [] else (Q_s_RowTo big a0 a1).bind fun y => R_s_RowAfter_6 n a2 [] (0 : Int) y := by kernel_rfl
theorem R_s_RowAfter_6_eq (n : Nat) (s2 : Int) (s8 : (List Int)) (s9 : Int) (b0 : (List Int)) : R_s_RowAfter_6 (n + 1) s2 s8 s9 b0 =
  bif decide (s9 < (↑b0.length : Int)) then
 if (0 : Int) ≤ s9 then
 if s9 < (↑b0.length : Int) then
 (nth b0 s9.toNat).bind fun y =>
 bif decide (s2 < y) then
 if (0 : Int) ≤ s9 then
 if s9 < (↑b0.length : Int) then
 (nth b0 s9.toNat).bind fun y =>
 if s8.length + [y].length ≤ lim then
 R_s_RowAfter_6 n s2 (s8.append [y]) (IntKind.i64.wrap (s9 + (1 : Int))) b0
 else none
 else none
 else none
 else R_s_RowAfter_6 n s2 s8 (IntKind.i64.wrap (s9 + (1 : Int))) b0
 else none
 else none
 else some s8 := by kernel_rfl
end Go.Sx.Tryz
set_option maxRecDepth 100000
namespace Go.Sx.Tryz
open Go Go.Sx Go.Proofs
noncomputable def l_s_l10Last : List (Nat × Con) := []
theorem l_s_l10Last_ok : ∀ q ∈ l_s_l10Last, ConOk Tryz.prog q.1 q.2 := Tryz.cons_nil
def kp_s_l10Last : KP := []
noncomputable def q_s_l10Last (n : Nat) (x : Args [tIPeer]) := evX (false, false, [1, 3, 7, 9]) l_s_l10Last kp_s_l10Last [none] Tryz.f88 (shV tInt) n (encA [tIPeer] x)
noncomputable def c_s_l10Last : Con := roS [tIPeer] true (shV tInt) (q_s_l10Last big)
theorem c_s_l10Last_ok : ConOk Tryz.prog 88 c_s_l10Last := roS_ok ⟨Tryz.f88, by kernel_rfl, rfl, by decide⟩ fun _ _ h => evX_ok l_s_l10Last_ok (f := Tryz.f88) (by kernel_rfl) rfl (by kernel_rfl) (by kernel_rfl) big h
noncomputable def Q_s_l10Last (n : Nat) (a0 : DIPeer) : Option Int := q_s_l10Last n (a0, ())
theorem Q_s_l10Last_eq (n : Nat) (a0 : DIPeer) : Q_s_l10Last n a0 =
  bif decide ((↑(List.length a0.2.2.2.2.2.1) : Int) = (0 : Int)) then some (0 : Int)
 else
 if (0 : Int) ≤ IntKind.i64.wrap ((↑(List.length a0.2.2.2.2.2.1) : Int) - (1 : Int)) then
 (nth a0.2.2.2.2.2.1
 (IntKind.i64.wrap ((↑(List.length a0.2.2.2.2.2.1) : Int) - (1 : Int))).toNat).bind
 fun y => some y
 else none := by kernel_rfl
end Go.Sx.Tryz
set_option maxRecDepth 100000
namespace Go.Sx.Tryz
open Go Go.Sx Go.Proofs
noncomputable def l_s_Proven : List (Nat × Con) := [(176, c_s_SignersOf)]
theorem l_s_Proven_ok : ∀ q ∈ l_s_Proven, ConOk Tryz.prog q.1 q.2 := Tryz.cons_cons c_s_SignersOf_ok (Tryz.cons_nil)
abbrev k_s_Proven_5 : List Keep × List BK := ([.drop, .drop, .ro tInt64, .drop, .is (.ptr 0 0), .drop, .drop, .ro tInt64, .ro tInt64, .drop, .drop, .drop, .drop, .drop, .drop, .drop, .drop, .drop, .drop, .drop, .drop, .drop, .drop, .drop, .drop, .drop, .drop, .drop, .drop, .drop, .drop, .drop, .drop, .drop, .drop, .drop, .drop, .drop, .drop, .drop, .drop, .drop, .drop, .drop, .drop, .drop, .drop, .drop, .drop, .drop, .drop, .drop, .drop, .drop, .drop], [.vars [.ro tInt64, .ro tInt64, .ro tInt64, .ro tInt64]])
def kp_s_Proven : KP := [(5, k_s_Proven_5)]
noncomputable def q_s_Proven (n : Nat) (x : Args [tSlIVote, tIQc, tInt]) := evX (false, false, [4, 9, 13, 15, 17, 24, 47, 51]) l_s_Proven kp_s_Proven [none] Tryz.f126 (shV tBool) n (encA [tSlIVote, tIQc, tInt] x)
noncomputable def c_s_Proven : Con := roS [tSlIVote, tIQc, tInt] true (shV tBool) (q_s_Proven big)
theorem c_s_Proven_ok : ConOk Tryz.prog 126 c_s_Proven := roS_ok ⟨Tryz.f126, by kernel_rfl, rfl, by decide⟩ fun _ _ h => evX_ok l_s_Proven_ok (f := Tryz.f126) (by kernel_rfl) rfl (by kernel_rfl) (by kernel_rfl) big h
noncomputable def Q_s_Proven (n : Nat) (a0 : DSlIVote) (a1 : DIQc) (a2 : Int) : Option Bool := q_s_Proven n (a0, a1, a2, ())
noncomputable def r_s_Proven_5 (n : Nat) (x : KD k_s_Proven_5.1) (y : BD k_s_Proven_5.2) := rounds (env (false, false, [4, 9, 13, 15, 17, 24, 47, 51]) l_s_Proven) kp_s_Proven (body Tryz.f126) (finX (false, false, [4, 9, 13, 15, 17, 24, 47, 51]) l_s_Proven [none] Tryz.f126 (shV tBool) [.val tSlIVote (zeroD tSlIVote), .val tIQc (zeroD tIQc), .val tInt (zeroD tInt)]) n 5 k_s_Proven_5 x y
noncomputable def R_s_Proven_5 (n : Nat) (s2 : Int) (s7 : Int) (s8 : Int) (b0_0 : Int) (b0_1 : Int) (b0_2 : Int) (b0_3 : Int) : Option Bool := r_s_Proven_5 n (s2, s7, s8, ()) ((b0_0, b0_1, b0_2, b0_3, ()), ())
theorem Q_s_Proven_eq (n : Nat) (a0 : DSlIVote) (a1 : DIQc) (a2 : Int) : Q_s_Proven n a0 a1 a2 =
  bif decide (a1.2.1 = (0 : Int)) then some true
 else
 (Q_s_SignersOf big a0 a1.1 a1.2.1 a1.2.2.1).bind fun y =>
 R_s_Proven_5 n a2 y (0 : Int) a1.1 a1.2.1 a1.2.2.1 a1.2.2.2.1 := by kernel_rfl
theorem R_s_Proven_5_eq (n : Nat) (s2 : Int) (s7 : Int) (s8 : Int) (b0_0 : Int) (b0_1 : Int) (b0_2 : Int) (b0_3 : Int) : R_s_Proven_5 (n + 1) s2 s7 s8 b0_0 b0_1 b0_2 b0_3 =
  bif decide (s8 < (7 : Int)) then
 if IntKind.u64.wrap s8 < (0 : Int) then none
 else
 bif
 !decide
 ((b0_3.fdiv ((2 : Int) ^ min (IntKind.u64.wrap s8).toNat IntKind.i64.bits)).tmod (2 : Int) =
 (0 : Int)) then
 if IntKind.u64.wrap s8 < (0 : Int) then none
 else
 bif
 decide
 ((s2.fdiv ((2 : Int) ^ min (IntKind.u64.wrap s8).toNat IntKind.i64.bits)).tmod (2 : Int) =
 (0 : Int)) then
 if IntKind.u64.wrap s8 < (0 : Int) then none
 else
 bif
 decide
 ((s7.fdiv ((2 : Int) ^ min (IntKind.u64.wrap s8).toNat IntKind.i64.bits)).tmod (2 : Int) =
 (0 : Int)) then
 some false
 else R_s_Proven_5 n s2 s7 (IntKind.i64.wrap (s8 + (1 : Int))) b0_0 b0_1 b0_2 b0_3
 else R_s_Proven_5 n s2 s7 (IntKind.i64.wrap (s8 + (1 : Int))) b0_0 b0_1 b0_2 b0_3
 else R_s_Proven_5 n s2 s7 (IntKind.i64.wrap (s8 + (1 : Int))) b0_0 b0_1 b0_2 b0_3
 else bif decide ((0 : Int) ≤ b0_3) then some (decide (b0_3 < (128 : Int))) else some false := by kernel_rfl
end Go.Sx.Tryz
set_option maxRecDepth 100000
namespace Go.Sx.Tryz
open Go Go.Sx Go.Proofs
noncomputable def l_s_Voted : List (Nat × Con) := [(68, c_s_l09Copy)]
theorem l_s_Voted_ok : ∀ q ∈ l_s_Voted, ConOk Tryz.prog q.1 q.2 := Tryz.cons_cons c_s_l09Copy_ok (Tryz.cons_nil)
def kp_s_Voted : KP := []
noncomputable def q_s_Voted (n : Nat) (x : Args [tIPeer, tInt, tInt, tInt]) := evX (false, false, [4, 10, 11, 17]) l_s_Voted kp_s_Voted [some uIPeer, none] Tryz.f253 (shT [(true, uIPeer), (false, tIVote)]) n (encA [tIPeer, tInt, tInt, tInt] x)
noncomputable def c_s_Voted : Con := roS [tIPeer, tInt, tInt, tInt] true (shT [(true, uIPeer), (false, tIVote)]) (q_s_Voted big)
theorem c_s_Voted_ok : ConOk Tryz.prog 253 c_s_Voted := roS_ok ⟨Tryz.f253, by kernel_rfl, rfl, by decide⟩ fun _ _ h => evX_ok l_s_Voted_ok (f := Tryz.f253) (by kernel_rfl) rfl (by kernel_rfl) (by kernel_rfl) big h
noncomputable def Q_s_Voted (n : Nat) (a0 : DIPeer) (a1 : Int) (a2 : Int) (a3 : Int) : Option (DIPeer × DIVote × Unit) := q_s_Voted n (a0, a1, a2, a3, ())
theorem Q_s_Voted_eq (n : Nat) (a0 : DIPeer) (a1 : Int) (a2 : Int) (a3 : Int) : Q_s_Voted n a0 a1 a2 a3 = (Q_s_l09Copy big a0).bind fun y => (fun zB => both zB zB) (some ((y.1, y.2.1, y.2.2.1, y.2.2.2.1, (a1, a2, a3, a0.1, ()), y.2.2.2.2.2), (a1, a2, a3, a0.1, ()), ())) := by kernel_rfl
end Go.Sx.Tryz
set_option maxRecDepth 100000
namespace Go.Sx.Tryz
open Go Go.Sx Go.Proofs
noncomputable def l_s_l11Give : List (Nat × Con) := [(253, c_s_Voted), (69, c_s_Answered)]
theorem l_s_l11Give_ok : ∀ q ∈ l_s_l11Give, ConOk Tryz.prog q.1 q.2 := Tryz.cons_cons c_s_Voted_ok (Tryz.cons_cons c_s_Answered_ok (Tryz.cons_nil))
def kp_s_l11Give : KP := []
noncomputable def q_s_l11Give (n : Nat) (x : AP.denL [.mu uIPeer, .ro tInt, .ro tInt, .ro tInt, .ro tInt]) := evX (false, false, [11, 12, 14, 15, 23, 26, 27]) l_s_l11Give kp_s_l11Give [some uSlILetter] Tryz.f236 (shO (shF uSlILetter) [.mu uIPeer]) n (AP.encL [.mu uIPeer, .ro tInt, .ro tInt, .ro tInt, .ro tInt] x)
noncomputable def c_s_l11Give : Con := apS [.mu uIPeer, .ro tInt, .ro tInt, .ro tInt, .ro tInt] true (shO (shF uSlILetter) [.mu uIPeer]) (q_s_l11Give big)
theorem c_s_l11Give_ok : ConOk Tryz.prog 236 c_s_l11Give := apS_ok ⟨Tryz.f236, by kernel_rfl, rfl, by decide⟩ fun _ _ h => evX_ok l_s_l11Give_ok (f := Tryz.f236) (by kernel_rfl) rfl (by kernel_rfl) (by kernel_rfl) big h
noncomputable def Q_s_l11Give (n : Nat) (a0 : DIPeer) (a1 : Int) (a2 : Int) (a3 : Int) (a4 : Int) : Option (DSlILetter × DIPeer × Unit) := q_s_l11Give n (a0, a1, a2, a3, a4, ())
theorem Q_s_l11Give_eq (n : Nat) (a0 : DIPeer) (a1 : Int) (a2 : Int) (a3 : Int) (a4 : Int) : Q_s_l11Give n a0 a1 a2 a3 a4 =
  (Q_s_Voted big a0 a1 a2 a3).bind fun y =>
 some
 ([((2 : Int), y.1.1, a4, y.2.1.2.1, (0 : Int),
 ((0 : Int), (0 : Int), (0 : Int), (0 : Int), ()), y.2)],
 y.1, ()) := by kernel_rfl
end Go.Sx.Tryz
set_option maxRecDepth 100000
namespace Go.Sx.Tryz
open Go Go.Sx Go.Proofs
noncomputable def l_s_TimedOut : List (Nat × Con) := [(67, c_s_l01In), (68, c_s_l09Copy), (39, c_s_Entered), (22, c_s_LeaderOf), (69, c_s_Answered)]
theorem l_s_TimedOut_ok : ∀ q ∈ l_s_TimedOut, ConOk Tryz.prog q.1 q.2 := Tryz.cons_cons c_s_l01In_ok (Tryz.cons_cons c_s_l09Copy_ok (Tryz.cons_cons c_s_Entered_ok (Tryz.cons_cons c_s_LeaderOf_ok (Tryz.cons_cons c_s_Answered_ok (Tryz.cons_nil)))))
def kp_s_TimedOut : KP := []
noncomputable def q_s_TimedOut (n : Nat) (x : Args [tIPeer, tInt]) := evX (false, false, [2, 7, 8, 20, 26, 30]) l_s_TimedOut kp_s_TimedOut [some uIPeer, none, none] Tryz.f18 (shT [(true, uIPeer), (false, tILetter), (false, tBool)]) n (encA [tIPeer, tInt] x)
noncomputable def c_s_TimedOut : Con := roS [tIPeer, tInt] true (shT [(true, uIPeer), (false, tILetter), (false, tBool)]) (q_s_TimedOut big)
theorem c_s_TimedOut_ok : ConOk Tryz.prog 18 c_s_TimedOut := roS_ok ⟨Tryz.f18, by kernel_rfl, rfl, by decide⟩ fun _ _ h => evX_ok l_s_TimedOut_ok (f := Tryz.f18) (by kernel_rfl) rfl (by kernel_rfl) (by kernel_rfl) big h
noncomputable def Q_s_TimedOut (n : Nat) (a0 : DIPeer) (a1 : Int) : Option (DIPeer × DILetter × Bool × Unit) := q_s_TimedOut n (a0, a1, ())
theorem Q_s_TimedOut_eq (n : Nat) (a0 : DIPeer) (a1 : Int) : Q_s_TimedOut n a0 a1 =
  bif decide ((900 : Int) ≤ a0.2.1) then
 (Q_s_l09Copy big a0).bind fun y =>
 some
 (y,
 ((0 : Int), (0 : Int), (0 : Int), (0 : Int), (0 : Int),
 ((0 : Int), (0 : Int), (0 : Int), (0 : Int), ()),
 ((0 : Int), (0 : Int), (0 : Int), (0 : Int), ()), ()),
 false, ())
 else
 (Q_s_l01In big a1 (1 : Int) (7 : Int)).bind fun y =>
 bif !y then
 (Q_s_l09Copy big a0).bind fun y =>
 some
 (y,
 ((0 : Int), (0 : Int), (0 : Int), (0 : Int), (0 : Int),
 ((0 : Int), (0 : Int), (0 : Int), (0 : Int), ()),
 ((0 : Int), (0 : Int), (0 : Int), (0 : Int), ()), ()),
 false, ())
 else
 (Q_s_Entered big a0 (IntKind.i64.wrap (a0.2.1 + (1 : Int)))).bind fun y =>
 (Q_s_LeaderOf big y.2.1 a1).bind fun y_1 =>
 some
 (y,
 ((4 : Int), y.1, y_1, y.2.1, (0 : Int), y.2.2.1,
 ((0 : Int), (0 : Int), (0 : Int), (0 : Int), ()), ()),
 true, ()) := by kernel_rfl
end Go.Sx.Tryz
set_option maxRecDepth 100000
namespace Go.Sx.Tryz
open Go Go.Sx Go.Proofs
noncomputable def l_s_Shows : List (Nat × Con) := [(233, c_s_BestQc), (197, c_s_PutBlock), (68, c_s_l09Copy)]
theorem l_s_Shows_ok : ∀ q ∈ l_s_Shows, ConOk Tryz.prog q.1 q.2 := Tryz.cons_cons c_s_BestQc_ok (Tryz.cons_cons c_s_PutBlock_ok (Tryz.cons_cons c_s_l09Copy_ok (Tryz.cons_nil)))
def kp_s_Shows : KP := []
noncomputable def q_s_Shows (n : Nat) (x : Args [tSlIBlock, tIPeer, tSlICmd]) := evX (false, false, [4, 9, 12, 17, 19, 33]) l_s_Shows kp_s_Shows [some uSlIBlock, some uIPeer, none] Tryz.f213 (shT [(true, uSlIBlock), (true, uIPeer), (false, tInt)]) n (encA [tSlIBlock, tIPeer, tSlICmd] x)
noncomputable def c_s_Shows : Con := roS [tSlIBlock, tIPeer, tSlICmd] true (shT [(true, uSlIBlock), (true, uIPeer), (false, tInt)]) (q_s_Shows big)
theorem c_s_Shows_ok : ConOk Tryz.prog 213 c_s_Shows := roS_ok ⟨Tryz.f213, by kernel_rfl, rfl, by decide⟩ fun _ _ h => evX_ok l_s_Shows_ok (f := Tryz.f213) (by kernel_rfl) rfl (by kernel_rfl) (by kernel_rfl) big h
noncomputable def Q_s_Shows (n : Nat) (a0 : DSlIBlock) (a1 : DIPeer) (a2 : DSlICmd) : Option (DSlIBlock × DIPeer × Int × Unit) := q_s_Shows n (a0, a1, a2, ())
theorem Q_s_Shows_eq (n : Nat) (a0 : DSlIBlock) (a1 : DIPeer) (a2 : DSlICmd) : Q_s_Shows n a0 a1 a2 =
  (Q_s_BestQc big a1).bind fun y =>
 (Q_s_PutBlock big a0 (y.2.2.1, a1.2.1, a2, y, ())).bind fun y_1 =>
 (Q_s_l09Copy big a1).bind fun y_2 =>
 bif decide (y_1.2.1 < (0 : Int)) then some (y_1.1, y_2, (-1 : Int), ())
 else
 some
 (y_1.1,
 (y_2.1, y_2.2.1, y, y_2.2.2.2.1, y_2.2.2.2.2.1, y_2.2.2.2.2.2.1,
 y_2.2.2.2.2.2.2.1, y_2.2.2.2.2.2.2.2.1,
 y_2.2.2.2.2.2.2.2.2.1, y_2.2.2.2.2.2.2.2.2.2.1,
 y_2.2.2.2.2.2.2.2.2.2.2.1, a1.2.1, ()),
 y_1.2) := by kernel_rfl
end Go.Sx.Tryz
set_option maxRecDepth 100000
namespace Go.Sx.Tryz
open Go Go.Sx Go.Proofs
noncomputable def l_s_ShownTo : List (Nat × Con) := [(67, c_s_l01In)]
theorem l_s_ShownTo_ok : ∀ q ∈ l_s_ShownTo, ConOk Tryz.prog q.1 q.2 := Tryz.cons_cons c_s_l01In_ok (Tryz.cons_nil)
abbrev k_s_ShownTo_6 : List Keep × List BK := ([.drop, .drop, .ro tInt64, .ro tInt64, .drop, .is (.ptr 0 0), .drop, .drop, .drop, .own tXstruct_Kind_int_From_int_To_int_View_int, .is (.ptr 2 0), .ro tInt64, .drop, .drop, .drop, .drop, .drop, .drop, .drop, .drop, .drop, .drop, .drop, .drop, .drop, .drop, .drop, .drop, .drop, .drop, .drop, .drop, .drop, .drop, .drop, .drop, .drop, .drop, .drop, .drop, .drop, .drop, .drop, .drop, .drop], [.vars [.ro tInt64, .ro tInt64, .ro tInt64, .ro tInt64, .ro tInt64, .ro tInt64, .ro tInt64, .ro tInt64, .ro tInt64, .ro tInt64, .ro tInt64, .ro tInt64, .ro tInt64, .ro tInt64, .ro tSlInt, .ro tSlICell, .ro tSlInt, .ro tSlIUndo, .ro tSlIVote, .ro tSlILetter, .ro tInt64], .drop, .vars [.ro tInt64, .ro tInt64, .ro tInt64, .ro tInt64]])
def kp_s_ShownTo : KP := [(6, k_s_ShownTo_6)]
noncomputable def q_s_ShownTo (n : Nat) (x : Args [tSlIBlock, tIPeer, tInt, tInt]) := evX (false, false, [5, 10, 34, 37]) l_s_ShownTo kp_s_ShownTo [some uSlILetter] Tryz.f215 (shF uSlILetter) n (encA [tSlIBlock, tIPeer, tInt, tInt] x)
noncomputable def c_s_ShownTo : Con := roS [tSlIBlock, tIPeer, tInt, tInt] true (shF uSlILetter) (q_s_ShownTo big)
theorem c_s_ShownTo_ok : ConOk Tryz.prog 215 c_s_ShownTo := roS_ok ⟨Tryz.f215, by kernel_rfl, rfl, by decide⟩ fun _ _ h => evX_ok l_s_ShownTo_ok (f := Tryz.f215) (by kernel_rfl) rfl (by kernel_rfl) (by kernel_rfl) big h
noncomputable def Q_s_ShownTo (n : Nat) (a0 : DSlIBlock) (a1 : DIPeer) (a2 : Int) (a3 : Int) : Option DSlILetter := q_s_ShownTo n (a0, a1, a2, a3, ())
noncomputable def r_s_ShownTo_6 (n : Nat) (x : KD k_s_ShownTo_6.1) (y : BD k_s_ShownTo_6.2) := rounds (env (false, false, [5, 10, 34, 37]) l_s_ShownTo) kp_s_ShownTo (body Tryz.f215) (finX (false, false, [5, 10, 34, 37]) l_s_ShownTo [some uSlILetter] Tryz.f215 (shF uSlILetter) [.val tSlIBlock (zeroD tSlIBlock), .val tIPeer (zeroD tIPeer), .val tInt (zeroD tInt), .val tInt (zeroD tInt)]) n 6 k_s_ShownTo_6 x y
noncomputable def R_s_ShownTo_6 (n : Nat) (s2 : Int) (s3 : Int) (s9 : (List DXstruct_Kind_int_From_int_To_int_View_int)) (s11 : Int) (b0_0 : Int) (b0_1 : Int) (b0_2 : Int) (b0_3 : Int) (b0_4 : Int) (b0_5 : Int) (b0_6 : Int) (b0_7 : Int) (b0_8 : Int) (b0_9 : Int) (b0_10 : Int) (b0_11 : Int) (b0_12 : Int) (b0_13 : Int) (b0_14 : DSlInt) (b0_15 : DSlICell) (b0_16 : DSlInt) (b0_17 : DSlIUndo) (b0_18 : DSlIVote) (b0_19 : DSlILetter) (b0_20 : Int) (b2_0 : Int) (b2_1 : Int) (b2_2 : Int) (b2_3 : Int) : Option DSlILetter := r_s_ShownTo_6 n (s2, s3, s9, s11, ()) ((b0_0, b0_1, b0_2, b0_3, b0_4, b0_5, b0_6, b0_7, b0_8, b0_9, b0_10, b0_11, b0_12, b0_13, b0_14, b0_15, b0_16, b0_17, b0_18, b0_19, b0_20, ()), (b2_0, b2_1, b2_2, b2_3, ()), ())
theorem Q_s_ShownTo_eq (n : Nat) (a0 : DSlIBlock) (a1 : DIPeer) (a2 : Int) (a3 : Int) : Q_s_ShownTo n a0 a1 a2 a3 =
  (Q_s_l01In big a2 (0 : Int) (IntKind.i64.wrap ((↑(List.length a0) : Int) - (1 : Int)))).bind fun y =>
 bif y then
 if (0 : Int) ≤ a2 then
 (nth a0 a2.toNat).bind fun y =>
 R_s_ShownTo_6 n a2 a3 [] (0 : Int) a1.1 a1.2.1 a1.2.2.1.1 a1.2.2.1.2.1
 a1.2.2.1.2.2.1 a1.2.2.1.2.2.2.1 a1.2.2.2.1.1 a1.2.2.2.1.2.1
 a1.2.2.2.1.2.2.1 a1.2.2.2.1.2.2.2.1 a1.2.2.2.2.1.1
 a1.2.2.2.2.1.2.1 a1.2.2.2.2.1.2.2.1 a1.2.2.2.2.1.2.2.2.1
 a1.2.2.2.2.2.1 a1.2.2.2.2.2.2.1 a1.2.2.2.2.2.2.2.1
 a1.2.2.2.2.2.2.2.2.1 a1.2.2.2.2.2.2.2.2.2.1
 a1.2.2.2.2.2.2.2.2.2.2.1 a1.2.2.2.2.2.2.2.2.2.2.2.1
 y.2.2.2.1.1 y.2.2.2.1.2.1 y.2.2.2.1.2.2.1
 y.2.2.2.1.2.2.2.1
 else none
 else
 R_s_ShownTo_6 n a2 a3 [] (0 : Int) a1.1 a1.2.1 a1.2.2.1.1 a1.2.2.1.2.1
 a1.2.2.1.2.2.1 a1.2.2.1.2.2.2.1 a1.2.2.2.1.1 a1.2.2.2.1.2.1
 a1.2.2.2.1.2.2.1 a1.2.2.2.1.2.2.2.1 a1.2.2.2.2.1.1
 a1.2.2.2.2.1.2.1 a1.2.2.2.2.1.2.2.1 a1.2.2.2.2.1.2.2.2.1
 a1.2.2.2.2.2.1 a1.2.2.2.2.2.2.1 a1.2.2.2.2.2.2.2.1
 a1.2.2.2.2.2.2.2.2.1 a1.2.2.2.2.2.2.2.2.2.1
 a1.2.2.2.2.2.2.2.2.2.2.1 a1.2.2.2.2.2.2.2.2.2.2.2.1 (0 : Int)
 (0 : Int) (0 : Int) (0 : Int) := by kernel_rfl
theorem R_s_ShownTo_6_eq (n : Nat) (s2 : Int) (s3 : Int) (s9 : (List DXstruct_Kind_int_From_int_To_int_View_int)) (s11 : Int) (b0_0 : Int) (b0_1 : Int) (b0_2 : Int) (b0_3 : Int) (b0_4 : Int) (b0_5 : Int) (b0_6 : Int) (b0_7 : Int) (b0_8 : Int) (b0_9 : Int) (b0_10 : Int) (b0_11 : Int) (b0_12 : Int) (b0_13 : Int) (b0_14 : DSlInt) (b0_15 : DSlICell) (b0_16 : DSlInt) (b0_17 : DSlIUndo) (b0_18 : DSlIVote) (b0_19 : DSlILetter) (b0_20 : Int) (b2_0 : Int) (b2_1 : Int) (b2_2 : Int) (b2_3 : Int) : R_s_ShownTo_6 (n + 1) s2 s3 s9 s11 b0_0 b0_1 b0_2 b0_3 b0_4 b0_5 b0_6 b0_7 b0_8 b0_9 b0_10 b0_11 b0_12 b0_13 b0_14 b0_15 b0_16 b0_17 b0_18 b0_19 b0_20 b2_0 b2_1 b2_2 b2_3 =
  bif decide (s11 < s3) then
 bif decide (s11 < (7 : Int)) then
 if
 s9.length +
 [((1 : Int), b0_0, s11, b0_1, s2, (b2_0, b2_1, b2_2, b2_3, ()),
 ((0 : Int), (0 : Int), (0 : Int), (0 : Int), ()), ())].length ≤
 lim then
 R_s_ShownTo_6 n s2 s3
 (s9.append
 [((1 : Int), b0_0, s11, b0_1, s2, (b2_0, b2_1, b2_2, b2_3, ()),
 ((0 : Int), (0 : Int), (0 : Int), (0 : Int), ()), ())])
 (IntKind.i64.wrap (s11 + (1 : Int))) b0_0 b0_1 b0_2 b0_3 b0_4 b0_5 b0_6 b0_7 b0_8 b0_9 b0_10 b0_11 b0_12 b0_13
 b0_14 b0_15 b0_16 b0_17 b0_18 b0_19 b0_20 b2_0 b2_1 b2_2 b2_3
 else none
 else some s9
 else some s9 := by kernel_rfl
end Go.Sx.Tryz
set_option maxRecDepth 100000
namespace Go.Sx.Tryz
open Go Go.Sx Go.Proofs
noncomputable def l_s_LieVote : List (Nat × Con) := [(67, c_s_l01In)]
theorem l_s_LieVote_ok : ∀ q ∈ l_s_LieVote, ConOk Tryz.prog q.1 q.2 := Tryz.cons_cons c_s_l01In_ok (Tryz.cons_nil)
def kp_s_LieVote : KP := []
noncomputable def q_s_LieVote (n : Nat) (x : Args [tICluster, tInt, tInt, tInt, tInt]) := evX (false, false, [5, 12, 14, 19]) l_s_LieVote kp_s_LieVote [none] Tryz.f222 (shV tILetter) n (encA [tICluster, tInt, tInt, tInt, tInt] x)
noncomputable def c_s_LieVote : Con := roS [tICluster, tInt, tInt, tInt, tInt] true (shV tILetter) (q_s_LieVote big)
theorem c_s_LieVote_ok : ConOk Tryz.prog 222 c_s_LieVote := roS_ok ⟨Tryz.f222, by kernel_rfl, rfl, by decide⟩ fun _ _ h => evX_ok l_s_LieVote_ok (f := Tryz.f222) (by kernel_rfl) rfl (by kernel_rfl) (by kernel_rfl) big h
noncomputable def Q_s_LieVote (n : Nat) (a0 : DICluster) (a1 : Int) (a2 : Int) (a3 : Int) (a4 : Int) : Option DILetter := q_s_LieVote n (a0, a1, a2, a3, a4, ())
theorem Q_s_LieVote_eq (n : Nat) (a0 : DICluster) (a1 : Int) (a2 : Int) (a3 : Int) (a4 : Int) : Q_s_LieVote n a0 a1 a2 a3 a4 =
  (Q_s_l01In big a4 (0 : Int) (IntKind.i64.wrap ((↑(List.length a0.2.2.2.1) : Int) - (1 : Int)))).bind fun y =>
 bif y then
 if (0 : Int) ≤ a4 then
 (nth a0.2.2.2.1 a4.toNat).bind fun y =>
 some
 ((2 : Int), a1, a2, y.2.1, (0 : Int), ((0 : Int), (0 : Int), (0 : Int), (0 : Int), ()),
 (a3, y.2.1, a4, a1, ()), ())
 else none
 else
 some
 ((2 : Int), a1, a2, (0 : Int), (0 : Int), ((0 : Int), (0 : Int), (0 : Int), (0 : Int), ()),
 (a3, (0 : Int), a4, a1, ()), ()) := by kernel_rfl
end Go.Sx.Tryz
set_option maxRecDepth 100000
namespace Go.Sx.Tryz
open Go Go.Sx Go.Proofs
noncomputable def l_s_CellsOk : List (Nat × Con) := [(143, c_s_KeyOk), (67, c_s_l01In)]
theorem l_s_CellsOk_ok : ∀ q ∈ l_s_CellsOk, ConOk Tryz.prog q.1 q.2 := Tryz.cons_cons c_s_KeyOk_ok (Tryz.cons_cons c_s_l01In_ok (Tryz.cons_nil))
abbrev k_s_CellsOk_2 : List Keep × List BK := ([.ro tSlICell, .drop, .drop, .ro tInt64, .drop, .drop, .drop, .drop, .drop, .drop, .drop, .drop, .drop, .drop, .drop, .drop, .drop, .drop, .drop, .drop, .drop, .drop, .drop, .drop, .drop, .drop, .drop, .drop, .drop, .drop, .drop, .drop, .drop, .drop, .drop, .drop, .drop, .drop, .drop, .drop, .drop, .drop, .drop, .drop, .drop, .drop, .drop], [])
def kp_s_CellsOk : KP := [(2, k_s_CellsOk_2)]
noncomputable def q_s_CellsOk (n : Nat) (x : Args [tSlICell]) := evX (false, false, []) l_s_CellsOk kp_s_CellsOk [none] Tryz.f142 (shV tBool) n (encA [tSlICell] x)
noncomputable def c_s_CellsOk : Con := roS [tSlICell] true (shV tBool) (q_s_CellsOk big)
theorem c_s_CellsOk_ok : ConOk Tryz.prog 142 c_s_CellsOk := roS_ok ⟨Tryz.f142, by kernel_rfl, rfl, by decide⟩ fun _ _ h => evX_ok l_s_CellsOk_ok (f := Tryz.f142) (by kernel_rfl) rfl (by kernel_rfl) (by kernel_rfl) big h
noncomputable def Q_s_CellsOk (n : Nat) (a0 : DSlICell) : Option Bool := q_s_CellsOk n (a0, ())
noncomputable def r_s_CellsOk_2 (n : Nat) (x : KD k_s_CellsOk_2.1) (y : BD k_s_CellsOk_2.2) := rounds (env (false, false, []) l_s_CellsOk) kp_s_CellsOk (body Tryz.f142) (finX (false, false, []) l_s_CellsOk [none] Tryz.f142 (shV tBool) [.val tSlICell (zeroD tSlICell)]) n 2 k_s_CellsOk_2 x y
noncomputable def R_s_CellsOk_2 (n : Nat) (s0 : DSlICell) (s3 : Int) : Option Bool := r_s_CellsOk_2 n (s0, s3, ()) ()
theorem Q_s_CellsOk_eq (n : Nat) (a0 : DSlICell) : Q_s_CellsOk n a0 =
  R_s_CellsOk_2 n a0 (0 : Int) := by kernel_rfl
theorem R_s_CellsOk_2_eq (n : Nat) (s0 : DSlICell) (s3 : Int) : R_s_CellsOk_2 (n + 1) s0 s3 =
  bif decide (s3 < (↑(List.length s0) : Int)) then
 if (0 : Int) ≤ s3 then
 (nth s0 s3.toNat).bind fun y =>
 (Q_s_KeyOk big y.1).bind fun y =>
 bif !y then some false
 else
 if (0 : Int) ≤ s3 then
 (nth s0 s3.toNat).bind fun y =>
 (Q_s_l01In big y.2.1 (0 : Int) (1000000000 : Int)).bind fun y =>
 bif !y then some false
 else
 bif decide ((0 : Int) < s3) then
 if (0 : Int) ≤ IntKind.i64.wrap (s3 - (1 : Int)) then
 (nth s0 (IntKind.i64.wrap (s3 - (1 : Int))).toNat).bind fun y =>
 if (0 : Int) ≤ s3 then
 (nth s0 s3.toNat).bind fun y_1 =>
 bif !Op.bytesLess (ByteArray.toList y.1) (ByteArray.toList y_1.1) then some false
 else R_s_CellsOk_2 n s0 (IntKind.i64.wrap (s3 + (1 : Int)))
 else none
 else none
 else R_s_CellsOk_2 n s0 (IntKind.i64.wrap (s3 + (1 : Int)))
 else none
 else none
 else some (decide ((↑(List.length s0) : Int) ≤ (12 : Int))) := by kernel_rfl
end Go.Sx.Tryz
set_option maxRecDepth 100000
namespace Go.Sx.Tryz
open Go Go.Sx Go.Proofs
noncomputable def l_s_l03Put : List (Nat × Con) := []
theorem l_s_l03Put_ok : ∀ q ∈ l_s_l03Put, ConOk Tryz.prog q.1 q.2 := Tryz.cons_nil
abbrev k_s_l03Put_3 : List Keep × List BK := ([.ro tSlICell, .drop, .drop, .is (.ptr 0 0), .drop, .own tXstruct_Key_string_Num_int_, .ro tInt64, .drop, .drop, .drop, .drop, .drop, .drop, .drop, .drop, .drop, .drop, .drop, .drop, .drop, .drop, .drop, .drop, .drop, .drop, .drop, .drop, .drop, .drop, .drop, .drop, .drop, .drop, .drop, .drop, .drop, .drop, .drop, .drop, .drop, .drop, .drop, .drop, .drop, .drop, .drop, .drop, .drop, .drop, .drop, .drop, .drop, .drop, .drop, .drop, .drop], [.vars [.ro tString, .ro tInt64]])
abbrev k_s_l03Put_9 : List Keep × List BK := ([.ro tSlICell, .drop, .drop, .is (.ptr 0 0), .drop, .own tXstruct_Key_string_Num_int_, .drop, .ro tInt64, .drop, .drop, .drop, .drop, .drop, .drop, .drop, .drop, .drop, .drop, .drop, .drop, .drop, .drop, .drop, .drop, .drop, .drop, .drop, .drop, .drop, .drop, .drop, .drop, .drop, .drop, .drop, .drop, .drop, .drop, .drop, .drop, .drop, .drop, .drop, .drop, .drop, .drop, .drop, .drop, .drop, .drop, .drop, .drop, .drop, .drop, .drop, .drop], [.vars [.ro tString, .ro tInt64]])
def kp_s_l03Put : KP := [(3, k_s_l03Put_3), (9, k_s_l03Put_9)]
noncomputable def q_s_l03Put (n : Nat) (x : Args [tSlICell, tICell]) := evX (false, false, [3, 20, 45]) l_s_l03Put kp_s_l03Put [some uSlICell] Tryz.f144 (shF uSlICell) n (encA [tSlICell, tICell] x)
noncomputable def c_s_l03Put : Con := roS [tSlICell, tICell] true (shF uSlICell) (q_s_l03Put big)
theorem c_s_l03Put_ok : ConOk Tryz.prog 144 c_s_l03Put := roS_ok ⟨Tryz.f144, by kernel_rfl, rfl, by decide⟩ fun _ _ h => evX_ok l_s_l03Put_ok (f := Tryz.f144) (by kernel_rfl) rfl (by kernel_rfl) (by kernel_rfl) big h
noncomputable def Q_s_l03Put (n : Nat) (a0 : DSlICell) (a1 : DICell) : Option DSlICell := q_s_l03Put n (a0, a1, ())
noncomputable def r_s_l03Put_3 (n : Nat) (x : KD k_s_l03Put_3.1) (y : BD k_s_l03Put_3.2) := rounds (env (false, false, [3, 20, 45]) l_s_l03Put) kp_s_l03Put (body Tryz.f144) (finX (false, false, [3, 20, 45]) l_s_l03Put [some uSlICell] Tryz.f144 (shF uSlICell) [.val tSlICell (zeroD tSlICell), .val tICell (zeroD tICell)]) n 3 k_s_l03Put_3 x y
noncomputable def R_s_l03Put_3 (n : Nat) (s0 : DSlICell) (s5 : (List DXstruct_Key_string_Num_int_)) (s6 : Int) (b0_0 : ByteArray) (b0_1 : Int) : Option DSlICell := r_s_l03Put_3 n (s0, s5, s6, ()) ((b0_0, b0_1, ()), ())
noncomputable def r_s_l03Put_9 (n : Nat) (x : KD k_s_l03Put_9.1) (y : BD k_s_l03Put_9.2) := rounds (env (false, false, [3, 20, 45]) l_s_l03Put) kp_s_l03Put (body Tryz.f144) (finX (false, false, [3, 20, 45]) l_s_l03Put [some uSlICell] Tryz.f144 (shF uSlICell) [.val tSlICell (zeroD tSlICell), .val tICell (zeroD tICell)]) n 9 k_s_l03Put_9 x y
noncomputable def R_s_l03Put_9 (n : Nat) (s0 : DSlICell) (s5 : (List DXstruct_Key_string_Num_int_)) (s7 : Int) (b0_0 : ByteArray) (b0_1 : Int) : Option DSlICell := r_s_l03Put_9 n (s0, s5, s7, ()) ((b0_0, b0_1, ()), ())
theorem Q_s_l03Put_eq (n : Nat) (a0 : DSlICell) (a1 : DICell) : Q_s_l03Put n a0 a1 =
  R_s_l03Put_3 n a0 [] (0 : Int) a1.1 a1.2.1 := by kernel_rfl
theorem R_s_l03Put_3_eq (n : Nat) (s0 : DSlICell) (s5 : (List DXstruct_Key_string_Num_int_)) (s6 : Int) (b0_0 : ByteArray) (b0_1 : Int) : R_s_l03Put_3 (n + 1) s0 s5 s6 b0_0 b0_1 =
  bif decide (s6 < (↑(List.length s0) : Int)) then
 if (0 : Int) ≤ s6 then
 (nth s0 s6.toNat).bind fun y =>
 bif Op.bytesLess (ByteArray.toList y.1) b0_0.toList then
 if (0 : Int) ≤ s6 then
 (nth s0 s6.toNat).bind fun y =>
 if s5.length + [y].length ≤ lim then
 R_s_l03Put_3 n s0 (s5.append [y]) (IntKind.i64.wrap (s6 + (1 : Int))) b0_0 b0_1
 else none
 else none
 else R_s_l03Put_3 n s0 s5 (IntKind.i64.wrap (s6 + (1 : Int))) b0_0 b0_1
 else none
 else
 if s5.length + [(b0_0, b0_1, ())].length ≤ lim then
 R_s_l03Put_9 n s0 (s5.append [(b0_0, b0_1, ())]) (0 : Int) b0_0 b0_1
 else none := by kernel_rfl
theorem R_s_l03Put_9_eq (n : Nat) (s0 : DSlICell) (s5 : (List DXstruct_Key_string_Num_int_)) (s7 : Int) (b0_0 : ByteArray) (b0_1 : Int) : R_s_l03Put_9 (n + 1) s0 s5 s7 b0_0 b0_1 =
  bif decide (s7 < (↑(List.length s0) : Int)) then
 if (0 : Int) ≤ s7 then
 (nth s0 s7.toNat).bind fun y =>
 bif !(Op.bytesLess (ByteArray.toList y.1) b0_0.toList || decide (y.1 = b0_0)) then
 if (0 : Int) ≤ s7 then
 (nth s0 s7.toNat).bind fun y =>
 if s5.length + [y].length ≤ lim then
 R_s_l03Put_9 n s0 (s5.append [y]) (IntKind.i64.wrap (s7 + (1 : Int))) b0_0 b0_1
 else none
 else none
 else R_s_l03Put_9 n s0 s5 (IntKind.i64.wrap (s7 + (1 : Int))) b0_0 b0_1
 else none
 else some s5 := by kernel_rfl
end Go.Sx.Tryz
set_option maxRecDepth 100000
namespace Go.Sx.Tryz
open Go Go.Sx Go.Proofs
noncomputable def l_s_CellAt : List (Nat × Con) := []
theorem l_s_CellAt_ok : ∀ q ∈ l_s_CellAt, ConOk Tryz.prog q.1 q.2 := Tryz.cons_nil
abbrev k_s_CellAt_2 : List Keep × List BK := ([.ro tSlICell, .ro tString, .drop, .drop, .drop, .ro tInt64, .drop, .drop, .drop, .drop, .drop, .drop, .drop, .drop, .drop, .drop, .drop, .drop, .drop, .drop], [])
def kp_s_CellAt : KP := [(2, k_s_CellAt_2)]
noncomputable def q_s_CellAt (n : Nat) (x : Args [tSlICell, tString]) := evX (false, false, []) l_s_CellAt kp_s_CellAt [none] Tryz.f195 (shV tInt) n (encA [tSlICell, tString] x)
noncomputable def c_s_CellAt : Con := roS [tSlICell, tString] true (shV tInt) (q_s_CellAt big)
theorem c_s_CellAt_ok : ConOk Tryz.prog 195 c_s_CellAt := roS_ok ⟨Tryz.f195, by kernel_rfl, rfl, by decide⟩ fun _ _ h => evX_ok l_s_CellAt_ok (f := Tryz.f195) (by kernel_rfl) rfl (by kernel_rfl) (by kernel_rfl) big h
noncomputable def Q_s_CellAt (n : Nat) (a0 : DSlICell) (a1 : ByteArray) : Option Int := q_s_CellAt n (a0, a1, ())
noncomputable def r_s_CellAt_2 (n : Nat) (x : KD k_s_CellAt_2.1) (y : BD k_s_CellAt_2.2) := rounds (env (false, false, []) l_s_CellAt) kp_s_CellAt (body Tryz.f195) (finX (false, false, []) l_s_CellAt [none] Tryz.f195 (shV tInt) [.val tSlICell (zeroD tSlICell), .val tString (zeroD tString)]) n 2 k_s_CellAt_2 x y
noncomputable def R_s_CellAt_2 (n : Nat) (s0 : DSlICell) (s1 : ByteArray) (s5 : Int) : Option Int := r_s_CellAt_2 n (s0, s1, s5, ()) ()
theorem Q_s_CellAt_eq (n : Nat) (a0 : DSlICell) (a1 : ByteArray) : Q_s_CellAt n a0 a1 =
  R_s_CellAt_2 n a0 a1 (0 : Int) := by kernel_rfl
theorem R_s_CellAt_2_eq (n : Nat) (s0 : DSlICell) (s1 : ByteArray) (s5 : Int) : R_s_CellAt_2 (n + 1) s0 s1 s5 =
  bif decide (s5 < (↑(List.length s0) : Int)) then
 if (0 : Int) ≤ s5 then
 (nth s0 s5.toNat).bind fun y =>
 bif decide (y.1 = s1) then some s5 else R_s_CellAt_2 n s0 s1 (IntKind.i64.wrap (s5 + (1 : Int)))
 else none
 else some (-1 : Int) := by kernel_rfl
end Go.Sx.Tryz
set_option maxRecDepth 100000
namespace Go.Sx.Tryz
open Go Go.Sx Go.Proofs
noncomputable def l_s_Done : List (Nat × Con) := [(142, c_s_CellsOk), (194, c_s_CmdOk), (195, c_s_CellAt), (67, c_s_l01In), (144, c_s_l03Put)]
theorem l_s_Done_ok : ∀ q ∈ l_s_Done, ConOk Tryz.prog q.1 q.2 := Tryz.cons_cons c_s_CellsOk_ok (Tryz.cons_cons c_s_CmdOk_ok (Tryz.cons_cons c_s_CellAt_ok (Tryz.cons_cons c_s_l01In_ok (Tryz.cons_cons c_s_l03Put_ok (Tryz.cons_nil)))))
def kp_s_Done : KP := []
noncomputable def q_s_Done (n : Nat) (x : Args [tSlICell, tICmd]) := evX (false, false, [3, 22, 25, 27, 38, 41, 49, 66]) l_s_Done kp_s_Done [some uSlICell, none] Tryz.f145 (shT [(true, uSlICell), (false, tInt)]) n (encA [tSlICell, tICmd] x)
noncomputable def c_s_Done : Con := roS [tSlICell, tICmd] true (shT [(true, uSlICell), (false, tInt)]) (q_s_Done big)
theorem c_s_Done_ok : ConOk Tryz.prog 145 c_s_Done := roS_ok ⟨Tryz.f145, by kernel_rfl, rfl, by decide⟩ fun _ _ h => evX_ok l_s_Done_ok (f := Tryz.f145) (by kernel_rfl) rfl (by kernel_rfl) (by kernel_rfl) big h
noncomputable def Q_s_Done (n : Nat) (a0 : DSlICell) (a1 : DICmd) : Option (DSlICell × Int × Unit) := q_s_Done n (a0, a1, ())
theorem Q_s_Done_eq (n : Nat) (a0 : DSlICell) (a1 : DICmd) : Q_s_Done n a0 a1 =
  if (0 : Nat) + List.length a0 ≤ lim then
 (Q_s_CellsOk big a0).bind fun y =>
 bif !y then some (a0, (2 : Int), ())
 else
 (Q_s_CmdOk big a1).bind fun y =>
 bif !y then some (a0, (2 : Int), ())
 else
 (Q_s_CellAt big a0 a1.2.1).bind fun y =>
 bif !decide (a1.1 = (1 : Int)) then
 bif decide (y < (0 : Int)) then some (a0, (1 : Int), ())
 else
 if (0 : Int) ≤ y then
 (nth a0 (Int.toNat y)).bind fun y_1 =>
 bif decide (a1.1 = (3 : Int)) then
 if (0 : Int) ≤ y then
 (nth a0 (Int.toNat y)).bind fun y_2 =>
 (Q_s_l01In big (IntKind.i64.wrap (y_2.2.1 - a1.2.2.1)) (0 : Int)
 (1000000000 : Int)).bind
 fun y_3 =>
 bif !y_3 then some (a0, (2 : Int), ())
 else
 bif decide (y < (0 : Int)) then
 bif decide ((12 : Int) ≤ (↑(List.length a0) : Int)) then
 some (a0, (2 : Int), ())
 else
 (Q_s_l03Put big a0
 (a1.2.1, IntKind.i64.wrap (y_2.2.1 - a1.2.2.1), ())).bind
 fun y => some (y, (0 : Int), ())
 else
 (Q_s_l03Put big a0
 (a1.2.1, IntKind.i64.wrap (y_2.2.1 - a1.2.2.1), ())).bind
 fun y => some (y, (0 : Int), ())
 else none
 else
 (Q_s_l01In big (IntKind.i64.wrap (y_1.2.1 + a1.2.2.1)) (0 : Int)
 (1000000000 : Int)).bind
 fun y_2 =>
 bif !y_2 then some (a0, (2 : Int), ())
 else
 bif decide (y < (0 : Int)) then
 bif decide ((12 : Int) ≤ (↑(List.length a0) : Int)) then some (a0, (2 : Int), ())
 else
 (Q_s_l03Put big a0
 (a1.2.1, IntKind.i64.wrap (y_1.2.1 + a1.2.2.1), ())).bind
 fun y => some (y, (0 : Int), ())
 else
 (Q_s_l03Put big a0 (a1.2.1, IntKind.i64.wrap (y_1.2.1 + a1.2.2.1), ())).bind
 fun y => some (y, (0 : Int), ())
 else none
 else
 (Q_s_l01In big a1.2.2.1 (0 : Int) (1000000000 : Int)).bind fun y_1 =>
 bif !y_1 then some (a0, (2 : Int), ())
 else
 bif decide (y < (0 : Int)) then
 bif decide ((12 : Int) ≤ (↑(List.length a0) : Int)) then some (a0, (2 : Int), ())
 else (Q_s_l03Put big a0 a1.2).bind fun y => some (y, (0 : Int), ())
 else (Q_s_l03Put big a0 a1.2).bind fun y => some (y, (0 : Int), ())
 else none := by kernel_rfl
end Go.Sx.Tryz
set_option maxRecDepth 100000
namespace Go.Sx.Tryz
open Go Go.Sx Go.Proofs
noncomputable def l_s_DoneAll : List (Nat × Con) := [(145, c_s_Done)]
theorem l_s_DoneAll_ok : ∀ q ∈ l_s_DoneAll, ConOk Tryz.prog q.1 q.2 := Tryz.cons_cons c_s_Done_ok (Tryz.cons_nil)
abbrev k_s_DoneAll_4 : List Keep × List BK := ([.drop, .ro tSlICmd, .drop, .drop, .drop, .drop, .own tXstruct_Key_string_Num_int_, .own tInt64, .ro tInt64, .drop, .drop, .drop, .drop, .drop, .drop, .drop, .drop, .drop, .drop, .drop, .drop, .drop, .drop, .drop, .drop, .drop, .drop, .drop, .drop, .drop, .drop, .drop, .drop, .drop, .drop, .drop, .drop], [])
def kp_s_DoneAll : KP := [(4, k_s_DoneAll_4)]
noncomputable def q_s_DoneAll (n : Nat) (x : Args [tSlICell, tSlICmd]) := evX (false, false, []) l_s_DoneAll kp_s_DoneAll [some uSlICell, some uSlInt] Tryz.f82 (shT [(true, uSlICell), (true, uSlInt)]) n (encA [tSlICell, tSlICmd] x)
noncomputable def c_s_DoneAll : Con := roS [tSlICell, tSlICmd] true (shT [(true, uSlICell), (true, uSlInt)]) (q_s_DoneAll big)
theorem c_s_DoneAll_ok : ConOk Tryz.prog 82 c_s_DoneAll := roS_ok ⟨Tryz.f82, by kernel_rfl, rfl, by decide⟩ fun _ _ h => evX_ok l_s_DoneAll_ok (f := Tryz.f82) (by kernel_rfl) rfl (by kernel_rfl) (by kernel_rfl) big h
noncomputable def Q_s_DoneAll (n : Nat) (a0 : DSlICell) (a1 : DSlICmd) : Option (DSlICell × DSlInt × Unit) := q_s_DoneAll n (a0, a1, ())
noncomputable def r_s_DoneAll_4 (n : Nat) (x : KD k_s_DoneAll_4.1) (y : BD k_s_DoneAll_4.2) := rounds (env (false, false, []) l_s_DoneAll) kp_s_DoneAll (body Tryz.f82) (finX (false, false, []) l_s_DoneAll [some uSlICell, some uSlInt] Tryz.f82 (shT [(true, uSlICell), (true, uSlInt)]) [.val tSlICell (zeroD tSlICell), .val tSlICmd (zeroD tSlICmd)]) n 4 k_s_DoneAll_4 x y
noncomputable def R_s_DoneAll_4 (n : Nat) (s1 : DSlICmd) (s6 : (List DXstruct_Key_string_Num_int_)) (s7 : (List Int)) (s8 : Int) : Option (DSlICell × DSlInt × Unit) := r_s_DoneAll_4 n (s1, s6, s7, s8, ()) ()
theorem Q_s_DoneAll_eq (n : Nat) (a0 : DSlICell) (a1 : DSlICmd) : Q_s_DoneAll n a0 a1 =
  if (0 : Nat) + List.length a0 ≤ lim then R_s_DoneAll_4 n a1 a0 [] (0 : Int) else none := by kernel_rfl
theorem R_s_DoneAll_4_eq (n : Nat) (s1 : DSlICmd) (s6 : (List DXstruct_Key_string_Num_int_)) (s7 : (List Int)) (s8 : Int) : R_s_DoneAll_4 (n + 1) s1 s6 s7 s8 =
  bif decide (s8 < (↑(List.length s1) : Int)) then
 if (0 : Int) ≤ s8 then
 (nth s1 s8.toNat).bind fun y =>
 (Q_s_Done big s6 y).bind fun y =>
 if s7.length + (1 : Nat) ≤ lim then
 R_s_DoneAll_4 n s1 y.1 (s7.append [y.2.1]) (IntKind.i64.wrap (s8 + (1 : Int)))
 else none
 else none
 else some (s6, s7, ()) := by kernel_rfl
end Go.Sx.Tryz
set_option maxRecDepth 100000
namespace Go.Sx.Tryz
open Go Go.Sx Go.Proofs
noncomputable def l_s_UndoOf : List (Nat × Con) := [(195, c_s_CellAt)]
theorem l_s_UndoOf_ok : ∀ q ∈ l_s_UndoOf, ConOk Tryz.prog q.1 q.2 := Tryz.cons_cons c_s_CellAt_ok (Tryz.cons_nil)
def kp_s_UndoOf : KP := []
noncomputable def q_s_UndoOf (n : Nat) (x : Args [tSlICell, tString]) := evX (false, false, []) l_s_UndoOf kp_s_UndoOf [none] Tryz.f151 (shV tIUndo) n (encA [tSlICell, tString] x)
noncomputable def c_s_UndoOf : Con := roS [tSlICell, tString] true (shV tIUndo) (q_s_UndoOf big)
theorem c_s_UndoOf_ok : ConOk Tryz.prog 151 c_s_UndoOf := roS_ok ⟨Tryz.f151, by kernel_rfl, rfl, by decide⟩ fun _ _ h => evX_ok l_s_UndoOf_ok (f := Tryz.f151) (by kernel_rfl) rfl (by kernel_rfl) (by kernel_rfl) big h
noncomputable def Q_s_UndoOf (n : Nat) (a0 : DSlICell) (a1 : ByteArray) : Option DIUndo := q_s_UndoOf n (a0, a1, ())
theorem Q_s_UndoOf_eq (n : Nat) (a0 : DSlICell) (a1 : ByteArray) : Q_s_UndoOf n a0 a1 =
  (Q_s_CellAt big a0 a1).bind fun y =>
 bif decide (y < (0 : Int)) then some (a1, false, (0 : Int), ())
 else if (0 : Int) ≤ y then (nth a0 (Int.toNat y)).bind fun y => some (a1, true, y.2) else none := by kernel_rfl
end Go.Sx.Tryz
set_option maxRecDepth 100000
namespace Go.Sx.Tryz
open Go Go.Sx Go.Proofs
noncomputable def l_s_Undone : List (Nat × Con) := [(142, c_s_CellsOk), (143, c_s_KeyOk), (67, c_s_l01In), (144, c_s_l03Put)]
theorem l_s_Undone_ok : ∀ q ∈ l_s_Undone, ConOk Tryz.prog q.1 q.2 := Tryz.cons_cons c_s_CellsOk_ok (Tryz.cons_cons c_s_KeyOk_ok (Tryz.cons_cons c_s_l01In_ok (Tryz.cons_cons c_s_l03Put_ok (Tryz.cons_nil))))
abbrev k_s_Undone_7 : List Keep × List BK := ([.ro tSlICell, .drop, .drop, .is (.ptr 0 0), .drop, .own tXstruct_Key_string_Num_int_, .ro tInt64, .drop, .drop, .drop, .drop, .drop, .drop, .drop, .drop, .drop, .drop, .drop, .drop, .drop, .drop, .drop, .drop, .drop, .drop, .drop, .drop, .drop, .drop, .drop, .drop, .drop, .drop, .drop, .drop, .drop, .drop, .drop, .drop, .drop, .drop, .drop, .drop, .drop, .drop, .drop, .drop, .drop, .drop, .drop, .drop, .drop, .drop, .drop, .drop, .drop, .drop], [.vars [.ro tString, .ro tBool, .ro tInt64]])
def kp_s_Undone : KP := [(7, k_s_Undone_7)]
noncomputable def q_s_Undone (n : Nat) (x : Args [tSlICell, tIUndo]) := evX (false, false, [3, 11, 17, 25, 28, 30, 46]) l_s_Undone kp_s_Undone [some uSlICell] Tryz.f81 (shF uSlICell) n (encA [tSlICell, tIUndo] x)
noncomputable def c_s_Undone : Con := roS [tSlICell, tIUndo] true (shF uSlICell) (q_s_Undone big)
theorem c_s_Undone_ok : ConOk Tryz.prog 81 c_s_Undone := roS_ok ⟨Tryz.f81, by kernel_rfl, rfl, by decide⟩ fun _ _ h => evX_ok l_s_Undone_ok (f := Tryz.f81) (by kernel_rfl) rfl (by kernel_rfl) (by kernel_rfl) big h
noncomputable def Q_s_Undone (n : Nat) (a0 : DSlICell) (a1 : DIUndo) : Option DSlICell := q_s_Undone n (a0, a1, ())
noncomputable def r_s_Undone_7 (n : Nat) (x : KD k_s_Undone_7.1) (y : BD k_s_Undone_7.2) := rounds (env (false, false, [3, 11, 17, 25, 28, 30, 46]) l_s_Undone) kp_s_Undone (body Tryz.f81) (finX (false, false, [3, 11, 17, 25, 28, 30, 46]) l_s_Undone [some uSlICell] Tryz.f81 (shF uSlICell) [.val tSlICell (zeroD tSlICell), .val tIUndo (zeroD tIUndo)]) n 7 k_s_Undone_7 x y
noncomputable def R_s_Undone_7 (n : Nat) (s0 : DSlICell) (s5 : (List DXstruct_Key_string_Num_int_)) (s6 : Int) (b0_0 : ByteArray) (b0_1 : Bool) (b0_2 : Int) : Option DSlICell := r_s_Undone_7 n (s0, s5, s6, ()) ((b0_0, b0_1, b0_2, ()), ())
theorem Q_s_Undone_eq (n : Nat) (a0 : DSlICell) (a1 : DIUndo) : Q_s_Undone n a0 a1 =
  (Q_s_CellsOk big a0).bind fun y =>
 bif !y then if (0 : Nat) + List.length a0 ≤ lim then some a0 else none
 else
 (Q_s_KeyOk big a1.1).bind fun y =>
 bif !y then if (0 : Nat) + List.length a0 ≤ lim then some a0 else none
 else
 (Q_s_l01In big a1.2.2.1 (0 : Int) (1000000000 : Int)).bind fun y =>
 bif !y then if (0 : Nat) + List.length a0 ≤ lim then some a0 else none
 else
 bif a1.2.1 then (Q_s_l03Put big a0 (a1.1, a1.2.2)).bind fun y => some y
 else R_s_Undone_7 n a0 [] (0 : Int) a1.1 a1.2.1 a1.2.2.1 := by kernel_rfl
theorem R_s_Undone_7_eq (n : Nat) (s0 : DSlICell) (s5 : (List DXstruct_Key_string_Num_int_)) (s6 : Int) (b0_0 : ByteArray) (b0_1 : Bool) (b0_2 : Int) : R_s_Undone_7 (n + 1) s0 s5 s6 b0_0 b0_1 b0_2 =
  bif decide (s6 < (↑(List.length s0) : Int)) then
 if (0 : Int) ≤ s6 then
 (nth s0 s6.toNat).bind fun y =>
 bif !decide (y.1 = b0_0) then
 if (0 : Int) ≤ s6 then
 (nth s0 s6.toNat).bind fun y =>
 if s5.length + [y].length ≤ lim then
 R_s_Undone_7 n s0 (s5.append [y]) (IntKind.i64.wrap (s6 + (1 : Int))) b0_0 b0_1 b0_2
 else none
 else none
 else R_s_Undone_7 n s0 s5 (IntKind.i64.wrap (s6 + (1 : Int))) b0_0 b0_1 b0_2
 else none
 else some s5 := by kernel_rfl
end Go.Sx.Tryz
set_option maxRecDepth 100000
namespace Go.Sx.Tryz
open Go Go.Sx Go.Proofs
noncomputable def l_s_UndoneAll : List (Nat × Con) := [(81, c_s_Undone)]
theorem l_s_UndoneAll_ok : ∀ q ∈ l_s_UndoneAll, ConOk Tryz.prog q.1 q.2 := Tryz.cons_cons c_s_Undone_ok (Tryz.cons_nil)
abbrev k_s_UndoneAll_3 : List Keep × List BK := ([.drop, .ro tSlIUndo, .drop, .drop, .drop, .own tXstruct_Key_string_Num_int_, .ro tInt64, .drop, .drop, .drop, .drop, .drop, .drop, .drop, .drop, .drop, .drop, .drop, .drop, .drop, .drop, .drop, .drop, .drop], [])
def kp_s_UndoneAll : KP := [(3, k_s_UndoneAll_3)]
noncomputable def q_s_UndoneAll (n : Nat) (x : Args [tSlICell, tSlIUndo]) := evX (false, false, []) l_s_UndoneAll kp_s_UndoneAll [some uSlICell] Tryz.f27 (shF uSlICell) n (encA [tSlICell, tSlIUndo] x)
noncomputable def c_s_UndoneAll : Con := roS [tSlICell, tSlIUndo] true (shF uSlICell) (q_s_UndoneAll big)
theorem c_s_UndoneAll_ok : ConOk Tryz.prog 27 c_s_UndoneAll := roS_ok ⟨Tryz.f27, by kernel_rfl, rfl, by decide⟩ fun _ _ h => evX_ok l_s_UndoneAll_ok (f := Tryz.f27) (by kernel_rfl) rfl (by kernel_rfl) (by kernel_rfl) big h
noncomputable def Q_s_UndoneAll (n : Nat) (a0 : DSlICell) (a1 : DSlIUndo) : Option DSlICell := q_s_UndoneAll n (a0, a1, ())
noncomputable def r_s_UndoneAll_3 (n : Nat) (x : KD k_s_UndoneAll_3.1) (y : BD k_s_UndoneAll_3.2) := rounds (env (false, false, []) l_s_UndoneAll) kp_s_UndoneAll (body Tryz.f27) (finX (false, false, []) l_s_UndoneAll [some uSlICell] Tryz.f27 (shF uSlICell) [.val tSlICell (zeroD tSlICell), .val tSlIUndo (zeroD tSlIUndo)]) n 3 k_s_UndoneAll_3 x y
noncomputable def R_s_UndoneAll_3 (n : Nat) (s1 : DSlIUndo) (s5 : (List DXstruct_Key_string_Num_int_)) (s6 : Int) : Option DSlICell := r_s_UndoneAll_3 n (s1, s5, s6, ()) ()
theorem Q_s_UndoneAll_eq (n : Nat) (a0 : DSlICell) (a1 : DSlIUndo) : Q_s_UndoneAll n a0 a1 =
  if (0 : Nat) + List.length a0 ≤ lim then
 R_s_UndoneAll_3 n a1 a0 (IntKind.i64.wrap ((↑(List.length a1) : Int) - (1 : Int)))
 else none := by kernel_rfl
theorem R_s_UndoneAll_3_eq (n : Nat) (s1 : DSlIUndo) (s5 : (List DXstruct_Key_string_Num_int_)) (s6 : Int) : R_s_UndoneAll_3 (n + 1) s1 s5 s6 =
  bif decide ((0 : Int) ≤ s6) then
 if (0 : Int) ≤ s6 then
 (nth s1 s6.toNat).bind fun y =>
 (Q_s_Undone big s5 y).bind fun y => R_s_UndoneAll_3 n s1 y (IntKind.i64.wrap (s6 - (1 : Int)))
 else none
 else some s5 := by kernel_rfl
end Go.Sx.Tryz
set_option maxRecDepth 100000
namespace Go.Sx.Tryz
open Go Go.Sx Go.Proofs
noncomputable def l_s_DoneBack : List (Nat × Con) := [(151, c_s_UndoOf), (145, c_s_Done)]
theorem l_s_DoneBack_ok : ∀ q ∈ l_s_DoneBack, ConOk Tryz.prog q.1 q.2 := Tryz.cons_cons c_s_UndoOf_ok (Tryz.cons_cons c_s_Done_ok (Tryz.cons_nil))
abbrev k_s_DoneBack_4 : List Keep × List BK := ([.drop, .ro tSlICmd, .drop, .drop, .drop, .drop, .own tXstruct_Key_string_Num_int_, .own tXstruct_Key_string_Had_bool_Num_int_, .ro tInt64, .drop, .drop, .drop, .drop, .drop, .drop, .drop, .drop, .drop, .drop, .drop, .drop, .drop, .drop, .drop, .drop, .drop, .drop, .drop, .drop, .drop, .drop, .drop, .drop, .drop, .drop, .drop, .drop, .drop, .drop, .drop], [])
def kp_s_DoneBack : KP := [(4, k_s_DoneBack_4)]
noncomputable def q_s_DoneBack (n : Nat) (x : Args [tSlICell, tSlICmd]) := evX (false, false, []) l_s_DoneBack kp_s_DoneBack [some uSlICell, some uSlIUndo] Tryz.f90 (shT [(true, uSlICell), (true, uSlIUndo)]) n (encA [tSlICell, tSlICmd] x)
noncomputable def c_s_DoneBack : Con := roS [tSlICell, tSlICmd] true (shT [(true, uSlICell), (true, uSlIUndo)]) (q_s_DoneBack big)
theorem c_s_DoneBack_ok : ConOk Tryz.prog 90 c_s_DoneBack := roS_ok ⟨Tryz.f90, by kernel_rfl, rfl, by decide⟩ fun _ _ h => evX_ok l_s_DoneBack_ok (f := Tryz.f90) (by kernel_rfl) rfl (by kernel_rfl) (by kernel_rfl) big h
noncomputable def Q_s_DoneBack (n : Nat) (a0 : DSlICell) (a1 : DSlICmd) : Option (DSlICell × DSlIUndo × Unit) := q_s_DoneBack n (a0, a1, ())
noncomputable def r_s_DoneBack_4 (n : Nat) (x : KD k_s_DoneBack_4.1) (y : BD k_s_DoneBack_4.2) := rounds (env (false, false, []) l_s_DoneBack) kp_s_DoneBack (body Tryz.f90) (finX (false, false, []) l_s_DoneBack [some uSlICell, some uSlIUndo] Tryz.f90 (shT [(true, uSlICell), (true, uSlIUndo)]) [.val tSlICell (zeroD tSlICell), .val tSlICmd (zeroD tSlICmd)]) n 4 k_s_DoneBack_4 x y
noncomputable def R_s_DoneBack_4 (n : Nat) (s1 : DSlICmd) (s6 : (List DXstruct_Key_string_Num_int_)) (s7 : (List DXstruct_Key_string_Had_bool_Num_int_)) (s8 : Int) : Option (DSlICell × DSlIUndo × Unit) := r_s_DoneBack_4 n (s1, s6, s7, s8, ()) ()
theorem Q_s_DoneBack_eq (n : Nat) (a0 : DSlICell) (a1 : DSlICmd) : Q_s_DoneBack n a0 a1 =
  if (0 : Nat) + List.length a0 ≤ lim then R_s_DoneBack_4 n a1 a0 [] (0 : Int) else none := by kernel_rfl
theorem R_s_DoneBack_4_eq (n : Nat) (s1 : DSlICmd) (s6 : (List DXstruct_Key_string_Num_int_)) (s7 : (List DXstruct_Key_string_Had_bool_Num_int_)) (s8 : Int) : R_s_DoneBack_4 (n + 1) s1 s6 s7 s8 =
  bif decide (s8 < (↑(List.length s1) : Int)) then
 if (0 : Int) ≤ s8 then
 (nth s1 s8.toNat).bind fun y =>
 (Q_s_UndoOf big s6 y.2.1).bind fun y =>
 if s7.length + [y].length ≤ lim then
 if (0 : Int) ≤ s8 then
 (nth s1 s8.toNat).bind fun y_1 =>
 (Q_s_Done big s6 y_1).bind fun y_2 =>
 R_s_DoneBack_4 n s1 y_2.1 (s7.append [y]) (IntKind.i64.wrap (s8 + (1 : Int)))
 else none
 else none
 else none
 else some (s6, s7, ()) := by kernel_rfl
end Go.Sx.Tryz
set_option maxRecDepth 100000
namespace Go.Sx.Tryz
open Go Go.Sx Go.Proofs
noncomputable def l_s_l10Back : List (Nat × Con) := [(27, c_s_UndoneAll)]
theorem l_s_l10Back_ok : ∀ q ∈ l_s_l10Back, ConOk Tryz.prog q.1 q.2 := Tryz.cons_cons c_s_UndoneAll_ok (Tryz.cons_nil)
def kp_s_l10Back : KP := []
noncomputable def q_s_l10Back (n : Nat) (x : AP.denL [.mu uIPeer]) := evX (false, false, [2, 3, 4, 5, 7, 8, 9, 12, 14, 16, 18, 20]) l_s_l10Back kp_s_l10Back [] Tryz.f89 (shO shN [.mu uIPeer]) n (AP.encL [.mu uIPeer] x)
noncomputable def c_s_l10Back : Con := apS [.mu uIPeer] true (shO shN [.mu uIPeer]) (q_s_l10Back big)
theorem c_s_l10Back_ok : ConOk Tryz.prog 89 c_s_l10Back := apS_ok ⟨Tryz.f89, by kernel_rfl, rfl, by decide⟩ fun _ _ h => evX_ok l_s_l10Back_ok (f := Tryz.f89) (by kernel_rfl) rfl (by kernel_rfl) (by kernel_rfl) big h
noncomputable def Q_s_l10Back (n : Nat) (a0 : DIPeer) : Option (Unit × DIPeer × Unit) := q_s_l10Back n (a0, ())
theorem Q_s_l10Back_eq (n : Nat) (a0 : DIPeer) : Q_s_l10Back n a0 =
  (Q_s_UndoneAll big a0.2.2.2.2.2.2.1 a0.2.2.2.2.2.2.2.2.1).bind fun y =>
 some
 ((),
 (a0.1, a0.2.1, a0.2.2.1, a0.2.2.2.1, a0.2.2.2.2.1, a0.2.2.2.2.2.1, y,
 [], [], a0.2.2.2.2.2.2.2.2.2),
 ()) := by kernel_rfl
end Go.Sx.Tryz
set_option maxRecDepth 100000
namespace Go.Sx.Tryz
open Go Go.Sx Go.Proofs
noncomputable def l_s_Through : List (Nat × Con) := [(68, c_s_l09Copy), (88, c_s_l10Last), (31, c_s_Extends), (89, c_s_l10Back), (30, c_s_RowAfter), (82, c_s_DoneAll)]
theorem l_s_Through_ok : ∀ q ∈ l_s_Through, ConOk Tryz.prog q.1 q.2 := Tryz.cons_cons c_s_l09Copy_ok (Tryz.cons_cons c_s_l10Last_ok (Tryz.cons_cons c_s_Extends_ok (Tryz.cons_cons c_s_l10Back_ok (Tryz.cons_cons c_s_RowAfter_ok (Tryz.cons_cons c_s_DoneAll_ok (Tryz.cons_nil))))))
abbrev k_s_Through_7 : List Keep × List BK := ([.ro tSlIBlock, .drop, .drop, .drop, .drop, .drop, .is (.ptr 1 0), .is (.ptr 8 0), .is (.own 15 0), .ro tInt64, .drop, .drop, .drop, .drop, .drop, .drop, .drop, .drop, .drop, .drop, .drop, .drop, .drop, .drop, .drop, .drop, .drop, .drop, .drop, .drop, .drop, .drop, .drop, .drop, .drop, .drop, .drop, .drop, .drop, .drop, .drop, .drop, .drop, .drop, .drop, .drop, .drop, .drop, .drop, .drop, .drop, .drop, .drop, .drop, .drop, .drop], [.drop, .vars [.ro tInt64, .ro tInt64, .ro tInt64, .ro tInt64, .ro tInt64, .ro tInt64, .ro tInt64, .ro tInt64, .ro tInt64, .ro tInt64, .ro tInt64, .ro tInt64, .ro tInt64, .ro tInt64, .own tInt, .own tICell, .own tInt, .own tIUndo, .own tIVote, .own tILetter, .ro tInt64], .drop, .drop, .drop, .drop, .drop, .drop, .vars [.ro tInt64, .ro tInt64, .ro tInt64, .ro tInt64, .ro tInt64, .ro tInt64, .ro tInt64, .ro tInt64, .ro tInt64, .ro tInt64, .ro tInt64, .ro tInt64, .ro tInt64, .ro tInt64, .own tInt64, .own tXstruct_Key_string_Num_int_, .own tInt64, .own tXstruct_Key_string_Had_bool_Num_int_, .own tXstruct_Phase_int_View_int_Block_int_Sign, .own tXstruct_Kind_int_From_int_To_int_View_int, .ro tInt64], .drop, .drop, .drop, .drop, .drop, .drop, .arr tInt64])
def kp_s_Through : KP := [(7, k_s_Through_7)]
noncomputable def q_s_Through (n : Nat) (x : Args [tSlIBlock, tIPeer, tInt]) := evX (false, false, [4, 7, 31, 41]) l_s_Through kp_s_Through [some uIPeer] Tryz.f40 (shF uIPeer) n (encA [tSlIBlock, tIPeer, tInt] x)
noncomputable def c_s_Through : Con := roS [tSlIBlock, tIPeer, tInt] true (shF uIPeer) (q_s_Through big)
theorem c_s_Through_ok : ConOk Tryz.prog 40 c_s_Through := roS_ok ⟨Tryz.f40, by kernel_rfl, rfl, by decide⟩ fun _ _ h => evX_ok l_s_Through_ok (f := Tryz.f40) (by kernel_rfl) rfl (by kernel_rfl) (by kernel_rfl) big h
noncomputable def Q_s_Through (n : Nat) (a0 : DSlIBlock) (a1 : DIPeer) (a2 : Int) : Option DIPeer := q_s_Through n (a0, a1, a2, ())
noncomputable def r_s_Through_7 (n : Nat) (x : KD k_s_Through_7.1) (y : BD k_s_Through_7.2) := rounds (env (false, false, [4, 7, 31, 41]) l_s_Through) kp_s_Through (body Tryz.f40) (finX (false, false, [4, 7, 31, 41]) l_s_Through [some uIPeer] Tryz.f40 (shF uIPeer) [.val tSlIBlock (zeroD tSlIBlock), .val tIPeer (zeroD tIPeer), .val tInt (zeroD tInt)]) n 7 k_s_Through_7 x y
noncomputable def R_s_Through_7 (n : Nat) (s0 : DSlIBlock) (s9 : Int) (b1_0 : Int) (b1_1 : Int) (b1_2 : Int) (b1_3 : Int) (b1_4 : Int) (b1_5 : Int) (b1_6 : Int) (b1_7 : Int) (b1_8 : Int) (b1_9 : Int) (b1_10 : Int) (b1_11 : Int) (b1_12 : Int) (b1_13 : Int) (b1_14 : (List Int)) (b1_15 : (List DICell)) (b1_16 : (List Int)) (b1_17 : (List DIUndo)) (b1_18 : (List DIVote)) (b1_19 : (List DILetter)) (b1_20 : Int) (b8_0 : Int) (b8_1 : Int) (b8_2 : Int) (b8_3 : Int) (b8_4 : Int) (b8_5 : Int) (b8_6 : Int) (b8_7 : Int) (b8_8 : Int) (b8_9 : Int) (b8_10 : Int) (b8_11 : Int) (b8_12 : Int) (b8_13 : Int) (b8_14 : (List Int)) (b8_15 : (List DXstruct_Key_string_Num_int_)) (b8_16 : (List Int)) (b8_17 : (List DXstruct_Key_string_Had_bool_Num_int_)) (b8_18 : (List DXstruct_Phase_int_View_int_Block_int_Sign)) (b8_19 : (List DXstruct_Kind_int_From_int_To_int_View_int)) (b8_20 : Int) (b15 : (List Int)) : Option DIPeer := r_s_Through_7 n (s0, s9, ()) ((b1_0, b1_1, b1_2, b1_3, b1_4, b1_5, b1_6, b1_7, b1_8, b1_9, b1_10, b1_11, b1_12, b1_13, b1_14, b1_15, b1_16, b1_17, b1_18, b1_19, b1_20, ()), (b8_0, b8_1, b8_2, b8_3, b8_4, b8_5, b8_6, b8_7, b8_8, b8_9, b8_10, b8_11, b8_12, b8_13, b8_14, b8_15, b8_16, b8_17, b8_18, b8_19, b8_20, ()), b15, ())
theorem Q_s_Through_eq (n : Nat) (a0 : DSlIBlock) (a1 : DIPeer) (a2 : Int) : Q_s_Through n a0 a1 a2 =
  (Q_s_l09Copy big a1).bind fun y =>
 (Q_s_l10Last big a1).bind fun y_1 =>
 (Q_s_Extends big a0 a2 y_1).bind fun y_2 =>
 bif !y_2 then some y
 else
 (Q_s_l10Back big y).bind fun y =>
 (Q_s_l10Last big a1).bind fun y_3 =>
 (Q_s_RowAfter big a0 a2 y_3).bind fun y_4 =>
 R_s_Through_7 n a0 (0 : Int) (0 : Int) (0 : Int) (0 : Int) (0 : Int) (0 : Int) (0 : Int) (0 : Int)
 (0 : Int) (0 : Int) (0 : Int) (0 : Int) (0 : Int) (0 : Int) (0 : Int) [] [] [] [] [] [] (0 : Int)
 y.2.1.1 y.2.1.2.1 y.2.1.2.2.1.1 y.2.1.2.2.1.2.1
 y.2.1.2.2.1.2.2.1 y.2.1.2.2.1.2.2.2.1 y.2.1.2.2.2.1.1
 y.2.1.2.2.2.1.2.1 y.2.1.2.2.2.1.2.2.1
 y.2.1.2.2.2.1.2.2.2.1 y.2.1.2.2.2.2.1.1
 y.2.1.2.2.2.2.1.2.1 y.2.1.2.2.2.2.1.2.2.1
 y.2.1.2.2.2.2.1.2.2.2.1 y.2.1.2.2.2.2.2.1
 y.2.1.2.2.2.2.2.2.1 y.2.1.2.2.2.2.2.2.2.1
 y.2.1.2.2.2.2.2.2.2.2.1 y.2.1.2.2.2.2.2.2.2.2.2.1
 y.2.1.2.2.2.2.2.2.2.2.2.2.1
 y.2.1.2.2.2.2.2.2.2.2.2.2.2.1 y_4 := by kernel_rfl
theorem R_s_Through_7_eq (n : Nat) (s0 : DSlIBlock) (s9 : Int) (b1_0 : Int) (b1_1 : Int) (b1_2 : Int) (b1_3 : Int) (b1_4 : Int) (b1_5 : Int) (b1_6 : Int) (b1_7 : Int) (b1_8 : Int) (b1_9 : Int) (b1_10 : Int) (b1_11 : Int) (b1_12 : Int) (b1_13 : Int) (b1_14 : (List Int)) (b1_15 : (List DICell)) (b1_16 : (List Int)) (b1_17 : (List DIUndo)) (b1_18 : (List DIVote)) (b1_19 : (List DILetter)) (b1_20 : Int) (b8_0 : Int) (b8_1 : Int) (b8_2 : Int) (b8_3 : Int) (b8_4 : Int) (b8_5 : Int) (b8_6 : Int) (b8_7 : Int) (b8_8 : Int) (b8_9 : Int) (b8_10 : Int) (b8_11 : Int) (b8_12 : Int) (b8_13 : Int) (b8_14 : (List Int)) (b8_15 : (List DXstruct_Key_string_Num_int_)) (b8_16 : (List Int)) (b8_17 : (List DXstruct_Key_string_Had_bool_Num_int_)) (b8_18 : (List DXstruct_Phase_int_View_int_Block_int_Sign)) (b8_19 : (List DXstruct_Kind_int_From_int_To_int_View_int)) (b8_20 : Int) (b15 : (List Int)) : R_s_Through_7 (n + 1) s0 s9 b1_0 b1_1 b1_2 b1_3 b1_4 b1_5 b1_6 b1_7 b1_8 b1_9 b1_10 b1_11 b1_12 b1_13 b1_14 b1_15 b1_16 b1_17 b1_18 b1_19 b1_20 b8_0 b8_1 b8_2 b8_3 b8_4 b8_5 b8_6 b8_7 b8_8 b8_9 b8_10 b8_11 b8_12 b8_13 b8_14 b8_15 b8_16 b8_17 b8_18 b8_19 b8_20 b15 =
  bif decide (s9 < (↑b15.length : Int)) then
 if (0 : Int) ≤ s9 then
 if s9 < (↑b15.length : Int) then
 (nth b15 s9.toNat).bind fun y =>
 if b8_14.length + [y].length ≤ lim then
 if (0 : Int) ≤ s9 then
 if s9 < (↑b15.length : Int) then
 (nth b15 s9.toNat).bind fun y_1 =>
 if (0 : Int) ≤ y_1 then
 (nth s0 (Int.toNat y_1)).bind fun y_2 =>
 (Q_s_DoneAll big b8_15 y_2.2.2.1).bind fun y_3 =>
 R_s_Through_7 n s0 (IntKind.i64.wrap (s9 + (1 : Int))) b1_0 b1_1 b1_2 b1_3 b1_4 b1_5 b1_6 b1_7
 b1_8 b1_9 b1_10 b1_11 b1_12 b1_13 b1_14 b1_15 b1_16 b1_17 b1_18 b1_19 b1_20 b8_0 b8_1 b8_2
 b8_3 b8_4 b8_5 b8_6 b8_7 b8_8 b8_9 b8_10 b8_11 b8_12 b8_13 (b8_14.append [y]) y_3.1 b8_16
 b8_17 b8_18 b8_19 b8_20 b15
 else none
 else none
 else none
 else none
 else none
 else none
 else
 some
 (b8_0, b8_1, (b8_2, b8_3, b8_4, b8_5, ()), (b8_6, b8_7, b8_8, b8_9, ()),
 (b8_10, b8_11, b8_12, b8_13, ()), b8_14, b8_15, b8_16, b8_17, b8_18, b8_19, b8_20, ()) := by kernel_rfl
end Go.Sx.Tryz
set_option maxRecDepth 100000
namespace Go.Sx.Tryz
open Go Go.Sx Go.Proofs
noncomputable def l_s_TooEarly : List (Nat × Con) := [(68, c_s_l09Copy), (89, c_s_l10Back), (88, c_s_l10Last), (30, c_s_RowAfter), (90, c_s_DoneBack)]
theorem l_s_TooEarly_ok : ∀ q ∈ l_s_TooEarly, ConOk Tryz.prog q.1 q.2 := Tryz.cons_cons c_s_l09Copy_ok (Tryz.cons_cons c_s_l10Back_ok (Tryz.cons_cons c_s_l10Last_ok (Tryz.cons_cons c_s_RowAfter_ok (Tryz.cons_cons c_s_DoneBack_ok (Tryz.cons_nil)))))
abbrev k_s_TooEarly_5 : List Keep × List BK := ([.ro tSlIBlock, .drop, .drop, .drop, .drop, .drop, .is (.ptr 1 0), .is (.ptr 8 0), .is (.own 15 0), .ro tInt64, .drop, .drop, .drop, .drop, .drop, .drop, .drop, .drop, .drop, .drop, .drop, .drop, .drop, .drop, .drop, .drop, .drop, .drop, .drop, .drop, .drop, .drop, .drop, .drop, .drop, .drop, .drop, .drop, .drop, .drop, .drop, .drop, .drop, .drop, .drop, .drop, .drop, .drop, .drop, .drop, .drop, .drop, .drop, .drop, .drop, .drop, .drop], [.drop, .vars [.ro tInt64, .ro tInt64, .ro tInt64, .ro tInt64, .ro tInt64, .ro tInt64, .ro tInt64, .ro tInt64, .ro tInt64, .ro tInt64, .ro tInt64, .ro tInt64, .ro tInt64, .ro tInt64, .own tInt, .own tICell, .own tInt, .own tIUndo, .own tIVote, .own tILetter, .ro tInt64], .drop, .drop, .drop, .drop, .drop, .drop, .vars [.ro tInt64, .ro tInt64, .ro tInt64, .ro tInt64, .ro tInt64, .ro tInt64, .ro tInt64, .ro tInt64, .ro tInt64, .ro tInt64, .ro tInt64, .ro tInt64, .ro tInt64, .ro tInt64, .own tInt64, .own tXstruct_Key_string_Num_int_, .own tInt64, .own tXstruct_Key_string_Had_bool_Num_int_, .own tXstruct_Phase_int_View_int_Block_int_Sign, .own tXstruct_Kind_int_From_int_To_int_View_int, .ro tInt64], .drop, .drop, .drop, .drop, .drop, .drop, .arr tInt64])
def kp_s_TooEarly : KP := [(5, k_s_TooEarly_5)]
noncomputable def q_s_TooEarly (n : Nat) (x : Args [tSlIBlock, tIPeer, tInt]) := evX (false, false, [4, 7, 27, 42, 51]) l_s_TooEarly kp_s_TooEarly [some uIPeer] Tryz.f41 (shF uIPeer) n (encA [tSlIBlock, tIPeer, tInt] x)
noncomputable def c_s_TooEarly : Con := roS [tSlIBlock, tIPeer, tInt] true (shF uIPeer) (q_s_TooEarly big)
theorem c_s_TooEarly_ok : ConOk Tryz.prog 41 c_s_TooEarly := roS_ok ⟨Tryz.f41, by kernel_rfl, rfl, by decide⟩ fun _ _ h => evX_ok l_s_TooEarly_ok (f := Tryz.f41) (by kernel_rfl) rfl (by kernel_rfl) (by kernel_rfl) big h
noncomputable def Q_s_TooEarly (n : Nat) (a0 : DSlIBlock) (a1 : DIPeer) (a2 : Int) : Option DIPeer := q_s_TooEarly n (a0, a1, a2, ())
noncomputable def r_s_TooEarly_5 (n : Nat) (x : KD k_s_TooEarly_5.1) (y : BD k_s_TooEarly_5.2) := rounds (env (false, false, [4, 7, 27, 42, 51]) l_s_TooEarly) kp_s_TooEarly (body Tryz.f41) (finX (false, false, [4, 7, 27, 42, 51]) l_s_TooEarly [some uIPeer] Tryz.f41 (shF uIPeer) [.val tSlIBlock (zeroD tSlIBlock), .val tIPeer (zeroD tIPeer), .val tInt (zeroD tInt)]) n 5 k_s_TooEarly_5 x y
noncomputable def R_s_TooEarly_5 (n : Nat) (s0 : DSlIBlock) (s9 : Int) (b1_0 : Int) (b1_1 : Int) (b1_2 : Int) (b1_3 : Int) (b1_4 : Int) (b1_5 : Int) (b1_6 : Int) (b1_7 : Int) (b1_8 : Int) (b1_9 : Int) (b1_10 : Int) (b1_11 : Int) (b1_12 : Int) (b1_13 : Int) (b1_14 : (List Int)) (b1_15 : (List DICell)) (b1_16 : (List Int)) (b1_17 : (List DIUndo)) (b1_18 : (List DIVote)) (b1_19 : (List DILetter)) (b1_20 : Int) (b8_0 : Int) (b8_1 : Int) (b8_2 : Int) (b8_3 : Int) (b8_4 : Int) (b8_5 : Int) (b8_6 : Int) (b8_7 : Int) (b8_8 : Int) (b8_9 : Int) (b8_10 : Int) (b8_11 : Int) (b8_12 : Int) (b8_13 : Int) (b8_14 : (List Int)) (b8_15 : (List DXstruct_Key_string_Num_int_)) (b8_16 : (List Int)) (b8_17 : (List DXstruct_Key_string_Had_bool_Num_int_)) (b8_18 : (List DXstruct_Phase_int_View_int_Block_int_Sign)) (b8_19 : (List DXstruct_Kind_int_From_int_To_int_View_int)) (b8_20 : Int) (b15 : (List Int)) : Option DIPeer := r_s_TooEarly_5 n (s0, s9, ()) ((b1_0, b1_1, b1_2, b1_3, b1_4, b1_5, b1_6, b1_7, b1_8, b1_9, b1_10, b1_11, b1_12, b1_13, b1_14, b1_15, b1_16, b1_17, b1_18, b1_19, b1_20, ()), (b8_0, b8_1, b8_2, b8_3, b8_4, b8_5, b8_6, b8_7, b8_8, b8_9, b8_10, b8_11, b8_12, b8_13, b8_14, b8_15, b8_16, b8_17, b8_18, b8_19, b8_20, ()), b15, ())
theorem Q_s_TooEarly_eq (n : Nat) (a0 : DSlIBlock) (a1 : DIPeer) (a2 : Int) : Q_s_TooEarly n a0 a1 a2 =
  (Q_s_l09Copy big a1).bind fun y =>
 (Q_s_l10Back big y).bind fun y =>
 (Q_s_l10Last big a1).bind fun y_1 =>
 (Q_s_RowAfter big a0 a2 y_1).bind fun y_2 =>
 R_s_TooEarly_5 n a0 (0 : Int) (0 : Int) (0 : Int) (0 : Int) (0 : Int) (0 : Int) (0 : Int) (0 : Int) (0 : Int)
 (0 : Int) (0 : Int) (0 : Int) (0 : Int) (0 : Int) (0 : Int) [] [] [] [] [] [] (0 : Int) y.2.1.1
 y.2.1.2.1 y.2.1.2.2.1.1 y.2.1.2.2.1.2.1 y.2.1.2.2.1.2.2.1
 y.2.1.2.2.1.2.2.2.1 y.2.1.2.2.2.1.1 y.2.1.2.2.2.1.2.1
 y.2.1.2.2.2.1.2.2.1 y.2.1.2.2.2.1.2.2.2.1
 y.2.1.2.2.2.2.1.1 y.2.1.2.2.2.2.1.2.1
 y.2.1.2.2.2.2.1.2.2.1 y.2.1.2.2.2.2.1.2.2.2.1
 y.2.1.2.2.2.2.2.1 y.2.1.2.2.2.2.2.2.1
 y.2.1.2.2.2.2.2.2.2.1 y.2.1.2.2.2.2.2.2.2.2.1
 y.2.1.2.2.2.2.2.2.2.2.2.1 y.2.1.2.2.2.2.2.2.2.2.2.2.1
 y.2.1.2.2.2.2.2.2.2.2.2.2.2.1 y_2 := by kernel_rfl
theorem R_s_TooEarly_5_eq (n : Nat) (s0 : DSlIBlock) (s9 : Int) (b1_0 : Int) (b1_1 : Int) (b1_2 : Int) (b1_3 : Int) (b1_4 : Int) (b1_5 : Int) (b1_6 : Int) (b1_7 : Int) (b1_8 : Int) (b1_9 : Int) (b1_10 : Int) (b1_11 : Int) (b1_12 : Int) (b1_13 : Int) (b1_14 : (List Int)) (b1_15 : (List DICell)) (b1_16 : (List Int)) (b1_17 : (List DIUndo)) (b1_18 : (List DIVote)) (b1_19 : (List DILetter)) (b1_20 : Int) (b8_0 : Int) (b8_1 : Int) (b8_2 : Int) (b8_3 : Int) (b8_4 : Int) (b8_5 : Int) (b8_6 : Int) (b8_7 : Int) (b8_8 : Int) (b8_9 : Int) (b8_10 : Int) (b8_11 : Int) (b8_12 : Int) (b8_13 : Int) (b8_14 : (List Int)) (b8_15 : (List DXstruct_Key_string_Num_int_)) (b8_16 : (List Int)) (b8_17 : (List DXstruct_Key_string_Had_bool_Num_int_)) (b8_18 : (List DXstruct_Phase_int_View_int_Block_int_Sign)) (b8_19 : (List DXstruct_Kind_int_From_int_To_int_View_int)) (b8_20 : Int) (b15 : (List Int)) : R_s_TooEarly_5 (n + 1) s0 s9 b1_0 b1_1 b1_2 b1_3 b1_4 b1_5 b1_6 b1_7 b1_8 b1_9 b1_10 b1_11 b1_12 b1_13 b1_14 b1_15 b1_16 b1_17 b1_18 b1_19 b1_20 b8_0 b8_1 b8_2 b8_3 b8_4 b8_5 b8_6 b8_7 b8_8 b8_9 b8_10 b8_11 b8_12 b8_13 b8_14 b8_15 b8_16 b8_17 b8_18 b8_19 b8_20 b15 =
  bif decide (s9 < (↑b15.length : Int)) then
 if (0 : Int) ≤ s9 then
 if s9 < (↑b15.length : Int) then
 (nth b15 s9.toNat).bind fun y =>
 if (0 : Int) ≤ y then
 (nth s0 (Int.toNat y)).bind fun y =>
 (Q_s_DoneBack big b8_15 y.2.2.1).bind fun y =>
 if (0 : Int) ≤ s9 then
 if s9 < (↑b15.length : Int) then
 (nth b15 s9.toNat).bind fun y_1 =>
 if b8_16.length + [y_1].length ≤ lim then
 if b8_17.length + List.length y.2.1 ≤ lim then
 R_s_TooEarly_5 n s0 (IntKind.i64.wrap (s9 + (1 : Int))) b1_0 b1_1 b1_2 b1_3 b1_4 b1_5 b1_6
 b1_7 b1_8 b1_9 b1_10 b1_11 b1_12 b1_13 b1_14 b1_15 b1_16 b1_17 b1_18 b1_19 b1_20 b8_0 b8_1
 b8_2 b8_3 b8_4 b8_5 b8_6 b8_7 b8_8 b8_9 b8_10 b8_11 b8_12 b8_13 b8_14 y.1
 (b8_16.append [y_1]) (b8_17.append y.2.1) b8_18 b8_19 b8_20 b15
 else none
 else none
 else none
 else none
 else none
 else none
 else none
 else
 some
 (b8_0, b8_1, (b8_2, b8_3, b8_4, b8_5, ()), (b8_6, b8_7, b8_8, b8_9, ()),
 (b8_10, b8_11, b8_12, b8_13, ()), b8_14, b8_15, b8_16, b8_17, b8_18, b8_19, b8_20, ()) := by kernel_rfl
end Go.Sx.Tryz
set_option maxRecDepth 100000
namespace Go.Sx.Tryz
open Go Go.Sx Go.Proofs
noncomputable def l_s_ChainLearn : List (Nat × Con) := [(68, c_s_l09Copy), (95, c_s_l12Three), (96, c_s_HigherQc), (97, c_s_ThreeRow), (40, c_s_Through), (98, c_s_l12Next), (41, c_s_TooEarly)]
theorem l_s_ChainLearn_ok : ∀ q ∈ l_s_ChainLearn, ConOk Tryz.prog q.1 q.2 := Tryz.cons_cons c_s_l09Copy_ok (Tryz.cons_cons c_s_l12Three_ok (Tryz.cons_cons c_s_HigherQc_ok (Tryz.cons_cons c_s_ThreeRow_ok (Tryz.cons_cons c_s_Through_ok (Tryz.cons_cons c_s_l12Next_ok (Tryz.cons_cons c_s_TooEarly_ok (Tryz.cons_nil)))))))
def kp_s_ChainLearn : KP := []
noncomputable def q_s_ChainLearn (n : Nat) (x : Args [tSlIBlock, tIPeer, tInt]) := evX (false, false, [4, 7, 27, 36]) l_s_ChainLearn kp_s_ChainLearn [some uIPeer] Tryz.f44 (shF uIPeer) n (encA [tSlIBlock, tIPeer, tInt] x)
noncomputable def c_s_ChainLearn : Con := roS [tSlIBlock, tIPeer, tInt] true (shF uIPeer) (q_s_ChainLearn big)
theorem c_s_ChainLearn_ok : ConOk Tryz.prog 44 c_s_ChainLearn := roS_ok ⟨Tryz.f44, by kernel_rfl, rfl, by decide⟩ fun _ _ h => evX_ok l_s_ChainLearn_ok (f := Tryz.f44) (by kernel_rfl) rfl (by kernel_rfl) (by kernel_rfl) big h
noncomputable def Q_s_ChainLearn (n : Nat) (a0 : DSlIBlock) (a1 : DIPeer) (a2 : Int) : Option DIPeer := q_s_ChainLearn n (a0, a1, a2, ())
theorem Q_s_ChainLearn_eq (n : Nat) (a0 : DSlIBlock) (a1 : DIPeer) (a2 : Int) : Q_s_ChainLearn n a0 a1 a2 =
  (Q_s_l09Copy big a1).bind fun y =>
 (Q_s_l12Three big a0 a2).bind fun y_1 =>
 bif !y_1.2.2.2.1 then some y
 else
 if (0 : Int) ≤ a2 then
 (nth a0 a2.toNat).bind fun y_2 =>
 (Q_s_HigherQc big y.2.2.1 y_2.2.2.2.1).bind fun y_3 =>
 if (0 : Int) ≤ y_1.1 then
 (nth a0 (Int.toNat y_1.1)).bind fun y_4 =>
 (Q_s_HigherQc big y.2.2.2.1 y_4.2.2.2.1).bind fun y_5 =>
 (Q_s_ThreeRow big a0 a2).bind fun y_6 =>
 bif y_6.2.1 then
 (Q_s_Through big a0 (y.1, y.2.1, y_3, y_5, y.2.2.2.2) y_6.1).bind fun y =>
 (Q_s_l12Next big a0 y_1.1 y_1.2.1).bind fun y_7 =>
 bif y_7 then (Q_s_TooEarly big a0 y y_1.2.1).bind fun y => some y else some y
 else
 (Q_s_l12Next big a0 y_1.1 y_1.2.1).bind fun y_7 =>
 bif y_7 then
 (Q_s_TooEarly big a0 (y.1, y.2.1, y_3, y_5, y.2.2.2.2) y_1.2.1).bind
 fun y => some y
 else some (y.1, y.2.1, y_3, y_5, y.2.2.2.2)
 else none
 else none := by kernel_rfl
end Go.Sx.Tryz
set_option maxRecDepth 100000
namespace Go.Sx.Tryz
open Go Go.Sx Go.Proofs
noncomputable def l_s_RowCells : List (Nat × Con) := [(67, c_s_l01In), (82, c_s_DoneAll)]
theorem l_s_RowCells_ok : ∀ q ∈ l_s_RowCells, ConOk Tryz.prog q.1 q.2 := Tryz.cons_cons c_s_l01In_ok (Tryz.cons_cons c_s_DoneAll_ok (Tryz.cons_nil))
abbrev k_s_RowCells_3 : List Keep × List BK := ([.ro tSlIBlock, .ro tSlInt, .drop, .drop, .drop, .own tXstruct_Key_string_Num_int_, .ro tInt64, .drop, .drop, .drop, .drop, .drop, .drop, .drop, .drop, .drop, .drop, .drop, .drop, .drop, .drop, .drop, .drop, .drop, .drop, .drop, .drop, .drop, .drop, .drop, .drop, .drop, .drop, .drop, .drop, .drop], [])
def kp_s_RowCells : KP := [(3, k_s_RowCells_3)]
noncomputable def q_s_RowCells (n : Nat) (x : Args [tSlIBlock, tSlInt]) := evX (false, false, []) l_s_RowCells kp_s_RowCells [some uSlICell] Tryz.f28 (shF uSlICell) n (encA [tSlIBlock, tSlInt] x)
noncomputable def c_s_RowCells : Con := roS [tSlIBlock, tSlInt] true (shF uSlICell) (q_s_RowCells big)
theorem c_s_RowCells_ok : ConOk Tryz.prog 28 c_s_RowCells := roS_ok ⟨Tryz.f28, by kernel_rfl, rfl, by decide⟩ fun _ _ h => evX_ok l_s_RowCells_ok (f := Tryz.f28) (by kernel_rfl) rfl (by kernel_rfl) (by kernel_rfl) big h
noncomputable def Q_s_RowCells (n : Nat) (a0 : DSlIBlock) (a1 : DSlInt) : Option DSlICell := q_s_RowCells n (a0, a1, ())
noncomputable def r_s_RowCells_3 (n : Nat) (x : KD k_s_RowCells_3.1) (y : BD k_s_RowCells_3.2) := rounds (env (false, false, []) l_s_RowCells) kp_s_RowCells (body Tryz.f28) (finX (false, false, []) l_s_RowCells [some uSlICell] Tryz.f28 (shF uSlICell) [.val tSlIBlock (zeroD tSlIBlock), .val tSlInt (zeroD tSlInt)]) n 3 k_s_RowCells_3 x y
noncomputable def R_s_RowCells_3 (n : Nat) (s0 : DSlIBlock) (s1 : DSlInt) (s5 : (List DXstruct_Key_string_Num_int_)) (s6 : Int) : Option DSlICell := r_s_RowCells_3 n (s0, s1, s5, s6, ()) ()
theorem Q_s_RowCells_eq (n : Nat) (a0 : DSlIBlock) (a1 : DSlInt) : Q_s_RowCells n a0 a1 =
  R_s_RowCells_3 n a0 a1 [] (0 : Int) := by kernel_rfl
theorem R_s_RowCells_3_eq (n : Nat) (s0 : DSlIBlock) (s1 : DSlInt) (s5 : (List DXstruct_Key_string_Num_int_)) (s6 : Int) : R_s_RowCells_3 (n + 1) s0 s1 s5 s6 =
  bif decide (s6 < (↑(List.length s1) : Int)) then
 if (0 : Int) ≤ s6 then
 (nth s1 s6.toNat).bind fun y =>
 (Q_s_l01In big y (0 : Int) (IntKind.i64.wrap ((↑(List.length s0) : Int) - (1 : Int)))).bind fun y =>
 bif y then
 if (0 : Int) ≤ s6 then
 (nth s1 s6.toNat).bind fun y =>
 if (0 : Int) ≤ y then
 (nth s0 (Int.toNat y)).bind fun y =>
 (Q_s_DoneAll big s5 y.2.2.1).bind fun y =>
 R_s_RowCells_3 n s0 s1 y.1 (IntKind.i64.wrap (s6 + (1 : Int)))
 else none
 else none
 else R_s_RowCells_3 n s0 s1 s5 (IntKind.i64.wrap (s6 + (1 : Int)))
 else none
 else some s5 := by kernel_rfl
end Go.Sx.Tryz
set_option maxRecDepth 100000
namespace Go.Sx.Tryz
open Go Go.Sx Go.Proofs
noncomputable def l_s_LetterOk : List (Nat × Con) := [(67, c_s_l01In), (125, c_s_QcRight), (113, c_s_VoteOk)]
theorem l_s_LetterOk_ok : ∀ q ∈ l_s_LetterOk, ConOk Tryz.prog q.1 q.2 := Tryz.cons_cons c_s_l01In_ok (Tryz.cons_cons c_s_QcRight_ok (Tryz.cons_cons c_s_VoteOk_ok (Tryz.cons_nil)))
def kp_s_LetterOk : KP := []
noncomputable def q_s_LetterOk (n : Nat) (x : Args [tSlIBlock, tInt, tILetter]) := evX (false, false, [5, 10, 16, 24, 32, 41, 45, 50, 54, 61, 65, 71, 75, 83, 88, 94, 99, 106, 114, 118, 119, 121, 126, 127, 129, 137, 141, 142, 144, 150, 154, 155, 157]) l_s_LetterOk kp_s_LetterOk [none] Tryz.f234 (shV tBool) n (encA [tSlIBlock, tInt, tILetter] x)
noncomputable def c_s_LetterOk : Con := roS [tSlIBlock, tInt, tILetter] true (shV tBool) (q_s_LetterOk big)
theorem c_s_LetterOk_ok : ConOk Tryz.prog 234 c_s_LetterOk := roS_ok ⟨Tryz.f234, by kernel_rfl, rfl, by decide⟩ fun _ _ h => evX_ok l_s_LetterOk_ok (f := Tryz.f234) (by kernel_rfl) rfl (by kernel_rfl) (by kernel_rfl) big h
noncomputable def Q_s_LetterOk (n : Nat) (a0 : DSlIBlock) (a1 : Int) (a2 : DILetter) : Option Bool := q_s_LetterOk n (a0, a1, a2, ())
theorem Q_s_LetterOk_eq (n : Nat) (a0 : DSlIBlock) (a1 : Int) (a2 : DILetter) : Q_s_LetterOk n a0 a1 a2 = bif decide (a1 < (1 : Int)) then some false else (Q_s_l01In big a2.1 (1 : Int) (4 : Int)).bind fun y => bif !y then some false else (Q_s_l01In big a2.2.1 (0 : Int) (IntKind.i64.wrap (a1 - (1 : Int)))).bind fun y => bif !y then some false else (Q_s_l01In big a2.2.2.1 (0 : Int) (IntKind.i64.wrap (a1 - (1 : Int)))).bind fun y => bif !y then some false else (Q_s_l01In big a2.2.2.2.1 (1 : Int) (900 : Int)).bind fun y => (fun zC0 => (fun zC1 => bif !y then some false else bif decide ((7 : Int) < a1) then some false else bif !decide (a2.1 = (1 : Int)) then bif !decide (a2.2.2.2.2.1 = (0 : Int)) then some false else bif !decide (a2.1 = (2 : Int)) then bif !eqD tIVote a2.2.2.2.2.2.2.1 ((0 : Int), (0 : Int), (0 : Int), (0 : Int), ()) then some false else zC1 else zC1 else bif !decide (a2.1 = (2 : Int)) then bif !eqD tIVote a2.2.2.2.2.2.2.1 ((0 : Int), (0 : Int), (0 : Int), (0 : Int), ()) then some false else zC1 else zC1) (bif decide (a2.1 = (2 : Int)) then bif !eqD tIQc a2.2.2.2.2.2.1 ((0 : Int), (0 : Int), (0 : Int), (0 : Int), ()) then some false else zC0 else zC0)) (bif decide (a2.1 = (1 : Int)) then (Q_s_l01In big a2.2.2.2.2.1 (1 : Int) (IntKind.i64.wrap ((↑(List.length a0) : Int) - (1 : Int)))).bind fun y => bif y then if (0 : Int) ≤ a2.2.2.2.2.1 then (nth a0 (Int.toNat a2.2.2.2.2.1)).bind fun y => bif decide (y.2.1 = a2.2.2.2.1) then if (0 : Int) ≤ a2.2.2.2.2.1 then (nth a0 (Int.toNat a2.2.2.2.2.1)).bind fun y => bif eqD tIQc y.2.2.2.1 a2.2.2.2.2.2.1 then (Q_s_QcRight big a0 a1 a2.2.2.2.2.2.1).bind fun y => some y else some false else none else some false else none else some false else bif decide (a2.1 = (2 : Int)) then (Q_s_VoteOk big a0 a1 a2.2.2.2.2.2.2.1).bind fun y => bif y then bif decide (a2.2.2.2.2.2.2.1.2.2.2.1 = a2.2.1) then some (decide (a2.2.2.2.2.2.2.1.2.1 = a2.2.2.2.1)) else some false else some false else bif decide (a2.1 = (3 : Int)) then (Q_s_QcRight big a0 a1 a2.2.2.2.2.2.1).bind fun y => bif y then some (decide (a2.2.2.2.2.2.1.2.1 = a2.2.2.2.1)) else some false else (Q_s_QcRight big a0 a1 a2.2.2.2.2.2.1).bind fun y => bif y then some (decide (a2.2.2.2.2.2.1.2.1 < a2.2.2.2.1)) else some false) := by kernel_rfl
end Go.Sx.Tryz
set_option maxRecDepth 100000
namespace Go.Sx.Tryz
open Go Go.Sx Go.Proofs
noncomputable def l_s_l11Qc : List (Nat × Con) := [(39, c_s_Entered), (96, c_s_HigherQc), (40, c_s_Through), (22, c_s_LeaderOf), (69, c_s_Answered), (15, c_s_MayVote), (236, c_s_l11Give)]
theorem l_s_l11Qc_ok : ∀ q ∈ l_s_l11Qc, ConOk Tryz.prog q.1 q.2 := Tryz.cons_cons c_s_Entered_ok (Tryz.cons_cons c_s_HigherQc_ok (Tryz.cons_cons c_s_Through_ok (Tryz.cons_cons c_s_LeaderOf_ok (Tryz.cons_cons c_s_Answered_ok (Tryz.cons_cons c_s_MayVote_ok (Tryz.cons_cons c_s_l11Give_ok (Tryz.cons_nil)))))))
def kp_s_l11Qc : KP := []
noncomputable def q_s_l11Qc (n : Nat) (x : AP.denL [.ro tSlIBlock, .ro tInt, .mu uIPeer, .ro tILetter]) := evX (false, false, [7, 9, 10, 11, 12, 14, 18, 20, 25, 26, 27, 28, 32, 36, 37, 38, 39, 43, 47, 49, 50, 52, 55, 60, 61, 63, 64, 65, 69, 70, 71, 76, 77, 79, 82, 88, 91, 93, 95]) l_s_l11Qc kp_s_l11Qc [some uSlILetter] Tryz.f237 (shO (shF uSlILetter) [.mu uIPeer]) n (AP.encL [.ro tSlIBlock, .ro tInt, .mu uIPeer, .ro tILetter] x)
noncomputable def c_s_l11Qc : Con := apS [.ro tSlIBlock, .ro tInt, .mu uIPeer, .ro tILetter] true (shO (shF uSlILetter) [.mu uIPeer]) (q_s_l11Qc big)
theorem c_s_l11Qc_ok : ConOk Tryz.prog 237 c_s_l11Qc := apS_ok ⟨Tryz.f237, by kernel_rfl, rfl, by decide⟩ fun _ _ h => evX_ok l_s_l11Qc_ok (f := Tryz.f237) (by kernel_rfl) rfl (by kernel_rfl) (by kernel_rfl) big h
noncomputable def Q_s_l11Qc (n : Nat) (a0 : DSlIBlock) (a1 : Int) (a2 : DIPeer) (a3 : DILetter) : Option (DSlILetter × DIPeer × Unit) := q_s_l11Qc n (a0, a1, a2, a3, ())
theorem Q_s_l11Qc_eq (n : Nat) (a0 : DSlIBlock) (a1 : Int) (a2 : DIPeer) (a3 : DILetter) : Q_s_l11Qc n a0 a1 a2 a3 =
  (Q_s_Entered big a2 a3.2.2.2.1).bind fun y =>
 bif decide (a3.2.2.2.2.2.1.1 = (1 : Int)) then
 (Q_s_HigherQc big y.2.2.1 a3.2.2.2.2.2.1).bind fun y_1 =>
 (Q_s_MayVote big (y.1, y.2.1, y_1, y.2.2.2)
 (IntKind.i64.wrap (a3.2.2.2.2.2.1.1 + (1 : Int))) a3.2.2.2.1).bind
 fun y_2 =>
 bif !y_2 then some ([], (y.1, y.2.1, y_1, y.2.2.2), ())
 else
 (Q_s_l11Give big (y.1, y.2.1, y_1, y.2.2.2)
 (IntKind.i64.wrap (a3.2.2.2.2.2.1.1 + (1 : Int))) a3.2.2.2.1
 a3.2.2.2.2.2.1.2.2.1 a3.2.1).bind
 fun y => some y
 else
 bif decide (a3.2.2.2.2.2.1.1 = (2 : Int)) then
 (Q_s_HigherQc big y.2.2.2.1 a3.2.2.2.2.2.1).bind fun y_1 =>
 (Q_s_MayVote big (y.1, y.2.1, y.2.2.1, y_1, y.2.2.2.2)
 (IntKind.i64.wrap (a3.2.2.2.2.2.1.1 + (1 : Int))) a3.2.2.2.1).bind
 fun y_2 =>
 bif !y_2 then some ([], (y.1, y.2.1, y.2.2.1, y_1, y.2.2.2.2), ())
 else
 (Q_s_l11Give big (y.1, y.2.1, y.2.2.1, y_1, y.2.2.2.2)
 (IntKind.i64.wrap (a3.2.2.2.2.2.1.1 + (1 : Int))) a3.2.2.2.1
 a3.2.2.2.2.2.1.2.2.1 a3.2.1).bind
 fun y => some y
 else
 bif decide (a3.2.2.2.2.2.1.1 = (3 : Int)) then
 (Q_s_Through big a0 y a3.2.2.2.2.2.1.2.2.1).bind fun y =>
 (Q_s_Entered big y (IntKind.i64.wrap (a3.2.2.2.1 + (1 : Int)))).bind fun y =>
 (Q_s_LeaderOf big y.2.1 a1).bind fun y_1 =>
 some
 ([((4 : Int), y.1, y_1, y.2.1, (0 : Int), y.2.2.1,
 ((0 : Int), (0 : Int), (0 : Int), (0 : Int), ()), ())],
 y, ())
 else some ([], y, ()) := by kernel_rfl
end Go.Sx.Tryz
set_option maxRecDepth 100000
namespace Go.Sx.Tryz
open Go Go.Sx Go.Proofs
noncomputable def l_s_l11New : List (Nat × Con) := [(22, c_s_LeaderOf), (39, c_s_Entered)]
theorem l_s_l11New_ok : ∀ q ∈ l_s_l11New, ConOk Tryz.prog q.1 q.2 := Tryz.cons_cons c_s_LeaderOf_ok (Tryz.cons_cons c_s_Entered_ok (Tryz.cons_nil))
abbrev k_s_l11New_4 : List Keep × List BK := ([.is (.ptr 6 0), .drop, .drop, .drop, .drop, .is (.ptr 7 0), .ro tInt64, .drop, .drop, .drop, .drop, .drop, .drop, .drop, .drop, .drop, .drop, .drop, .drop, .drop, .drop, .drop, .drop, .drop, .drop, .drop, .drop, .drop, .drop, .drop, .drop, .drop, .drop, .drop, .drop, .drop, .drop, .drop, .drop, .drop, .drop, .drop, .drop, .drop, .drop, .drop, .drop, .drop, .drop, .drop, .drop, .drop, .drop, .drop, .drop, .drop, .drop, .drop, .drop, .drop, .drop, .drop, .drop, .drop, .drop, .drop, .drop, .drop, .drop, .drop, .drop, .drop, .drop, .drop, .drop], [.drop, .drop, .drop, .drop, .drop, .drop, .vars [.ro tInt64, .ro tInt64, .ro tInt64, .ro tInt64, .ro tInt64, .ro tInt64, .ro tInt64, .ro tInt64, .ro tInt64, .ro tInt64, .ro tInt64, .ro tInt64, .ro tInt64, .ro tInt64, .own tInt64, .own tXstruct_Key_string_Num_int_, .own tInt64, .own tXstruct_Key_string_Had_bool_Num_int_, .own tXstruct_Phase_int_View_int_Block_int_Sign, .own tXstruct_Kind_int_From_int_To_int_View_int, .ro tInt64], .vars [.ro tInt64, .ro tInt64, .ro tInt64, .ro tInt64, .ro tInt64, .ro tInt64, .ro tInt64, .ro tInt64, .ro tInt64, .ro tInt64, .ro tInt64, .ro tInt64, .ro tInt64]])
def kp_s_l11New : KP := [(4, k_s_l11New_4)]
noncomputable def q_s_l11New (n : Nat) (x : AP.denL [.mu uIPeer, .ro tInt, .ro tILetter]) := evX (false, false, [5, 7, 11, 12, 13, 17, 19, 20, 21, 25, 27, 28, 29, 35, 36, 37, 39, 44, 45, 46, 52, 53, 54, 60, 63, 65, 66, 67, 73]) l_s_l11New kp_s_l11New [] Tryz.f252 (shO shN [.mu uIPeer]) n (AP.encL [.mu uIPeer, .ro tInt, .ro tILetter] x)
noncomputable def c_s_l11New : Con := apS [.mu uIPeer, .ro tInt, .ro tILetter] true (shO shN [.mu uIPeer]) (q_s_l11New big)
theorem c_s_l11New_ok : ConOk Tryz.prog 252 c_s_l11New := apS_ok ⟨Tryz.f252, by kernel_rfl, rfl, by decide⟩ fun _ _ h => evX_ok l_s_l11New_ok (f := Tryz.f252) (by kernel_rfl) rfl (by kernel_rfl) (by kernel_rfl) big h
noncomputable def Q_s_l11New (n : Nat) (a0 : DIPeer) (a1 : Int) (a2 : DILetter) : Option (Unit × DIPeer × Unit) := q_s_l11New n (a0, a1, a2, ())
noncomputable def r_s_l11New_4 (n : Nat) (x : KD k_s_l11New_4.1) (y : BD k_s_l11New_4.2) := rounds (env (false, false, [5, 7, 11, 12, 13, 17, 19, 20, 21, 25, 27, 28, 29, 35, 36, 37, 39, 44, 45, 46, 52, 53, 54, 60, 63, 65, 66, 67, 73]) l_s_l11New) kp_s_l11New (body Tryz.f252) (finX (false, false, [5, 7, 11, 12, 13, 17, 19, 20, 21, 25, 27, 28, 29, 35, 36, 37, 39, 44, 45, 46, 52, 53, 54, 60, 63, 65, 66, 67, 73]) l_s_l11New [] Tryz.f252 (shO shN [.mu uIPeer]) [AP.enc (.mu uIPeer) (zeroD uIPeer), AP.enc (.ro tInt) (zeroD tInt), AP.enc (.ro tILetter) (zeroD tILetter)]) n 4 k_s_l11New_4 x y
noncomputable def R_s_l11New_4 (n : Nat) (s6 : Int) (b6_0 : Int) (b6_1 : Int) (b6_2 : Int) (b6_3 : Int) (b6_4 : Int) (b6_5 : Int) (b6_6 : Int) (b6_7 : Int) (b6_8 : Int) (b6_9 : Int) (b6_10 : Int) (b6_11 : Int) (b6_12 : Int) (b6_13 : Int) (b6_14 : (List Int)) (b6_15 : (List DXstruct_Key_string_Num_int_)) (b6_16 : (List Int)) (b6_17 : (List DXstruct_Key_string_Had_bool_Num_int_)) (b6_18 : (List DXstruct_Phase_int_View_int_Block_int_Sign)) (b6_19 : (List DXstruct_Kind_int_From_int_To_int_View_int)) (b6_20 : Int) (b7_0 : Int) (b7_1 : Int) (b7_2 : Int) (b7_3 : Int) (b7_4 : Int) (b7_5 : Int) (b7_6 : Int) (b7_7 : Int) (b7_8 : Int) (b7_9 : Int) (b7_10 : Int) (b7_11 : Int) (b7_12 : Int) : Option (Unit × DIPeer × Unit) := r_s_l11New_4 n (s6, ()) ((b6_0, b6_1, b6_2, b6_3, b6_4, b6_5, b6_6, b6_7, b6_8, b6_9, b6_10, b6_11, b6_12, b6_13, b6_14, b6_15, b6_16, b6_17, b6_18, b6_19, b6_20, ()), (b7_0, b7_1, b7_2, b7_3, b7_4, b7_5, b7_6, b7_7, b7_8, b7_9, b7_10, b7_11, b7_12, ()), ())
theorem Q_s_l11New_eq (n : Nat) (a0 : DIPeer) (a1 : Int) (a2 : DILetter) : Q_s_l11New n a0 a1 a2 = (Q_s_LeaderOf big a2.2.2.2.1 a1).bind fun y => (fun zC0 => bif !decide (y = a0.1) then some ((), a0, ()) else bif !decide (a2.2.2.2.1 = a0.2.1) then bif !decide (a2.2.2.2.1 = IntKind.i64.wrap (a0.2.1 + (1 : Int))) then some ((), a0, ()) else zC0 else zC0) ((Q_s_Entered big a0 a2.2.2.2.1).bind fun y => R_s_l11New_4 n (0 : Int) y.1 y.2.1 y.2.2.1.1 y.2.2.1.2.1 y.2.2.1.2.2.1 y.2.2.1.2.2.2.1 y.2.2.2.1.1 y.2.2.2.1.2.1 y.2.2.2.1.2.2.1 y.2.2.2.1.2.2.2.1 y.2.2.2.2.1.1 y.2.2.2.2.1.2.1 y.2.2.2.2.1.2.2.1 y.2.2.2.2.1.2.2.2.1 y.2.2.2.2.2.1 y.2.2.2.2.2.2.1 y.2.2.2.2.2.2.2.1 y.2.2.2.2.2.2.2.2.1 y.2.2.2.2.2.2.2.2.2.1 y.2.2.2.2.2.2.2.2.2.2.1 y.2.2.2.2.2.2.2.2.2.2.2.1 a2.1 a2.2.1 a2.2.2.1 a2.2.2.2.1 a2.2.2.2.2.1 a2.2.2.2.2.2.1.1 a2.2.2.2.2.2.1.2.1 a2.2.2.2.2.2.1.2.2.1 a2.2.2.2.2.2.1.2.2.2.1 a2.2.2.2.2.2.2.1.1 a2.2.2.2.2.2.2.1.2.1 a2.2.2.2.2.2.2.1.2.2.1 a2.2.2.2.2.2.2.1.2.2.2.1) := by kernel_rfl
theorem R_s_l11New_4_eq (n : Nat) (s6 : Int) (b6_0 : Int) (b6_1 : Int) (b6_2 : Int) (b6_3 : Int) (b6_4 : Int) (b6_5 : Int) (b6_6 : Int) (b6_7 : Int) (b6_8 : Int) (b6_9 : Int) (b6_10 : Int) (b6_11 : Int) (b6_12 : Int) (b6_13 : Int) (b6_14 : (List Int)) (b6_15 : (List DXstruct_Key_string_Num_int_)) (b6_16 : (List Int)) (b6_17 : (List DXstruct_Key_string_Had_bool_Num_int_)) (b6_18 : (List DXstruct_Phase_int_View_int_Block_int_Sign)) (b6_19 : (List DXstruct_Kind_int_From_int_To_int_View_int)) (b6_20 : Int) (b7_0 : Int) (b7_1 : Int) (b7_2 : Int) (b7_3 : Int) (b7_4 : Int) (b7_5 : Int) (b7_6 : Int) (b7_7 : Int) (b7_8 : Int) (b7_9 : Int) (b7_10 : Int) (b7_11 : Int) (b7_12 : Int) : R_s_l11New_4 (n + 1) s6 b6_0 b6_1 b6_2 b6_3 b6_4 b6_5 b6_6 b6_7 b6_8 b6_9 b6_10 b6_11 b6_12 b6_13 b6_14 b6_15 b6_16 b6_17 b6_18 b6_19 b6_20 b7_0 b7_1 b7_2 b7_3 b7_4 b7_5 b7_6 b7_7 b7_8 b7_9 b7_10 b7_11 b7_12 = bif decide (s6 < (↑b6_19.length : Int)) then if (0 : Int) ≤ s6 then if s6 < (↑b6_19.length : Int) then (nth b6_19 s6.toNat).bind fun y => bif decide (y.2.1 = b7_1) then some ((), (b6_0, b6_1, (b6_2, b6_3, b6_4, b6_5, ()), (b6_6, b6_7, b6_8, b6_9, ()), (b6_10, b6_11, b6_12, b6_13, ()), b6_14, b6_15, b6_16, b6_17, b6_18, b6_19, b6_20, ()), ()) else R_s_l11New_4 n (IntKind.i64.wrap (s6 + (1 : Int))) b6_0 b6_1 b6_2 b6_3 b6_4 b6_5 b6_6 b6_7 b6_8 b6_9 b6_10 b6_11 b6_12 b6_13 b6_14 b6_15 b6_16 b6_17 b6_18 b6_19 b6_20 b7_0 b7_1 b7_2 b7_3 b7_4 b7_5 b7_6 b7_7 b7_8 b7_9 b7_10 b7_11 b7_12 else none else none else (fun zB => (fun zB => both (both zB zB) zB) (zB)) (if (0 : Nat) + b6_19.length ≤ lim then if b6_19.length + [(b7_0, b7_1, b7_2, b7_3, b7_4, (b7_5, b7_6, b7_7, b7_8, ()), (b7_9, b7_10, b7_11, b7_12, ()), ())].length ≤ lim then some ((), (b6_0, b6_1, (b6_2, b6_3, b6_4, b6_5, ()), (b6_6, b6_7, b6_8, b6_9, ()), (b6_10, b6_11, b6_12, b6_13, ()), b6_14, b6_15, b6_16, b6_17, b6_18, b6_19.append [(b7_0, b7_1, b7_2, b7_3, b7_4, (b7_5, b7_6, b7_7, b7_8, ()), (b7_9, b7_10, b7_11, b7_12, ()), ())], b6_20, ()), ()) else none else none) := by kernel_rfl
end Go.Sx.Tryz
set_option maxRecDepth 100000
namespace Go.Sx.Tryz
open Go Go.Sx Go.Proofs
noncomputable def l_s_l11Vote : List (Nat × Con) := [(22, c_s_LeaderOf), (39, c_s_Entered), (261, c_s_l11Has), (176, c_s_SignersOf), (174, c_s_CountOf), (175, c_s_Quorum), (248, c_s_QcOf), (96, c_s_HigherQc), (69, c_s_Answered)]
theorem l_s_l11Vote_ok : ∀ q ∈ l_s_l11Vote, ConOk Tryz.prog q.1 q.2 := Tryz.cons_cons c_s_LeaderOf_ok (Tryz.cons_cons c_s_Entered_ok (Tryz.cons_cons c_s_l11Has_ok (Tryz.cons_cons c_s_SignersOf_ok (Tryz.cons_cons c_s_CountOf_ok (Tryz.cons_cons c_s_Quorum_ok (Tryz.cons_cons c_s_QcOf_ok (Tryz.cons_cons c_s_HigherQc_ok (Tryz.cons_cons c_s_Answered_ok (Tryz.cons_nil)))))))))
abbrev k_s_l11Vote_17 : List Keep × List BK := ([.is (.ptr 6 0), .ro tInt64, .drop, .drop, .drop, .drop, .drop, .own tXstruct_Kind_int_From_int_To_int_View_int, .drop, .is (.ptr 17 0), .drop, .ro tInt64, .drop, .drop, .drop, .drop, .drop, .drop, .drop, .drop, .drop, .drop, .drop, .drop, .drop, .drop, .drop, .drop, .drop, .drop, .drop, .drop, .drop, .drop, .drop, .drop, .drop, .drop, .drop, .drop, .drop, .drop, .drop, .drop, .drop, .drop, .drop, .drop, .drop, .drop, .drop, .drop, .drop, .drop, .drop, .drop, .drop, .drop, .drop, .drop, .drop, .drop, .drop, .drop, .drop, .drop, .drop, .drop, .drop, .drop, .drop, .drop, .drop, .drop, .drop, .drop, .drop, .drop, .drop, .drop, .drop, .drop, .drop, .drop, .drop, .drop, .drop, .drop, .drop, .drop, .drop, .drop, .drop, .drop, .drop, .drop, .drop, .drop, .drop, .drop, .drop, .drop, .drop, .drop, .drop, .drop, .drop, .drop, .drop, .drop, .drop, .drop, .drop, .drop, .drop, .drop, .drop, .drop, .drop, .drop, .drop, .drop, .drop, .drop, .drop, .drop, .drop, .drop, .drop, .drop, .drop, .drop, .drop, .drop, .drop, .drop, .drop, .drop, .drop, .drop, .drop, .drop], [.drop, .drop, .drop, .drop, .drop, .drop, .vars [.ro tInt64, .ro tInt64, .ro tInt64, .ro tInt64, .ro tInt64, .ro tInt64, .ro tInt64, .ro tInt64, .ro tInt64, .ro tInt64, .ro tInt64, .ro tInt64, .ro tInt64, .ro tInt64, .own tInt64, .own tXstruct_Key_string_Num_int_, .own tInt64, .own tXstruct_Key_string_Had_bool_Num_int_, .own tXstruct_Phase_int_View_int_Block_int_Sign, .own tXstruct_Kind_int_From_int_To_int_View_int, .ro tInt64], .drop, .drop, .drop, .drop, .drop, .drop, .drop, .drop, .drop, .drop, .vars [.ro tInt64, .ro tInt64, .ro tInt64, .ro tInt64]])
abbrev k_s_l11Vote_5000007 : List Keep × List BK := ([.is (.ptr 6 0), .ro tInt64, .drop, .drop, .drop, .is (.ptr 7 0), .drop, .own tXstruct_Kind_int_From_int_To_int_View_int, .ro tInt64, .drop, .drop, .drop, .drop, .drop, .drop, .drop, .drop, .drop, .drop, .drop, .drop, .drop, .drop, .drop, .drop, .drop, .drop, .drop, .drop, .drop, .drop, .drop, .drop, .drop, .drop, .drop, .drop, .drop, .drop, .drop, .drop, .drop, .drop, .drop, .drop, .drop, .drop, .drop, .drop, .drop, .drop, .drop, .drop, .drop, .drop, .drop, .drop, .drop, .drop, .drop, .drop, .drop, .drop, .drop, .drop, .drop, .drop, .drop, .drop, .drop, .drop, .drop, .drop, .drop, .drop, .drop, .drop, .drop, .drop, .drop, .drop, .drop, .drop, .drop, .drop, .drop, .drop, .drop, .drop, .drop, .drop, .drop, .drop, .drop, .drop, .drop, .drop, .drop, .drop, .drop, .drop, .drop, .drop, .drop, .drop, .drop, .drop, .drop, .drop, .drop, .drop, .drop, .drop, .drop, .drop, .drop, .drop, .drop, .drop, .drop, .drop, .drop, .drop, .drop, .drop, .drop, .drop, .drop, .drop, .drop, .drop, .drop, .drop, .drop, .drop, .drop, .drop, .drop, .drop, .drop, .drop, .drop], [.drop, .drop, .drop, .drop, .drop, .drop, .vars [.ro tInt64, .ro tInt64, .ro tInt64, .ro tInt64, .ro tInt64, .ro tInt64, .ro tInt64, .ro tInt64, .ro tInt64, .ro tInt64, .ro tInt64, .ro tInt64, .ro tInt64, .ro tInt64, .own tInt64, .own tXstruct_Key_string_Num_int_, .own tInt64, .own tXstruct_Key_string_Had_bool_Num_int_, .own tXstruct_Phase_int_View_int_Block_int_Sign, .own tXstruct_Kind_int_From_int_To_int_View_int, .ro tInt64], .vars [.ro tInt64, .ro tInt64, .ro tInt64, .ro tInt64]])
def kp_s_l11Vote : KP := [(17, k_s_l11Vote_17), (5000007, k_s_l11Vote_5000007)]
noncomputable def q_s_l11Vote (n : Nat) (x : AP.denL [.mu uIPeer, .ro tInt, .ro tIVote]) := evX (false, false, [5, 9, 13, 15, 18, 24, 25, 26, 31, 32, 33, 38, 39, 40, 45, 46, 47, 55, 56, 57, 62, 63, 64, 70, 72, 73, 74, 80, 82, 83, 84, 86, 88, 90, 99, 100, 101, 103, 105, 107, 113, 116, 117, 118, 119, 123, 132, 133, 999999]) l_s_l11Vote kp_s_l11Vote [some uSlILetter] Tryz.f258 (shO (shF uSlILetter) [.mu uIPeer]) n (AP.encL [.mu uIPeer, .ro tInt, .ro tIVote] x)
noncomputable def c_s_l11Vote : Con := apS [.mu uIPeer, .ro tInt, .ro tIVote] true (shO (shF uSlILetter) [.mu uIPeer]) (q_s_l11Vote big)
theorem c_s_l11Vote_ok : ConOk Tryz.prog 258 c_s_l11Vote := apS_ok ⟨Tryz.f258, by kernel_rfl, rfl, by decide⟩ fun _ _ h => evX_ok l_s_l11Vote_ok (f := Tryz.f258) (by kernel_rfl) rfl (by kernel_rfl) (by kernel_rfl) big h
noncomputable def Q_s_l11Vote (n : Nat) (a0 : DIPeer) (a1 : Int) (a2 : DIVote) : Option (DSlILetter × DIPeer × Unit) := q_s_l11Vote n (a0, a1, a2, ())
noncomputable def r_s_l11Vote_17 (n : Nat) (x : KD k_s_l11Vote_17.1) (y : BD k_s_l11Vote_17.2) := rounds (env (false, false, [5, 9, 13, 15, 18, 24, 25, 26, 31, 32, 33, 38, 39, 40, 45, 46, 47, 55, 56, 57, 62, 63, 64, 70, 72, 73, 74, 80, 82, 83, 84, 86, 88, 90, 99, 100, 101, 103, 105, 107, 113, 116, 117, 118, 119, 123, 132, 133, 999999]) l_s_l11Vote) kp_s_l11Vote (body Tryz.f258) (finX (false, false, [5, 9, 13, 15, 18, 24, 25, 26, 31, 32, 33, 38, 39, 40, 45, 46, 47, 55, 56, 57, 62, 63, 64, 70, 72, 73, 74, 80, 82, 83, 84, 86, 88, 90, 99, 100, 101, 103, 105, 107, 113, 116, 117, 118, 119, 123, 132, 133, 999999]) l_s_l11Vote [some uSlILetter] Tryz.f258 (shO (shF uSlILetter) [.mu uIPeer]) [AP.enc (.mu uIPeer) (zeroD uIPeer), AP.enc (.ro tInt) (zeroD tInt), AP.enc (.ro tIVote) (zeroD tIVote)]) n 17 k_s_l11Vote_17 x y
noncomputable def R_s_l11Vote_17 (n : Nat) (s1 : Int) (s7 : (List DXstruct_Kind_int_From_int_To_int_View_int)) (s11 : Int) (b6_0 : Int) (b6_1 : Int) (b6_2 : Int) (b6_3 : Int) (b6_4 : Int) (b6_5 : Int) (b6_6 : Int) (b6_7 : Int) (b6_8 : Int) (b6_9 : Int) (b6_10 : Int) (b6_11 : Int) (b6_12 : Int) (b6_13 : Int) (b6_14 : (List Int)) (b6_15 : (List DXstruct_Key_string_Num_int_)) (b6_16 : (List Int)) (b6_17 : (List DXstruct_Key_string_Had_bool_Num_int_)) (b6_18 : (List DXstruct_Phase_int_View_int_Block_int_Sign)) (b6_19 : (List DXstruct_Kind_int_From_int_To_int_View_int)) (b6_20 : Int) (b17_0 : Int) (b17_1 : Int) (b17_2 : Int) (b17_3 : Int) : Option (DSlILetter × DIPeer × Unit) := r_s_l11Vote_17 n (s1, s7, s11, ()) ((b6_0, b6_1, b6_2, b6_3, b6_4, b6_5, b6_6, b6_7, b6_8, b6_9, b6_10, b6_11, b6_12, b6_13, b6_14, b6_15, b6_16, b6_17, b6_18, b6_19, b6_20, ()), (b17_0, b17_1, b17_2, b17_3, ()), ())
noncomputable def r_s_l11Vote_5000007 (n : Nat) (x : KD k_s_l11Vote_5000007.1) (y : BD k_s_l11Vote_5000007.2) := rounds (env (false, false, [5, 9, 13, 15, 18, 24, 25, 26, 31, 32, 33, 38, 39, 40, 45, 46, 47, 55, 56, 57, 62, 63, 64, 70, 72, 73, 74, 80, 82, 83, 84, 86, 88, 90, 99, 100, 101, 103, 105, 107, 113, 116, 117, 118, 119, 123, 132, 133, 999999]) l_s_l11Vote) kp_s_l11Vote (body Tryz.f258) (finX (false, false, [5, 9, 13, 15, 18, 24, 25, 26, 31, 32, 33, 38, 39, 40, 45, 46, 47, 55, 56, 57, 62, 63, 64, 70, 72, 73, 74, 80, 82, 83, 84, 86, 88, 90, 99, 100, 101, 103, 105, 107, 113, 116, 117, 118, 119, 123, 132, 133, 999999]) l_s_l11Vote [some uSlILetter] Tryz.f258 (shO (shF uSlILetter) [.mu uIPeer]) [AP.enc (.mu uIPeer) (zeroD uIPeer), AP.enc (.ro tInt) (zeroD tInt), AP.enc (.ro tIVote) (zeroD tIVote)]) n 5000007 k_s_l11Vote_5000007 x y
noncomputable def R_s_l11Vote_5000007 (n : Nat) (s1 : Int) (s7 : (List DXstruct_Kind_int_From_int_To_int_View_int)) (s8 : Int) (b6_0 : Int) (b6_1 : Int) (b6_2 : Int) (b6_3 : Int) (b6_4 : Int) (b6_5 : Int) (b6_6 : Int) (b6_7 : Int) (b6_8 : Int) (b6_9 : Int) (b6_10 : Int) (b6_11 : Int) (b6_12 : Int) (b6_13 : Int) (b6_14 : (List Int)) (b6_15 : (List DXstruct_Key_string_Num_int_)) (b6_16 : (List Int)) (b6_17 : (List DXstruct_Key_string_Had_bool_Num_int_)) (b6_18 : (List DXstruct_Phase_int_View_int_Block_int_Sign)) (b6_19 : (List DXstruct_Kind_int_From_int_To_int_View_int)) (b6_20 : Int) (b7_0 : Int) (b7_1 : Int) (b7_2 : Int) (b7_3 : Int) : Option (DSlILetter × DIPeer × Unit) := r_s_l11Vote_5000007 n (s1, s7, s8, ()) ((b6_0, b6_1, b6_2, b6_3, b6_4, b6_5, b6_6, b6_7, b6_8, b6_9, b6_10, b6_11, b6_12, b6_13, b6_14, b6_15, b6_16, b6_17, b6_18, b6_19, b6_20, ()), (b7_0, b7_1, b7_2, b7_3, ()), ())
theorem Q_s_l11Vote_eq (n : Nat) (a0 : DIPeer) (a1 : Int) (a2 : DIVote) : Q_s_l11Vote n a0 a1 a2 = bif decide (a2.1 = (4 : Int)) then (Q_s_LeaderOf big (IntKind.i64.wrap (a2.2.1 + (1 : Int))) a1).bind fun y => (fun zC0 => bif decide (y = a0.1) then bif decide (IntKind.i64.wrap (a2.2.1 + (1 : Int)) = IntKind.i64.wrap (a0.2.1 + (1 : Int))) then (Q_s_Entered big a0 (IntKind.i64.wrap (a2.2.1 + (1 : Int)))).bind fun y => R_s_l11Vote_5000007 n a1 [] (IntKind.i64.wrap (a2.2.1 + (1 : Int))) y.1 y.2.1 y.2.2.1.1 y.2.2.1.2.1 y.2.2.1.2.2.1 y.2.2.1.2.2.2.1 y.2.2.2.1.1 y.2.2.2.1.2.1 y.2.2.2.1.2.2.1 y.2.2.2.1.2.2.2.1 y.2.2.2.2.1.1 y.2.2.2.2.1.2.1 y.2.2.2.2.1.2.2.1 y.2.2.2.2.1.2.2.2.1 y.2.2.2.2.2.1 y.2.2.2.2.2.2.1 y.2.2.2.2.2.2.2.1 y.2.2.2.2.2.2.2.2.1 y.2.2.2.2.2.2.2.2.2.1 y.2.2.2.2.2.2.2.2.2.2.1 y.2.2.2.2.2.2.2.2.2.2.2.1 a2.1 a2.2.1 a2.2.2.1 a2.2.2.2.1 else zC0 else zC0) (R_s_l11Vote_5000007 n a1 [] (IntKind.i64.wrap (a2.2.1 + (1 : Int))) a0.1 a0.2.1 a0.2.2.1.1 a0.2.2.1.2.1 a0.2.2.1.2.2.1 a0.2.2.1.2.2.2.1 a0.2.2.2.1.1 a0.2.2.2.1.2.1 a0.2.2.2.1.2.2.1 a0.2.2.2.1.2.2.2.1 a0.2.2.2.2.1.1 a0.2.2.2.2.1.2.1 a0.2.2.2.2.1.2.2.1 a0.2.2.2.2.1.2.2.2.1 a0.2.2.2.2.2.1 a0.2.2.2.2.2.2.1 a0.2.2.2.2.2.2.2.1 a0.2.2.2.2.2.2.2.2.1 a0.2.2.2.2.2.2.2.2.2.1 a0.2.2.2.2.2.2.2.2.2.2.1 a0.2.2.2.2.2.2.2.2.2.2.2.1 a2.1 a2.2.1 a2.2.2.1 a2.2.2.2.1) else R_s_l11Vote_5000007 n a1 [] a2.2.1 a0.1 a0.2.1 a0.2.2.1.1 a0.2.2.1.2.1 a0.2.2.1.2.2.1 a0.2.2.1.2.2.2.1 a0.2.2.2.1.1 a0.2.2.2.1.2.1 a0.2.2.2.1.2.2.1 a0.2.2.2.1.2.2.2.1 a0.2.2.2.2.1.1 a0.2.2.2.2.1.2.1 a0.2.2.2.2.1.2.2.1 a0.2.2.2.2.1.2.2.2.1 a0.2.2.2.2.2.1 a0.2.2.2.2.2.2.1 a0.2.2.2.2.2.2.2.1 a0.2.2.2.2.2.2.2.2.1 a0.2.2.2.2.2.2.2.2.2.1 a0.2.2.2.2.2.2.2.2.2.2.1 a0.2.2.2.2.2.2.2.2.2.2.2.1 a2.1 a2.2.1 a2.2.2.1 a2.2.2.2.1 := by kernel_rfl
theorem R_s_l11Vote_17_eq (n : Nat) (s1 : Int) (s7 : (List DXstruct_Kind_int_From_int_To_int_View_int)) (s11 : Int) (b6_0 : Int) (b6_1 : Int) (b6_2 : Int) (b6_3 : Int) (b6_4 : Int) (b6_5 : Int) (b6_6 : Int) (b6_7 : Int) (b6_8 : Int) (b6_9 : Int) (b6_10 : Int) (b6_11 : Int) (b6_12 : Int) (b6_13 : Int) (b6_14 : (List Int)) (b6_15 : (List DXstruct_Key_string_Num_int_)) (b6_16 : (List Int)) (b6_17 : (List DXstruct_Key_string_Had_bool_Num_int_)) (b6_18 : (List DXstruct_Phase_int_View_int_Block_int_Sign)) (b6_19 : (List DXstruct_Kind_int_From_int_To_int_View_int)) (b6_20 : Int) (b17_0 : Int) (b17_1 : Int) (b17_2 : Int) (b17_3 : Int) : R_s_l11Vote_17 (n + 1) s1 s7 s11 b6_0 b6_1 b6_2 b6_3 b6_4 b6_5 b6_6 b6_7 b6_8 b6_9 b6_10 b6_11 b6_12 b6_13 b6_14 b6_15 b6_16 b6_17 b6_18 b6_19 b6_20 b17_0 b17_1 b17_2 b17_3 = bif decide (s11 < s1) then if s7.length + [((3 : Int), b6_0, s11, b6_1, (0 : Int), (b17_0, b17_1, b17_2, b17_3, ()), ((0 : Int), (0 : Int), (0 : Int), (0 : Int), ()), ())].length ≤ lim then R_s_l11Vote_17 n s1 (s7.append [((3 : Int), b6_0, s11, b6_1, (0 : Int), (b17_0, b17_1, b17_2, b17_3, ()), ((0 : Int), (0 : Int), (0 : Int), (0 : Int), ()), ())]) (IntKind.i64.wrap (s11 + (1 : Int))) b6_0 b6_1 b6_2 b6_3 b6_4 b6_5 b6_6 b6_7 b6_8 b6_9 b6_10 b6_11 b6_12 b6_13 b6_14 b6_15 b6_16 b6_17 b6_18 b6_19 b6_20 b17_0 b17_1 b17_2 b17_3 else none else some (s7, (b6_0, b6_1, (b6_2, b6_3, b6_4, b6_5, ()), (b6_6, b6_7, b6_8, b6_9, ()), (b6_10, b6_11, b6_12, b6_13, ()), b6_14, b6_15, b6_16, b6_17, b6_18, b6_19, b6_20, ()), ()) := by kernel_rfl
theorem R_s_l11Vote_5000007_eq (n : Nat) (s1 : Int) (s7 : (List DXstruct_Kind_int_From_int_To_int_View_int)) (s8 : Int) (b6_0 : Int) (b6_1 : Int) (b6_2 : Int) (b6_3 : Int) (b6_4 : Int) (b6_5 : Int) (b6_6 : Int) (b6_7 : Int) (b6_8 : Int) (b6_9 : Int) (b6_10 : Int) (b6_11 : Int) (b6_12 : Int) (b6_13 : Int) (b6_14 : (List Int)) (b6_15 : (List DXstruct_Key_string_Num_int_)) (b6_16 : (List Int)) (b6_17 : (List DXstruct_Key_string_Had_bool_Num_int_)) (b6_18 : (List DXstruct_Phase_int_View_int_Block_int_Sign)) (b6_19 : (List DXstruct_Kind_int_From_int_To_int_View_int)) (b6_20 : Int) (b7_0 : Int) (b7_1 : Int) (b7_2 : Int) (b7_3 : Int) : R_s_l11Vote_5000007 (n + 1) s1 s7 s8 b6_0 b6_1 b6_2 b6_3 b6_4 b6_5 b6_6 b6_7 b6_8 b6_9 b6_10 b6_11 b6_12 b6_13 b6_14 b6_15 b6_16 b6_17 b6_18 b6_19 b6_20 b7_0 b7_1 b7_2 b7_3 = bif !decide (b6_1 = s8) then some (s7, (b6_0, b6_1, (b6_2, b6_3, b6_4, b6_5, ()), (b6_6, b6_7, b6_8, b6_9, ()), (b6_10, b6_11, b6_12, b6_13, ()), b6_14, b6_15, b6_16, b6_17, b6_18, b6_19, b6_20, ()), ()) else (Q_s_LeaderOf big s8 s1).bind fun y => bif !decide (y = b6_0) then some (s7, (b6_0, b6_1, (b6_2, b6_3, b6_4, b6_5, ()), (b6_6, b6_7, b6_8, b6_9, ()), (b6_10, b6_11, b6_12, b6_13, ()), b6_14, b6_15, b6_16, b6_17, b6_18, b6_19, b6_20, ()), ()) else (Q_s_l11Has big b6_18 (b7_0, b7_1, b7_2, b7_3, ())).bind fun y => bif y then some (s7, (b6_0, b6_1, (b6_2, b6_3, b6_4, b6_5, ()), (b6_6, b6_7, b6_8, b6_9, ()), (b6_10, b6_11, b6_12, b6_13, ()), b6_14, b6_15, b6_16, b6_17, b6_18, b6_19, b6_20, ()), ()) else (fun zB => (fun zB => both (both zB zB) zB) (zB)) (if (0 : Nat) + b6_18.length ≤ lim then if b6_18.length + [(b7_0, b7_1, b7_2, b7_3, ())].length ≤ lim then (Q_s_SignersOf big (b6_18.append [(b7_0, b7_1, b7_2, b7_3, ())]) b7_0 b7_1 b7_2).bind fun y => (Q_s_CountOf big y).bind fun y => (Q_s_Quorum big s1).bind fun y_1 => bif !decide (y = y_1) then some (s7, (b6_0, b6_1, (b6_2, b6_3, b6_4, b6_5, ()), (b6_6, b6_7, b6_8, b6_9, ()), (b6_10, b6_11, b6_12, b6_13, ()), b6_14, b6_15, b6_16, b6_17, b6_18.append [(b7_0, b7_1, b7_2, b7_3, ())], b6_19, b6_20, ()), ()) else (Q_s_QcOf big (b6_18.append [(b7_0, b7_1, b7_2, b7_3, ())]) b7_0 b7_1 b7_2 s1).bind fun y => bif decide (b7_0 = (4 : Int)) then (Q_s_HigherQc big (b6_2, b6_3, b6_4, b6_5, ()) y.1).bind fun y => some (s7, (b6_0, b6_1, y, (b6_6, b6_7, b6_8, b6_9, ()), (b6_10, b6_11, b6_12, b6_13, ()), b6_14, b6_15, b6_16, b6_17, b6_18.append [(b7_0, b7_1, b7_2, b7_3, ())], b6_19, b6_20, ()), ()) else R_s_l11Vote_17 n s1 s7 (0 : Int) b6_0 b6_1 b6_2 b6_3 b6_4 b6_5 b6_6 b6_7 b6_8 b6_9 b6_10 b6_11 b6_12 b6_13 b6_14 b6_15 b6_16 b6_17 (b6_18.append [(b7_0, b7_1, b7_2, b7_3, ())]) b6_19 b6_20 y.1.1 y.1.2.1 y.1.2.2.1 y.1.2.2.2.1 else none else none) := by kernel_rfl
end Go.Sx.Tryz
set_option maxRecDepth 100000
namespace Go.Sx.Tryz
open Go Go.Sx Go.Proofs
noncomputable def l_s_l11Voted : List (Nat × Con) := [(258, c_s_l11Vote)]
theorem l_s_l11Voted_ok : ∀ q ∈ l_s_l11Voted, ConOk Tryz.prog q.1 q.2 := Tryz.cons_cons c_s_l11Vote_ok (Tryz.cons_nil)
def kp_s_l11Voted : KP := []
noncomputable def q_s_l11Voted (n : Nat) (x : AP.denL [.gs uIPeer, .ro tInt, .ro tIVote]) := evX (false, false, [3, 5]) l_s_l11Voted kp_s_l11Voted [some uIPeer, some uSlILetter] Tryz.f251 (shT [(true, uIPeer), (true, uSlILetter)]) n (AP.encL [.gs uIPeer, .ro tInt, .ro tIVote] x)
noncomputable def c_s_l11Voted : Con := apS [.gs uIPeer, .ro tInt, .ro tIVote] true (shT [(true, uIPeer), (true, uSlILetter)]) (q_s_l11Voted big)
theorem c_s_l11Voted_ok : ConOk Tryz.prog 251 c_s_l11Voted := apS_ok ⟨Tryz.f251, by kernel_rfl, rfl, by decide⟩ fun _ _ h => evX_ok l_s_l11Voted_ok (f := Tryz.f251) (by kernel_rfl) rfl (by kernel_rfl) (by kernel_rfl) big h
noncomputable def Q_s_l11Voted (n : Nat) (a0 : DIPeer) (a1 : Int) (a2 : DIVote) : Option (DIPeer × DSlILetter × Unit) := q_s_l11Voted n (a0, a1, a2, ())
theorem Q_s_l11Voted_eq (n : Nat) (a0 : DIPeer) (a1 : Int) (a2 : DIVote) : Q_s_l11Voted n a0 a1 a2 =
  (Q_s_l11Vote big a0 a1 a2).bind fun y => some (y.2.1, y.1, ()) := by kernel_rfl
end Go.Sx.Tryz
set_option maxRecDepth 100000
namespace Go.Sx.Tryz
open Go Go.Sx Go.Proofs
noncomputable def l_s_LeadHear : List (Nat × Con) := [(68, c_s_l09Copy), (234, c_s_LetterOk), (251, c_s_l11Voted), (252, c_s_l11New)]
theorem l_s_LeadHear_ok : ∀ q ∈ l_s_LeadHear, ConOk Tryz.prog q.1 q.2 := Tryz.cons_cons c_s_l09Copy_ok (Tryz.cons_cons c_s_LetterOk_ok (Tryz.cons_cons c_s_l11Voted_ok (Tryz.cons_cons c_s_l11New_ok (Tryz.cons_nil))))
def kp_s_LeadHear : KP := []
noncomputable def q_s_LeadHear (n : Nat) (x : Args [tSlIBlock, tInt, tIPeer, tILetter]) := evX (false, false, [6, 7, 10, 21, 23, 29, 35]) l_s_LeadHear kp_s_LeadHear [some uIPeer, some uSlILetter] Tryz.f235 (shT [(true, uIPeer), (true, uSlILetter)]) n (encA [tSlIBlock, tInt, tIPeer, tILetter] x)
noncomputable def c_s_LeadHear : Con := roS [tSlIBlock, tInt, tIPeer, tILetter] true (shT [(true, uIPeer), (true, uSlILetter)]) (q_s_LeadHear big)
theorem c_s_LeadHear_ok : ConOk Tryz.prog 235 c_s_LeadHear := roS_ok ⟨Tryz.f235, by kernel_rfl, rfl, by decide⟩ fun _ _ h => evX_ok l_s_LeadHear_ok (f := Tryz.f235) (by kernel_rfl) rfl (by kernel_rfl) (by kernel_rfl) big h
noncomputable def Q_s_LeadHear (n : Nat) (a0 : DSlIBlock) (a1 : Int) (a2 : DIPeer) (a3 : DILetter) : Option (DIPeer × DSlILetter × Unit) := q_s_LeadHear n (a0, a1, a2, a3, ())
theorem Q_s_LeadHear_eq (n : Nat) (a0 : DSlIBlock) (a1 : Int) (a2 : DIPeer) (a3 : DILetter) : Q_s_LeadHear n a0 a1 a2 a3 =
  (Q_s_l09Copy big a2).bind fun y =>
 (Q_s_LetterOk big a0 a1 a3).bind fun y_1 =>
 bif !y_1 then some (y, [], ())
 else
 bif !decide (a3.2.2.1 = a2.1) then some (y, [], ())
 else
 bif decide (a3.1 = (2 : Int)) then
 (Q_s_l11Voted big y a1 a3.2.2.2.2.2.2.1).bind fun y => some y
 else
 bif decide (a3.1 = (4 : Int)) then (Q_s_l11New big y a1 a3).bind fun y => some (y.2.1, [], ())
 else some (y, [], ()) := by kernel_rfl
end Go.Sx.Tryz
set_option maxRecDepth 100000
namespace Go.Sx.Tryz
open Go Go.Sx Go.Proofs
noncomputable def l_s_AskHear : List (Nat × Con) := [(68, c_s_l09Copy), (234, c_s_LetterOk), (235, c_s_LeadHear), (22, c_s_LeaderOf), (237, c_s_l11Qc), (39, c_s_Entered), (15, c_s_MayVote), (38, c_s_SafeBlock), (236, c_s_l11Give)]
theorem l_s_AskHear_ok : ∀ q ∈ l_s_AskHear, ConOk Tryz.prog q.1 q.2 := Tryz.cons_cons c_s_l09Copy_ok (Tryz.cons_cons c_s_LetterOk_ok (Tryz.cons_cons c_s_LeadHear_ok (Tryz.cons_cons c_s_LeaderOf_ok (Tryz.cons_cons c_s_l11Qc_ok (Tryz.cons_cons c_s_Entered_ok (Tryz.cons_cons c_s_MayVote_ok (Tryz.cons_cons c_s_SafeBlock_ok (Tryz.cons_cons c_s_l11Give_ok (Tryz.cons_nil)))))))))
def kp_s_AskHear : KP := []
noncomputable def q_s_AskHear (n : Nat) (x : Args [tSlIBlock, tInt, tIPeer, tILetter]) := evX (false, false, [6, 7, 10, 23, 25, 31, 35, 46, 48, 54, 56, 62, 72, 76, 82, 84, 91, 93, 95]) l_s_AskHear kp_s_AskHear [some uIPeer, some uSlILetter] Tryz.f217 (shT [(true, uIPeer), (true, uSlILetter)]) n (encA [tSlIBlock, tInt, tIPeer, tILetter] x)
noncomputable def c_s_AskHear : Con := roS [tSlIBlock, tInt, tIPeer, tILetter] true (shT [(true, uIPeer), (true, uSlILetter)]) (q_s_AskHear big)
theorem c_s_AskHear_ok : ConOk Tryz.prog 217 c_s_AskHear := roS_ok ⟨Tryz.f217, by kernel_rfl, rfl, by decide⟩ fun _ _ h => evX_ok l_s_AskHear_ok (f := Tryz.f217) (by kernel_rfl) rfl (by kernel_rfl) (by kernel_rfl) big h
noncomputable def Q_s_AskHear (n : Nat) (a0 : DSlIBlock) (a1 : Int) (a2 : DIPeer) (a3 : DILetter) : Option (DIPeer × DSlILetter × Unit) := q_s_AskHear n (a0, a1, a2, a3, ())
theorem Q_s_AskHear_eq (n : Nat) (a0 : DSlIBlock) (a1 : Int) (a2 : DIPeer) (a3 : DILetter) : Q_s_AskHear n a0 a1 a2 a3 =
  (Q_s_l09Copy big a2).bind fun y =>
 (Q_s_LetterOk big a0 a1 a3).bind fun y_1 =>
 bif !y_1 then some (y, [], ())
 else
 bif !decide (a3.2.2.1 = a2.1) then some (y, [], ())
 else
 bif decide (a3.1 = (2 : Int)) then (Q_s_LeadHear big a0 a1 a2 a3).bind fun y => some y
 else
 bif decide (a3.1 = (4 : Int)) then (Q_s_LeadHear big a0 a1 a2 a3).bind fun y => some y
 else
 (Q_s_LeaderOf big a3.2.2.2.1 a1).bind fun y_2 =>
 bif !decide (a3.2.1 = y_2) then some (y, [], ())
 else
 bif decide (a3.2.2.2.1 < a2.2.1) then some (y, [], ())
 else
 bif decide (a3.1 = (3 : Int)) then
 (Q_s_l11Qc big a0 a1 y a3).bind fun y => some (y.2.1, y.1, ())
 else
 (Q_s_Entered big y a3.2.2.2.1).bind fun y =>
 (Q_s_MayVote big y (1 : Int) a3.2.2.2.1).bind fun y_3 =>
 bif !y_3 then some (y, [], ())
 else
 (Q_s_SafeBlock big a0 y.2.2.2.1 a3.2.2.2.2.1).bind fun y_4 =>
 bif !y_4 then some (y, [], ())
 else
 (Q_s_l11Give big y (1 : Int) a3.2.2.2.1 a3.2.2.2.2.1 a3.2.1).bind
 fun y => some (y.2.1, y.1, ()) := by kernel_rfl
end Go.Sx.Tryz
set_option maxRecDepth 100000
namespace Go.Sx.Tryz
open Go Go.Sx Go.Proofs
noncomputable def l_s_ChainHear : List (Nat × Con) := [(68, c_s_l09Copy), (234, c_s_LetterOk), (235, c_s_LeadHear), (96, c_s_HigherQc), (22, c_s_LeaderOf), (15, c_s_MayVote), (38, c_s_SafeBlock), (44, c_s_ChainLearn), (236, c_s_l11Give), (39, c_s_Entered)]
theorem l_s_ChainHear_ok : ∀ q ∈ l_s_ChainHear, ConOk Tryz.prog q.1 q.2 := Tryz.cons_cons c_s_l09Copy_ok (Tryz.cons_cons c_s_LetterOk_ok (Tryz.cons_cons c_s_LeadHear_ok (Tryz.cons_cons c_s_HigherQc_ok (Tryz.cons_cons c_s_LeaderOf_ok (Tryz.cons_cons c_s_MayVote_ok (Tryz.cons_cons c_s_SafeBlock_ok (Tryz.cons_cons c_s_ChainLearn_ok (Tryz.cons_cons c_s_l11Give_ok (Tryz.cons_cons c_s_Entered_ok (Tryz.cons_nil))))))))))
def kp_s_ChainHear : KP := []
noncomputable def q_s_ChainHear (n : Nat) (x : Args [tSlIBlock, tInt, tIPeer, tILetter]) := evX (false, false, [6, 7, 10, 23, 25, 31, 44, 46, 61, 63, 71, 76, 78, 83, 85, 91, 98, 100, 102, 109]) l_s_ChainHear kp_s_ChainHear [some uIPeer, some uSlILetter] Tryz.f216 (shT [(true, uIPeer), (true, uSlILetter)]) n (encA [tSlIBlock, tInt, tIPeer, tILetter] x)
noncomputable def c_s_ChainHear : Con := roS [tSlIBlock, tInt, tIPeer, tILetter] true (shT [(true, uIPeer), (true, uSlILetter)]) (q_s_ChainHear big)
theorem c_s_ChainHear_ok : ConOk Tryz.prog 216 c_s_ChainHear := roS_ok ⟨Tryz.f216, by kernel_rfl, rfl, by decide⟩ fun _ _ h => evX_ok l_s_ChainHear_ok (f := Tryz.f216) (by kernel_rfl) rfl (by kernel_rfl) (by kernel_rfl) big h
noncomputable def Q_s_ChainHear (n : Nat) (a0 : DSlIBlock) (a1 : Int) (a2 : DIPeer) (a3 : DILetter) : Option (DIPeer × DSlILetter × Unit) := q_s_ChainHear n (a0, a1, a2, a3, ())
theorem Q_s_ChainHear_eq (n : Nat) (a0 : DSlIBlock) (a1 : Int) (a2 : DIPeer) (a3 : DILetter) : Q_s_ChainHear n a0 a1 a2 a3 =
  (Q_s_l09Copy big a2).bind fun y =>
 (Q_s_LetterOk big a0 a1 a3).bind fun y_1 =>
 bif !y_1 then some (y, [], ())
 else
 bif !decide (a3.2.2.1 = a2.1) then some (y, [], ())
 else
 bif decide (a3.1 = (2 : Int)) then (Q_s_LeadHear big a0 a1 a2 a3).bind fun y => some y
 else
 bif decide (a3.1 = (4 : Int)) then
 (Q_s_HigherQc big y.2.2.1 a3.2.2.2.2.2.1).bind fun y_2 =>
 (Q_s_LeadHear big a0 a1 (y.1, y.2.1, y_2, y.2.2.2) a3).bind fun y => some y
 else
 bif decide (a3.1 = (3 : Int)) then some (y, [], ())
 else
 (Q_s_LeaderOf big a3.2.2.2.1 a1).bind fun y_2 =>
 bif !decide (a3.2.1 = y_2) then some (y, [], ())
 else
 (Q_s_MayVote big y (4 : Int) a3.2.2.2.1).bind fun y_3 =>
 bif y_3 then
 (Q_s_SafeBlock big a0 y.2.2.2.1 a3.2.2.2.2.1).bind fun y_4 =>
 bif y_4 then
 (Q_s_ChainLearn big a0 y a3.2.2.2.2.1).bind fun y =>
 bif !decide (a2.2.1 ≤ a3.2.2.2.1) then some (y, [], ())
 else
 (Q_s_LeaderOf big (IntKind.i64.wrap (a3.2.2.2.1 + (1 : Int))) a1).bind
 fun y_5 =>
 (Q_s_l11Give big y (4 : Int) a3.2.2.2.1 a3.2.2.2.2.1 y_5).bind
 fun y =>
 (Q_s_Entered big y.2.1 (IntKind.i64.wrap (a3.2.2.2.1 + (1 : Int)))).bind
 fun y_6 => some (y_6, y.1, ())
 else (Q_s_ChainLearn big a0 y a3.2.2.2.2.1).bind fun y => some (y, [], ())
 else
 (Q_s_ChainLearn big a0 y a3.2.2.2.2.1).bind fun y => some (y, [], ()) := by kernel_rfl
end Go.Sx.Tryz
set_option maxRecDepth 100000
namespace Go.Sx.Tryz
open Go Go.Sx Go.Proofs
noncomputable def l_s_l15Out : List (Nat × Con) := [(67, c_s_l01In)]
theorem l_s_l15Out_ok : ∀ q ∈ l_s_l15Out, ConOk Tryz.prog q.1 q.2 := Tryz.cons_cons c_s_l01In_ok (Tryz.cons_nil)
def kp_s_l15Out : KP := []
noncomputable def q_s_l15Out (n : Nat) (x : AP.denL [.mu uICluster, .ro tInt]) := evX (false, false, [6, 8, 9, 10, 17, 18, 19, 24, 26, 27, 28, 33, 34, 35, 41]) l_s_l15Out kp_s_l15Out [none, none] Tryz.f182 (shO (shT [(false, tILetter), (false, tBool)]) [.mu uICluster]) n (AP.encL [.mu uICluster, .ro tInt] x)
noncomputable def c_s_l15Out : Con := apS [.mu uICluster, .ro tInt] true (shO (shT [(false, tILetter), (false, tBool)]) [.mu uICluster]) (q_s_l15Out big)
theorem c_s_l15Out_ok : ConOk Tryz.prog 182 c_s_l15Out := apS_ok ⟨Tryz.f182, by kernel_rfl, rfl, by decide⟩ fun _ _ h => evX_ok l_s_l15Out_ok (f := Tryz.f182) (by kernel_rfl) rfl (by kernel_rfl) (by kernel_rfl) big h
noncomputable def Q_s_l15Out (n : Nat) (a0 : DICluster) (a1 : Int) : Option ((DILetter × Bool × Unit) × DICluster × Unit) := q_s_l15Out n (a0, a1, ())
theorem Q_s_l15Out_eq (n : Nat) (a0 : DICluster) (a1 : Int) : Q_s_l15Out n a0 a1 = (Q_s_l01In big a1 (0 : Int) (IntKind.i64.wrap ((↑(List.length a0.2.2.2.2.2.1) : Int) - (1 : Int)))).bind fun y => bif !y then some ((((0 : Int), (0 : Int), (0 : Int), (0 : Int), (0 : Int), ((0 : Int), (0 : Int), (0 : Int), (0 : Int), ()), ((0 : Int), (0 : Int), (0 : Int), (0 : Int), ()), ()), false, ()), a0, ()) else if (0 : Int) ≤ a1 then if a1 < (↑(List.length a0.2.2.2.2.2.1) : Int) then (nth a0.2.2.2.2.2.1 a1.toNat).bind fun y => (fun zC0 => (fun zC1 => (fun zC2 => both (if (0 : Int) ≤ a1 then if a1 ≤ (↑(List.length a0.2.2.2.2.2.1) : Int) then (fun zB0 zB1 => (fun zB0 zB1 => both zB0 (both zB0 zB1)) (zB0) (zB1)) zC1 zC2 else none else none) (both (if (0 : Int) ≤ a1 then if a1 ≤ (↑(List.length a0.2.2.2.2.2.1) : Int) then (fun zB0 zB1 => (fun zB0 zB1 => both (both zB0 (both zB0 zB1)) (both (both zB0 zB1) zB1)) (zB0) (zB1)) zC1 zC2 else none else none) (both (if (0 : Int) ≤ a1 then if a1 ≤ (↑(List.length a0.2.2.2.2.2.1) : Int) then both (zC1) (zC2) else none else none) (both (if (0 : Int) ≤ a1 then if a1 ≤ (↑(List.length a0.2.2.2.2.2.1) : Int) then (fun zB0 zB1 => (fun zB0 zB1 => both (both zB0 zB1) zB1) (zB0) (zB1)) zC1 zC2 else none else none) (if (0 : Int) ≤ IntKind.i64.wrap (a1 + (1 : Int)) then if IntKind.i64.wrap (a1 + (1 : Int)) ≤ (↑(List.length a0.2.2.2.2.2.1) : Int) then (fun zB => (fun zB => both zB zB) (zB)) (if (0 : Int) ≤ a1 then if a1 ≤ (↑(List.length a0.2.2.2.2.2.1) : Int) then if (0 : Nat) + (List.take (a1.toNat - (0 : Nat)) (List.drop (0 : Nat) a0.2.2.2.2.2.1)).length ≤ lim then zC0 else none else none else none) else none else none))))) (if (0 : Int) ≤ IntKind.i64.wrap (a1 + (1 : Int)) then if IntKind.i64.wrap (a1 + (1 : Int)) ≤ (↑(List.length a0.2.2.2.2.2.1) : Int) then if (0 : Nat) + (List.take (a1.toNat - (0 : Nat)) (List.drop (0 : Nat) a0.2.2.2.2.2.1)).length ≤ lim then zC0 else none else none else none)) (if (0 : Nat) + (List.take (a1.toNat - (0 : Nat)) (List.drop (0 : Nat) a0.2.2.2.2.2.1)).length ≤ lim then if (0 : Int) ≤ IntKind.i64.wrap (a1 + (1 : Int)) then if IntKind.i64.wrap (a1 + (1 : Int)) ≤ (↑(List.length a0.2.2.2.2.2.1) : Int) then zC0 else none else none else none)) (if (List.take (a1.toNat - (0 : Nat)) (List.drop (0 : Nat) a0.2.2.2.2.2.1)).length + (List.take (List.length a0.2.2.2.2.2.1 - (IntKind.i64.wrap (a1 + (1 : Int))).toNat) (List.drop (IntKind.i64.wrap (a1 + (1 : Int))).toNat a0.2.2.2.2.2.1)).length ≤ lim then some ((y, true, ()), (a0.1, a0.2.1, a0.2.2.1, a0.2.2.2.1, a0.2.2.2.2.1, (List.take (a1.toNat - (0 : Nat)) (List.drop (0 : Nat) a0.2.2.2.2.2.1)).append (List.take (List.length a0.2.2.2.2.2.1 - (IntKind.i64.wrap (a1 + (1 : Int))).toNat) (List.drop (IntKind.i64.wrap (a1 + (1 : Int))).toNat a0.2.2.2.2.2.1)), a0.2.2.2.2.2.2), ()) else none) else none else none := by kernel_rfl
end Go.Sx.Tryz
set_option maxRecDepth 100000
namespace Go.Sx.Tryz
open Go Go.Sx Go.Proofs
noncomputable def l_s_l15Post : List (Nat × Con) := []
theorem l_s_l15Post_ok : ∀ q ∈ l_s_l15Post, ConOk Tryz.prog q.1 q.2 := Tryz.cons_nil
def kp_s_l15Post : KP := []
noncomputable def q_s_l15Post (n : Nat) (x : AP.denL [.mu uICluster, .ro tSlILetter]) := evX (false, false, [5, 6, 7, 14, 16, 17, 18, 23]) l_s_l15Post kp_s_l15Post [none] Tryz.f214 (shO (shV tBool) [.mu uICluster]) n (AP.encL [.mu uICluster, .ro tSlILetter] x)
noncomputable def c_s_l15Post : Con := apS [.mu uICluster, .ro tSlILetter] true (shO (shV tBool) [.mu uICluster]) (q_s_l15Post big)
theorem c_s_l15Post_ok : ConOk Tryz.prog 214 c_s_l15Post := apS_ok ⟨Tryz.f214, by kernel_rfl, rfl, by decide⟩ fun _ _ h => evX_ok l_s_l15Post_ok (f := Tryz.f214) (by kernel_rfl) rfl (by kernel_rfl) (by kernel_rfl) big h
noncomputable def Q_s_l15Post (n : Nat) (a0 : DICluster) (a1 : DSlILetter) : Option (Bool × DICluster × Unit) := q_s_l15Post n (a0, a1, ())
theorem Q_s_l15Post_eq (n : Nat) (a0 : DICluster) (a1 : DSlILetter) : Q_s_l15Post n a0 a1 =
  bif
 decide
 ((60 : Int) <
 IntKind.i64.wrap ((↑(List.length a0.2.2.2.2.2.1) : Int) + (↑(List.length a1) : Int))) then
 some (false, a0, ())
 else
 if (0 : Nat) + List.length a0.2.2.2.2.2.1 ≤ lim then
 if List.length a0.2.2.2.2.2.1 + List.length a1 ≤ lim then
 some
 (true,
 (a0.1, a0.2.1, a0.2.2.1, a0.2.2.2.1, a0.2.2.2.2.1,
 List.append a0.2.2.2.2.2.1 a1, a0.2.2.2.2.2.2),
 ())
 else none
 else none := by kernel_rfl
end Go.Sx.Tryz
set_option maxRecDepth 100000
namespace Go.Sx.Tryz
open Go Go.Sx Go.Proofs
noncomputable def l_s_l15Said : List (Nat × Con) := []
theorem l_s_l15Said_ok : ∀ q ∈ l_s_l15Said, ConOk Tryz.prog q.1 q.2 := Tryz.cons_nil
abbrev k_s_l15Said_2 : List Keep × List BK := ([.is (.ptr 5 0), .drop, .drop, .is (.ptr 6 0), .ro tInt64, .drop, .drop, .drop, .drop, .drop, .drop, .drop, .drop, .drop, .drop, .drop, .drop, .drop, .drop, .drop, .drop, .drop, .drop, .drop, .drop, .drop, .drop, .drop, .drop, .drop, .drop, .drop, .drop, .drop, .drop], [.drop, .drop, .drop, .drop, .drop, .vars [.ro tInt64, .ro tBool, .ro tInt64, .own uXstruct_Parent_int_View_int_Cmds_impl_Cmd, .own uXstruct_Id_int_View_int_High_impl_Qc_Lock, .own tXstruct_Kind_int_From_int_To_int_View_int, .own tXstruct_Phase_int_View_int_Block_int_Sign, .own tXstruct_Kind_int_Key_string_Num_int_], .vars [.ro tInt64, .ro tInt64, .ro tInt64, .ro tInt64]])
def kp_s_l15Said : KP := [(2, k_s_l15Said_2)]
noncomputable def q_s_l15Said (n : Nat) (x : AP.denL [.mu uICluster, .ro tIVote]) := evX (false, false, [3, 6, 7, 8, 14, 15, 16, 23, 25, 26, 27, 33]) l_s_l15Said kp_s_l15Said [] Tryz.f218 (shO shN [.mu uICluster]) n (AP.encL [.mu uICluster, .ro tIVote] x)
noncomputable def c_s_l15Said : Con := apS [.mu uICluster, .ro tIVote] true (shO shN [.mu uICluster]) (q_s_l15Said big)
theorem c_s_l15Said_ok : ConOk Tryz.prog 218 c_s_l15Said := apS_ok ⟨Tryz.f218, by kernel_rfl, rfl, by decide⟩ fun _ _ h => evX_ok l_s_l15Said_ok (f := Tryz.f218) (by kernel_rfl) rfl (by kernel_rfl) (by kernel_rfl) big h
noncomputable def Q_s_l15Said (n : Nat) (a0 : DICluster) (a1 : DIVote) : Option (Unit × DICluster × Unit) := q_s_l15Said n (a0, a1, ())
noncomputable def r_s_l15Said_2 (n : Nat) (x : KD k_s_l15Said_2.1) (y : BD k_s_l15Said_2.2) := rounds (env (false, false, [3, 6, 7, 8, 14, 15, 16, 23, 25, 26, 27, 33]) l_s_l15Said) kp_s_l15Said (body Tryz.f218) (finX (false, false, [3, 6, 7, 8, 14, 15, 16, 23, 25, 26, 27, 33]) l_s_l15Said [] Tryz.f218 (shO shN [.mu uICluster]) [AP.enc (.mu uICluster) (zeroD uICluster), AP.enc (.ro tIVote) (zeroD tIVote)]) n 2 k_s_l15Said_2 x y
noncomputable def R_s_l15Said_2 (n : Nat) (s4 : Int) (b5_0 : Int) (b5_1 : Bool) (b5_2 : Int) (b5_3 : (List DXstruct_Parent_int_View_int_Cmds_impl_Cmd)) (b5_4 : (List DXstruct_Id_int_View_int_High_impl_Qc_Lock)) (b5_5 : (List DXstruct_Kind_int_From_int_To_int_View_int)) (b5_6 : (List DXstruct_Phase_int_View_int_Block_int_Sign)) (b5_7 : (List DXstruct_Kind_int_Key_string_Num_int_)) (b6_0 : Int) (b6_1 : Int) (b6_2 : Int) (b6_3 : Int) : Option (Unit × DICluster × Unit) := r_s_l15Said_2 n (s4, ()) ((b5_0, b5_1, b5_2, b5_3, b5_4, b5_5, b5_6, b5_7, ()), (b6_0, b6_1, b6_2, b6_3, ()), ())
theorem Q_s_l15Said_eq (n : Nat) (a0 : DICluster) (a1 : DIVote) : Q_s_l15Said n a0 a1 =
  R_s_l15Said_2 n (0 : Int) a0.1 a0.2.1 a0.2.2.1 a0.2.2.2.1 a0.2.2.2.2.1
 a0.2.2.2.2.2.1 a0.2.2.2.2.2.2.1 a0.2.2.2.2.2.2.2.1 a1.1 a1.2.1
 a1.2.2.1 a1.2.2.2.1 := by kernel_rfl
theorem R_s_l15Said_2_eq (n : Nat) (s4 : Int) (b5_0 : Int) (b5_1 : Bool) (b5_2 : Int) (b5_3 : (List DXstruct_Parent_int_View_int_Cmds_impl_Cmd)) (b5_4 : (List DXstruct_Id_int_View_int_High_impl_Qc_Lock)) (b5_5 : (List DXstruct_Kind_int_From_int_To_int_View_int)) (b5_6 : (List DXstruct_Phase_int_View_int_Block_int_Sign)) (b5_7 : (List DXstruct_Kind_int_Key_string_Num_int_)) (b6_0 : Int) (b6_1 : Int) (b6_2 : Int) (b6_3 : Int) : R_s_l15Said_2 (n + 1) s4 b5_0 b5_1 b5_2 b5_3 b5_4 b5_5 b5_6 b5_7 b6_0 b6_1 b6_2 b6_3 = bif decide (s4 < (↑b5_6.length : Int)) then if (0 : Int) ≤ s4 then if s4 < (↑b5_6.length : Int) then (nth b5_6 s4.toNat).bind fun y => bif eqD tIVote y (b6_0, b6_1, b6_2, b6_3, ()) then some ((), (b5_0, b5_1, b5_2, b5_3, b5_4, b5_5, b5_6, b5_7, ()), ()) else R_s_l15Said_2 n (IntKind.i64.wrap (s4 + (1 : Int))) b5_0 b5_1 b5_2 b5_3 b5_4 b5_5 b5_6 b5_7 b6_0 b6_1 b6_2 b6_3 else none else none else (fun zB => both (both zB zB) zB) (if (0 : Nat) + b5_6.length ≤ lim then if b5_6.length + [(b6_0, b6_1, b6_2, b6_3, ())].length ≤ lim then some ((), (b5_0, b5_1, b5_2, b5_3, b5_4, b5_5, b5_6.append [(b6_0, b6_1, b6_2, b6_3, ())], b5_7, ()), ()) else none else none) := by kernel_rfl
end Go.Sx.Tryz
set_option maxRecDepth 100000
namespace Go.Sx.Tryz
open Go Go.Sx Go.Proofs
noncomputable def l_s_l15Carry : List (Nat × Con) := [(182, c_s_l15Out), (106, c_s_l15Honest), (216, c_s_ChainHear), (217, c_s_AskHear), (218, c_s_l15Said), (214, c_s_l15Post)]
theorem l_s_l15Carry_ok : ∀ q ∈ l_s_l15Carry, ConOk Tryz.prog q.1 q.2 := Tryz.cons_cons c_s_l15Out_ok (Tryz.cons_cons c_s_l15Honest_ok (Tryz.cons_cons c_s_ChainHear_ok (Tryz.cons_cons c_s_AskHear_ok (Tryz.cons_cons c_s_l15Said_ok (Tryz.cons_cons c_s_l15Post_ok (Tryz.cons_nil))))))
abbrev k_s_l15Carry_11 : List Keep × List BK := ([.is (.ptr 5 0), .drop, .drop, .drop, .drop, .drop, .drop, .is (.own 25 0), .ro tInt64, .drop, .drop, .drop, .drop, .drop, .drop, .drop, .drop, .drop, .drop, .drop, .drop, .drop, .drop, .drop, .drop, .drop, .drop, .drop, .drop, .drop, .drop, .drop, .drop, .drop, .drop, .drop, .drop, .drop, .drop, .drop, .drop, .drop, .drop, .drop, .drop, .drop, .drop, .drop, .drop, .drop, .drop, .drop, .drop, .drop, .drop, .drop, .drop, .drop, .drop, .drop, .drop, .drop, .drop, .drop, .drop, .drop, .drop, .drop, .drop, .drop, .drop, .drop, .drop, .drop, .drop, .drop, .drop, .drop, .drop, .drop, .drop, .drop, .drop, .drop, .drop, .drop, .drop, .drop, .drop, .drop, .drop, .drop, .drop, .drop, .drop, .drop, .drop, .drop, .drop, .drop, .drop, .drop, .drop, .drop, .drop, .drop, .drop, .drop, .drop, .drop, .drop, .drop, .drop, .drop, .drop, .drop, .drop], [.drop, .drop, .drop, .drop, .drop, .vars [.ro tInt64, .ro tBool, .ro tInt64, .own uXstruct_Parent_int_View_int_Cmds_impl_Cmd, .own uXstruct_Id_int_View_int_High_impl_Qc_Lock, .own tXstruct_Kind_int_From_int_To_int_View_int, .own tXstruct_Phase_int_View_int_Block_int_Sign, .own tXstruct_Kind_int_Key_string_Num_int_], .drop, .drop, .drop, .drop, .drop, .drop, .drop, .drop, .drop, .drop, .drop, .drop, .drop, .drop, .drop, .drop, .drop, .drop, .drop, .arr tXstruct_Kind_int_From_int_To_int_View_int])
def kp_s_l15Carry : KP := [(11, k_s_l15Carry_11)]
noncomputable def q_s_l15Carry (n : Nat) (x : AP.denL [.mu uICluster, .ro tInt]) := evX (true, true, [5, 17, 18, 20, 25, 26, 27, 30, 31, 32, 34, 36, 37, 38, 40, 41, 42, 44, 45, 46, 48, 58, 59, 60, 62, 64, 65, 66, 68, 69, 70, 72, 73, 74, 76, 104, 105, 106]) l_s_l15Carry kp_s_l15Carry [none] Tryz.f181 (shO (shV tBool) [.mu uICluster]) n (AP.encL [.mu uICluster, .ro tInt] x)
noncomputable def c_s_l15Carry : Con := apS [.mu uICluster, .ro tInt] true (shO (shV tBool) [.mu uICluster]) (q_s_l15Carry big)
theorem c_s_l15Carry_ok : ConOk Tryz.prog 181 c_s_l15Carry := apS_ok ⟨Tryz.f181, by kernel_rfl, rfl, by decide⟩ fun _ _ h => evX_ok l_s_l15Carry_ok (f := Tryz.f181) (by kernel_rfl) rfl (by kernel_rfl) (by kernel_rfl) big h
noncomputable def Q_s_l15Carry (n : Nat) (a0 : DICluster) (a1 : Int) : Option (Bool × DICluster × Unit) := q_s_l15Carry n (a0, a1, ())
noncomputable def r_s_l15Carry_11 (n : Nat) (x : KD k_s_l15Carry_11.1) (y : BD k_s_l15Carry_11.2) := rounds (env (true, true, [5, 17, 18, 20, 25, 26, 27, 30, 31, 32, 34, 36, 37, 38, 40, 41, 42, 44, 45, 46, 48, 58, 59, 60, 62, 64, 65, 66, 68, 69, 70, 72, 73, 74, 76, 104, 105, 106]) l_s_l15Carry) kp_s_l15Carry (body Tryz.f181) (finX (true, true, [5, 17, 18, 20, 25, 26, 27, 30, 31, 32, 34, 36, 37, 38, 40, 41, 42, 44, 45, 46, 48, 58, 59, 60, 62, 64, 65, 66, 68, 69, 70, 72, 73, 74, 76, 104, 105, 106]) l_s_l15Carry [none] Tryz.f181 (shO (shV tBool) [.mu uICluster]) [AP.enc (.mu uICluster) (zeroD uICluster), AP.enc (.ro tInt) (zeroD tInt)]) n 11 k_s_l15Carry_11 x y
noncomputable def R_s_l15Carry_11 (n : Nat) (s8 : Int) (b5_0 : Int) (b5_1 : Bool) (b5_2 : Int) (b5_3 : (List DXstruct_Parent_int_View_int_Cmds_impl_Cmd)) (b5_4 : (List DXstruct_Id_int_View_int_High_impl_Qc_Lock)) (b5_5 : (List DXstruct_Kind_int_From_int_To_int_View_int)) (b5_6 : (List DXstruct_Phase_int_View_int_Block_int_Sign)) (b5_7 : (List DXstruct_Kind_int_Key_string_Num_int_)) (b25 : (List DXstruct_Kind_int_From_int_To_int_View_int)) : Option (Bool × DICluster × Unit) := r_s_l15Carry_11 n (s8, ()) ((b5_0, b5_1, b5_2, b5_3, b5_4, b5_5, b5_6, b5_7, ()), b25, ())
theorem Q_s_l15Carry_eq (n : Nat) (a0 : DICluster) (a1 : Int) : Q_s_l15Carry n a0 a1 = (Q_s_l15Out big a0 a1).bind fun y => bif !y.1.2.1 then some (false, y.2) else (Q_s_l15Honest big y.2.1 y.1.1.2.2.1).bind fun y_1 => bif !y_1 then some (true, y.2) else bif y.2.1.2.1 then if (0 : Int) ≤ y.1.1.2.2.1 then if y.1.1.2.2.1 < (↑(List.length y.2.1.2.2.2.2.1) : Int) then (nth y.2.1.2.2.2.2.1 (Int.toNat y.1.1.2.2.1)).bind fun y_2 => (Q_s_ChainHear big y.2.1.2.2.2.1 y.2.1.1 y_2 y.1.1).bind fun y_3 => (updO y.2.1.2.2.2.2.1 (Int.toNat y.1.1.2.2.1) y_2).bind fun y_4 => if (0 : Int) ≤ y.1.1.2.2.1 then if y.1.1.2.2.1 < (↑y_4.length : Int) then (nth y_4 (Int.toNat y.1.1.2.2.1)).bind fun y_5 => (updO y_4 (Int.toNat y.1.1.2.2.1) y_3.1).bind fun y_6 => R_s_l15Carry_11 n (0 : Int) y.2.1.1 y.2.1.2.1 y.2.1.2.2.1 y.2.1.2.2.2.1 y_6 y.2.1.2.2.2.2.2.1 y.2.1.2.2.2.2.2.2.1 y.2.1.2.2.2.2.2.2.2.1 y_3.2.1 else none else none else none else none else if (0 : Int) ≤ y.1.1.2.2.1 then if y.1.1.2.2.1 < (↑(List.length y.2.1.2.2.2.2.1) : Int) then (nth y.2.1.2.2.2.2.1 (Int.toNat y.1.1.2.2.1)).bind fun y_2 => (Q_s_AskHear big y.2.1.2.2.2.1 y.2.1.1 y_2 y.1.1).bind fun y_3 => (updO y.2.1.2.2.2.2.1 (Int.toNat y.1.1.2.2.1) y_2).bind fun y_4 => if (0 : Int) ≤ y.1.1.2.2.1 then if y.1.1.2.2.1 < (↑y_4.length : Int) then (nth y_4 (Int.toNat y.1.1.2.2.1)).bind fun y_5 => (updO y_4 (Int.toNat y.1.1.2.2.1) y_3.1).bind fun y_6 => R_s_l15Carry_11 n (0 : Int) y.2.1.1 y.2.1.2.1 y.2.1.2.2.1 y.2.1.2.2.2.1 y_6 y.2.1.2.2.2.2.2.1 y.2.1.2.2.2.2.2.2.1 y.2.1.2.2.2.2.2.2.2.1 y_3.2.1 else none else none else none else none := by kernel_rfl
theorem R_s_l15Carry_11_eq (n : Nat) (s8 : Int) (b5_0 : Int) (b5_1 : Bool) (b5_2 : Int) (b5_3 : (List DXstruct_Parent_int_View_int_Cmds_impl_Cmd)) (b5_4 : (List DXstruct_Id_int_View_int_High_impl_Qc_Lock)) (b5_5 : (List DXstruct_Kind_int_From_int_To_int_View_int)) (b5_6 : (List DXstruct_Phase_int_View_int_Block_int_Sign)) (b5_7 : (List DXstruct_Kind_int_Key_string_Num_int_)) (b25 : (List DXstruct_Kind_int_From_int_To_int_View_int)) : R_s_l15Carry_11 (n + 1) s8 b5_0 b5_1 b5_2 b5_3 b5_4 b5_5 b5_6 b5_7 b25 = bif decide (s8 < (↑b25.length : Int)) then if (0 : Int) ≤ s8 then if s8 < (↑b25.length : Int) then (nth b25 s8.toNat).bind fun y => bif decide (y.1 = (2 : Int)) then if (0 : Int) ≤ s8 then if s8 < (↑b25.length : Int) then (nth b25 s8.toNat).bind fun y => (Q_s_l15Said big (b5_0, b5_1, b5_2, b5_3, b5_4, b5_5, b5_6, b5_7, ()) y.2.2.2.2.2.2.1).bind fun y => bif decide ((↑(List.length y.2.1.2.2.2.2.2.1) : Int) < (60 : Int)) then if (0 : Int) ≤ IntKind.i64.wrap (s8 + (1 : Int)) then if IntKind.i64.wrap (s8 + (1 : Int)) ≤ (↑b25.length : Int) then if (0 : Int) ≤ s8 then if s8 ≤ IntKind.i64.wrap (s8 + (1 : Int)) then (Q_s_l15Post big y.2.1 (List.take ((IntKind.i64.wrap (s8 + (1 : Int))).toNat - s8.toNat) (List.drop s8.toNat b25))).bind fun y => R_s_l15Carry_11 n (IntKind.i64.wrap (s8 + (1 : Int))) y.2.1.1 y.2.1.2.1 y.2.1.2.2.1 y.2.1.2.2.2.1 y.2.1.2.2.2.2.1 y.2.1.2.2.2.2.2.1 y.2.1.2.2.2.2.2.2.1 y.2.1.2.2.2.2.2.2.2.1 b25 else none else none else none else none else R_s_l15Carry_11 n (IntKind.i64.wrap (s8 + (1 : Int))) y.2.1.1 y.2.1.2.1 y.2.1.2.2.1 y.2.1.2.2.2.1 y.2.1.2.2.2.2.1 y.2.1.2.2.2.2.2.1 y.2.1.2.2.2.2.2.2.1 y.2.1.2.2.2.2.2.2.2.1 b25 else none else none else bif decide ((↑b5_5.length : Int) < (60 : Int)) then if (0 : Int) ≤ IntKind.i64.wrap (s8 + (1 : Int)) then if IntKind.i64.wrap (s8 + (1 : Int)) ≤ (↑b25.length : Int) then if (0 : Int) ≤ s8 then if s8 ≤ IntKind.i64.wrap (s8 + (1 : Int)) then (Q_s_l15Post big (b5_0, b5_1, b5_2, b5_3, b5_4, b5_5, b5_6, b5_7, ()) (List.take ((IntKind.i64.wrap (s8 + (1 : Int))).toNat - s8.toNat) (List.drop s8.toNat b25))).bind fun y => R_s_l15Carry_11 n (IntKind.i64.wrap (s8 + (1 : Int))) y.2.1.1 y.2.1.2.1 y.2.1.2.2.1 y.2.1.2.2.2.1 y.2.1.2.2.2.2.1 y.2.1.2.2.2.2.2.1 y.2.1.2.2.2.2.2.2.1 y.2.1.2.2.2.2.2.2.2.1 b25 else none else none else none else none else R_s_l15Carry_11 n (IntKind.i64.wrap (s8 + (1 : Int))) b5_0 b5_1 b5_2 b5_3 b5_4 b5_5 b5_6 b5_7 b25 else none else none else some (true, (b5_0, b5_1, b5_2, b5_3, b5_4, b5_5, b5_6, b5_7, ()), ()) := by kernel_rfl
end Go.Sx.Tryz
set_option maxRecDepth 100000
namespace Go.Sx.Tryz
open Go Go.Sx Go.Proofs
noncomputable def l_s_l15Wait : List (Nat × Con) := [(106, c_s_l15Honest), (18, c_s_TimedOut), (214, c_s_l15Post)]
theorem l_s_l15Wait_ok : ∀ q ∈ l_s_l15Wait, ConOk Tryz.prog q.1 q.2 := Tryz.cons_cons c_s_l15Honest_ok (Tryz.cons_cons c_s_TimedOut_ok (Tryz.cons_cons c_s_l15Post_ok (Tryz.cons_nil)))
def kp_s_l15Wait : KP := []
noncomputable def q_s_l15Wait (n : Nat) (x : AP.denL [.mu uICluster, .ro tInt]) := evX (true, true, [5, 6, 8, 9, 15, 16, 17, 22, 23, 24, 32, 33, 34, 999999]) l_s_l15Wait kp_s_l15Wait [none] Tryz.f184 (shO (shV tBool) [.mu uICluster]) n (AP.encL [.mu uICluster, .ro tInt] x)
noncomputable def c_s_l15Wait : Con := apS [.mu uICluster, .ro tInt] true (shO (shV tBool) [.mu uICluster]) (q_s_l15Wait big)
theorem c_s_l15Wait_ok : ConOk Tryz.prog 184 c_s_l15Wait := apS_ok ⟨Tryz.f184, by kernel_rfl, rfl, by decide⟩ fun _ _ h => evX_ok l_s_l15Wait_ok (f := Tryz.f184) (by kernel_rfl) rfl (by kernel_rfl) (by kernel_rfl) big h
noncomputable def Q_s_l15Wait (n : Nat) (a0 : DICluster) (a1 : Int) : Option (Bool × DICluster × Unit) := q_s_l15Wait n (a0, a1, ())
theorem Q_s_l15Wait_eq (n : Nat) (a0 : DICluster) (a1 : Int) : Q_s_l15Wait n a0 a1 = (Q_s_l15Honest big a0 a1).bind fun y => bif !y then some (false, a0, ()) else if (0 : Int) ≤ a1 then if a1 < (↑(List.length a0.2.2.2.2.1) : Int) then (nth a0.2.2.2.2.1 a1.toNat).bind fun y => (Q_s_TimedOut big y a0.1).bind fun y_1 => (updO a0.2.2.2.2.1 a1.toNat y).bind fun y => (fun zB => both zB zB) (bif !y_1.2.2.1 then some (false, (a0.1, a0.2.1, a0.2.2.1, a0.2.2.2.1, y, a0.2.2.2.2.2), ()) else if (0 : Int) ≤ a1 then if a1 < (↑y.length : Int) then (nth y a1.toNat).bind fun y_2 => (updO y a1.toNat y_1.1).bind fun y => (Q_s_l15Post big (a0.1, a0.2.1, a0.2.2.1, a0.2.2.2.1, y, a0.2.2.2.2.2) [y_1.2.1]).bind fun y => some (true, y.2) else none else none) else none else none := by kernel_rfl
end Go.Sx.Tryz
