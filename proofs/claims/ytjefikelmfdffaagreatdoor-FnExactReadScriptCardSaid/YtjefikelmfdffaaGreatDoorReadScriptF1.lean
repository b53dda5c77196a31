/- The functions of the seat: what each comes to. -/
import Derived.Test.YtjefikelmfdffaaGreatDoorTypes
import Derived.Shelf.Strconv.Itoa3
import Derived.Shelf.Strconv.AtoiAll
import Derived.Shelf.Strings.Split
import Derived.Shelf.Strings.Fields
import Derived.Shelf.RegionOpenPlain
import Derived.WalkKit
import Derived.Lib.Walk
import Derived.Lib.Strings
set_option linter.unusedVariables false
set_option linter.unusedSimpArgs false
set_option maxRecDepth 100000
namespace Go.Sx.Tryz
open Go Go.Sx Go.Proofs

noncomputable def l_l_eqCmd : List (Nat × Con) := []
theorem l_l_eqCmd_ok : ∀ q ∈ l_l_eqCmd, ConOk Tryz.prog q.1 q.2 := Tryz.cons_nil
def kp_l_eqCmd : KP := []
noncomputable def q_l_eqCmd (n : Nat) (x : Args [tICmd, tICmd]) := evX (false, false, [2, 3, 5, 7, 10, 12, 15, 17]) l_l_eqCmd kp_l_eqCmd [none] Tryz.f50 (shV tBool) n (encA [tICmd, tICmd] x)
noncomputable def c_l_eqCmd : Con := roS [tICmd, tICmd] true (shV tBool) (q_l_eqCmd big)
theorem c_l_eqCmd_ok : ConOk Tryz.prog 50 c_l_eqCmd := roS_ok ⟨Tryz.f50, by kernel_rfl, rfl, by decide⟩ fun _ _ h => evX_ok l_l_eqCmd_ok (f := Tryz.f50) (by kernel_rfl) rfl (by kernel_rfl) (by kernel_rfl) big h
noncomputable def Q_l_eqCmd (n : Nat) (a0 : DICmd) (a1 : DICmd) : Option Bool := q_l_eqCmd n (a0, a1, ())
theorem Q_l_eqCmd_eq (n : Nat) (a0 : DICmd) (a1 : DICmd) : Q_l_eqCmd n a0 a1 =
    bif !decide (a0.fst = a1.fst) then some false
 else
 bif !decide (a0.snd.fst = a1.snd.fst) then some false
 else bif !decide (a0.snd.snd.fst = a1.snd.snd.fst) then some false else some true := by kernel_rfl

end Go.Sx.Tryz

set_option maxRecDepth 100000
namespace Go.Sx.Tryz
open Go Go.Sx Go.Proofs

noncomputable def l_l_eqEvent : List (Nat × Con) := [(50, c_l_eqCmd)]
theorem l_l_eqEvent_ok : ∀ q ∈ l_l_eqEvent, ConOk Tryz.prog q.1 q.2 := Tryz.cons_cons c_l_eqCmd_ok (Tryz.cons_nil)
def kp_l_eqEvent : KP := []
noncomputable def q_l_eqEvent (n : Nat) (x : Args [tIEvent, tIEvent]) := evX (false, false, [2, 3, 5, 7, 10, 12, 15, 17, 20, 22, 25, 27]) l_l_eqEvent kp_l_eqEvent [none] Tryz.f32 (shV tBool) n (encA [tIEvent, tIEvent] x)
noncomputable def c_l_eqEvent : Con := roS [tIEvent, tIEvent] true (shV tBool) (q_l_eqEvent big)
theorem c_l_eqEvent_ok : ConOk Tryz.prog 32 c_l_eqEvent := roS_ok ⟨Tryz.f32, by kernel_rfl, rfl, by decide⟩ fun _ _ h => evX_ok l_l_eqEvent_ok (f := Tryz.f32) (by kernel_rfl) rfl (by kernel_rfl) (by kernel_rfl) big h
noncomputable def Q_l_eqEvent (n : Nat) (a0 : DIEvent) (a1 : DIEvent) : Option Bool := q_l_eqEvent n (a0, a1, ())
theorem Q_l_eqEvent_eq (n : Nat) (a0 : DIEvent) (a1 : DIEvent) : Q_l_eqEvent n a0 a1 =
    bif !decide (a0.fst = a1.fst) then some false
 else
 bif !decide (a0.snd.fst = a1.snd.fst) then some false
 else
 bif !decide (a0.snd.snd.fst = a1.snd.snd.fst) then some false
 else
 bif !decide (a0.snd.snd.snd.fst = a1.snd.snd.snd.fst) then some false
 else
 (Q_l_eqCmd big a0.snd.snd.snd.snd.fst a1.snd.snd.snd.snd.fst).bind fun y =>
 bif !y then some false else some true := by kernel_rfl

end Go.Sx.Tryz

set_option maxRecDepth 100000
namespace Go.Sx.Tryz
open Go Go.Sx Go.Proofs

noncomputable def l_l_eqEventS : List (Nat × Con) := [(32, c_l_eqEvent)]
theorem l_l_eqEventS_ok : ∀ q ∈ l_l_eqEventS, ConOk Tryz.prog q.1 q.2 := Tryz.cons_cons c_l_eqEvent_ok (Tryz.cons_nil)
abbrev k_l_eqEventS_4 : List Keep × List BK := ([.ro tSlIEvent, .ro tSlIEvent, .drop, .drop, .drop, .ro tInt64, .drop, .drop, .drop, .drop, .drop, .drop, .drop, .drop, .drop, .drop, .drop, .drop, .drop, .drop, .drop, .drop, .drop, .drop, .drop, .drop, .drop], [])
def kp_l_eqEventS : KP := [(4, k_l_eqEventS_4)]
noncomputable def q_l_eqEventS (n : Nat) (x : Args [tSlIEvent, tSlIEvent]) := evX (false, false, []) l_l_eqEventS kp_l_eqEventS [none] Tryz.f17 (shV tBool) n (encA [tSlIEvent, tSlIEvent] x)
noncomputable def c_l_eqEventS : Con := roS [tSlIEvent, tSlIEvent] true (shV tBool) (q_l_eqEventS big)
theorem c_l_eqEventS_ok : ConOk Tryz.prog 17 c_l_eqEventS := roS_ok ⟨Tryz.f17, by kernel_rfl, rfl, by decide⟩ fun _ _ h => evX_ok l_l_eqEventS_ok (f := Tryz.f17) (by kernel_rfl) rfl (by kernel_rfl) (by kernel_rfl) big h
noncomputable def Q_l_eqEventS (n : Nat) (a0 : DSlIEvent) (a1 : DSlIEvent) : Option Bool := q_l_eqEventS n (a0, a1, ())
noncomputable def r_l_eqEventS_4 (n : Nat) (x : KD k_l_eqEventS_4.1) (y : BD k_l_eqEventS_4.2) := rounds (env (false, false, []) l_l_eqEventS) kp_l_eqEventS (body Tryz.f17) (finX (false, false, []) l_l_eqEventS [none] Tryz.f17 (shV tBool) [.val tSlIEvent (zeroD tSlIEvent), .val tSlIEvent (zeroD tSlIEvent)]) n 4 k_l_eqEventS_4 x y
noncomputable def R_l_eqEventS_4 (n : Nat) (s0 : DSlIEvent) (s1 : DSlIEvent) (s5 : Int) : Option Bool := r_l_eqEventS_4 n (s0, s1, s5, ()) ()
theorem Q_l_eqEventS_eq (n : Nat) (a0 : DSlIEvent) (a1 : DSlIEvent) : Q_l_eqEventS n a0 a1 =
    bif !decide ((↑(List.length a0) : Int) = (↑(List.length a1) : Int)) then some false
 else R_l_eqEventS_4 n a0 a1 (0 : Int) := by kernel_rfl
theorem R_l_eqEventS_4_eq (n : Nat) (s0 : DSlIEvent) (s1 : DSlIEvent) (s5 : Int) : R_l_eqEventS_4 (n + 1) s0 s1 s5 =
    bif decide (s5 < (↑(List.length s0) : Int)) then
 if (0 : Int) ≤ s5 then
 (nth s0 s5.toNat).bind fun y =>
 if (0 : Int) ≤ s5 then
 (nth s1 s5.toNat).bind fun y_1 =>
 (Q_l_eqEvent big y y_1).bind fun y =>
 bif !y then some false else R_l_eqEventS_4 n s0 s1 (IntKind.i64.wrap (s5 + (1 : Int)))
 else none
 else none
 else some true := by kernel_rfl

end Go.Sx.Tryz

set_option maxRecDepth 100000
namespace Go.Sx.Tryz
open Go Go.Sx Go.Proofs

noncomputable def l_l_eqScript : List (Nat × Con) := [(17, c_l_eqEventS)]
theorem l_l_eqScript_ok : ∀ q ∈ l_l_eqScript, ConOk Tryz.prog q.1 q.2 := Tryz.cons_cons c_l_eqEventS_ok (Tryz.cons_nil)
def kp_l_eqScript : KP := []
noncomputable def q_l_eqScript (n : Nat) (x : Args [tIScript, tIScript]) := evX (false, false, [2, 3, 5, 7, 10, 12, 15, 17, 20, 22, 26, 28]) l_l_eqScript kp_l_eqScript [none] Tryz.f6 (shV tBool) n (encA [tIScript, tIScript] x)
noncomputable def c_l_eqScript : Con := roS [tIScript, tIScript] true (shV tBool) (q_l_eqScript big)
theorem c_l_eqScript_ok : ConOk Tryz.prog 6 c_l_eqScript := roS_ok ⟨Tryz.f6, by kernel_rfl, rfl, by decide⟩ fun _ _ h => evX_ok l_l_eqScript_ok (f := Tryz.f6) (by kernel_rfl) rfl (by kernel_rfl) (by kernel_rfl) big h
noncomputable def Q_l_eqScript (n : Nat) (a0 : DIScript) (a1 : DIScript) : Option Bool := q_l_eqScript n (a0, a1, ())
theorem Q_l_eqScript_eq (n : Nat) (a0 : DIScript) (a1 : DIScript) : Q_l_eqScript n a0 a1 =
    bif !decide (a0.fst = a1.fst) then some false
 else
 bif !a0.snd.fst == a1.snd.fst then some false
 else
 bif !decide (a0.snd.snd.fst = a1.snd.snd.fst) then some false
 else
 (Q_l_eqEventS big a0.snd.snd.snd.fst a1.snd.snd.snd.fst).bind fun y =>
 bif !y then some false
 else bif !decide (a0.snd.snd.snd.snd.fst = a1.snd.snd.snd.snd.fst) then some false else some true := by kernel_rfl

end Go.Sx.Tryz

set_option maxRecDepth 100000
namespace Go.Sx.Tryz
open Go Go.Sx Go.Proofs

noncomputable def l_l_markText : List (Nat × Con) := []
theorem l_l_markText_ok : ∀ q ∈ l_l_markText, ConOk Tryz.prog q.1 q.2 := Tryz.cons_nil
abbrev k_l_markText_4 : List Keep × List BK := ([.ro tInt64, .drop, .drop, .ro tString, .drop, .drop, .drop, .drop, .drop, .drop, .drop, .drop, .drop, .drop, .drop, .drop, .drop, .drop, .drop, .drop], [])
def kp_l_markText : KP := [(4, k_l_markText_4)]
noncomputable def q_l_markText (n : Nat) (x : Args [tInt]) := evX (false, false, []) l_l_markText kp_l_markText [none] Tryz.f33 (shV tString) n (encA [tInt] x)
noncomputable def c_l_markText : Con := roS [tInt] true (shV tString) (q_l_markText big)
theorem c_l_markText_ok : ConOk Tryz.prog 33 c_l_markText := roS_ok ⟨Tryz.f33, by kernel_rfl, rfl, by decide⟩ fun _ _ h => evX_ok l_l_markText_ok (f := Tryz.f33) (by kernel_rfl) rfl (by kernel_rfl) (by kernel_rfl) big h
noncomputable def Q_l_markText (n : Nat) (a0 : Int) : Option ByteArray := q_l_markText n (a0, ())
noncomputable def r_l_markText_4 (n : Nat) (x : KD k_l_markText_4.1) (y : BD k_l_markText_4.2) := rounds (env (false, false, []) l_l_markText) kp_l_markText (body Tryz.f33) (finX (false, false, []) l_l_markText [none] Tryz.f33 (shV tString) [.val tInt (zeroD tInt)]) n 4 k_l_markText_4 x y
noncomputable def R_l_markText_4 (n : Nat) (s0 : Int) (s3 : ByteArray) : Option ByteArray := r_l_markText_4 n (s0, s3, ()) ()
theorem Q_l_markText_eq (n : Nat) (a0 : Int) : Q_l_markText n a0 =
    bif decide (a0 ≤ (0 : Int)) then some (ByteArray.mk #[(109 : UInt8), (48 : UInt8)])
 else R_l_markText_4 n a0 (ByteArray.mk #[]) := by kernel_rfl
theorem R_l_markText_4_eq (n : Nat) (s0 : Int) (s3 : ByteArray) : R_l_markText_4 (n + 1) s0 s3 =
    bif decide ((0 : Int) < s0) then
 if
 (ByteArray.mk
 (List.map (fun n => UInt8.ofNat n.toNat)
 [IntKind.u8.wrap (IntKind.i64.wrap ((48 : Int) + s0.tmod (10 : Int)))]).toArray).size +
 s3.size ≤
 lim then
 R_l_markText_4 n (IntKind.i64.wrap (s0.tdiv (10 : Int)))
 (ByteArray.mk
 (List.map (fun n => UInt8.ofNat n.toNat)
 [IntKind.u8.wrap (IntKind.i64.wrap ((48 : Int) + s0.tmod (10 : Int)))]).toArray ++
 s3)
 else none
 else
 if (ByteArray.mk #[(109 : UInt8)]).size + s3.size ≤ lim then some (ByteArray.mk #[(109 : UInt8)] ++ s3)
 else none := by kernel_rfl

end Go.Sx.Tryz

set_option maxRecDepth 100000
namespace Go.Sx.Tryz
open Go Go.Sx Go.Proofs

noncomputable def l_l_markEventS : List (Nat × Con) := [(33, c_l_markText)]
theorem l_l_markEventS_ok : ∀ q ∈ l_l_markEventS, ConOk Tryz.prog q.1 q.2 := Tryz.cons_cons c_l_markText_ok (Tryz.cons_nil)
abbrev k_l_markEventS_2 : List Keep × List BK := ([.is (.own 0 0), .ro tInt64, .drop, .drop, .drop, .ro tInt64, .drop, .drop, .drop, .drop, .drop, .drop, .drop, .drop, .drop, .drop, .drop, .drop, .drop, .drop, .drop, .drop, .drop, .drop, .drop, .drop, .drop, .drop, .drop, .drop, .drop, .drop, .drop, .drop, .drop, .drop, .drop, .drop, .drop, .drop, .drop, .drop, .drop, .drop, .drop, .drop, .drop, .drop, .drop, .drop, .drop, .drop, .drop, .drop, .drop, .drop, .drop, .drop, .drop, .drop, .drop, .drop, .drop, .drop, .drop, .drop], [.arr tIEvent])
def kp_l_markEventS : KP := [(2, k_l_markEventS_2)]
noncomputable def q_l_markEventS (n : Nat) (x : AP.denL [.io tIEvent, .ro tInt]) := evX (false, false, []) l_l_markEventS kp_l_markEventS [none] Tryz.f18 (shO (shV tInt) [.io tIEvent]) n (AP.encL [.io tIEvent, .ro tInt] x)
noncomputable def c_l_markEventS : Con := apS [.io tIEvent, .ro tInt] true (shO (shV tInt) [.io tIEvent]) (q_l_markEventS big)
theorem c_l_markEventS_ok : ConOk Tryz.prog 18 c_l_markEventS := apS_ok ⟨Tryz.f18, by kernel_rfl, rfl, by decide⟩ fun _ _ h => evX_ok l_l_markEventS_ok (f := Tryz.f18) (by kernel_rfl) rfl (by kernel_rfl) (by kernel_rfl) big h
noncomputable def Q_l_markEventS (n : Nat) (a0 : DSlIEvent) (a1 : Int) : Option (Int × DSlIEvent × Unit) := q_l_markEventS n (a0, a1, ())
noncomputable def r_l_markEventS_2 (n : Nat) (x : KD k_l_markEventS_2.1) (y : BD k_l_markEventS_2.2) := rounds (env (false, false, []) l_l_markEventS) kp_l_markEventS (body Tryz.f18) (finX (false, false, []) l_l_markEventS [none] Tryz.f18 (shO (shV tInt) [.io tIEvent]) [AP.enc (.io tIEvent) [], AP.enc (.ro tInt) (zeroD tInt)]) n 2 k_l_markEventS_2 x y
noncomputable def R_l_markEventS_2 (n : Nat) (s1 : Int) (s5 : Int) (b0 : (List DIEvent)) : Option (Int × DSlIEvent × Unit) := r_l_markEventS_2 n (s1, s5, ()) (b0, ())
theorem Q_l_markEventS_eq (n : Nat) (a0 : DSlIEvent) (a1 : Int) : Q_l_markEventS n a0 a1 =
    R_l_markEventS_2 n a1 (0 : Int) a0 := by kernel_rfl
theorem R_l_markEventS_2_eq (n : Nat) (s1 : Int) (s5 : Int) (b0 : (List DIEvent)) : R_l_markEventS_2 (n + 1) s1 s5 b0 =
    bif decide (s5 < (↑b0.length : Int)) then
 if (0 : Int) ≤ s5 then
 if s5 < (↑b0.length : Int) then
 (nth b0 s5.toNat).bind fun y =>
 (updO b0 s5.toNat (s1, y.snd)).bind fun y =>
 if (0 : Int) ≤ s5 then
 if s5 < (↑y.length : Int) then
 (nth y s5.toNat).bind fun y_1 =>
 (updO y s5.toNat (y_1.fst, IntKind.i64.wrap (s1 + (1 : Int)), y_1.snd.snd)).bind fun y =>
 if (0 : Int) ≤ s5 then
 if s5 < (↑y.length : Int) then
 (nth y s5.toNat).bind fun y_2 =>
 (updO y s5.toNat
 (y_2.fst, y_2.snd.fst, IntKind.i64.wrap (IntKind.i64.wrap (s1 + (1 : Int)) + (1 : Int)),
 y_2.snd.snd.snd)).bind
 fun y =>
 if (0 : Int) ≤ s5 then
 if s5 < (↑y.length : Int) then
 (nth y s5.toNat).bind fun y_3 =>
 (updO y s5.toNat
 (y_3.fst, y_3.snd.fst, y_3.snd.snd.fst,
 IntKind.i64.wrap
 (IntKind.i64.wrap (IntKind.i64.wrap (s1 + (1 : Int)) + (1 : Int)) +
 (1 : Int)),
 y_3.snd.snd.snd.snd)).bind
 fun y =>
 if (0 : Int) ≤ s5 then
 if s5 < (↑y.length : Int) then
 (nth y s5.toNat).bind fun y_4 =>
 (updO y s5.toNat
 (y_4.fst, y_4.snd.fst, y_4.snd.snd.fst, y_4.snd.snd.snd.fst,
 (IntKind.i64.wrap
 (IntKind.i64.wrap
 (IntKind.i64.wrap
 (IntKind.i64.wrap (s1 + (1 : Int)) + (1 : Int)) +
 (1 : Int)) +
 (1 : Int)),
 y_4.snd.snd.snd.snd.fst.snd),
 ())).bind
 fun y =>
 (Q_l_markText big
 (IntKind.i64.wrap
 (IntKind.i64.wrap
 (IntKind.i64.wrap
 (IntKind.i64.wrap
 (IntKind.i64.wrap (s1 + (1 : Int)) + (1 : Int)) +
 (1 : Int)) +
 (1 : Int)) +
 (1 : Int)))).bind
 fun y_5 =>
 if (0 : Int) ≤ s5 then
 if s5 < (↑y.length : Int) then
 (nth y s5.toNat).bind fun y_6 =>
 (updO y s5.toNat
 (y_6.fst, y_6.snd.fst, y_6.snd.snd.fst, y_6.snd.snd.snd.fst,
 (y_6.snd.snd.snd.snd.fst.fst, y_5,
 y_6.snd.snd.snd.snd.fst.snd.snd),
 ())).bind
 fun y =>
 if (0 : Int) ≤ s5 then
 if s5 < (↑y.length : Int) then
 (nth y s5.toNat).bind fun y_7 =>
 (updO y s5.toNat
 (y_7.fst, y_7.snd.fst, y_7.snd.snd.fst,
 y_7.snd.snd.snd.fst,
 (y_7.snd.snd.snd.snd.fst.fst,
 y_7.snd.snd.snd.snd.fst.snd.fst,
 IntKind.i64.wrap
 (IntKind.i64.wrap
 (IntKind.i64.wrap
 (IntKind.i64.wrap
 (IntKind.i64.wrap
 (IntKind.i64.wrap
 (s1 + (1 : Int)) +
 (1 : Int)) +
 (1 : Int)) +
 (1 : Int)) +
 (1 : Int)) +
 (1 : Int)),
 ()),
 ())).bind
 fun y =>
 R_l_markEventS_2 n
 (IntKind.i64.wrap
 (IntKind.i64.wrap
 (IntKind.i64.wrap
 (IntKind.i64.wrap
 (IntKind.i64.wrap
 (IntKind.i64.wrap
 (IntKind.i64.wrap
 (s1 + (1 : Int)) +
 (1 : Int)) +
 (1 : Int)) +
 (1 : Int)) +
 (1 : Int)) +
 (1 : Int)) +
 (1 : Int)))
 (IntKind.i64.wrap (s5 + (1 : Int))) y
 else none
 else none
 else none
 else none
 else none
 else none
 else none
 else none
 else none
 else none
 else none
 else none
 else none
 else none
 else some (s1, b0, PUnit.unit) := by kernel_rfl

end Go.Sx.Tryz

set_option maxRecDepth 100000
namespace Go.Sx.Tryz
open Go Go.Sx Go.Proofs

noncomputable def l_l_heldEventS : List (Nat × Con) := [(33, c_l_markText)]
theorem l_l_heldEventS_ok : ∀ q ∈ l_l_heldEventS, ConOk Tryz.prog q.1 q.2 := Tryz.cons_cons c_l_markText_ok (Tryz.cons_nil)
abbrev k_l_heldEventS_2 : List Keep × List BK := ([.ro tSlIEvent, .ro tInt64, .drop, .drop, .drop, .ro tInt64, .drop, .drop, .drop, .drop, .drop, .drop, .drop, .drop, .drop, .drop, .drop, .drop, .drop, .drop, .drop, .drop, .drop, .drop, .drop, .drop, .drop, .drop, .drop, .drop, .drop, .drop, .drop, .drop, .drop, .drop, .drop, .drop, .drop, .drop, .drop, .drop, .drop, .drop, .drop, .drop, .drop, .drop, .drop, .drop, .drop, .drop, .drop, .drop, .drop, .drop, .drop, .drop, .drop, .drop, .drop, .drop, .drop, .drop, .drop, .drop, .drop, .drop, .drop, .drop, .drop, .drop, .drop, .drop, .drop, .drop, .drop, .drop, .drop, .drop], [])
def kp_l_heldEventS : KP := [(2, k_l_heldEventS_2)]
noncomputable def q_l_heldEventS (n : Nat) (x : Args [tSlIEvent, tInt]) := evX (false, false, []) l_l_heldEventS kp_l_heldEventS [none] Tryz.f19 (shV tInt) n (encA [tSlIEvent, tInt] x)
noncomputable def c_l_heldEventS : Con := roS [tSlIEvent, tInt] true (shV tInt) (q_l_heldEventS big)
theorem c_l_heldEventS_ok : ConOk Tryz.prog 19 c_l_heldEventS := roS_ok ⟨Tryz.f19, by kernel_rfl, rfl, by decide⟩ fun _ _ h => evX_ok l_l_heldEventS_ok (f := Tryz.f19) (by kernel_rfl) rfl (by kernel_rfl) (by kernel_rfl) big h
noncomputable def Q_l_heldEventS (n : Nat) (a0 : DSlIEvent) (a1 : Int) : Option Int := q_l_heldEventS n (a0, a1, ())
noncomputable def r_l_heldEventS_2 (n : Nat) (x : KD k_l_heldEventS_2.1) (y : BD k_l_heldEventS_2.2) := rounds (env (false, false, []) l_l_heldEventS) kp_l_heldEventS (body Tryz.f19) (finX (false, false, []) l_l_heldEventS [none] Tryz.f19 (shV tInt) [.val tSlIEvent (zeroD tSlIEvent), .val tInt (zeroD tInt)]) n 2 k_l_heldEventS_2 x y
noncomputable def R_l_heldEventS_2 (n : Nat) (s0 : DSlIEvent) (s1 : Int) (s5 : Int) : Option Int := r_l_heldEventS_2 n (s0, s1, s5, ()) ()
theorem Q_l_heldEventS_eq (n : Nat) (a0 : DSlIEvent) (a1 : Int) : Q_l_heldEventS n a0 a1 =
    R_l_heldEventS_2 n a0 a1 (0 : Int) := by kernel_rfl
theorem R_l_heldEventS_2_eq (n : Nat) (s0 : DSlIEvent) (s1 : Int) (s5 : Int) : R_l_heldEventS_2 (n + 1) s0 s1 s5 =
    bif decide (s5 < (↑(List.length s0) : Int)) then
 if (0 : Int) ≤ s5 then
 (nth s0 s5.toNat).bind fun y =>
 bif !decide (y.fst = s1) then some (-1 : Int)
 else
 if (0 : Int) ≤ s5 then
 (nth s0 s5.toNat).bind fun y =>
 bif !decide (y.snd.fst = IntKind.i64.wrap (s1 + (1 : Int))) then some (-1 : Int)
 else
 if (0 : Int) ≤ s5 then
 (nth s0 s5.toNat).bind fun y =>
 bif !decide (y.snd.snd.fst = IntKind.i64.wrap (IntKind.i64.wrap (s1 + (1 : Int)) + (1 : Int))) then
 some (-1 : Int)
 else
 if (0 : Int) ≤ s5 then
 (nth s0 s5.toNat).bind fun y =>
 bif
 !decide
 (y.snd.snd.snd.fst =
 IntKind.i64.wrap
 (IntKind.i64.wrap (IntKind.i64.wrap (s1 + (1 : Int)) + (1 : Int)) +
 (1 : Int))) then
 some (-1 : Int)
 else
 if (0 : Int) ≤ s5 then
 (nth s0 s5.toNat).bind fun y =>
 bif
 !decide
 (y.snd.snd.snd.snd.fst.fst =
 IntKind.i64.wrap
 (IntKind.i64.wrap
 (IntKind.i64.wrap (IntKind.i64.wrap (s1 + (1 : Int)) + (1 : Int)) +
 (1 : Int)) +
 (1 : Int))) then
 some (-1 : Int)
 else
 if (0 : Int) ≤ s5 then
 (nth s0 s5.toNat).bind fun y =>
 (Q_l_markText big
 (IntKind.i64.wrap
 (IntKind.i64.wrap
 (IntKind.i64.wrap
 (IntKind.i64.wrap
 (IntKind.i64.wrap (s1 + (1 : Int)) + (1 : Int)) +
 (1 : Int)) +
 (1 : Int)) +
 (1 : Int)))).bind
 fun y_1 =>
 bif !decide (y.snd.snd.snd.snd.fst.snd.fst = y_1) then some (-1 : Int)
 else
 if (0 : Int) ≤ s5 then
 (nth s0 s5.toNat).bind fun y =>
 bif
 !decide
 (y.snd.snd.snd.snd.fst.snd.snd.fst =
 IntKind.i64.wrap
 (IntKind.i64.wrap
 (IntKind.i64.wrap
 (IntKind.i64.wrap
 (IntKind.i64.wrap
 (IntKind.i64.wrap (s1 + (1 : Int)) +
 (1 : Int)) +
 (1 : Int)) +
 (1 : Int)) +
 (1 : Int)) +
 (1 : Int))) then
 some (-1 : Int)
 else
 R_l_heldEventS_2 n s0
 (IntKind.i64.wrap
 (IntKind.i64.wrap
 (IntKind.i64.wrap
 (IntKind.i64.wrap
 (IntKind.i64.wrap
 (IntKind.i64.wrap
 (IntKind.i64.wrap (s1 + (1 : Int)) +
 (1 : Int)) +
 (1 : Int)) +
 (1 : Int)) +
 (1 : Int)) +
 (1 : Int)) +
 (1 : Int)))
 (IntKind.i64.wrap (s5 + (1 : Int)))
 else none
 else none
 else none
 else none
 else none
 else none
 else none
 else some s1 := by kernel_rfl

end Go.Sx.Tryz

set_option maxRecDepth 100000
namespace Go.Proofs
open Go Go.Shelf
def Tryz.laysM171_ren : Go.Shelf.Ren := ⟨fun | 171 => 75 | 243 => 86 | 246 => 90 | 283 => 93 | 284 => 94 | 285 => 95 | 286 => 96 | 129 => 98 | 317 => 97 | 318 => 99 | 319 => 100 | 320 => 101 | 337 => 102 | 338 => 103 | n => n, fun | 3 => 3 | 9 => 9 | 2 => 2 | 4 => 4 | 171 => 148 | 0 => 0 | 53 => 135 | 37 => 85 | 5 => 5 | 173 => 151 | 212 => 154 | 51 => 107 | 20 => 20 | 213 => 155 | 46 => 72 | 232 => 158 | 233 => 159 | n => n, fun | 17 => 7 | 18 => 8 | 19 => 9 | n => n⟩
theorem Tryz.laysM171 : Go.Proofs.LaysM.n171 Tryz.prog Tryz.laysM171_ren := {
  mixed := by kernel_rfl
  f129 := Tryz.func98.trans (congrArg some (by kernel_rfl))
  f171 := Tryz.func75.trans (congrArg some (by kernel_rfl))
  f243 := Tryz.func86.trans (congrArg some (by kernel_rfl))
  f246 := Tryz.func90.trans (congrArg some (by kernel_rfl))
  f283 := Tryz.func93.trans (congrArg some (by kernel_rfl))
  f284 := Tryz.func94.trans (congrArg some (by kernel_rfl))
  f285 := Tryz.func95.trans (congrArg some (by kernel_rfl))
  f286 := Tryz.func96.trans (congrArg some (by kernel_rfl))
  f317 := Tryz.func97.trans (congrArg some (by kernel_rfl))
  f318 := Tryz.func99.trans (congrArg some (by kernel_rfl))
  f319 := Tryz.func100.trans (congrArg some (by kernel_rfl))
  f320 := Tryz.func101.trans (congrArg some (by kernel_rfl))
  f337 := Tryz.func102.trans (congrArg some (by kernel_rfl))
  f338 := Tryz.func103.trans (congrArg some (by kernel_rfl))
  t0 := Tryz.underlying0
  a0 := Tryz.isAgg0
  z0 := Tryz.sizeOf0
  v0 := Tryz.zeroValue0
  t2 := Tryz.underlying2
  a2 := Tryz.isAgg2
  z2 := Tryz.sizeOf2
  v2 := Tryz.zeroValue2
  t3 := Tryz.underlying3
  a3 := Tryz.isAgg3
  z3 := Tryz.sizeOf3
  v3 := Tryz.zeroValue3
  t4 := Tryz.underlying4
  a4 := Tryz.isAgg4
  z4 := Tryz.sizeOf4
  v4 := Tryz.zeroValue4
  t5 := Tryz.underlying5
  a5 := Tryz.isAgg5
  z5 := Tryz.sizeOf5
  v5 := Tryz.zeroValue5
  t9 := Tryz.underlying9
  a9 := Tryz.isAgg9
  z9 := Tryz.sizeOf9
  v9 := Tryz.zeroValue9
  t20 := Tryz.underlying20
  a20 := Tryz.isAgg20
  z20 := Tryz.sizeOf20
  v20 := Tryz.zeroValue20
  t37 := Tryz.underlying85
  a37 := Tryz.isAgg85
  z37 := Tryz.sizeOf85
  v37 := Tryz.zeroValue85
  t46 := Tryz.underlying72
  a46 := Tryz.isAgg72
  z46 := Tryz.sizeOf72
  v46 := Tryz.zeroValue72
  t51 := Tryz.underlying107
  a51 := Tryz.isAgg107
  z51 := Tryz.sizeOf107
  v51 := Tryz.zeroValue107
  t53 := Tryz.underlying135
  a53 := Tryz.isAgg135
  z53 := Tryz.sizeOf135
  v53 := Tryz.zeroValue135
  t171 := Tryz.underlying148
  a171 := Tryz.isAgg148
  z171 := Tryz.sizeOf148
  v171 := Tryz.zeroValue148
  t173 := Tryz.underlying151
  a173 := Tryz.isAgg151
  z173 := Tryz.sizeOf151
  v173 := Tryz.zeroValue151
  t212 := Tryz.underlying154
  a212 := Tryz.isAgg154
  z212 := Tryz.sizeOf154
  v212 := Tryz.zeroValue154
  t213 := Tryz.underlying155
  a213 := Tryz.isAgg155
  z213 := Tryz.sizeOf155
  t232 := Tryz.underlying158
  a232 := Tryz.isAgg158
  z232 := Tryz.sizeOf158
  v232 := Tryz.zeroValue158
  t233 := Tryz.underlying159
  a233 := Tryz.isAgg159
  z233 := Tryz.sizeOf159
  v233 := Tryz.zeroValue159
  g17 := by kernel_rfl
  g18 := by kernel_rfl
  g19 := by kernel_rfl
  i0 := by kernel_rfl
  i2 := by kernel_rfl
  i3 := by kernel_rfl
  i4 := by kernel_rfl
  i5 := by kernel_rfl
  i9 := by kernel_rfl
  i20 := by kernel_rfl
  i37 := by kernel_rfl
  i46 := by kernel_rfl
  i51 := by kernel_rfl
  i53 := by kernel_rfl
  i171 := by kernel_rfl
  i173 := by kernel_rfl
  i212 := by kernel_rfl
  i232 := by kernel_rfl
  i233 := by kernel_rfl
  m17 := by kernel_rfl
  m18 := by kernel_rfl
  m19 := by kernel_rfl }
def Tryz.laysC172_ren : Go.Shelf.Ren := ⟨fun | 172 => 58 | 244 => 73 | 245 => 74 | 247 => 81 | 279 => 82 | 280 => 83 | 281 => 84 | 282 => 85 | 287 => 87 | 316 => 88 | 171 => 75 | 205 => 89 | 321 => 91 | 322 => 92 | 243 => 86 | 246 => 90 | 283 => 93 | 284 => 94 | 285 => 95 | 286 => 96 | 129 => 98 | 317 => 97 | 318 => 99 | 319 => 100 | 320 => 101 | 337 => 102 | 338 => 103 | n => n, fun | 9 => 9 | 3 => 3 | 75 => 99 | 76 => 100 | 4 => 4 | 5 => 5 | 167 => 127 | 37 => 85 | 0 => 0 | 85 => 128 | 2 => 2 | 168 => 130 | 53 => 135 | 175 => 136 | 46 => 72 | 210 => 140 | 127 => 144 | 145 => 147 | 143 => 145 | 21 => 21 | 171 => 148 | 173 => 151 | 212 => 154 | 51 => 107 | 20 => 20 | 213 => 155 | 232 => 158 | 233 => 159 | 80 => 160 | n => n, fun | 15 => 5 | 16 => 6 | 17 => 7 | 18 => 8 | 19 => 9 | n => n⟩
theorem Tryz.laysC172 : Go.Proofs.LaysC.n172 Tryz.prog Tryz.laysC172_ren := {
  mixed := by kernel_rfl
  f129 := Tryz.func98.trans (congrArg some (by kernel_rfl))
  f171 := Tryz.func75.trans (congrArg some (by kernel_rfl))
  f172 := Tryz.func58.trans (congrArg some (by kernel_rfl))
  f205 := Tryz.func89.trans (congrArg some (by kernel_rfl))
  f243 := Tryz.func86.trans (congrArg some (by kernel_rfl))
  f244 := Tryz.func73.trans (congrArg some (by kernel_rfl))
  f245 := Tryz.func74.trans (congrArg some (by kernel_rfl))
  f246 := Tryz.func90.trans (congrArg some (by kernel_rfl))
  f247 := Tryz.func81.trans (congrArg some (by kernel_rfl))
  f279 := Tryz.func82.trans (congrArg some (by kernel_rfl))
  f280 := Tryz.func83.trans (congrArg some (by kernel_rfl))
  f281 := Tryz.func84.trans (congrArg some (by kernel_rfl))
  f282 := Tryz.func85.trans (congrArg some (by kernel_rfl))
  f283 := Tryz.func93.trans (congrArg some (by kernel_rfl))
  f284 := Tryz.func94.trans (congrArg some (by kernel_rfl))
  f285 := Tryz.func95.trans (congrArg some (by kernel_rfl))
  f286 := Tryz.func96.trans (congrArg some (by kernel_rfl))
  f287 := Tryz.func87.trans (congrArg some (by kernel_rfl))
  f316 := Tryz.func88.trans (congrArg some (by kernel_rfl))
  f317 := Tryz.func97.trans (congrArg some (by kernel_rfl))
  f318 := Tryz.func99.trans (congrArg some (by kernel_rfl))
  f319 := Tryz.func100.trans (congrArg some (by kernel_rfl))
  f320 := Tryz.func101.trans (congrArg some (by kernel_rfl))
  f321 := Tryz.func91.trans (congrArg some (by kernel_rfl))
  f322 := Tryz.func92.trans (congrArg some (by kernel_rfl))
  f337 := Tryz.func102.trans (congrArg some (by kernel_rfl))
  f338 := Tryz.func103.trans (congrArg some (by kernel_rfl))
  t0 := Tryz.underlying0
  a0 := Tryz.isAgg0
  z0 := Tryz.sizeOf0
  v0 := Tryz.zeroValue0
  t2 := Tryz.underlying2
  a2 := Tryz.isAgg2
  z2 := Tryz.sizeOf2
  v2 := Tryz.zeroValue2
  t3 := Tryz.underlying3
  a3 := Tryz.isAgg3
  z3 := Tryz.sizeOf3
  v3 := Tryz.zeroValue3
  t4 := Tryz.underlying4
  a4 := Tryz.isAgg4
  z4 := Tryz.sizeOf4
  v4 := Tryz.zeroValue4
  t5 := Tryz.underlying5
  a5 := Tryz.isAgg5
  z5 := Tryz.sizeOf5
  v5 := Tryz.zeroValue5
  t9 := Tryz.underlying9
  a9 := Tryz.isAgg9
  z9 := Tryz.sizeOf9
  v9 := Tryz.zeroValue9
  t20 := Tryz.underlying20
  a20 := Tryz.isAgg20
  z20 := Tryz.sizeOf20
  v20 := Tryz.zeroValue20
  t21 := Tryz.underlying21
  a21 := Tryz.isAgg21
  z21 := Tryz.sizeOf21
  v21 := Tryz.zeroValue21
  t37 := Tryz.underlying85
  a37 := Tryz.isAgg85
  z37 := Tryz.sizeOf85
  v37 := Tryz.zeroValue85
  t46 := Tryz.underlying72
  a46 := Tryz.isAgg72
  z46 := Tryz.sizeOf72
  v46 := Tryz.zeroValue72
  t51 := Tryz.underlying107
  a51 := Tryz.isAgg107
  z51 := Tryz.sizeOf107
  v51 := Tryz.zeroValue107
  t53 := Tryz.underlying135
  a53 := Tryz.isAgg135
  z53 := Tryz.sizeOf135
  v53 := Tryz.zeroValue135
  t75 := Tryz.underlying99
  a75 := Tryz.isAgg99
  z75 := Tryz.sizeOf99
  v75 := Tryz.zeroValue99
  t76 := Tryz.underlying100
  a76 := Tryz.isAgg100
  z76 := Tryz.sizeOf100
  v76 := Tryz.zeroValue100
  t85 := Tryz.underlying128
  a85 := Tryz.isAgg128
  z85 := Tryz.sizeOf128
  v85 := Tryz.zeroValue128
  t127 := Tryz.underlying144
  a127 := Tryz.isAgg144
  z127 := Tryz.sizeOf144
  v127 := Tryz.zeroValue144
  t143 := Tryz.underlying145
  a143 := Tryz.isAgg145
  z143 := Tryz.sizeOf145
  v143 := Tryz.zeroValue145
  t145 := Tryz.underlying147
  a145 := Tryz.isAgg147
  z145 := Tryz.sizeOf147
  v145 := Tryz.zeroValue147
  t167 := Tryz.underlying127
  a167 := Tryz.isAgg127
  z167 := Tryz.sizeOf127
  v167 := Tryz.zeroValue127
  t168 := Tryz.underlying130
  a168 := Tryz.isAgg130
  z168 := Tryz.sizeOf130
  v168 := Tryz.zeroValue130
  t171 := Tryz.underlying148
  a171 := Tryz.isAgg148
  z171 := Tryz.sizeOf148
  v171 := Tryz.zeroValue148
  t173 := Tryz.underlying151
  a173 := Tryz.isAgg151
  z173 := Tryz.sizeOf151
  v173 := Tryz.zeroValue151
  t175 := Tryz.underlying136
  a175 := Tryz.isAgg136
  z175 := Tryz.sizeOf136
  v175 := Tryz.zeroValue136
  t210 := Tryz.underlying140
  a210 := Tryz.isAgg140
  z210 := Tryz.sizeOf140
  v210 := Tryz.zeroValue140
  t212 := Tryz.underlying154
  a212 := Tryz.isAgg154
  z212 := Tryz.sizeOf154
  v212 := Tryz.zeroValue154
  t213 := Tryz.underlying155
  a213 := Tryz.isAgg155
  z213 := Tryz.sizeOf155
  t232 := Tryz.underlying158
  a232 := Tryz.isAgg158
  z232 := Tryz.sizeOf158
  v232 := Tryz.zeroValue158
  t233 := Tryz.underlying159
  a233 := Tryz.isAgg159
  z233 := Tryz.sizeOf159
  v233 := Tryz.zeroValue159
  g15 := by kernel_rfl
  g16 := by kernel_rfl
  g17 := by kernel_rfl
  g18 := by kernel_rfl
  g19 := by kernel_rfl
  t80 := Tryz.underlying160
  a80 := Tryz.isAgg160
  z80 := Tryz.sizeOf160
  v80 := Tryz.zeroValue160
  i0 := by kernel_rfl
  i2 := by kernel_rfl
  i3 := by kernel_rfl
  i4 := by kernel_rfl
  i5 := by kernel_rfl
  i9 := by kernel_rfl
  i20 := by kernel_rfl
  i21 := by kernel_rfl
  i37 := by kernel_rfl
  i46 := by kernel_rfl
  i51 := by kernel_rfl
  i53 := by kernel_rfl
  i75 := by kernel_rfl
  i76 := by kernel_rfl
  i80 := by kernel_rfl
  i85 := by kernel_rfl
  i127 := by kernel_rfl
  i143 := by kernel_rfl
  i145 := by kernel_rfl
  i167 := by kernel_rfl
  i168 := by kernel_rfl
  i171 := by kernel_rfl
  i173 := by kernel_rfl
  i175 := by kernel_rfl
  i210 := by kernel_rfl
  i212 := by kernel_rfl
  i232 := by kernel_rfl
  i233 := by kernel_rfl
  m15 := by kernel_rfl
  m16 := by kernel_rfl
  m17 := by kernel_rfl
  m18 := by kernel_rfl
  m19 := by kernel_rfl
  c0 := by kernel_rfl
  c2 := by kernel_rfl
  c3 := by kernel_rfl
  c4 := by kernel_rfl
  c5 := by kernel_rfl
  c9 := by kernel_rfl
  c20 := by kernel_rfl
  c21 := by kernel_rfl
  c37 := by kernel_rfl
  c46 := by kernel_rfl
  c51 := by kernel_rfl
  c53 := by kernel_rfl
  c75 := by kernel_rfl
  c76 := by kernel_rfl
  c80 := by kernel_rfl
  c85 := by kernel_rfl
  c127 := by kernel_rfl
  c143 := by kernel_rfl
  c145 := by kernel_rfl
  c167 := by kernel_rfl
  c168 := by kernel_rfl
  c171 := by kernel_rfl
  c173 := by kernel_rfl
  c175 := by kernel_rfl
  c210 := by kernel_rfl
  c212 := by kernel_rfl
  c213 := by kernel_rfl
  c232 := by kernel_rfl
  c233 := by kernel_rfl }
def Tryz.lays146_ren : Go.Shelf.Ren := ⟨fun | 146 => 15 | 221 => 26 | 268 => 40 | 138 => 41 | 143 => 42 | 195 => 52 | 197 => 53 | 218 => 54 | 219 => 55 | 260 => 67 | 217 => 68 | 225 => 69 | 224 => 70 | 267 => 71 | 266 => 77 | 314 => 78 | n => n, fun | 9 => 9 | 31 => 30 | 3 => 3 | 4 => 4 | 0 => 0 | 105 => 92 | 21 => 21 | 5 => 5 | 46 => 72 | 119 => 95 | 139 => 113 | 138 => 112 | 146 => 114 | 51 => 107 | n => n, fun | 1 => 1 | 3 => 3 | 4 => 4 | n => n⟩
theorem Tryz.lays146 : Go.Proofs.Lays.n146 Tryz.prog Tryz.lays146_ren := {
  mixed := by kernel_rfl
  f138 := Tryz.func41.trans (congrArg some (by kernel_rfl))
  f143 := Tryz.func42.trans (congrArg some (by kernel_rfl))
  f146 := Tryz.func15.trans (congrArg some (by kernel_rfl))
  f195 := Tryz.func52.trans (congrArg some (by kernel_rfl))
  f197 := Tryz.func53.trans (congrArg some (by kernel_rfl))
  f217 := Tryz.func68.trans (congrArg some (by kernel_rfl))
  f218 := Tryz.func54.trans (congrArg some (by kernel_rfl))
  f219 := Tryz.func55.trans (congrArg some (by kernel_rfl))
  f221 := Tryz.func26.trans (congrArg some (by kernel_rfl))
  f224 := Tryz.func70.trans (congrArg some (by kernel_rfl))
  f225 := Tryz.func69.trans (congrArg some (by kernel_rfl))
  f260 := Tryz.func67.trans (congrArg some (by kernel_rfl))
  f266 := Tryz.func77.trans (congrArg some (by kernel_rfl))
  f267 := Tryz.func71.trans (congrArg some (by kernel_rfl))
  f268 := Tryz.func40.trans (congrArg some (by kernel_rfl))
  f314 := Tryz.func78.trans (congrArg some (by kernel_rfl))
  t0 := Tryz.underlying0
  a0 := Tryz.isAgg0
  z0 := Tryz.sizeOf0
  v0 := Tryz.zeroValue0
  t3 := Tryz.underlying3
  a3 := Tryz.isAgg3
  z3 := Tryz.sizeOf3
  v3 := Tryz.zeroValue3
  t4 := Tryz.underlying4
  a4 := Tryz.isAgg4
  z4 := Tryz.sizeOf4
  v4 := Tryz.zeroValue4
  t5 := Tryz.underlying5
  a5 := Tryz.isAgg5
  z5 := Tryz.sizeOf5
  v5 := Tryz.zeroValue5
  t9 := Tryz.underlying9
  a9 := Tryz.isAgg9
  z9 := Tryz.sizeOf9
  v9 := Tryz.zeroValue9
  t21 := Tryz.underlying21
  a21 := Tryz.isAgg21
  z21 := Tryz.sizeOf21
  v21 := Tryz.zeroValue21
  t31 := Tryz.underlying30
  a31 := Tryz.isAgg30
  z31 := Tryz.sizeOf30
  v31 := Tryz.zeroValue30
  t46 := Tryz.underlying72
  a46 := Tryz.isAgg72
  z46 := Tryz.sizeOf72
  v46 := Tryz.zeroValue72
  t51 := Tryz.underlying107
  a51 := Tryz.isAgg107
  z51 := Tryz.sizeOf107
  v51 := Tryz.zeroValue107
  t105 := Tryz.underlying92
  a105 := Tryz.isAgg92
  z105 := Tryz.sizeOf92
  v105 := Tryz.zeroValue92
  t119 := Tryz.underlying95
  a119 := Tryz.isAgg95
  z119 := Tryz.sizeOf95
  t138 := Tryz.underlying112
  a138 := Tryz.isAgg112
  z138 := Tryz.sizeOf112
  v138 := Tryz.zeroValue112
  t139 := Tryz.underlying113
  a139 := Tryz.isAgg113
  z139 := Tryz.sizeOf113
  v139 := Tryz.zeroValue113
  t146 := Tryz.underlying114
  a146 := Tryz.isAgg114
  z146 := Tryz.sizeOf114
  v146 := Tryz.zeroValue114
  g1 := by kernel_rfl
  g3 := by kernel_rfl
  g4 := by kernel_rfl }
def Tryz.lays157_ren : Go.Shelf.Ren := ⟨fun | 157 => 43 | 229 => 56 | 199 => 57 | 261 => 72 | 311 => 79 | 312 => 80 | n => n, fun | 9 => 9 | 31 => 30 | 3 => 3 | 5 => 5 | 4 => 4 | 119 => 95 | 0 => 0 | 40 => 97 | 152 => 104 | 21 => 21 | 154 => 106 | 51 => 107 | 141 => 109 | 196 => 119 | 193 => 116 | 198 => 122 | 49 => 120 | 194 => 117 | 201 => 125 | 226 => 133 | 46 => 72 | 227 => 134 | n => n, fun | 0 => 0 | 6 => 2 | n => n⟩
theorem Tryz.lays157 : Go.Proofs.Lays.n157 Tryz.prog Tryz.lays157_ren := {
  mixed := by kernel_rfl
  f157 := Tryz.func43.trans (congrArg some (by kernel_rfl))
  f199 := Tryz.func57.trans (congrArg some (by kernel_rfl))
  f229 := Tryz.func56.trans (congrArg some (by kernel_rfl))
  f261 := Tryz.func72.trans (congrArg some (by kernel_rfl))
  f311 := Tryz.func79.trans (congrArg some (by kernel_rfl))
  f312 := Tryz.func80.trans (congrArg some (by kernel_rfl))
  t0 := Tryz.underlying0
  a0 := Tryz.isAgg0
  z0 := Tryz.sizeOf0
  v0 := Tryz.zeroValue0
  t3 := Tryz.underlying3
  a3 := Tryz.isAgg3
  z3 := Tryz.sizeOf3
  v3 := Tryz.zeroValue3
  t4 := Tryz.underlying4
  a4 := Tryz.isAgg4
  z4 := Tryz.sizeOf4
  v4 := Tryz.zeroValue4
  t5 := Tryz.underlying5
  a5 := Tryz.isAgg5
  z5 := Tryz.sizeOf5
  v5 := Tryz.zeroValue5
  t9 := Tryz.underlying9
  a9 := Tryz.isAgg9
  z9 := Tryz.sizeOf9
  v9 := Tryz.zeroValue9
  t21 := Tryz.underlying21
  a21 := Tryz.isAgg21
  z21 := Tryz.sizeOf21
  v21 := Tryz.zeroValue21
  t31 := Tryz.underlying30
  a31 := Tryz.isAgg30
  z31 := Tryz.sizeOf30
  v31 := Tryz.zeroValue30
  t40 := Tryz.underlying97
  a40 := Tryz.isAgg97
  z40 := Tryz.sizeOf97
  v40 := Tryz.zeroValue97
  t46 := Tryz.underlying72
  a46 := Tryz.isAgg72
  z46 := Tryz.sizeOf72
  v46 := Tryz.zeroValue72
  t49 := Tryz.underlying120
  a49 := Tryz.isAgg120
  z49 := Tryz.sizeOf120
  v49 := Tryz.zeroValue120
  t51 := Tryz.underlying107
  a51 := Tryz.isAgg107
  z51 := Tryz.sizeOf107
  v51 := Tryz.zeroValue107
  t119 := Tryz.underlying95
  a119 := Tryz.isAgg95
  z119 := Tryz.sizeOf95
  t141 := Tryz.underlying109
  a141 := Tryz.isAgg109
  z141 := Tryz.sizeOf109
  v141 := Tryz.zeroValue109
  t152 := Tryz.underlying104
  a152 := Tryz.isAgg104
  z152 := Tryz.sizeOf104
  v152 := Tryz.zeroValue104
  t154 := Tryz.underlying106
  a154 := Tryz.isAgg106
  z154 := Tryz.sizeOf106
  v154 := Tryz.zeroValue106
  t193 := Tryz.underlying116
  a193 := Tryz.isAgg116
  z193 := Tryz.sizeOf116
  v193 := Tryz.zeroValue116
  t194 := Tryz.underlying117
  a194 := Tryz.isAgg117
  z194 := Tryz.sizeOf117
  v194 := Tryz.zeroValue117
  t196 := Tryz.underlying119
  a196 := Tryz.isAgg119
  z196 := Tryz.sizeOf119
  v196 := Tryz.zeroValue119
  t198 := Tryz.underlying122
  a198 := Tryz.isAgg122
  z198 := Tryz.sizeOf122
  v198 := Tryz.zeroValue122
  t201 := Tryz.underlying125
  a201 := Tryz.isAgg125
  z201 := Tryz.sizeOf125
  v201 := Tryz.zeroValue125
  t226 := Tryz.underlying133
  a226 := Tryz.isAgg133
  z226 := Tryz.sizeOf133
  v226 := Tryz.zeroValue133
  t227 := Tryz.underlying134
  a227 := Tryz.isAgg134
  z227 := Tryz.sizeOf134
  v227 := Tryz.zeroValue134
  g0 := by kernel_rfl
  g6 := by kernel_rfl }

end Go.Proofs
namespace Go.Sx.Tryz
open Go Go.Sx Go.Proofs

theorem tab_at {p : Nat → Prop} {w : World} {g : Nat} {name : String} {k : IntKind} {zs : List Int} (hg : Tryz.prog.globalNamed name = some g) (h : ∃ e f, w.heap[g]? = some (.cells (zs.map fun z => Value.int k z).toArray e f)) : Lib.TabIs Tryz.prog w name k zs := by
  obtain ⟨e, f, he⟩ := h
  unfold Lib.TabIs World.var?
  rw [hg]
  simp only [Option.bind_some, he]
theorem need_pow {p : Nat → Prop} {w : World} (h : Need p w) : Lib.TabIs Tryz.prog w "internal/strconv.uint64pow10" .u64 Lib.pow10Tab :=
  tab_at (p := p) (g := 7) (by kernel_rfl) (h _ (show _ ∈ tabs from .tail _ (.tail _ (.tail _ (.tail _ (.head _)))))).2
theorem need_space {p : Nat → Prop} {w : World} (h : Need p w) : Lib.TabIs Tryz.prog w "strings.asciiSpace" .u8 Lib.asciiSpaceTab :=
  tab_at (p := p) (g := 0) (by kernel_rfl) (h _ (show _ ∈ tabs from .head _)).2
theorem cell_at {w : World} {g : Nat} {v : Value} {e : TypeId} {f : Nat × Nat} (h : w.heap[g]? = some (.cells #[v] e f)) : w.cell? ⟨g, 0, none⟩ = some v := by
  simp [World.cell?, h]
theorem need_max {p : Nat → Prop} {w : World} (h : Need p w) : ∃ m, w.cell? ⟨1, 0, none⟩ = some (.int .i64 m) := by
  obtain ⟨_, m, e, f, he⟩ := h _ (show _ ∈ tabs from .tail _ (.head _))
  exact ⟨m, cell_at he⟩
theorem need_err {p : Nat → Prop} {w : World} (h : Need p w) : (∃ t v, w.cell? ⟨5, 0, none⟩ = some (.iface t v)) ∧ ∃ t v, w.cell? ⟨6, 0, none⟩ = some (.iface t v) := by
  obtain ⟨_, t, v, e, f, he⟩ := h _ (show _ ∈ tabs from .tail _ (.tail _ (.head _)))
  obtain ⟨_, t', v', e', f', he'⟩ := h _ (show _ ∈ tabs from .tail _ (.tail _ (.tail _ (.head _))))
  exact ⟨⟨t, v, cell_at he⟩, t', v', cell_at he'⟩

theorem kept_grow (w : World) (k : Nat) (os : Array Obj) : Kept w (Go.Sort.grow (w.drewN k) os) [] := by
  have hs : w.heap.size ≤ (w.heap ++ os).size := by rw [Array.size_append]; omega
  have hh : ∀ i, i < w.heap.size → (w.heap ++ os)[i]? = w.heap[i]? := fun i hi => by rw [Array.getElem?_append_left hi]
  refine ⟨hs, fun i hi _ => hh i hi, ⟨fun i hi => .inl ?_, rfl, rfl, hs⟩⟩
  show frzO (w.heap ++ os)[i]? = _
  rw [hh i hi]
theorem kept_below {w w' : World} (h : RowKit.Below w.heap.size w w') : Kept w w' [] :=
  ⟨h.size, fun k hk _ => h.block k hk, ⟨fun k hk => .inl (by rw [h.block k hk]), h.os, h.output, h.size⟩⟩
theorem below_of {w w' : World} (h : Kept w w' []) (ht : w'.tape = w.tape) : RowKit.Below w.heap.size w w' := ⟨h.frz.os, ht, h.frz.out, h.size, fun k hk => h.same k hk (by simp)⟩
theorem kept_alloc (w : World) (o : Obj) (hf : frzO (some o) = (0, 0)) : Kept w (w.alloc o) [] :=
  ⟨by show _ ≤ (w.heap.push o).size; rw [Array.size_push]; omega, fun k hk _ => push_get hk, frz_push w o hf⟩

theorem CVL_str {p : Nat → Prop} {w : World} {x : ByteArray} {l : List SV} {cargs : List Value} {S : List Nat} {B : List LC} (h : CVL p w (.val .str x :: l) cargs S B) : ∃ r, cargs = .string x :: r ∧ CVL p w l r S B := by
  simp only [CVL] at h
  obtain ⟨c, r, S1, S2, B1, B2, rfl, rfl, rfl, h1, h2⟩ := h
  simp only [CV] at h1
  obtain ⟨rfl, rfl, cs, hr, rfl⟩ := h1
  simp only [TR] at hr
  obtain ⟨rfl, _⟩ := hr
  exact ⟨r, rfl, h2⟩
theorem CVL_int {p : Nat → Prop} {w : World} {k : IntKind} {n : Int} {l : List SV} {cargs : List Value} {S : List Nat} {B : List LC} (h : CVL p w (.val (.int k) n :: l) cargs S B) : ∃ r, cargs = .int k n :: r ∧ CVL p w l r S B := by
  simp only [CVL] at h
  obtain ⟨c, r, S1, S2, B1, B2, rfl, rfl, rfl, h1, h2⟩ := h
  simp only [CV] at h1
  obtain ⟨rfl, rfl, cs, hr, rfl⟩ := h1
  simp only [TR] at hr
  obtain ⟨rfl, _⟩ := hr
  exact ⟨r, rfl, h2⟩
theorem CVL_nil {p : Nat → Prop} {w : World} {cargs : List Value} {S : List Nat} {B : List LC} (h : CVL p w [] cargs S B) : cargs = [] ∧ S = [] ∧ B = [] := by simpa only [CVL] using h

theorem reps_str {im : Nat → Prop} {w : World} {o : Bool} : ∀ l : List ByteArray, Reps (TR im w o .str) l (l.map Value.string) []
  | [] => ⟨rfl, rfl⟩
  | x :: l => ⟨[.string x], l.map Value.string, [], [], rfl, rfl, ⟨rfl, rfl⟩, reps_str l⟩

/-- a new row of texts -/
theorem texts_ok {im : Nat → Prop} {w : World} (l : List ByteArray) (t : TypeId) : CV im (w.alloc (.cells (l.map Value.string).toArray t)) (.fv (.sl true .str) l) (.slice (some ⟨w.heap.size, 0, none⟩) l.length l.length) [w.heap.size] [] := by
  refine ⟨rfl, rfl, [.slice (some ⟨w.heap.size, 0, none⟩) l.length l.length], ⟨some ⟨w.heap.size, 0, none⟩, l.length, rfl, Nat.le_refl _, ?_⟩, rfl⟩
  rw [if_pos (by rfl)]
  refine ⟨rfl, l.map Value.string, [], rfl, ⟨(l.map Value.string).toArray, t, push_new, ?_, fun j c hj => ?_⟩, reps_str l⟩
  · simp [Ty.size]
  · simpa using hj
end Go.Sx.Tryz

set_option maxRecDepth 100000
namespace Go.Sx.Tryz
section
open Go Go.Proofs Go.Shelf Go.RowKit

theorem fIn : Tryz.prog.funcs[48]? = some Tryz.f48 := by kernel_rfl
theorem nIn : Tryz.f48.ntmps = 15 := by kernel_rfl
theorem fDec : Tryz.prog.funcs[59]? = some Tryz.f59 := by kernel_rfl
theorem nDec : Tryz.f59.ntmps = 5 := by kernel_rfl
theorem fRd : Tryz.prog.funcs[44]? = some Tryz.f44 := by kernel_rfl
theorem nRd : Tryz.f44.ntmps = 25 := by kernel_rfl

set_option maxHeartbeats 4000000 in
theorem in_call (n : Int) (w : World) : Calls Tryz.prog 48 #[.int .i64 n, .int .i64 0, .int .i64 1000000000] w fun e w' => e = .returned (.bool (decide (0 ≤ n) && decide (n ≤ 1000000000))) ∧ w' = w := by
  have u3 : ∀ w, (underlying 3).run Tryz.prog w = .ok (.int .i64) w := fun w => Sx.run_underlying (by kernel_rfl)
  have u4 : ∀ w, (underlying 4).run Tryz.prog w = .ok .bool w := fun w => Sx.run_underlying (by kernel_rfl)
  have mixed : Tryz.prog.follows .mixedOrders = true := by kernel_rfl
  by_cases h : 0 ≤ n
  · by_cases h2 : n ≤ 1000000000
    · go_enter fIn, nIn
      go_wp2
      go_ret
      simp [h, h2]
    · go_enter fIn, nIn
      go_wp2
      go_ret
      simp [h, h2]
  · go_enter fIn, nIn
    go_wp2
    go_ret
    simp only [and_true]
    rw [decide_eq_false (by omega)]
    rfl

set_option maxHeartbeats 4000000 in
theorem dec_call (n : Int) (h0 : -9223372036854775808 ≤ n) (h1 : n ≤ 9223372036854775807) (w : World) (htab : Lib.TabIs Tryz.prog w "internal/strconv.uint64pow10" .u64 Lib.pow10Tab) :
    Calls Tryz.prog 59 #[.int .i64 n] w fun e w' => e = .returned (.string ⟨(Lib.itoa n).toArray⟩) ∧ ∃ k os, w' = Go.Sort.grow (w.drewN k) os := by
  have u3 : ∀ w, (underlying 3).run Tryz.prog w = .ok (.int .i64) w := fun w => Sx.run_underlying (by kernel_rfl)
  have mixed : Tryz.prog.follows .mixedOrders = true := by kernel_rfl
  go_enter fDec, nDec
  go_wp2_with (go_at_call 75; refine (Any.strconv_Itoa Tryz.laysM171 n h0 h1 _ htab).mono ?_; rintro e w' ⟨rfl, k, os, rfl⟩)
  go_ret
  exact ⟨rfl, _, _, rfl⟩

set_option maxHeartbeats 8000000 in
theorem rd_err (s : ByteArray) (n : Int) (R : World → Prop) (w : World) (hA : Calls Tryz.prog 58 #[.string s] w fun e w' => ∃ te pe, e = .returned (.tuple #[.int .i64 n, .iface te pe]) ∧ R w') :
    Calls Tryz.prog 44 #[.string s] w fun e w' => e = .returned (.tuple #[.int .i64 0, .bool false]) ∧ R w' := by
  have u3 : ∀ w, (underlying 3).run Tryz.prog w = .ok (.int .i64) w := fun w => Sx.run_underlying (by kernel_rfl)
  have u4 : ∀ w, (underlying 4).run Tryz.prog w = .ok .bool w := fun w => Sx.run_underlying (by kernel_rfl)
  have t99 := Tryz.underlying99
  have mixed : Tryz.prog.follows .mixedOrders = true := by kernel_rfl
  go_enter fRd, nRd
  go_wp2_with (go_at_call 58; refine hA.mono ?_; rintro e w' ⟨te, pe, rfl, hR⟩)
  go_wp2
  go_ret2
  exact ⟨rfl, hR⟩

set_option maxHeartbeats 8000000 in
theorem rd_out (s : ByteArray) (v : Int) (R : World → Prop) (w : World) (hA : Calls Tryz.prog 58 #[.string s] w fun e w' => e = .returned (.tuple #[.int .i64 v, .nilIface]) ∧ R w') (hv : (decide (0 ≤ v) && decide (v ≤ 1000000000)) = false) :
    Calls Tryz.prog 44 #[.string s] w fun e w' => e = .returned (.tuple #[.int .i64 0, .bool false]) ∧ R w' := by
  have u3 : ∀ w, (underlying 3).run Tryz.prog w = .ok (.int .i64) w := fun w => Sx.run_underlying (by kernel_rfl)
  have u4 : ∀ w, (underlying 4).run Tryz.prog w = .ok .bool w := fun w => Sx.run_underlying (by kernel_rfl)
  have t99 := Tryz.underlying99
  have mixed : Tryz.prog.follows .mixedOrders = true := by kernel_rfl
  have hin := fun w => in_call v w
  rw [hv] at hin
  go_enter fRd, nRd
  go_wp2_with (first
    | (go_at_call 58; refine hA.mono ?_; rintro e w' ⟨rfl, hR⟩)
    | (go_at_call 48; refine (hin _).mono ?_; rintro e w' ⟨rfl, rfl⟩))
  go_ret2
  exact ⟨rfl, hR⟩

set_option maxHeartbeats 8000000 in
theorem rd_in (s : ByteArray) (v : Int) (R R2 : World → Prop) (w : World) (hA : Calls Tryz.prog 58 #[.string s] w fun e w' => e = .returned (.tuple #[.int .i64 v, .nilIface]) ∧ R w') (hv : (decide (0 ≤ v) && decide (v ≤ 1000000000)) = true)
    (hD : ∀ w1, R w1 → Calls Tryz.prog 59 #[.int .i64 v] w1 fun e w' => e = .returned (.string ⟨(Lib.itoa v).toArray⟩) ∧ R2 w') :
    Calls Tryz.prog 44 #[.string s] w fun e w' => e = .returned (.tuple #[.int .i64 (if (⟨(Lib.itoa v).toArray⟩ : ByteArray) = s then v else 0), .bool (decide ((⟨(Lib.itoa v).toArray⟩ : ByteArray) = s))]) ∧ R2 w' := by
  have u3 : ∀ w, (underlying 3).run Tryz.prog w = .ok (.int .i64) w := fun w => Sx.run_underlying (by kernel_rfl)
  have u4 : ∀ w, (underlying 4).run Tryz.prog w = .ok .bool w := fun w => Sx.run_underlying (by kernel_rfl)
  have u9 : ∀ w, (underlying 9).run Tryz.prog w = .ok .string w := fun w => Sx.run_underlying (by kernel_rfl)
  have t99 := Tryz.underlying99
  have mixed : Tryz.prog.follows .mixedOrders = true := by kernel_rfl
  have hin := fun w => in_call v w
  rw [hv] at hin
  generalize (⟨(Lib.itoa v).toArray⟩ : ByteArray) = d at hD ⊢
  by_cases hd : d = s
  · subst hd
    go_enter fRd, nRd
    go_wp2_with (first
      | (go_at_call 58; refine hA.mono ?_; rintro e w' ⟨rfl, hR⟩)
      | (go_at_call 48; refine (hin _).mono ?_; rintro e w' ⟨rfl, rfl⟩)
      | (go_at_call 59; refine (hD _ (by assumption)).mono ?_; rintro e w' ⟨rfl, hR2⟩))
    go_ret2
    simp [hR2]
  · have hne : (d.toList == s.toList) = false := by
      cases hb : (d.toList == s.toList) with
      | false => rfl
      | true =>
        have h1 : d.toList = s.toList := by simpa using hb
        rw [Lib.toList_data, Lib.toList_data] at h1
        exact absurd (ByteArray.ext (Array.toList_inj.1 h1)) hd
    go_enter fRd, nRd
    go_wp2_with (first
      | (go_at_call 58; refine hA.mono ?_; rintro e w' ⟨rfl, hR⟩)
      | (go_at_call 48; refine (hin _).mono ?_; rintro e w' ⟨rfl, rfl⟩)
      | (go_at_call 59; refine (hD _ (by assumption)).mono ?_; rintro e w' ⟨rfl, hR2⟩))
    go_ret2
    simp [hd, hR2]

end
open Go Go.Sx Go.Proofs
/-- the numeral -/
noncomputable def itoaB (n : Int) : ByteArray := ⟨(Lib.itoa n).toArray⟩
/-- what is read of a numeral -/
noncomputable def rdV (s : ByteArray) : Int × Bool × Unit :=
  match Lib.atoiAll s.data.toList with
  | .ok v => bif (decide (0 ≤ v) && decide (v ≤ 1000000000)) then (if itoaB v = s then v else 0, decide (itoaB v = s), ()) else (0, false, ())
  | _ => (0, false, ())
noncomputable def q_i_ReadDecimal (_n : Nat) (x : Args [tString]) : Option (Int × Bool × Unit) := if ByteArray.size x.1 ≤ 281474976710656 then some (rdV x.1) else none
noncomputable def c_i_ReadDecimal : Con := roS [tString] true (shT [(false, tInt), (false, tBool)]) (q_i_ReadDecimal big)
theorem c_i_ReadDecimal_ok : ConOk Tryz.prog 44 c_i_ReadDecimal := roS_ok ⟨Tryz.f44, by kernel_rfl, rfl, by decide⟩ fun xs v h => by
  obtain ⟨s, u⟩ := xs
  cases u
  unfold q_i_ReadDecimal at h
  dsimp only at h
  split at h
  · rename_i h0
    obtain rfl := Option.some.inj h
    intro p w cargs S B hcv hnd hS hp hnt
    have hcv' : CVL p w [.val .str s] cargs S B := hcv
    obtain ⟨r, rfl, h2⟩ := CVL_str hcv'
    obtain ⟨rfl, rfl, rfl⟩ := CVL_nil h2
    obtain ⟨⟨t5, v5, h5⟩, t6, v6, h6⟩ := need_err hnt
    have fin : ∀ (n : Int) (b : Bool), Calls Tryz.prog 44 #[.string s] w (fun e w' => e = .returned (.tuple #[.int .i64 n, .bool b]) ∧ Kept w w' []) → rdV s = (n, b, ()) → Calls Tryz.prog 44 #[.string s] w fun e w' => ∃ cr S1 S2, e = .returned cr ∧ (S1 ++ S2).Nodup ∧ (∀ k ∈ S1 ++ S2, (k ∈ [] ∨ w.heap.size ≤ k) ∧ k < w'.heap.size) ∧ Kept w w' [] ∧
        CV (after p [] (S1 ++ S2) w w') w' ((shT [(false, tInt), (false, tBool)]).sh (rdV s)).1 cr S1 [] ∧ Outs (after p [] (S1 ++ S2) w w') w' ((shT [(false, tInt), (false, tBool)]).sh (rdV s)).2 [] S2 := fun n b hc e => by
      rw [e]
      refine hc.mono ?_
      rintro e w' ⟨rfl, hk⟩
      refine ⟨_, [], [], rfl, List.nodup_nil, (fun k hk => by cases hk), hk, ?_, rfl⟩
      refine ⟨[.int .i64 n, .bool b], rfl, .int .i64 n, [.bool b], [], [], [], [], rfl, rfl, rfl, ⟨rfl, rfl, _, ⟨rfl, rfl⟩, rfl⟩, .bool b, [], [], [], [], [], rfl, rfl, rfl, ⟨rfl, rfl, _, ⟨rfl, rfl⟩, rfl⟩, rfl, rfl, rfl⟩
    have hbw : ∀ (w' : World) (t : TypeId), (w' = w ∨ ∃ t, w' = Lib.bytesWorld w 5 t) → Kept w w' [] := fun w' _ h => by
      rcases h with rfl | ⟨t, rfl⟩
      · exact Kept.refl _ _
      · exact kept_below (Lib.bytesWorld_below _ _ _)
    cases ha : Lib.atoiAll s.data.toList with
    | «syntax» =>
      have hA := Any.strconv_Atoi_syntax Tryz.laysC172 s h0 ha _ w h5 (.inr ⟨t5, v5, rfl⟩)
      refine fin 0 false (rd_err s 0 (fun w' => Kept w w' []) w (hA.mono ?_)) (by unfold rdV; rw [ha])
      rintro e w' ⟨N, rfl, _, _, hb⟩
      exact ⟨_, _, rfl, kept_below hb⟩
    | range =>
      have hA := Any.strconv_Atoi_range Tryz.laysC172 s h0 ha _ w h6 (.inr ⟨t6, v6, rfl⟩)
      refine fin 0 false (rd_err s (Lib.atoiSat s.data.toList) (fun w' => Kept w w' []) w (hA.mono ?_)) (by unfold rdV; rw [ha])
      rintro e w' ⟨N, rfl, _, _, hb⟩
      exact ⟨_, _, rfl, kept_below hb⟩
    | ok v =>
      have hA := Any.strconv_Atoi_ok Tryz.laysC172 s (Nat.le_trans h0 (by decide)) v ha w
      obtain ⟨hl, hu⟩ := Lib.atoiAll_bounds ha
      cases hv : (decide (0 ≤ v) && decide (v ≤ 1000000000)) with
      | false =>
        refine fin 0 false (rd_out s v (fun w' => Kept w w' []) w (hA.mono ?_) hv) (by unfold rdV; rw [ha]; dsimp only; rw [hv]; rfl)
        rintro e w' ⟨rfl, hw⟩
        exact ⟨rfl, hbw w' 0 hw⟩
      | true =>
        refine fin _ _ (rd_in s v (fun w' => Kept w w' []) (fun w' => Kept w w' []) w (hA.mono ?_) hv ?_) (by unfold rdV; rw [ha]; dsimp only; rw [hv]; rfl)
        · rintro e w' ⟨rfl, hw⟩
          exact ⟨rfl, hbw w' 0 hw⟩
        · intro w1 hk1
          have hn1 : Need p w1 := fun t ht => ⟨(hnt t ht).1, by rw [hk1.same t.1 (hp _ (hnt t ht).1) (by simp)]; exact (hnt t ht).2⟩
          refine (dec_call v (by omega) (by omega) w1 (need_pow hn1)).mono ?_
          rintro e w' ⟨rfl, k, os, rfl⟩
          exact ⟨rfl, hk1.trans (kept_grow w1 k os) (by simp)⟩
  · cases h
noncomputable def Q_i_ReadDecimal (n : Nat) (a0 : ByteArray) : Option (Int × Bool × Unit) := q_i_ReadDecimal n (a0, ())
theorem Q_i_ReadDecimal_eq (n : Nat) (a0 : ByteArray) : Q_i_ReadDecimal n a0 = if ByteArray.size a0 ≤ 281474976710656 then some (rdV a0) else none := rfl
end Go.Sx.Tryz

set_option maxRecDepth 100000
namespace Go.Sx.Tryz
open Go Go.Sx Go.Proofs

noncomputable def l_s_l01Figure : List (Nat × Con) := []
theorem l_s_l01Figure_ok : ∀ q ∈ l_s_l01Figure, ConOk Tryz.prog q.1 q.2 := Tryz.cons_nil
def kp_s_l01Figure : KP := []
noncomputable def q_s_l01Figure (n : Nat) (x : Args [tInt]) := evX (false, false, []) l_s_l01Figure kp_s_l01Figure [none] Tryz.f38 (shV tUint8) n (encA [tInt] x)
noncomputable def c_s_l01Figure : Con := roS [tInt] true (shV tUint8) (q_s_l01Figure big)
theorem c_s_l01Figure_ok : ConOk Tryz.prog 38 c_s_l01Figure := roS_ok ⟨Tryz.f38, by kernel_rfl, rfl, by decide⟩ fun _ _ h => evX_ok l_s_l01Figure_ok (f := Tryz.f38) (by kernel_rfl) rfl (by kernel_rfl) (by kernel_rfl) big h
noncomputable def Q_s_l01Figure (n : Nat) (a0 : Int) : Option Int := q_s_l01Figure n (a0, ())
theorem Q_s_l01Figure_eq (n : Nat) (a0 : Int) : Q_s_l01Figure n a0 =
    bif decide (a0 < (10 : Int)) then some (IntKind.u8.wrap (IntKind.i64.wrap ((48 : Int) + a0)))
 else some (IntKind.u8.wrap (IntKind.i64.wrap (IntKind.i64.wrap ((97 : Int) + a0) - (10 : Int)))) := by kernel_rfl

end Go.Sx.Tryz

set_option maxRecDepth 100000
namespace Go.Sx.Tryz
open Go Go.Sx Go.Proofs

noncomputable def l_s_Decimal : List (Nat × Con) := [(38, c_s_l01Figure)]
theorem l_s_Decimal_ok : ∀ q ∈ l_s_Decimal, ConOk Tryz.prog q.1 q.2 := Tryz.cons_cons c_s_l01Figure_ok (Tryz.cons_nil)
abbrev k_s_Decimal_5 : List Keep × List BK := ([.ro tInt64, .drop, .drop, .ro tBool, .ro tString, .drop, .drop, .drop, .drop, .drop, .drop, .drop, .drop, .drop, .drop, .drop, .drop, .drop, .drop, .drop, .drop, .drop, .drop, .drop, .drop, .drop, .drop, .drop, .drop, .drop], [])
def kp_s_Decimal : KP := [(5, k_s_Decimal_5)]
noncomputable def q_s_Decimal (n : Nat) (x : Args [tInt]) := evX (false, false, []) l_s_Decimal kp_s_Decimal [none] Tryz.f21 (shV tString) n (encA [tInt] x)
noncomputable def c_s_Decimal : Con := roS [tInt] true (shV tString) (q_s_Decimal big)
theorem c_s_Decimal_ok : ConOk Tryz.prog 21 c_s_Decimal := roS_ok ⟨Tryz.f21, by kernel_rfl, rfl, by decide⟩ fun _ _ h => evX_ok l_s_Decimal_ok (f := Tryz.f21) (by kernel_rfl) rfl (by kernel_rfl) (by kernel_rfl) big h
noncomputable def Q_s_Decimal (n : Nat) (a0 : Int) : Option ByteArray := q_s_Decimal n (a0, ())
noncomputable def r_s_Decimal_5 (n : Nat) (x : KD k_s_Decimal_5.1) (y : BD k_s_Decimal_5.2) := rounds (env (false, false, []) l_s_Decimal) kp_s_Decimal (body Tryz.f21) (finX (false, false, []) l_s_Decimal [none] Tryz.f21 (shV tString) [.val tInt (zeroD tInt)]) n 5 k_s_Decimal_5 x y
noncomputable def R_s_Decimal_5 (n : Nat) (s0 : Int) (s3 : Bool) (s4 : ByteArray) : Option ByteArray := r_s_Decimal_5 n (s0, s3, s4, ()) ()
theorem Q_s_Decimal_eq (n : Nat) (a0 : Int) : Q_s_Decimal n a0 =
    bif decide (a0 = (0 : Int)) then some (ByteArray.mk #[(48 : UInt8)])
 else R_s_Decimal_5 n a0 (decide (a0 < (0 : Int))) (ByteArray.mk #[]) := by kernel_rfl
theorem R_s_Decimal_5_eq (n : Nat) (s0 : Int) (s3 : Bool) (s4 : ByteArray) : R_s_Decimal_5 (n + 1) s0 s3 s4 =
    bif !decide (s0 = (0 : Int)) then
 bif decide (s0.tmod (10 : Int) < (0 : Int)) then
 (Q_s_l01Figure big (IntKind.i64.wrap ((0 : Int) - s0.tmod (10 : Int)))).bind fun y =>
 if (ByteArray.mk (List.map (fun n => UInt8.ofNat n.toNat) [y]).toArray).size + s4.size ≤ lim then
 R_s_Decimal_5 n (IntKind.i64.wrap (s0.tdiv (10 : Int))) s3
 (ByteArray.mk (List.map (fun n => UInt8.ofNat n.toNat) [y]).toArray ++ s4)
 else none
 else
 (Q_s_l01Figure big (s0.tmod (10 : Int))).bind fun y =>
 if (ByteArray.mk (List.map (fun n => UInt8.ofNat n.toNat) [y]).toArray).size + s4.size ≤ lim then
 R_s_Decimal_5 n (IntKind.i64.wrap (s0.tdiv (10 : Int))) s3
 (ByteArray.mk (List.map (fun n => UInt8.ofNat n.toNat) [y]).toArray ++ s4)
 else none
 else
 bif s3 then
 if (ByteArray.mk #[(45 : UInt8)]).size + s4.size ≤ lim then some (ByteArray.mk #[(45 : UInt8)] ++ s4) else none
 else some s4 := by kernel_rfl

end Go.Sx.Tryz

set_option maxRecDepth 100000
namespace Go.Sx.Tryz
open Go Go.Sx Go.Proofs

noncomputable def l_s_ReadDecimal : List (Nat × Con) := [(21, c_s_Decimal)]
theorem l_s_ReadDecimal_ok : ∀ q ∈ l_s_ReadDecimal, ConOk Tryz.prog q.1 q.2 := Tryz.cons_cons c_s_Decimal_ok (Tryz.cons_nil)
abbrev k_s_ReadDecimal_5 : List Keep × List BK := ([.ro tString, .drop, .drop, .drop, .ro tInt64, .ro tInt64, .drop, .drop, .drop, .drop, .drop, .drop, .drop, .drop, .drop, .drop, .drop, .drop, .drop, .drop, .drop, .drop, .drop, .drop, .drop, .drop, .drop, .drop, .drop, .drop, .drop, .drop, .drop, .drop, .drop, .drop, .drop, .drop, .drop, .drop, .drop, .drop], [])
def kp_s_ReadDecimal : KP := [(5, k_s_ReadDecimal_5)]
noncomputable def q_s_ReadDecimal (n : Nat) (x : Args [tString]) := evX (false, false, []) l_s_ReadDecimal kp_s_ReadDecimal [none, none] Tryz.f12 (shT [(false, tInt), (false, tBool)]) n (encA [tString] x)
noncomputable def c_s_ReadDecimal : Con := roS [tString] true (shT [(false, tInt), (false, tBool)]) (q_s_ReadDecimal big)
theorem c_s_ReadDecimal_ok : ConOk Tryz.prog 12 c_s_ReadDecimal := roS_ok ⟨Tryz.f12, by kernel_rfl, rfl, by decide⟩ fun _ _ h => evX_ok l_s_ReadDecimal_ok (f := Tryz.f12) (by kernel_rfl) rfl (by kernel_rfl) (by kernel_rfl) big h
noncomputable def Q_s_ReadDecimal (n : Nat) (a0 : ByteArray) : Option (Int × Bool × Unit) := q_s_ReadDecimal n (a0, ())
noncomputable def r_s_ReadDecimal_5 (n : Nat) (x : KD k_s_ReadDecimal_5.1) (y : BD k_s_ReadDecimal_5.2) := rounds (env (false, false, []) l_s_ReadDecimal) kp_s_ReadDecimal (body Tryz.f12) (finX (false, false, []) l_s_ReadDecimal [none, none] Tryz.f12 (shT [(false, tInt), (false, tBool)]) [.val tString (zeroD tString)]) n 5 k_s_ReadDecimal_5 x y
noncomputable def R_s_ReadDecimal_5 (n : Nat) (s0 : ByteArray) (s4 : Int) (s5 : Int) : Option (Int × Bool × Unit) := r_s_ReadDecimal_5 n (s0, s4, s5, ()) ()
theorem Q_s_ReadDecimal_eq (n : Nat) (a0 : ByteArray) : Q_s_ReadDecimal n a0 =
    bif decide ((10 : Int) < (↑a0.size : Int)) then some ((0 : Int), false, PUnit.unit)
 else R_s_ReadDecimal_5 n a0 (0 : Int) (0 : Int) := by kernel_rfl
theorem R_s_ReadDecimal_5_eq (n : Nat) (s0 : ByteArray) (s4 : Int) (s5 : Int) : R_s_ReadDecimal_5 (n + 1) s0 s4 s5 =
    bif decide (s5 < (↑s0.size : Int)) then
 if (0 : Int) ≤ s5 then
 (nth s0.data.toList s5.toNat).bind fun y =>
 bif decide ((↑y.toNat : Int) < (48 : Int)) then some ((0 : Int), false, PUnit.unit)
 else
 if (0 : Int) ≤ s5 then
 (nth s0.data.toList s5.toNat).bind fun y =>
 bif decide ((57 : Int) < (↑y.toNat : Int)) then some ((0 : Int), false, PUnit.unit)
 else
 if (0 : Int) ≤ s5 then
 (nth s0.data.toList s5.toNat).bind fun y =>
 R_s_ReadDecimal_5 n s0
 (IntKind.i64.wrap
 (IntKind.i64.wrap (IntKind.i64.wrap ((10 : Int) * s4) + IntKind.i64.wrap (↑y.toNat : Int)) -
 (48 : Int)))
 (IntKind.i64.wrap (s5 + (1 : Int)))
 else none
 else none
 else none
 else
 bif decide ((1000000000 : Int) < s4) then some ((0 : Int), false, PUnit.unit)
 else
 (Q_s_Decimal big s4).bind fun y =>
 bif !decide (y = s0) then some ((0 : Int), false, PUnit.unit) else some (s4, true, PUnit.unit) := by kernel_rfl

end Go.Sx.Tryz

set_option maxRecDepth 100000
namespace Go.Sx.Tryz
open Go Go.Sx Go.Proofs


/-- the words -/
def wordsB (s : ByteArray) : List ByteArray := (Lib.fields s.data.toList).map fun l => ⟨l.toArray⟩
noncomputable def q_x_strings_Fields (_n : Nat) (x : Args [tString]) : Option (List ByteArray) := if ByteArray.size x.1 < 4294967281 then (if ((ByteArray.data x.1).toList.all fun b => decide (b.toNat < 128)) = true then some (wordsB x.1) else none) else none
noncomputable def c_x_strings_Fields : Con := roS [tString] true (shF uSlString) (q_x_strings_Fields big)
theorem c_x_strings_Fields_ok : ConOk Tryz.prog 43 c_x_strings_Fields := roS_ok ⟨Tryz.f43, by kernel_rfl, rfl, by decide⟩ fun xs v h => by
  obtain ⟨s, u⟩ := xs
  cases u
  unfold q_x_strings_Fields at h
  dsimp only at h
  split at h
  · rename_i h0
    split at h
    · rename_i h1
      simp only [Option.some.injEq] at h
      subst h
      intro p w cargs S B hcv hnd hS hp hnt
      have hcv' : CVL p w [.val .str s] cargs S B := hcv
      obtain ⟨r, rfl, h2⟩ := CVL_str hcv'
      obtain ⟨rfl, rfl, rfl⟩ := CVL_nil h2
      have hc := Any.strings_Fields Tryz.lays157 (by kernel_rfl) (by kernel_rfl) s w h0 (fun j b hb => by
        have := List.all_eq_true.1 h1 b (List.mem_of_getElem? hb)
        simpa using this) (need_space hnt)
      have hlen : (wordsB s).length = (Lib.fields s.data.toList).length := by simp [wordsB]
      have hmap : (Lib.fields s.data.toList).map (fun l => Value.string ⟨l.toArray⟩) = (wordsB s).map Value.string := by simp [wordsB]
      refine hc.mono ?_
      rw [hmap, ← hlen]
      rintro e w' ⟨rfl, rfl⟩
      refine ⟨_, [w.heap.size], [], rfl, by simp, ?_, kept_alloc w _ rfl, ?_, rfl⟩
      · intro k hk
        simp only [List.append_nil, List.mem_singleton] at hk
        subst hk
        exact ⟨.inr (Nat.le_refl _), by show _ < (w.heap.push _).size; rw [Array.size_push]; omega⟩
      · exact texts_ok (wordsB s) _
    · cases h
  · cases h
noncomputable def Q_x_strings_Fields (n : Nat) (a0 : ByteArray) : Option (List ByteArray) := q_x_strings_Fields n (a0, ())
theorem Q_x_strings_Fields_eq (n : Nat) (a0 : ByteArray) : Q_x_strings_Fields n a0 = if ByteArray.size a0 < 4294967281 then (if (a0.data.toList.all fun b => decide (b.toNat < 128)) = true then some (wordsB a0) else none) else none := rfl
end Go.Sx.Tryz

set_option maxRecDepth 100000
namespace Go.Sx.Tryz
open Go Go.Sx Go.Proofs

noncomputable def l_i_PartsOf : List (Nat × Con) := [(43, c_x_strings_Fields)]
theorem l_i_PartsOf_ok : ∀ q ∈ l_i_PartsOf, ConOk Tryz.prog q.1 q.2 := Tryz.cons_cons c_x_strings_Fields_ok (Tryz.cons_nil)
abbrev k_i_PartsOf_4 : List Keep × List BK := ([.ro tString, .drop, .drop, .drop, .drop, .drop, .drop, .drop, .drop, .drop, .ro tInt64, .ro tInt64, .drop, .drop, .drop, .drop, .drop, .drop, .drop, .drop, .drop, .drop, .drop, .drop, .drop, .drop, .drop, .drop, .drop, .drop, .drop], [])
def kp_i_PartsOf : KP := [(4, k_i_PartsOf_4)]
noncomputable def q_i_PartsOf (n : Nat) (x : Args [tString]) := evX (false, false, []) l_i_PartsOf kp_i_PartsOf [some uSlString, none] Tryz.f27 (shT [(true, uSlString), (false, tBool)]) n (encA [tString] x)
noncomputable def c_i_PartsOf : Con := roS [tString] true (shT [(true, uSlString), (false, tBool)]) (q_i_PartsOf big)
theorem c_i_PartsOf_ok : ConOk Tryz.prog 27 c_i_PartsOf := roS_ok ⟨Tryz.f27, by kernel_rfl, rfl, by decide⟩ fun _ _ h => evX_ok l_i_PartsOf_ok (f := Tryz.f27) (by kernel_rfl) rfl (by kernel_rfl) (by kernel_rfl) big h
noncomputable def Q_i_PartsOf (n : Nat) (a0 : ByteArray) : Option (DSlString × Bool × Unit) := q_i_PartsOf n (a0, ())
noncomputable def r_i_PartsOf_4 (n : Nat) (x : KD k_i_PartsOf_4.1) (y : BD k_i_PartsOf_4.2) := rounds (env (false, false, []) l_i_PartsOf) kp_i_PartsOf (body Tryz.f27) (finX (false, false, []) l_i_PartsOf [some uSlString, none] Tryz.f27 (shT [(true, uSlString), (false, tBool)]) [.val tString (zeroD tString)]) n 4 k_i_PartsOf_4 x y
noncomputable def R_i_PartsOf_4 (n : Nat) (s0 : ByteArray) (s10 : Int) (s11 : Int) : Option (DSlString × Bool × Unit) := r_i_PartsOf_4 n (s0, s10, s11, ()) ()
theorem Q_i_PartsOf_eq (n : Nat) (a0 : ByteArray) : Q_i_PartsOf n a0 =
    bif decide ((600 : Int) < (↑a0.size : Int)) then some ([], false, PUnit.unit)
 else R_i_PartsOf_4 n a0 (↑a0.size : Int) (0 : Int) := by kernel_rfl
theorem R_i_PartsOf_4_eq (n : Nat) (s0 : ByteArray) (s10 : Int) (s11 : Int) : R_i_PartsOf_4 (n + 1) s0 s10 s11 =
    bif decide (s11 < s10) then
 if (0 : Int) ≤ s11 then
 (nth s0.data.toList s11.toNat).bind fun y =>
 bif decide ((↑y.toNat : Int) < (32 : Int)) then some ([], false, PUnit.unit)
 else
 if (0 : Int) ≤ s11 then
 (nth s0.data.toList s11.toNat).bind fun y =>
 bif decide ((126 : Int) < (↑y.toNat : Int)) then some ([], false, PUnit.unit)
 else R_i_PartsOf_4 n s0 s10 (IntKind.i64.wrap (s11 + (1 : Int)))
 else none
 else none
 else
 (Q_x_strings_Fields big s0).bind fun y =>
 bif decide ((10 : Int) < (↑(List.length y) : Int)) then some ([], false, PUnit.unit)
 else some (y, true, PUnit.unit) := by kernel_rfl

end Go.Sx.Tryz

set_option maxRecDepth 100000
namespace Go.Sx.Tryz
open Go Go.Sx Go.Proofs

noncomputable def l_s_PartsOf : List (Nat × Con) := []
theorem l_s_PartsOf_ok : ∀ q ∈ l_s_PartsOf, ConOk Tryz.prog q.1 q.2 := Tryz.cons_nil
abbrev k_s_PartsOf_6 : List Keep × List BK := ([.ro tString, .drop, .drop, .drop, .own tString, .ro tInt64, .ro tInt64, .drop, .drop, .drop, .drop, .drop, .drop, .drop, .drop, .drop, .drop, .drop, .drop, .drop, .drop, .drop, .drop, .drop, .drop, .drop, .drop, .drop, .drop, .drop, .drop, .drop, .drop, .drop, .drop, .drop, .drop, .drop, .drop, .drop, .drop, .drop, .drop, .drop, .drop, .drop, .drop, .drop, .drop, .drop, .drop, .drop, .drop, .drop, .drop, .drop, .drop, .drop, .drop, .drop, .drop, .drop], [])
def kp_s_PartsOf : KP := [(6, k_s_PartsOf_6)]
noncomputable def q_s_PartsOf (n : Nat) (x : Args [tString]) := evX (false, false, []) l_s_PartsOf kp_s_PartsOf [some uSlString, none] Tryz.f10 (shT [(true, uSlString), (false, tBool)]) n (encA [tString] x)
noncomputable def c_s_PartsOf : Con := roS [tString] true (shT [(true, uSlString), (false, tBool)]) (q_s_PartsOf big)
theorem c_s_PartsOf_ok : ConOk Tryz.prog 10 c_s_PartsOf := roS_ok ⟨Tryz.f10, by kernel_rfl, rfl, by decide⟩ fun _ _ h => evX_ok l_s_PartsOf_ok (f := Tryz.f10) (by kernel_rfl) rfl (by kernel_rfl) (by kernel_rfl) big h
noncomputable def Q_s_PartsOf (n : Nat) (a0 : ByteArray) : Option (DSlString × Bool × Unit) := q_s_PartsOf n (a0, ())
noncomputable def r_s_PartsOf_6 (n : Nat) (x : KD k_s_PartsOf_6.1) (y : BD k_s_PartsOf_6.2) := rounds (env (false, false, []) l_s_PartsOf) kp_s_PartsOf (body Tryz.f10) (finX (false, false, []) l_s_PartsOf [some uSlString, none] Tryz.f10 (shT [(true, uSlString), (false, tBool)]) [.val tString (zeroD tString)]) n 6 k_s_PartsOf_6 x y
noncomputable def R_s_PartsOf_6 (n : Nat) (s0 : ByteArray) (s4 : (List ByteArray)) (s5 : Int) (s6 : Int) : Option (DSlString × Bool × Unit) := r_s_PartsOf_6 n (s0, s4, s5, s6, ()) ()
theorem Q_s_PartsOf_eq (n : Nat) (a0 : ByteArray) : Q_s_PartsOf n a0 =
    bif decide ((600 : Int) < (↑a0.size : Int)) then some ([], false, PUnit.unit)
 else R_s_PartsOf_6 n a0 [] (0 : Int) (0 : Int) := by kernel_rfl
theorem R_s_PartsOf_6_eq (n : Nat) (s0 : ByteArray) (s4 : (List ByteArray)) (s5 : Int) (s6 : Int) : R_s_PartsOf_6 (n + 1) s0 s4 s5 s6 =
    bif decide (s6 ≤ (↑s0.size : Int)) then
 bif decide (s6 < (↑s0.size : Int)) then
 if (0 : Int) ≤ s6 then
 (nth s0.data.toList s6.toNat).bind fun y =>
 bif decide ((↑y.toNat : Int) < (32 : Int)) then some ([], false, PUnit.unit)
 else
 if (0 : Int) ≤ s6 then
 (nth s0.data.toList s6.toNat).bind fun y =>
 bif decide ((126 : Int) < (↑y.toNat : Int)) then some ([], false, PUnit.unit)
 else
 bif decide (s6 < (↑s0.size : Int)) then
 if (0 : Int) ≤ s6 then
 (nth s0.data.toList s6.toNat).bind fun y =>
 bif !decide ((↑y.toNat : Int) = (32 : Int)) then
 R_s_PartsOf_6 n s0 s4 s5 (IntKind.i64.wrap (s6 + (1 : Int)))
 else
 bif decide (s5 < s6) then
 if (0 : Int) ≤ s6 then
 if s6 ≤ (↑s0.size : Int) then
 if (0 : Int) ≤ s5 then
 if s5 ≤ s6 then
 if s4.length + [s0.extract s5.toNat s6.toNat].length ≤ lim then
 R_s_PartsOf_6 n s0 (s4.append [s0.extract s5.toNat s6.toNat])
 (IntKind.i64.wrap (s6 + (1 : Int))) (IntKind.i64.wrap (s6 + (1 : Int)))
 else none
 else none
 else none
 else none
 else none
 else
 R_s_PartsOf_6 n s0 s4 (IntKind.i64.wrap (s6 + (1 : Int)))
 (IntKind.i64.wrap (s6 + (1 : Int)))
 else none
 else
 bif decide (s5 < s6) then
 if (0 : Int) ≤ s6 then
 if s6 ≤ (↑s0.size : Int) then
 if (0 : Int) ≤ s5 then
 if s5 ≤ s6 then
 if s4.length + [s0.extract s5.toNat s6.toNat].length ≤ lim then
 R_s_PartsOf_6 n s0 (s4.append [s0.extract s5.toNat s6.toNat])
 (IntKind.i64.wrap (s6 + (1 : Int))) (IntKind.i64.wrap (s6 + (1 : Int)))
 else none
 else none
 else none
 else none
 else none
 else R_s_PartsOf_6 n s0 s4 (IntKind.i64.wrap (s6 + (1 : Int))) (IntKind.i64.wrap (s6 + (1 : Int)))
 else none
 else none
 else
 bif decide (s6 < (↑s0.size : Int)) then
 if (0 : Int) ≤ s6 then
 (nth s0.data.toList s6.toNat).bind fun y =>
 bif !decide ((↑y.toNat : Int) = (32 : Int)) then
 R_s_PartsOf_6 n s0 s4 s5 (IntKind.i64.wrap (s6 + (1 : Int)))
 else
 bif decide (s5 < s6) then
 if (0 : Int) ≤ s6 then
 if s6 ≤ (↑s0.size : Int) then
 if (0 : Int) ≤ s5 then
 if s5 ≤ s6 then
 if s4.length + [s0.extract s5.toNat s6.toNat].length ≤ lim then
 R_s_PartsOf_6 n s0 (s4.append [s0.extract s5.toNat s6.toNat])
 (IntKind.i64.wrap (s6 + (1 : Int))) (IntKind.i64.wrap (s6 + (1 : Int)))
 else none
 else none
 else none
 else none
 else none
 else R_s_PartsOf_6 n s0 s4 (IntKind.i64.wrap (s6 + (1 : Int))) (IntKind.i64.wrap (s6 + (1 : Int)))
 else none
 else
 bif decide (s5 < s6) then
 if (0 : Int) ≤ s6 then
 if s6 ≤ (↑s0.size : Int) then
 if (0 : Int) ≤ s5 then
 if s5 ≤ s6 then
 if s4.length + [s0.extract s5.toNat s6.toNat].length ≤ lim then
 R_s_PartsOf_6 n s0 (s4.append [s0.extract s5.toNat s6.toNat]) (IntKind.i64.wrap (s6 + (1 : Int)))
 (IntKind.i64.wrap (s6 + (1 : Int)))
 else none
 else none
 else none
 else none
 else none
 else R_s_PartsOf_6 n s0 s4 (IntKind.i64.wrap (s6 + (1 : Int))) (IntKind.i64.wrap (s6 + (1 : Int)))
 else
 bif decide ((10 : Int) < (↑s4.length : Int)) then some ([], false, PUnit.unit)
 else some (s4, true, PUnit.unit) := by kernel_rfl

end Go.Sx.Tryz

set_option maxRecDepth 100000
namespace Go.Sx.Tryz
open Go Go.Sx Go.Proofs

noncomputable def l_i_in : List (Nat × Con) := []
theorem l_i_in_ok : ∀ q ∈ l_i_in, ConOk Tryz.prog q.1 q.2 := Tryz.cons_nil
def kp_i_in : KP := []
noncomputable def q_i_in (n : Nat) (x : Args [tInt, tInt, tInt]) := evX (false, false, []) l_i_in kp_i_in [none] Tryz.f48 (shV tBool) n (encA [tInt, tInt, tInt] x)
noncomputable def c_i_in : Con := roS [tInt, tInt, tInt] true (shV tBool) (q_i_in big)
theorem c_i_in_ok : ConOk Tryz.prog 48 c_i_in := roS_ok ⟨Tryz.f48, by kernel_rfl, rfl, by decide⟩ fun _ _ h => evX_ok l_i_in_ok (f := Tryz.f48) (by kernel_rfl) rfl (by kernel_rfl) (by kernel_rfl) big h
noncomputable def Q_i_in (n : Nat) (a0 : Int) (a1 : Int) (a2 : Int) : Option Bool := q_i_in n (a0, a1, a2, ())
theorem Q_i_in_eq (n : Nat) (a0 : Int) (a1 : Int) (a2 : Int) : Q_i_in n a0 a1 a2 =
    bif decide (a1 ≤ a0) then some (decide (a0 ≤ a2)) else some false := by kernel_rfl

end Go.Sx.Tryz

set_option maxRecDepth 100000
namespace Go.Sx.Tryz
open Go Go.Sx Go.Proofs

noncomputable def l_i_CountOf : List (Nat × Con) := []
theorem l_i_CountOf_ok : ∀ q ∈ l_i_CountOf, ConOk Tryz.prog q.1 q.2 := Tryz.cons_nil
abbrev k_i_CountOf_3 : List Keep × List BK := ([.ro tInt64, .drop, .drop, .ro tInt64, .drop, .ro tInt64, .drop, .drop, .drop, .drop, .drop, .drop, .drop, .drop, .drop, .drop, .drop, .drop], [])
def kp_i_CountOf : KP := [(3, k_i_CountOf_3)]
noncomputable def q_i_CountOf (n : Nat) (x : Args [tInt]) := evX (false, false, []) l_i_CountOf kp_i_CountOf [none] Tryz.f60 (shV tInt) n (encA [tInt] x)
noncomputable def c_i_CountOf : Con := roS [tInt] true (shV tInt) (q_i_CountOf big)
theorem c_i_CountOf_ok : ConOk Tryz.prog 60 c_i_CountOf := roS_ok ⟨Tryz.f60, by kernel_rfl, rfl, by decide⟩ fun _ _ h => evX_ok l_i_CountOf_ok (f := Tryz.f60) (by kernel_rfl) rfl (by kernel_rfl) (by kernel_rfl) big h
noncomputable def Q_i_CountOf (n : Nat) (a0 : Int) : Option Int := q_i_CountOf n (a0, ())
noncomputable def r_i_CountOf_3 (n : Nat) (x : KD k_i_CountOf_3.1) (y : BD k_i_CountOf_3.2) := rounds (env (false, false, []) l_i_CountOf) kp_i_CountOf (body Tryz.f60) (finX (false, false, []) l_i_CountOf [none] Tryz.f60 (shV tInt) [.val tInt (zeroD tInt)]) n 3 k_i_CountOf_3 x y
noncomputable def R_i_CountOf_3 (n : Nat) (s0 : Int) (s3 : Int) (s5 : Int) : Option Int := r_i_CountOf_3 n (s0, s3, s5, ()) ()
theorem Q_i_CountOf_eq (n : Nat) (a0 : Int) : Q_i_CountOf n a0 =
    R_i_CountOf_3 n a0 (0 : Int) (0 : Int) := by kernel_rfl
theorem R_i_CountOf_3_eq (n : Nat) (s0 : Int) (s3 : Int) (s5 : Int) : R_i_CountOf_3 (n + 1) s0 s3 s5 =
    bif decide (s5 < (7 : Int)) then
 bif decide ((0 : Int) < s0) then
 if s5 < (0 : Int) then none
 else
 R_i_CountOf_3 n s0
 (IntKind.i64.wrap
 (s3 +
 IntKind.i64.wrap
 (↑(BitVec.ofInt IntKind.i64.bits (s0.fdiv ((2 : Int) ^ min s5.toNat IntKind.i64.bits)) &&&
 BitVec.ofInt IntKind.i64.bits (1 : Int)).toNat :
 Int)))
 (IntKind.i64.wrap (s5 + (1 : Int)))
 else R_i_CountOf_3 n s0 s3 (IntKind.i64.wrap (s5 + (1 : Int)))
 else some s3 := by kernel_rfl

end Go.Sx.Tryz

set_option maxRecDepth 100000
namespace Go.Sx.Tryz
open Go Go.Sx Go.Proofs

noncomputable def l_i_Faults : List (Nat × Con) := []
theorem l_i_Faults_ok : ∀ q ∈ l_i_Faults, ConOk Tryz.prog q.1 q.2 := Tryz.cons_nil
def kp_i_Faults : KP := []
noncomputable def q_i_Faults (n : Nat) (x : Args [tInt]) := evX (false, false, []) l_i_Faults kp_i_Faults [none] Tryz.f61 (shV tInt) n (encA [tInt] x)
noncomputable def c_i_Faults : Con := roS [tInt] true (shV tInt) (q_i_Faults big)
theorem c_i_Faults_ok : ConOk Tryz.prog 61 c_i_Faults := roS_ok ⟨Tryz.f61, by kernel_rfl, rfl, by decide⟩ fun _ _ h => evX_ok l_i_Faults_ok (f := Tryz.f61) (by kernel_rfl) rfl (by kernel_rfl) (by kernel_rfl) big h
noncomputable def Q_i_Faults (n : Nat) (a0 : Int) : Option Int := q_i_Faults n (a0, ())
theorem Q_i_Faults_eq (n : Nat) (a0 : Int) : Q_i_Faults n a0 =
    bif decide (a0 < (1 : Int)) then some (0 : Int)
 else some (IntKind.i64.wrap ((IntKind.i64.wrap (a0 - (1 : Int))).tdiv (3 : Int))) := by kernel_rfl

end Go.Sx.Tryz

set_option maxRecDepth 100000
namespace Go.Sx.Tryz
open Go Go.Sx Go.Proofs

noncomputable def l_i_FirstBlock : List (Nat × Con) := []
theorem l_i_FirstBlock_ok : ∀ q ∈ l_i_FirstBlock, ConOk Tryz.prog q.1 q.2 := Tryz.cons_nil
def kp_i_FirstBlock : KP := []
noncomputable def q_i_FirstBlock (n : Nat) (x : Args []) := evX (false, false, []) l_i_FirstBlock kp_i_FirstBlock [some uIBlock] Tryz.f76 (shF uIBlock) n (encA [] x)
noncomputable def c_i_FirstBlock : Con := roS [] true (shF uIBlock) (q_i_FirstBlock big)
theorem c_i_FirstBlock_ok : ConOk Tryz.prog 76 c_i_FirstBlock := roS_ok ⟨Tryz.f76, by kernel_rfl, rfl, by decide⟩ fun _ _ h => evX_ok l_i_FirstBlock_ok (f := Tryz.f76) (by kernel_rfl) rfl (by kernel_rfl) (by kernel_rfl) big h
noncomputable def Q_i_FirstBlock (n : Nat)  : Option DIBlock := q_i_FirstBlock n ()
theorem Q_i_FirstBlock_eq (n : Nat)  : Q_i_FirstBlock n  =
    some ((-1 : Int), (0 : Int), [], ((0 : Int), (0 : Int), (0 : Int), (0 : Int), PUnit.unit), PUnit.unit) := by kernel_rfl

end Go.Sx.Tryz

set_option maxRecDepth 100000
namespace Go.Sx.Tryz
open Go Go.Sx Go.Proofs

noncomputable def l_i_TreeNew : List (Nat × Con) := [(76, c_i_FirstBlock)]
theorem l_i_TreeNew_ok : ∀ q ∈ l_i_TreeNew, ConOk Tryz.prog q.1 q.2 := Tryz.cons_cons c_i_FirstBlock_ok (Tryz.cons_nil)
def kp_i_TreeNew : KP := []
noncomputable def q_i_TreeNew (n : Nat) (x : Args []) := evX (true, false, []) l_i_TreeNew kp_i_TreeNew [some uSlIBlock] Tryz.f62 (shF uSlIBlock) n (encA [] x)
noncomputable def c_i_TreeNew : Con := roS [] true (shF uSlIBlock) (q_i_TreeNew big)
theorem c_i_TreeNew_ok : ConOk Tryz.prog 62 c_i_TreeNew := roS_ok ⟨Tryz.f62, by kernel_rfl, rfl, by decide⟩ fun _ _ h => evX_ok l_i_TreeNew_ok (f := Tryz.f62) (by kernel_rfl) rfl (by kernel_rfl) (by kernel_rfl) big h
noncomputable def Q_i_TreeNew (n : Nat)  : Option DSlIBlock := q_i_TreeNew n ()
theorem Q_i_TreeNew_eq (n : Nat)  : Q_i_TreeNew n  =
    some [((-1 : Int), (0 : Int), [], ((0 : Int), (0 : Int), (0 : Int), (0 : Int), PUnit.unit), PUnit.unit)] := by kernel_rfl

end Go.Sx.Tryz

set_option maxRecDepth 100000
namespace Go.Sx.Tryz
open Go Go.Sx Go.Proofs

noncomputable def l_i_PeerNew : List (Nat × Con) := []
theorem l_i_PeerNew_ok : ∀ q ∈ l_i_PeerNew, ConOk Tryz.prog q.1 q.2 := Tryz.cons_nil
def kp_i_PeerNew : KP := []
noncomputable def q_i_PeerNew (n : Nat) (x : Args [tInt]) := evX (false, false, []) l_i_PeerNew kp_i_PeerNew [some uIPeer] Tryz.f63 (shF uIPeer) n (encA [tInt] x)
noncomputable def c_i_PeerNew : Con := roS [tInt] true (shF uIPeer) (q_i_PeerNew big)
theorem c_i_PeerNew_ok : ConOk Tryz.prog 63 c_i_PeerNew := roS_ok ⟨Tryz.f63, by kernel_rfl, rfl, by decide⟩ fun _ _ h => evX_ok l_i_PeerNew_ok (f := Tryz.f63) (by kernel_rfl) rfl (by kernel_rfl) (by kernel_rfl) big h
noncomputable def Q_i_PeerNew (n : Nat) (a0 : Int) : Option DIPeer := q_i_PeerNew n (a0, ())
theorem Q_i_PeerNew_eq (n : Nat) (a0 : Int) : Q_i_PeerNew n a0 =
    some
 (a0, (1 : Int), ((0 : Int), (0 : Int), (0 : Int), (0 : Int), PUnit.unit),
 ((0 : Int), (0 : Int), (0 : Int), (0 : Int), PUnit.unit),
 ((0 : Int), (0 : Int), (0 : Int), (0 : Int), PUnit.unit), [], [], [], [], [], [], (0 : Int), PUnit.unit) := by kernel_rfl

end Go.Sx.Tryz

set_option maxRecDepth 100000
namespace Go.Sx.Tryz
open Go Go.Sx Go.Proofs

noncomputable def l_i_ClusterNew : List (Nat × Con) := [(48, c_i_in), (60, c_i_CountOf), (61, c_i_Faults), (62, c_i_TreeNew), (63, c_i_PeerNew)]
theorem l_i_ClusterNew_ok : ∀ q ∈ l_i_ClusterNew, ConOk Tryz.prog q.1 q.2 := Tryz.cons_cons c_i_in_ok (Tryz.cons_cons c_i_CountOf_ok (Tryz.cons_cons c_i_Faults_ok (Tryz.cons_cons c_i_TreeNew_ok (Tryz.cons_cons c_i_PeerNew_ok (Tryz.cons_nil)))))
abbrev k_i_ClusterNew_5 : List Keep × List BK := ([.drop, .drop, .drop, .drop, .drop, .drop, .is (.ptr 0 0), .drop, .is (.ptr 2 0), .drop, .drop, .drop, .drop, .drop, .drop, .drop, .drop, .drop, .drop, .drop, .drop, .drop, .drop, .drop, .drop, .drop, .drop, .drop, .drop, .drop, .drop, .drop, .drop, .drop, .ro tInt64, .ro tInt64, .drop, .drop, .drop, .drop, .drop, .drop, .drop, .drop, .drop, .drop, .drop], [.vars [.ro tInt64, .ro tBool, .ro tInt64, .own uIBlock, .own uIPeer, .own tILetter, .own tIVote, .own tICmd], .drop, .vars [.ro tInt64, .ro tBool, .ro tInt64, .own uXstruct_Parent_int_View_int_Cmds_impl_Cmd, .own uIPeer, .own tILetter, .own tIVote, .own tICmd]])
def kp_i_ClusterNew : KP := [(5, k_i_ClusterNew_5)]
noncomputable def q_i_ClusterNew (n : Nat) (x : Args [tInt, tBool, tInt]) := evX (true, false, [8, 38]) l_i_ClusterNew kp_i_ClusterNew [some uICluster, none] Tryz.f45 (shT [(true, uICluster), (false, tBool)]) n (encA [tInt, tBool, tInt] x)
noncomputable def c_i_ClusterNew : Con := roS [tInt, tBool, tInt] true (shT [(true, uICluster), (false, tBool)]) (q_i_ClusterNew big)
theorem c_i_ClusterNew_ok : ConOk Tryz.prog 45 c_i_ClusterNew := roS_ok ⟨Tryz.f45, by kernel_rfl, rfl, by decide⟩ fun _ _ h => evX_ok l_i_ClusterNew_ok (f := Tryz.f45) (by kernel_rfl) rfl (by kernel_rfl) (by kernel_rfl) big h
noncomputable def Q_i_ClusterNew (n : Nat) (a0 : Int) (a1 : Bool) (a2 : Int) : Option (DICluster × Bool × Unit) := q_i_ClusterNew n (a0, a1, a2, ())
noncomputable def r_i_ClusterNew_5 (n : Nat) (x : KD k_i_ClusterNew_5.1) (y : BD k_i_ClusterNew_5.2) := rounds (env (true, false, [8, 38]) l_i_ClusterNew) kp_i_ClusterNew (body Tryz.f45) (finX (true, false, [8, 38]) l_i_ClusterNew [some uICluster, none] Tryz.f45 (shT [(true, uICluster), (false, tBool)]) [.val tInt (zeroD tInt), .val tBool (zeroD tBool), .val tInt (zeroD tInt)]) n 5 k_i_ClusterNew_5 x y
noncomputable def R_i_ClusterNew_5 (n : Nat) (s34 : Int) (s35 : Int) (b0_0 : Int) (b0_1 : Bool) (b0_2 : Int) (b0_3 : (List DIBlock)) (b0_4 : (List DIPeer)) (b0_5 : (List DILetter)) (b0_6 : (List DIVote)) (b0_7 : (List DICmd)) (b2_0 : Int) (b2_1 : Bool) (b2_2 : Int) (b2_3 : (List DXstruct_Parent_int_View_int_Cmds_impl_Cmd)) (b2_4 : (List DIPeer)) (b2_5 : (List DILetter)) (b2_6 : (List DIVote)) (b2_7 : (List DICmd)) : Option (DICluster × Bool × Unit) := r_i_ClusterNew_5 n (s34, s35, ()) ((b0_0, b0_1, b0_2, b0_3, b0_4, b0_5, b0_6, b0_7, ()), (b2_0, b2_1, b2_2, b2_3, b2_4, b2_5, b2_6, b2_7, ()), ())
theorem Q_i_ClusterNew_eq (n : Nat) (a0 : Int) (a1 : Bool) (a2 : Int) : Q_i_ClusterNew n a0 a1 a2 =
    (Q_i_in big a0 (1 : Int) (7 : Int)).bind fun y =>
 bif !y then some (((0 : Int), false, (0 : Int), [], [], [], [], [], PUnit.unit), false, PUnit.unit)
 else
 if a0 < (0 : Int) then none
 else
 (Q_i_in big a2 (0 : Int)
 (IntKind.i64.wrap
 (IntKind.i64.wrap ((1 : Int) * (2 : Int) ^ min a0.toNat IntKind.i64.bits) - (1 : Int)))).bind
 fun y =>
 bif !y then some (((0 : Int), false, (0 : Int), [], [], [], [], [], PUnit.unit), false, PUnit.unit)
 else
 (Q_i_CountOf big a2).bind fun y =>
 (Q_i_Faults big a0).bind fun y_1 =>
 bif decide (y_1 < y) then
 some (((0 : Int), false, (0 : Int), [], [], [], [], [], PUnit.unit), false, PUnit.unit)
 else
 R_i_ClusterNew_5 n a0 (0 : Int) (0 : Int) false (0 : Int) [] [] [] [] [] a0 a1 a2
 [((-1 : Int), (0 : Int), [], ((0 : Int), (0 : Int), (0 : Int), (0 : Int), PUnit.unit), PUnit.unit)]
 [] [] [] [] := by kernel_rfl
theorem R_i_ClusterNew_5_eq (n : Nat) (s34 : Int) (s35 : Int) (b0_0 : Int) (b0_1 : Bool) (b0_2 : Int) (b0_3 : (List DIBlock)) (b0_4 : (List DIPeer)) (b0_5 : (List DILetter)) (b0_6 : (List DIVote)) (b0_7 : (List DICmd)) (b2_0 : Int) (b2_1 : Bool) (b2_2 : Int) (b2_3 : (List DXstruct_Parent_int_View_int_Cmds_impl_Cmd)) (b2_4 : (List DIPeer)) (b2_5 : (List DILetter)) (b2_6 : (List DIVote)) (b2_7 : (List DICmd)) : R_i_ClusterNew_5 (n + 1) s34 s35 b0_0 b0_1 b0_2 b0_3 b0_4 b0_5 b0_6 b0_7 b2_0 b2_1 b2_2 b2_3 b2_4 b2_5 b2_6 b2_7 =
    bif decide (s35 < s34) then
 if b2_4.length + (1 : Nat) ≤ lim then
 R_i_ClusterNew_5 n s34 (IntKind.i64.wrap (s35 + (1 : Int))) b0_0 b0_1 b0_2 b0_3 b0_4 b0_5 b0_6 b0_7 b2_0 b2_1 b2_2
 b2_3
 (b2_4.append
 [(s35, (1 : Int), ((0 : Int), (0 : Int), (0 : Int), (0 : Int), ()),
 ((0 : Int), (0 : Int), (0 : Int), (0 : Int), ()), ((0 : Int), (0 : Int), (0 : Int), (0 : Int), ()), [],
 [], [], [], [], [], (0 : Int), ())])
 b2_5 b2_6 b2_7
 else none
 else some ((b2_0, b2_1, b2_2, b2_3, b2_4, b2_5, b2_6, b2_7, PUnit.unit), true, PUnit.unit) := by kernel_rfl

end Go.Sx.Tryz

set_option maxRecDepth 100000
namespace Go.Sx.Tryz
open Go Go.Sx Go.Proofs

noncomputable def l_s_l01In : List (Nat × Con) := []
theorem l_s_l01In_ok : ∀ q ∈ l_s_l01In, ConOk Tryz.prog q.1 q.2 := Tryz.cons_nil
def kp_s_l01In : KP := []
noncomputable def q_s_l01In (n : Nat) (x : Args [tInt, tInt, tInt]) := evX (false, false, []) l_s_l01In kp_s_l01In [none] Tryz.f24 (shV tBool) n (encA [tInt, tInt, tInt] x)
noncomputable def c_s_l01In : Con := roS [tInt, tInt, tInt] true (shV tBool) (q_s_l01In big)
theorem c_s_l01In_ok : ConOk Tryz.prog 24 c_s_l01In := roS_ok ⟨Tryz.f24, by kernel_rfl, rfl, by decide⟩ fun _ _ h => evX_ok l_s_l01In_ok (f := Tryz.f24) (by kernel_rfl) rfl (by kernel_rfl) (by kernel_rfl) big h
noncomputable def Q_s_l01In (n : Nat) (a0 : Int) (a1 : Int) (a2 : Int) : Option Bool := q_s_l01In n (a0, a1, a2, ())
theorem Q_s_l01In_eq (n : Nat) (a0 : Int) (a1 : Int) (a2 : Int) : Q_s_l01In n a0 a1 a2 =
    bif decide (a1 ≤ a0) then some (decide (a0 ≤ a2)) else some false := by kernel_rfl

end Go.Sx.Tryz

set_option maxRecDepth 100000
namespace Go.Sx.Tryz
open Go Go.Sx Go.Proofs

noncomputable def l_s_CountOf : List (Nat × Con) := []
theorem l_s_CountOf_ok : ∀ q ∈ l_s_CountOf, ConOk Tryz.prog q.1 q.2 := Tryz.cons_nil
abbrev k_s_CountOf_3 : List Keep × List BK := ([.ro tInt64, .drop, .drop, .ro tInt64, .ro tInt64, .drop, .drop, .drop, .drop, .drop, .drop, .drop, .drop, .drop, .drop, .drop, .drop, .drop, .drop, .drop, .drop], [])
def kp_s_CountOf : KP := [(3, k_s_CountOf_3)]
noncomputable def q_s_CountOf (n : Nat) (x : Args [tInt]) := evX (false, false, []) l_s_CountOf kp_s_CountOf [none] Tryz.f34 (shV tInt) n (encA [tInt] x)
noncomputable def c_s_CountOf : Con := roS [tInt] true (shV tInt) (q_s_CountOf big)
theorem c_s_CountOf_ok : ConOk Tryz.prog 34 c_s_CountOf := roS_ok ⟨Tryz.f34, by kernel_rfl, rfl, by decide⟩ fun _ _ h => evX_ok l_s_CountOf_ok (f := Tryz.f34) (by kernel_rfl) rfl (by kernel_rfl) (by kernel_rfl) big h
noncomputable def Q_s_CountOf (n : Nat) (a0 : Int) : Option Int := q_s_CountOf n (a0, ())
noncomputable def r_s_CountOf_3 (n : Nat) (x : KD k_s_CountOf_3.1) (y : BD k_s_CountOf_3.2) := rounds (env (false, false, []) l_s_CountOf) kp_s_CountOf (body Tryz.f34) (finX (false, false, []) l_s_CountOf [none] Tryz.f34 (shV tInt) [.val tInt (zeroD tInt)]) n 3 k_s_CountOf_3 x y
noncomputable def R_s_CountOf_3 (n : Nat) (s0 : Int) (s3 : Int) (s4 : Int) : Option Int := r_s_CountOf_3 n (s0, s3, s4, ()) ()
theorem Q_s_CountOf_eq (n : Nat) (a0 : Int) : Q_s_CountOf n a0 =
    R_s_CountOf_3 n a0 (0 : Int) (0 : Int) := by kernel_rfl
theorem R_s_CountOf_3_eq (n : Nat) (s0 : Int) (s3 : Int) (s4 : Int) : R_s_CountOf_3 (n + 1) s0 s3 s4 =
    bif decide (s4 < (7 : Int)) then
 bif decide ((0 : Int) ≤ s0) then
 if IntKind.u64.wrap s4 < (0 : Int) then none
 else
 R_s_CountOf_3 n s0
 (IntKind.i64.wrap
 (s3 + (s0.fdiv ((2 : Int) ^ min (IntKind.u64.wrap s4).toNat IntKind.i64.bits)).tmod (2 : Int)))
 (IntKind.i64.wrap (s4 + (1 : Int)))
 else some s3
 else some s3 := by kernel_rfl

end Go.Sx.Tryz

set_option maxRecDepth 100000
namespace Go.Sx.Tryz
open Go Go.Sx Go.Proofs

noncomputable def l_s_Faults : List (Nat × Con) := []
theorem l_s_Faults_ok : ∀ q ∈ l_s_Faults, ConOk Tryz.prog q.1 q.2 := Tryz.cons_nil
def kp_s_Faults : KP := []
noncomputable def q_s_Faults (n : Nat) (x : Args [tInt]) := evX (false, false, []) l_s_Faults kp_s_Faults [none] Tryz.f35 (shV tInt) n (encA [tInt] x)
noncomputable def c_s_Faults : Con := roS [tInt] true (shV tInt) (q_s_Faults big)
theorem c_s_Faults_ok : ConOk Tryz.prog 35 c_s_Faults := roS_ok ⟨Tryz.f35, by kernel_rfl, rfl, by decide⟩ fun _ _ h => evX_ok l_s_Faults_ok (f := Tryz.f35) (by kernel_rfl) rfl (by kernel_rfl) (by kernel_rfl) big h
noncomputable def Q_s_Faults (n : Nat) (a0 : Int) : Option Int := q_s_Faults n (a0, ())
theorem Q_s_Faults_eq (n : Nat) (a0 : Int) : Q_s_Faults n a0 =
    bif decide (a0 < (1 : Int)) then some (0 : Int)
 else some (IntKind.i64.wrap ((IntKind.i64.wrap (a0 - (1 : Int))).tdiv (3 : Int))) := by kernel_rfl

end Go.Sx.Tryz

set_option maxRecDepth 100000
namespace Go.Sx.Tryz
open Go Go.Sx Go.Proofs

noncomputable def l_s_FirstBlock : List (Nat × Con) := []
theorem l_s_FirstBlock_ok : ∀ q ∈ l_s_FirstBlock, ConOk Tryz.prog q.1 q.2 := Tryz.cons_nil
def kp_s_FirstBlock : KP := []
noncomputable def q_s_FirstBlock (n : Nat) (x : Args []) := evX (false, false, []) l_s_FirstBlock kp_s_FirstBlock [some uIBlock] Tryz.f51 (shF uIBlock) n (encA [] x)
noncomputable def c_s_FirstBlock : Con := roS [] true (shF uIBlock) (q_s_FirstBlock big)
theorem c_s_FirstBlock_ok : ConOk Tryz.prog 51 c_s_FirstBlock := roS_ok ⟨Tryz.f51, by kernel_rfl, rfl, by decide⟩ fun _ _ h => evX_ok l_s_FirstBlock_ok (f := Tryz.f51) (by kernel_rfl) rfl (by kernel_rfl) (by kernel_rfl) big h
noncomputable def Q_s_FirstBlock (n : Nat)  : Option DIBlock := q_s_FirstBlock n ()
theorem Q_s_FirstBlock_eq (n : Nat)  : Q_s_FirstBlock n  =
    some ((-1 : Int), (0 : Int), [], ((0 : Int), (0 : Int), (0 : Int), (0 : Int), PUnit.unit), PUnit.unit) := by kernel_rfl

end Go.Sx.Tryz

set_option maxRecDepth 100000
namespace Go.Sx.Tryz
open Go Go.Sx Go.Proofs

noncomputable def l_s_TreeNew : List (Nat × Con) := [(51, c_s_FirstBlock)]
theorem l_s_TreeNew_ok : ∀ q ∈ l_s_TreeNew, ConOk Tryz.prog q.1 q.2 := Tryz.cons_cons c_s_FirstBlock_ok (Tryz.cons_nil)
def kp_s_TreeNew : KP := []
noncomputable def q_s_TreeNew (n : Nat) (x : Args []) := evX (true, false, []) l_s_TreeNew kp_s_TreeNew [some uSlIBlock] Tryz.f36 (shF uSlIBlock) n (encA [] x)
noncomputable def c_s_TreeNew : Con := roS [] true (shF uSlIBlock) (q_s_TreeNew big)
theorem c_s_TreeNew_ok : ConOk Tryz.prog 36 c_s_TreeNew := roS_ok ⟨Tryz.f36, by kernel_rfl, rfl, by decide⟩ fun _ _ h => evX_ok l_s_TreeNew_ok (f := Tryz.f36) (by kernel_rfl) rfl (by kernel_rfl) (by kernel_rfl) big h
noncomputable def Q_s_TreeNew (n : Nat)  : Option DSlIBlock := q_s_TreeNew n ()
theorem Q_s_TreeNew_eq (n : Nat)  : Q_s_TreeNew n  =
    some [((-1 : Int), (0 : Int), [], ((0 : Int), (0 : Int), (0 : Int), (0 : Int), PUnit.unit), PUnit.unit)] := by kernel_rfl

end Go.Sx.Tryz

set_option maxRecDepth 100000
namespace Go.Sx.Tryz
open Go Go.Sx Go.Proofs

noncomputable def l_s_PeerNew : List (Nat × Con) := []
theorem l_s_PeerNew_ok : ∀ q ∈ l_s_PeerNew, ConOk Tryz.prog q.1 q.2 := Tryz.cons_nil
def kp_s_PeerNew : KP := []
noncomputable def q_s_PeerNew (n : Nat) (x : Args [tInt]) := evX (false, false, []) l_s_PeerNew kp_s_PeerNew [some uIPeer] Tryz.f37 (shF uIPeer) n (encA [tInt] x)
noncomputable def c_s_PeerNew : Con := roS [tInt] true (shF uIPeer) (q_s_PeerNew big)
theorem c_s_PeerNew_ok : ConOk Tryz.prog 37 c_s_PeerNew := roS_ok ⟨Tryz.f37, by kernel_rfl, rfl, by decide⟩ fun _ _ h => evX_ok l_s_PeerNew_ok (f := Tryz.f37) (by kernel_rfl) rfl (by kernel_rfl) (by kernel_rfl) big h
noncomputable def Q_s_PeerNew (n : Nat) (a0 : Int) : Option DIPeer := q_s_PeerNew n (a0, ())
theorem Q_s_PeerNew_eq (n : Nat) (a0 : Int) : Q_s_PeerNew n a0 =
    some
 (a0, (1 : Int), ((0 : Int), (0 : Int), (0 : Int), (0 : Int), PUnit.unit),
 ((0 : Int), (0 : Int), (0 : Int), (0 : Int), PUnit.unit),
 ((0 : Int), (0 : Int), (0 : Int), (0 : Int), PUnit.unit), [], [], [], [], [], [], (0 : Int), PUnit.unit) := by kernel_rfl

end Go.Sx.Tryz

set_option maxRecDepth 100000
namespace Go.Sx.Tryz
open Go Go.Sx Go.Proofs

noncomputable def l_s_ClusterNew : List (Nat × Con) := [(24, c_s_l01In), (34, c_s_CountOf), (35, c_s_Faults), (36, c_s_TreeNew), (37, c_s_PeerNew)]
theorem l_s_ClusterNew_ok : ∀ q ∈ l_s_ClusterNew, ConOk Tryz.prog q.1 q.2 := Tryz.cons_cons c_s_l01In_ok (Tryz.cons_cons c_s_CountOf_ok (Tryz.cons_cons c_s_Faults_ok (Tryz.cons_cons c_s_TreeNew_ok (Tryz.cons_cons c_s_PeerNew_ok (Tryz.cons_nil)))))
abbrev k_s_ClusterNew_5 : List Keep × List BK := ([.ro tInt64, .drop, .drop, .drop, .drop, .drop, .is (.ptr 0 0), .drop, .is (.ptr 2 0), .ro tInt64, .drop, .drop, .drop, .drop, .drop, .drop, .drop, .drop, .drop, .drop, .drop, .drop, .drop, .drop, .drop, .drop, .drop, .drop, .drop, .drop, .drop, .drop, .drop, .drop, .drop, .drop, .drop, .drop, .drop, .drop, .drop, .drop, .drop, .drop, .drop, .drop, .drop, .drop], [.vars [.ro tInt64, .ro tBool, .ro tInt64, .own uIBlock, .own uIPeer, .own tILetter, .own tIVote, .own tICmd], .drop, .vars [.ro tInt64, .ro tBool, .ro tInt64, .own uXstruct_Parent_int_View_int_Cmds_impl_Cmd, .own uIPeer, .own tILetter, .own tIVote, .own tICmd]])
def kp_s_ClusterNew : KP := [(5, k_s_ClusterNew_5)]
noncomputable def q_s_ClusterNew (n : Nat) (x : Args [tInt, tBool, tInt]) := evX (true, false, [8, 40]) l_s_ClusterNew kp_s_ClusterNew [some uICluster, none] Tryz.f20 (shT [(true, uICluster), (false, tBool)]) n (encA [tInt, tBool, tInt] x)
noncomputable def c_s_ClusterNew : Con := roS [tInt, tBool, tInt] true (shT [(true, uICluster), (false, tBool)]) (q_s_ClusterNew big)
theorem c_s_ClusterNew_ok : ConOk Tryz.prog 20 c_s_ClusterNew := roS_ok ⟨Tryz.f20, by kernel_rfl, rfl, by decide⟩ fun _ _ h => evX_ok l_s_ClusterNew_ok (f := Tryz.f20) (by kernel_rfl) rfl (by kernel_rfl) (by kernel_rfl) big h
noncomputable def Q_s_ClusterNew (n : Nat) (a0 : Int) (a1 : Bool) (a2 : Int) : Option (DICluster × Bool × Unit) := q_s_ClusterNew n (a0, a1, a2, ())
noncomputable def r_s_ClusterNew_5 (n : Nat) (x : KD k_s_ClusterNew_5.1) (y : BD k_s_ClusterNew_5.2) := rounds (env (true, false, [8, 40]) l_s_ClusterNew) kp_s_ClusterNew (body Tryz.f20) (finX (true, false, [8, 40]) l_s_ClusterNew [some uICluster, none] Tryz.f20 (shT [(true, uICluster), (false, tBool)]) [.val tInt (zeroD tInt), .val tBool (zeroD tBool), .val tInt (zeroD tInt)]) n 5 k_s_ClusterNew_5 x y
noncomputable def R_s_ClusterNew_5 (n : Nat) (s0 : Int) (s9 : Int) (b0_0 : Int) (b0_1 : Bool) (b0_2 : Int) (b0_3 : (List DIBlock)) (b0_4 : (List DIPeer)) (b0_5 : (List DILetter)) (b0_6 : (List DIVote)) (b0_7 : (List DICmd)) (b2_0 : Int) (b2_1 : Bool) (b2_2 : Int) (b2_3 : (List DXstruct_Parent_int_View_int_Cmds_impl_Cmd)) (b2_4 : (List DIPeer)) (b2_5 : (List DILetter)) (b2_6 : (List DIVote)) (b2_7 : (List DICmd)) : Option (DICluster × Bool × Unit) := r_s_ClusterNew_5 n (s0, s9, ()) ((b0_0, b0_1, b0_2, b0_3, b0_4, b0_5, b0_6, b0_7, ()), (b2_0, b2_1, b2_2, b2_3, b2_4, b2_5, b2_6, b2_7, ()), ())
theorem Q_s_ClusterNew_eq (n : Nat) (a0 : Int) (a1 : Bool) (a2 : Int) : Q_s_ClusterNew n a0 a1 a2 =
    (Q_s_l01In big a0 (1 : Int) (7 : Int)).bind fun y =>
 bif !y then some (((0 : Int), false, (0 : Int), [], [], [], [], [], PUnit.unit), false, PUnit.unit)
 else
 if IntKind.u64.wrap a0 < (0 : Int) then none
 else
 (Q_s_l01In big a2 (0 : Int)
 (IntKind.i64.wrap
 (IntKind.i64.wrap ((1 : Int) * (2 : Int) ^ min (IntKind.u64.wrap a0).toNat IntKind.i64.bits) -
 (1 : Int)))).bind
 fun y =>
 bif !y then some (((0 : Int), false, (0 : Int), [], [], [], [], [], PUnit.unit), false, PUnit.unit)
 else
 (Q_s_CountOf big a2).bind fun y =>
 (Q_s_Faults big a0).bind fun y_1 =>
 bif decide (y_1 < y) then
 some (((0 : Int), false, (0 : Int), [], [], [], [], [], PUnit.unit), false, PUnit.unit)
 else
 R_s_ClusterNew_5 n a0 (0 : Int) (0 : Int) false (0 : Int) [] [] [] [] [] a0 a1 a2
 [((-1 : Int), (0 : Int), [], ((0 : Int), (0 : Int), (0 : Int), (0 : Int), PUnit.unit), PUnit.unit)]
 [] [] [] [] := by kernel_rfl
theorem R_s_ClusterNew_5_eq (n : Nat) (s0 : Int) (s9 : Int) (b0_0 : Int) (b0_1 : Bool) (b0_2 : Int) (b0_3 : (List DIBlock)) (b0_4 : (List DIPeer)) (b0_5 : (List DILetter)) (b0_6 : (List DIVote)) (b0_7 : (List DICmd)) (b2_0 : Int) (b2_1 : Bool) (b2_2 : Int) (b2_3 : (List DXstruct_Parent_int_View_int_Cmds_impl_Cmd)) (b2_4 : (List DIPeer)) (b2_5 : (List DILetter)) (b2_6 : (List DIVote)) (b2_7 : (List DICmd)) : R_s_ClusterNew_5 (n + 1) s0 s9 b0_0 b0_1 b0_2 b0_3 b0_4 b0_5 b0_6 b0_7 b2_0 b2_1 b2_2 b2_3 b2_4 b2_5 b2_6 b2_7 =
    bif decide (s9 < s0) then
 if b2_4.length + (1 : Nat) ≤ lim then
 R_s_ClusterNew_5 n s0 (IntKind.i64.wrap (s9 + (1 : Int))) b0_0 b0_1 b0_2 b0_3 b0_4 b0_5 b0_6 b0_7 b2_0 b2_1 b2_2
 b2_3
 (b2_4.append
 [(s9, (1 : Int), ((0 : Int), (0 : Int), (0 : Int), (0 : Int), ()),
 ((0 : Int), (0 : Int), (0 : Int), (0 : Int), ()), ((0 : Int), (0 : Int), (0 : Int), (0 : Int), ()), [],
 [], [], [], [], [], (0 : Int), ())])
 b2_5 b2_6 b2_7
 else none
 else some ((b2_0, b2_1, b2_2, b2_3, b2_4, b2_5, b2_6, b2_7, PUnit.unit), true, PUnit.unit) := by kernel_rfl

end Go.Sx.Tryz

set_option maxRecDepth 100000
namespace Go.Sx.Tryz
open Go Go.Sx Go.Proofs

noncomputable def l_i_KeyOk : List (Nat × Con) := [(48, c_i_in)]
theorem l_i_KeyOk_ok : ∀ q ∈ l_i_KeyOk, ConOk Tryz.prog q.1 q.2 := Tryz.cons_cons c_i_in_ok (Tryz.cons_nil)
abbrev k_i_KeyOk_2 : List Keep × List BK := ([.ro tString, .drop, .drop, .drop, .drop, .ro tInt64, .ro tInt64, .drop, .drop, .drop, .drop, .drop, .drop, .drop, .drop, .drop, .drop, .drop, .drop, .drop, .drop, .drop, .drop], [])
def kp_i_KeyOk : KP := [(2, k_i_KeyOk_2)]
noncomputable def q_i_KeyOk (n : Nat) (x : Args [tString]) := evX (false, false, []) l_i_KeyOk kp_i_KeyOk [none] Tryz.f65 (shV tBool) n (encA [tString] x)
noncomputable def c_i_KeyOk : Con := roS [tString] true (shV tBool) (q_i_KeyOk big)
theorem c_i_KeyOk_ok : ConOk Tryz.prog 65 c_i_KeyOk := roS_ok ⟨Tryz.f65, by kernel_rfl, rfl, by decide⟩ fun _ _ h => evX_ok l_i_KeyOk_ok (f := Tryz.f65) (by kernel_rfl) rfl (by kernel_rfl) (by kernel_rfl) big h
noncomputable def Q_i_KeyOk (n : Nat) (a0 : ByteArray) : Option Bool := q_i_KeyOk n (a0, ())
noncomputable def r_i_KeyOk_2 (n : Nat) (x : KD k_i_KeyOk_2.1) (y : BD k_i_KeyOk_2.2) := rounds (env (false, false, []) l_i_KeyOk) kp_i_KeyOk (body Tryz.f65) (finX (false, false, []) l_i_KeyOk [none] Tryz.f65 (shV tBool) [.val tString (zeroD tString)]) n 2 k_i_KeyOk_2 x y
noncomputable def R_i_KeyOk_2 (n : Nat) (s0 : ByteArray) (s5 : Int) (s6 : Int) : Option Bool := r_i_KeyOk_2 n (s0, s5, s6, ()) ()
theorem Q_i_KeyOk_eq (n : Nat) (a0 : ByteArray) : Q_i_KeyOk n a0 =
    R_i_KeyOk_2 n a0 (↑a0.size : Int) (0 : Int) := by kernel_rfl
theorem R_i_KeyOk_2_eq (n : Nat) (s0 : ByteArray) (s5 : Int) (s6 : Int) : R_i_KeyOk_2 (n + 1) s0 s5 s6 =
    bif decide (s6 < s5) then
 if (0 : Int) ≤ s6 then
 (nth s0.data.toList s6.toNat).bind fun y =>
 bif decide ((↑y.toNat : Int) < (97 : Int)) then some false
 else
 if (0 : Int) ≤ s6 then
 (nth s0.data.toList s6.toNat).bind fun y =>
 bif decide ((122 : Int) < (↑y.toNat : Int)) then some false
 else R_i_KeyOk_2 n s0 s5 (IntKind.i64.wrap (s6 + (1 : Int)))
 else none
 else none
 else (Q_i_in big (↑s0.size : Int) (1 : Int) (3 : Int)).bind fun y => some y := by kernel_rfl

end Go.Sx.Tryz

set_option maxRecDepth 100000
namespace Go.Sx.Tryz
open Go Go.Sx Go.Proofs

noncomputable def l_i_isNum : List (Nat × Con) := [(48, c_i_in)]
theorem l_i_isNum_ok : ∀ q ∈ l_i_isNum, ConOk Tryz.prog q.1 q.2 := Tryz.cons_cons c_i_in_ok (Tryz.cons_nil)
def kp_i_isNum : KP := []
noncomputable def q_i_isNum (n : Nat) (x : Args [tInt]) := evX (false, false, []) l_i_isNum kp_i_isNum [none] Tryz.f66 (shV tBool) n (encA [tInt] x)
noncomputable def c_i_isNum : Con := roS [tInt] true (shV tBool) (q_i_isNum big)
theorem c_i_isNum_ok : ConOk Tryz.prog 66 c_i_isNum := roS_ok ⟨Tryz.f66, by kernel_rfl, rfl, by decide⟩ fun _ _ h => evX_ok l_i_isNum_ok (f := Tryz.f66) (by kernel_rfl) rfl (by kernel_rfl) (by kernel_rfl) big h
noncomputable def Q_i_isNum (n : Nat) (a0 : Int) : Option Bool := q_i_isNum n (a0, ())
theorem Q_i_isNum_eq (n : Nat) (a0 : Int) : Q_i_isNum n a0 =
    (Q_i_in big a0 (0 : Int) (1000000000 : Int)).bind fun y => some y := by kernel_rfl

end Go.Sx.Tryz

set_option maxRecDepth 100000
namespace Go.Sx.Tryz
open Go Go.Sx Go.Proofs

noncomputable def l_i_CmdOk : List (Nat × Con) := [(48, c_i_in), (65, c_i_KeyOk), (66, c_i_isNum)]
theorem l_i_CmdOk_ok : ∀ q ∈ l_i_CmdOk, ConOk Tryz.prog q.1 q.2 := Tryz.cons_cons c_i_in_ok (Tryz.cons_cons c_i_KeyOk_ok (Tryz.cons_cons c_i_isNum_ok (Tryz.cons_nil)))
def kp_i_CmdOk : KP := []
noncomputable def q_i_CmdOk (n : Nat) (x : Args [tICmd]) := evX (false, false, [1, 3, 7, 12]) l_i_CmdOk kp_i_CmdOk [none] Tryz.f49 (shV tBool) n (encA [tICmd] x)
noncomputable def c_i_CmdOk : Con := roS [tICmd] true (shV tBool) (q_i_CmdOk big)
theorem c_i_CmdOk_ok : ConOk Tryz.prog 49 c_i_CmdOk := roS_ok ⟨Tryz.f49, by kernel_rfl, rfl, by decide⟩ fun _ _ h => evX_ok l_i_CmdOk_ok (f := Tryz.f49) (by kernel_rfl) rfl (by kernel_rfl) (by kernel_rfl) big h
noncomputable def Q_i_CmdOk (n : Nat) (a0 : DICmd) : Option Bool := q_i_CmdOk n (a0, ())
theorem Q_i_CmdOk_eq (n : Nat) (a0 : DICmd) : Q_i_CmdOk n a0 =
    (Q_i_in big a0.fst (1 : Int) (3 : Int)).bind fun y =>
 bif y then
 (Q_i_KeyOk big a0.snd.fst).bind fun y =>
 bif y then (Q_i_isNum big a0.snd.snd.fst).bind fun y => some y else some false
 else some false := by kernel_rfl

end Go.Sx.Tryz

set_option maxRecDepth 100000
namespace Go.Sx.Tryz
open Go Go.Sx Go.Proofs

noncomputable def l_i_EventOk : List (Nat × Con) := [(48, c_i_in), (49, c_i_CmdOk)]
theorem l_i_EventOk_ok : ∀ q ∈ l_i_EventOk, ConOk Tryz.prog q.1 q.2 := Tryz.cons_cons c_i_in_ok (Tryz.cons_cons c_i_CmdOk_ok (Tryz.cons_nil))
def kp_i_EventOk : KP := []
noncomputable def q_i_EventOk (n : Nat) (x : Args [tIEvent]) := evX (false, false, [1, 3, 8, 13, 18, 22, 26, 30, 33]) l_i_EventOk kp_i_EventOk [none] Tryz.f31 (shV tBool) n (encA [tIEvent] x)
noncomputable def c_i_EventOk : Con := roS [tIEvent] true (shV tBool) (q_i_EventOk big)
theorem c_i_EventOk_ok : ConOk Tryz.prog 31 c_i_EventOk := roS_ok ⟨Tryz.f31, by kernel_rfl, rfl, by decide⟩ fun _ _ h => evX_ok l_i_EventOk_ok (f := Tryz.f31) (by kernel_rfl) rfl (by kernel_rfl) (by kernel_rfl) big h
noncomputable def Q_i_EventOk (n : Nat) (a0 : DIEvent) : Option Bool := q_i_EventOk n (a0, ())
theorem Q_i_EventOk_eq (n : Nat) (a0 : DIEvent) : Q_i_EventOk n a0 =
    (Q_i_in big a0.fst (1 : Int) (11 : Int)).bind fun y =>
 bif !y then some false
 else
 bif decide (a0.snd.fst < (0 : Int)) then some false
 else
 bif decide (a0.snd.snd.fst < (0 : Int)) then some false
 else
 bif decide (a0.snd.snd.snd.fst < (0 : Int)) then some false
 else
 bif decide (a0.fst = (1 : Int)) then (Q_i_CmdOk big a0.snd.snd.snd.snd.fst).bind fun y => some y
 else
 bif decide (a0.fst = (10 : Int)) then (Q_i_CmdOk big a0.snd.snd.snd.snd.fst).bind fun y => some y
 else some (eqD tICmd a0.snd.snd.snd.snd.fst ((0 : Int), ByteArray.empty, (0 : Int), ())) := by kernel_rfl

end Go.Sx.Tryz

set_option maxRecDepth 100000
namespace Go.Sx.Tryz
open Go Go.Sx Go.Proofs

noncomputable def l_s_KeyOk : List (Nat × Con) := [(24, c_s_l01In)]
theorem l_s_KeyOk_ok : ∀ q ∈ l_s_KeyOk, ConOk Tryz.prog q.1 q.2 := Tryz.cons_cons c_s_l01In_ok (Tryz.cons_nil)
abbrev k_s_KeyOk_2 : List Keep × List BK := ([.ro tString, .drop, .drop, .ro tInt64, .drop, .drop, .drop, .drop, .drop, .drop, .drop, .drop, .drop, .drop, .drop, .drop, .drop, .drop, .drop, .drop, .drop, .drop, .drop], [])
def kp_s_KeyOk : KP := [(2, k_s_KeyOk_2)]
noncomputable def q_s_KeyOk (n : Nat) (x : Args [tString]) := evX (false, false, []) l_s_KeyOk kp_s_KeyOk [none] Tryz.f39 (shV tBool) n (encA [tString] x)
noncomputable def c_s_KeyOk : Con := roS [tString] true (shV tBool) (q_s_KeyOk big)
theorem c_s_KeyOk_ok : ConOk Tryz.prog 39 c_s_KeyOk := roS_ok ⟨Tryz.f39, by kernel_rfl, rfl, by decide⟩ fun _ _ h => evX_ok l_s_KeyOk_ok (f := Tryz.f39) (by kernel_rfl) rfl (by kernel_rfl) (by kernel_rfl) big h
noncomputable def Q_s_KeyOk (n : Nat) (a0 : ByteArray) : Option Bool := q_s_KeyOk n (a0, ())
noncomputable def r_s_KeyOk_2 (n : Nat) (x : KD k_s_KeyOk_2.1) (y : BD k_s_KeyOk_2.2) := rounds (env (false, false, []) l_s_KeyOk) kp_s_KeyOk (body Tryz.f39) (finX (false, false, []) l_s_KeyOk [none] Tryz.f39 (shV tBool) [.val tString (zeroD tString)]) n 2 k_s_KeyOk_2 x y
noncomputable def R_s_KeyOk_2 (n : Nat) (s0 : ByteArray) (s3 : Int) : Option Bool := r_s_KeyOk_2 n (s0, s3, ()) ()
theorem Q_s_KeyOk_eq (n : Nat) (a0 : ByteArray) : Q_s_KeyOk n a0 =
    R_s_KeyOk_2 n a0 (0 : Int) := by kernel_rfl
theorem R_s_KeyOk_2_eq (n : Nat) (s0 : ByteArray) (s3 : Int) : R_s_KeyOk_2 (n + 1) s0 s3 =
    bif decide (s3 < (↑s0.size : Int)) then
 if (0 : Int) ≤ s3 then
 (nth s0.data.toList s3.toNat).bind fun y =>
 bif decide ((↑y.toNat : Int) < (97 : Int)) then some false
 else
 if (0 : Int) ≤ s3 then
 (nth s0.data.toList s3.toNat).bind fun y =>
 bif decide ((122 : Int) < (↑y.toNat : Int)) then some false
 else R_s_KeyOk_2 n s0 (IntKind.i64.wrap (s3 + (1 : Int)))
 else none
 else none
 else (Q_s_l01In big (↑s0.size : Int) (1 : Int) (3 : Int)).bind fun y => some y := by kernel_rfl

end Go.Sx.Tryz

set_option maxRecDepth 100000
namespace Go.Sx.Tryz
open Go Go.Sx Go.Proofs

noncomputable def l_s_CmdOk : List (Nat × Con) := [(24, c_s_l01In), (39, c_s_KeyOk)]
theorem l_s_CmdOk_ok : ∀ q ∈ l_s_CmdOk, ConOk Tryz.prog q.1 q.2 := Tryz.cons_cons c_s_l01In_ok (Tryz.cons_cons c_s_KeyOk_ok (Tryz.cons_nil))
def kp_s_CmdOk : KP := []
noncomputable def q_s_CmdOk (n : Nat) (x : Args [tICmd]) := evX (false, false, [1, 3, 7, 12]) l_s_CmdOk kp_s_CmdOk [none] Tryz.f25 (shV tBool) n (encA [tICmd] x)
noncomputable def c_s_CmdOk : Con := roS [tICmd] true (shV tBool) (q_s_CmdOk big)
theorem c_s_CmdOk_ok : ConOk Tryz.prog 25 c_s_CmdOk := roS_ok ⟨Tryz.f25, by kernel_rfl, rfl, by decide⟩ fun _ _ h => evX_ok l_s_CmdOk_ok (f := Tryz.f25) (by kernel_rfl) rfl (by kernel_rfl) (by kernel_rfl) big h
noncomputable def Q_s_CmdOk (n : Nat) (a0 : DICmd) : Option Bool := q_s_CmdOk n (a0, ())
theorem Q_s_CmdOk_eq (n : Nat) (a0 : DICmd) : Q_s_CmdOk n a0 =
    (Q_s_l01In big a0.fst (1 : Int) (3 : Int)).bind fun y =>
 bif y then
 (Q_s_KeyOk big a0.snd.fst).bind fun y =>
 bif y then (Q_s_l01In big a0.snd.snd.fst (0 : Int) (1000000000 : Int)).bind fun y => some y else some false
 else some false := by kernel_rfl

end Go.Sx.Tryz

set_option maxRecDepth 100000
namespace Go.Sx.Tryz
open Go Go.Sx Go.Proofs

noncomputable def l_s_EventOk : List (Nat × Con) := [(24, c_s_l01In), (25, c_s_CmdOk)]
theorem l_s_EventOk_ok : ∀ q ∈ l_s_EventOk, ConOk Tryz.prog q.1 q.2 := Tryz.cons_cons c_s_l01In_ok (Tryz.cons_cons c_s_CmdOk_ok (Tryz.cons_nil))
def kp_s_EventOk : KP := []
noncomputable def q_s_EventOk (n : Nat) (x : Args [tIEvent]) := evX (false, false, [1, 3, 8, 13, 18, 22, 26, 30, 33]) l_s_EventOk kp_s_EventOk [none] Tryz.f14 (shV tBool) n (encA [tIEvent] x)
noncomputable def c_s_EventOk : Con := roS [tIEvent] true (shV tBool) (q_s_EventOk big)
theorem c_s_EventOk_ok : ConOk Tryz.prog 14 c_s_EventOk := roS_ok ⟨Tryz.f14, by kernel_rfl, rfl, by decide⟩ fun _ _ h => evX_ok l_s_EventOk_ok (f := Tryz.f14) (by kernel_rfl) rfl (by kernel_rfl) (by kernel_rfl) big h
noncomputable def Q_s_EventOk (n : Nat) (a0 : DIEvent) : Option Bool := q_s_EventOk n (a0, ())
theorem Q_s_EventOk_eq (n : Nat) (a0 : DIEvent) : Q_s_EventOk n a0 =
    (Q_s_l01In big a0.fst (1 : Int) (11 : Int)).bind fun y =>
 bif !y then some false
 else
 bif decide (a0.snd.fst < (0 : Int)) then some false
 else
 bif decide (a0.snd.snd.fst < (0 : Int)) then some false
 else
 bif decide (a0.snd.snd.snd.fst < (0 : Int)) then some false
 else
 bif decide (a0.fst = (1 : Int)) then (Q_s_CmdOk big a0.snd.snd.snd.snd.fst).bind fun y => some y
 else
 bif decide (a0.fst = (10 : Int)) then (Q_s_CmdOk big a0.snd.snd.snd.snd.fst).bind fun y => some y
 else some (eqD tICmd a0.snd.snd.snd.snd.fst ((0 : Int), ByteArray.empty, (0 : Int), ())) := by kernel_rfl

end Go.Sx.Tryz

set_option maxRecDepth 100000
namespace Go.Sx.Tryz
open Go Go.Sx Go.Proofs

noncomputable def l_g_Index_String : List (Nat × Con) := []
theorem l_g_Index_String_ok : ∀ q ∈ l_g_Index_String, ConOk Tryz.prog q.1 q.2 := Tryz.cons_nil
abbrev k_g_Index_String_2 : List Keep × List BK := ([.ro tSlString, .ro tString, .drop, .drop, .drop, .drop, .drop, .ro tInt64, .ro tInt64, .drop, .drop, .drop, .drop, .drop, .drop, .drop, .drop, .drop, .drop], [])
def kp_g_Index_String : KP := [(2, k_g_Index_String_2)]
noncomputable def q_g_Index_String (n : Nat) (x : Args [tSlString, tString]) := evX (false, false, []) l_g_Index_String kp_g_Index_String [none] Tryz.f64 (shV tInt) n (encA [tSlString, tString] x)
noncomputable def c_g_Index_String : Con := roS [tSlString, tString] true (shV tInt) (q_g_Index_String big)
theorem c_g_Index_String_ok : ConOk Tryz.prog 64 c_g_Index_String := roS_ok ⟨Tryz.f64, by kernel_rfl, rfl, by decide⟩ fun _ _ h => evX_ok l_g_Index_String_ok (f := Tryz.f64) (by kernel_rfl) rfl (by kernel_rfl) (by kernel_rfl) big h
noncomputable def Q_g_Index_String (n : Nat) (a0 : DSlString) (a1 : ByteArray) : Option Int := q_g_Index_String n (a0, a1, ())
noncomputable def r_g_Index_String_2 (n : Nat) (x : KD k_g_Index_String_2.1) (y : BD k_g_Index_String_2.2) := rounds (env (false, false, []) l_g_Index_String) kp_g_Index_String (body Tryz.f64) (finX (false, false, []) l_g_Index_String [none] Tryz.f64 (shV tInt) [.val tSlString (zeroD tSlString), .val tString (zeroD tString)]) n 2 k_g_Index_String_2 x y
noncomputable def R_g_Index_String_2 (n : Nat) (s0 : DSlString) (s1 : ByteArray) (s7 : Int) (s8 : Int) : Option Int := r_g_Index_String_2 n (s0, s1, s7, s8, ()) ()
theorem Q_g_Index_String_eq (n : Nat) (a0 : DSlString) (a1 : ByteArray) : Q_g_Index_String n a0 a1 =
    R_g_Index_String_2 n a0 a1 (↑(List.length a0) : Int) (0 : Int) := by kernel_rfl
theorem R_g_Index_String_2_eq (n : Nat) (s0 : DSlString) (s1 : ByteArray) (s7 : Int) (s8 : Int) : R_g_Index_String_2 (n + 1) s0 s1 s7 s8 =
    bif decide (s8 < s7) then
 if (0 : Int) ≤ s8 then
 (nth s0 s8.toNat).bind fun y =>
 bif decide (s1 = y) then some s8 else R_g_Index_String_2 n s0 s1 s7 (IntKind.i64.wrap (s8 + (1 : Int)))
 else none
 else some (-1 : Int) := by kernel_rfl

end Go.Sx.Tryz

set_option maxRecDepth 100000
namespace Go.Sx.Tryz
open Go Go.Sx Go.Proofs

noncomputable def l_i_offerLine : List (Nat × Con) := [(64, c_g_Index_String), (44, c_i_ReadDecimal)]
theorem l_i_offerLine_ok : ∀ q ∈ l_i_offerLine, ConOk Tryz.prog q.1 q.2 := Tryz.cons_cons c_g_Index_String_ok (Tryz.cons_cons c_i_ReadDecimal_ok (Tryz.cons_nil))
def kp_i_offerLine : KP := []
noncomputable def q_i_offerLine (n : Nat) (x : Args [tSlString]) := evX (false, false, []) l_i_offerLine kp_i_offerLine [none, none] Tryz.f46 (shT [(false, tIEvent), (false, tBool)]) n (encA [tSlString] x)
noncomputable def c_i_offerLine : Con := roS [tSlString] true (shT [(false, tIEvent), (false, tBool)]) (q_i_offerLine big)
theorem c_i_offerLine_ok : ConOk Tryz.prog 46 c_i_offerLine := roS_ok ⟨Tryz.f46, by kernel_rfl, rfl, by decide⟩ fun _ _ h => evX_ok l_i_offerLine_ok (f := Tryz.f46) (by kernel_rfl) rfl (by kernel_rfl) (by kernel_rfl) big h
noncomputable def Q_i_offerLine (n : Nat) (a0 : DSlString) : Option (DIEvent × Bool × Unit) := q_i_offerLine n (a0, ())
theorem Q_i_offerLine_eq (n : Nat) (a0 : DSlString) : Q_i_offerLine n a0 =
    bif !decide ((↑(List.length a0) : Int) = (3 : Int)) then
 some
 (((0 : Int), (0 : Int), (0 : Int), (0 : Int), ((0 : Int), ByteArray.empty, (0 : Int), PUnit.unit), PUnit.unit),
 false, PUnit.unit)
 else
 (nth a0 (Int.toNat (0 : Int))).bind fun y =>
 (Q_g_Index_String big
 [ByteArray.mk #[], ByteArray.mk #[(115 : UInt8), (101 : UInt8), (116 : UInt8)],
 ByteArray.mk #[(97 : UInt8), (100 : UInt8), (100 : UInt8)],
 ByteArray.mk #[(116 : UInt8), (97 : UInt8), (107 : UInt8), (101 : UInt8)]]
 y).bind
 fun y =>
 (nth a0 (Int.toNat (2 : Int))).bind fun y_1 =>
 (Q_i_ReadDecimal big y_1).bind fun y_2 =>
 bif !y_2.snd.fst then
 some
 (((0 : Int), (0 : Int), (0 : Int), (0 : Int), ((0 : Int), ByteArray.empty, (0 : Int), PUnit.unit),
 PUnit.unit),
 false, PUnit.unit)
 else
 bif decide (y < (1 : Int)) then
 some
 (((0 : Int), (0 : Int), (0 : Int), (0 : Int), ((0 : Int), ByteArray.empty, (0 : Int), PUnit.unit),
 PUnit.unit),
 false, PUnit.unit)
 else
 (nth a0 (Int.toNat (1 : Int))).bind fun y_3 =>
 some
 (((1 : Int), (0 : Int), (0 : Int), (0 : Int), (y, y_3, y_2.fst, PUnit.unit), PUnit.unit), true,
 PUnit.unit) := by kernel_rfl

end Go.Sx.Tryz

set_option maxRecDepth 100000
namespace Go.Sx.Tryz
open Go Go.Sx Go.Proofs

noncomputable def l_i_eventForm : List (Nat × Con) := [(64, c_g_Index_String)]
theorem l_i_eventForm_ok : ∀ q ∈ l_i_eventForm, ConOk Tryz.prog q.1 q.2 := Tryz.cons_cons c_g_Index_String_ok (Tryz.cons_nil)
def kp_i_eventForm : KP := []
noncomputable def q_i_eventForm (n : Nat) (x : Args [tString]) := evX (false, false, []) l_i_eventForm kp_i_eventForm [none, none] Tryz.f47 (shT [(false, tInt), (false, tInt)]) n (encA [tString] x)
noncomputable def c_i_eventForm : Con := roS [tString] true (shT [(false, tInt), (false, tInt)]) (q_i_eventForm big)
theorem c_i_eventForm_ok : ConOk Tryz.prog 47 c_i_eventForm := roS_ok ⟨Tryz.f47, by kernel_rfl, rfl, by decide⟩ fun _ _ h => evX_ok l_i_eventForm_ok (f := Tryz.f47) (by kernel_rfl) rfl (by kernel_rfl) (by kernel_rfl) big h
noncomputable def Q_i_eventForm (n : Nat) (a0 : ByteArray) : Option (Int × Int × Unit) := q_i_eventForm n (a0, ())
theorem Q_i_eventForm_eq (n : Nat) (a0 : ByteArray) : Q_i_eventForm n a0 =
    (Q_g_Index_String big
 [ByteArray.mk #[(115 : UInt8), (104 : UInt8), (111 : UInt8), (119 : UInt8)],
 ByteArray.mk #[(99 : UInt8), (97 : UInt8), (114 : UInt8), (114 : UInt8), (121 : UInt8)],
 ByteArray.mk #[(108 : UInt8), (111 : UInt8), (115 : UInt8), (101 : UInt8)],
 ByteArray.mk #[(116 : UInt8), (119 : UInt8), (105 : UInt8), (99 : UInt8), (101 : UInt8)],
 ByteArray.mk #[(119 : UInt8), (97 : UInt8), (105 : UInt8), (116 : UInt8)],
 ByteArray.mk #[(102 : UInt8), (97 : UInt8), (108 : UInt8), (108 : UInt8)]]
 a0).bind
 fun y =>
 (Q_g_Index_String big
 [ByteArray.mk #[(118 : UInt8), (111 : UInt8), (116 : UInt8), (101 : UInt8)],
 ByteArray.mk #[(113 : UInt8), (99 : UInt8)],
 ByteArray.mk #[(98 : UInt8), (108 : UInt8), (111 : UInt8), (99 : UInt8), (107 : UInt8)],
 ByteArray.mk #[(118 : UInt8), (105 : UInt8), (101 : UInt8), (119 : UInt8)]]
 a0).bind
 fun y_1 =>
 bif decide ((0 : Int) ≤ y) then some (IntKind.i64.wrap ((2 : Int) + y), (1 : Int), PUnit.unit)
 else
 bif decide ((0 : Int) ≤ y_1) then some (IntKind.i64.wrap ((8 : Int) + y_1), (3 : Int), PUnit.unit)
 else some ((0 : Int), (0 : Int), PUnit.unit) := by kernel_rfl

end Go.Sx.Tryz

set_option maxRecDepth 100000
namespace Go.Sx.Tryz
open Go Go.Sx Go.Proofs

noncomputable def l_i_numbersOf : List (Nat × Con) := [(44, c_i_ReadDecimal)]
theorem l_i_numbersOf_ok : ∀ q ∈ l_i_numbersOf, ConOk Tryz.prog q.1 q.2 := Tryz.cons_cons c_i_ReadDecimal_ok (Tryz.cons_nil)
abbrev k_i_numbersOf_3 : List Keep × List BK := ([.drop, .drop, .drop, .drop, .own tInt64, .drop, .drop, .drop, .drop, .drop, .ro tSlString, .ro tInt64, .ro tInt64, .drop, .drop, .drop, .drop, .drop, .drop, .drop, .drop, .drop, .drop, .drop, .drop, .drop, .drop, .drop, .drop], [])
def kp_i_numbersOf : KP := [(3, k_i_numbersOf_3)]
noncomputable def q_i_numbersOf (n : Nat) (x : Args [tSlString]) := evX (false, false, []) l_i_numbersOf kp_i_numbersOf [some uSlInt, none] Tryz.f29 (shT [(true, uSlInt), (false, tBool)]) n (encA [tSlString] x)
noncomputable def c_i_numbersOf : Con := roS [tSlString] true (shT [(true, uSlInt), (false, tBool)]) (q_i_numbersOf big)
theorem c_i_numbersOf_ok : ConOk Tryz.prog 29 c_i_numbersOf := roS_ok ⟨Tryz.f29, by kernel_rfl, rfl, by decide⟩ fun _ _ h => evX_ok l_i_numbersOf_ok (f := Tryz.f29) (by kernel_rfl) rfl (by kernel_rfl) (by kernel_rfl) big h
noncomputable def Q_i_numbersOf (n : Nat) (a0 : DSlString) : Option (DSlInt × Bool × Unit) := q_i_numbersOf n (a0, ())
noncomputable def r_i_numbersOf_3 (n : Nat) (x : KD k_i_numbersOf_3.1) (y : BD k_i_numbersOf_3.2) := rounds (env (false, false, []) l_i_numbersOf) kp_i_numbersOf (body Tryz.f29) (finX (false, false, []) l_i_numbersOf [some uSlInt, none] Tryz.f29 (shT [(true, uSlInt), (false, tBool)]) [.val tSlString (zeroD tSlString)]) n 3 k_i_numbersOf_3 x y
noncomputable def R_i_numbersOf_3 (n : Nat) (s4 : (List Int)) (s10 : DSlString) (s11 : Int) (s12 : Int) : Option (DSlInt × Bool × Unit) := r_i_numbersOf_3 n (s4, s10, s11, s12, ()) ()
theorem Q_i_numbersOf_eq (n : Nat) (a0 : DSlString) : Q_i_numbersOf n a0 =
    R_i_numbersOf_3 n [] a0 (↑(List.length a0) : Int) (0 : Int) := by kernel_rfl
theorem R_i_numbersOf_3_eq (n : Nat) (s4 : (List Int)) (s10 : DSlString) (s11 : Int) (s12 : Int) : R_i_numbersOf_3 (n + 1) s4 s10 s11 s12 =
    bif decide (s12 < s11) then
 if (0 : Int) ≤ s12 then
 (nth s10 s12.toNat).bind fun y =>
 (Q_i_ReadDecimal big y).bind fun y =>
 bif !y.snd.fst then some ([], false, PUnit.unit)
 else
 if s4.length + (1 : Nat) ≤ lim then
 R_i_numbersOf_3 n (s4.append [y.fst]) s10 s11 (IntKind.i64.wrap (s12 + (1 : Int)))
 else none
 else none
 else some (s4, true, PUnit.unit) := by kernel_rfl

end Go.Sx.Tryz

set_option maxRecDepth 100000
namespace Go.Sx.Tryz
open Go Go.Sx Go.Proofs

noncomputable def l_i_eventLine : List (Nat × Con) := [(46, c_i_offerLine), (47, c_i_eventForm), (29, c_i_numbersOf)]
theorem l_i_eventLine_ok : ∀ q ∈ l_i_eventLine, ConOk Tryz.prog q.1 q.2 := Tryz.cons_cons c_i_offerLine_ok (Tryz.cons_cons c_i_eventForm_ok (Tryz.cons_cons c_i_numbersOf_ok (Tryz.cons_nil)))
def kp_i_eventLine : KP := []
noncomputable def q_i_eventLine (n : Nat) (x : Args [tSlString]) := evX (false, false, [9]) l_i_eventLine kp_i_eventLine [none, none] Tryz.f30 (shT [(false, tIEvent), (false, tBool)]) n (encA [tSlString] x)
noncomputable def c_i_eventLine : Con := roS [tSlString] true (shT [(false, tIEvent), (false, tBool)]) (q_i_eventLine big)
theorem c_i_eventLine_ok : ConOk Tryz.prog 30 c_i_eventLine := roS_ok ⟨Tryz.f30, by kernel_rfl, rfl, by decide⟩ fun _ _ h => evX_ok l_i_eventLine_ok (f := Tryz.f30) (by kernel_rfl) rfl (by kernel_rfl) (by kernel_rfl) big h
noncomputable def Q_i_eventLine (n : Nat) (a0 : DSlString) : Option (DIEvent × Bool × Unit) := q_i_eventLine n (a0, ())
theorem Q_i_eventLine_eq (n : Nat) (a0 : DSlString) : Q_i_eventLine n a0 =
    (nth a0 (Int.toNat (0 : Int))).bind fun y =>
 bif decide (y = ByteArray.mk #[(111 : UInt8), (102 : UInt8), (102 : UInt8), (101 : UInt8), (114 : UInt8)]) then
 if (1 : Int) ≤ (↑(List.length a0) : Int) then
 (Q_i_offerLine big (List.take (List.length a0 - Int.toNat (1 : Int)) (List.drop (Int.toNat (1 : Int)) a0))).bind
 fun y => some y
 else none
 else
 (nth a0 (Int.toNat (0 : Int))).bind fun y =>
 (Q_i_eventForm big y).bind fun y =>
 bif decide (y.fst = (10 : Int)) then
 bif decide (y.fst = (0 : Int)) then
 some
 (((0 : Int), (0 : Int), (0 : Int), (0 : Int), ((0 : Int), ByteArray.empty, (0 : Int), PUnit.unit),
 PUnit.unit),
 false, PUnit.unit)
 else
 bif
 !decide
 ((↑(List.length a0) : Int) =
 IntKind.i64.wrap (IntKind.i64.wrap (y.snd.fst + (1 : Int)) + (1 : Int))) then
 some
 (((0 : Int), (0 : Int), (0 : Int), (0 : Int), ((0 : Int), ByteArray.empty, (0 : Int), PUnit.unit),
 PUnit.unit),
 false, PUnit.unit)
 else
 if (0 : Int) ≤ IntKind.i64.wrap (y.snd.fst + (1 : Int)) then
 if IntKind.i64.wrap (y.snd.fst + (1 : Int)) ≤ (↑(List.length a0) : Int) then
 if (1 : Int) ≤ IntKind.i64.wrap (y.snd.fst + (1 : Int)) then
 (Q_i_numbersOf big
 (List.take ((IntKind.i64.wrap (y.snd.fst + (1 : Int))).toNat - Int.toNat (1 : Int))
 (List.drop (Int.toNat (1 : Int)) a0))).bind
 fun y_1 =>
 bif !y_1.snd.fst then
 some
 (((0 : Int), (0 : Int), (0 : Int), (0 : Int),
 ((0 : Int), ByteArray.empty, (0 : Int), PUnit.unit), PUnit.unit),
 false, PUnit.unit)
 else
 if (0 : Int) < (↑(List.length y_1.fst) : Int) then
 (nth y_1.fst (Int.toNat (0 : Int))).bind fun y_2 =>
 bif decide (y.snd.fst = (3 : Int)) then
 if (1 : Int) < (↑(List.length y_1.fst) : Int) then
 (nth y_1.fst (Int.toNat (1 : Int))).bind fun y_3 =>
 both
 (if (2 : Int) < (↑(List.length y_1.fst) : Int) then
 both
 ((nth y_1.fst (Int.toNat (2 : Int))).bind fun y_4 =>
 bif decide (y.fst = (10 : Int)) then
 (nth a0 (Int.toNat (4 : Int))).bind fun y_5 =>
 if (2 : Int) < (↑(List.length y_1.fst) : Int) then
 (nth y_1.fst (Int.toNat (2 : Int))).bind fun y_6 =>
 some
 ((y.fst, y_2, y_3, y_4, ((1 : Int), y_5, y_6, PUnit.unit),
 PUnit.unit),
 true, PUnit.unit)
 else none
 else
 some
 ((y.fst, y_2, y_3, y_4,
 ((0 : Int), ByteArray.empty, (0 : Int), PUnit.unit), PUnit.unit),
 true, PUnit.unit))
 ((nth y_1.fst (Int.toNat (2 : Int))).bind fun y_4 =>
 bif decide (y.fst = (10 : Int)) then
 (nth a0 (Int.toNat (4 : Int))).bind fun y_5 =>
 if (2 : Int) < (↑(List.length y_1.fst) : Int) then
 (nth y_1.fst (Int.toNat (2 : Int))).bind fun y_6 =>
 some
 ((y.fst, y_2, y_3, y_4, ((1 : Int), y_5, y_6, PUnit.unit),
 PUnit.unit),
 true, PUnit.unit)
 else none
 else
 some
 ((y.fst, y_2, y_3, y_4,
 ((0 : Int), ByteArray.empty, (0 : Int), PUnit.unit), PUnit.unit),
 true, PUnit.unit))
 else none)
 (if (2 : Int) < (↑(List.length y_1.fst) : Int) then
 (nth y_1.fst (Int.toNat (2 : Int))).bind fun y_4 =>
 bif decide (y.fst = (10 : Int)) then
 (nth a0 (Int.toNat (4 : Int))).bind fun y_5 =>
 if (2 : Int) < (↑(List.length y_1.fst) : Int) then
 (nth y_1.fst (Int.toNat (2 : Int))).bind fun y_6 =>
 some
 ((y.fst, y_2, y_3, y_4, ((1 : Int), y_5, y_6, PUnit.unit),
 PUnit.unit),
 true, PUnit.unit)
 else none
 else
 some
 ((y.fst, y_2, y_3, y_4,
 ((0 : Int), ByteArray.empty, (0 : Int), PUnit.unit), PUnit.unit),
 true, PUnit.unit)
 else none)
 else none
 else
 bif decide (y.fst = (10 : Int)) then
 (nth a0 (Int.toNat (4 : Int))).bind fun y_3 =>
 if (2 : Int) < (↑(List.length y_1.fst) : Int) then
 (nth y_1.fst (Int.toNat (2 : Int))).bind fun y_4 =>
 some
 ((y.fst, y_2, (0 : Int), (0 : Int), ((1 : Int), y_3, y_4, PUnit.unit),
 PUnit.unit),
 true, PUnit.unit)
 else none
 else
 some
 ((y.fst, y_2, (0 : Int), (0 : Int),
 ((0 : Int), ByteArray.empty, (0 : Int), PUnit.unit), PUnit.unit),
 true, PUnit.unit)
 else none
 else none
 else none
 else none
 else
 bif decide (y.fst = (0 : Int)) then
 some
 (((0 : Int), (0 : Int), (0 : Int), (0 : Int), ((0 : Int), ByteArray.empty, (0 : Int), PUnit.unit),
 PUnit.unit),
 false, PUnit.unit)
 else
 bif !decide ((↑(List.length a0) : Int) = IntKind.i64.wrap (y.snd.fst + (1 : Int))) then
 some
 (((0 : Int), (0 : Int), (0 : Int), (0 : Int), ((0 : Int), ByteArray.empty, (0 : Int), PUnit.unit),
 PUnit.unit),
 false, PUnit.unit)
 else
 if (0 : Int) ≤ IntKind.i64.wrap (y.snd.fst + (1 : Int)) then
 if IntKind.i64.wrap (y.snd.fst + (1 : Int)) ≤ (↑(List.length a0) : Int) then
 if (1 : Int) ≤ IntKind.i64.wrap (y.snd.fst + (1 : Int)) then
 (Q_i_numbersOf big
 (List.take ((IntKind.i64.wrap (y.snd.fst + (1 : Int))).toNat - Int.toNat (1 : Int))
 (List.drop (Int.toNat (1 : Int)) a0))).bind
 fun y_1 =>
 bif !y_1.snd.fst then
 some
 (((0 : Int), (0 : Int), (0 : Int), (0 : Int),
 ((0 : Int), ByteArray.empty, (0 : Int), PUnit.unit), PUnit.unit),
 false, PUnit.unit)
 else
 if (0 : Int) < (↑(List.length y_1.fst) : Int) then
 (nth y_1.fst (Int.toNat (0 : Int))).bind fun y_2 =>
 bif decide (y.snd.fst = (3 : Int)) then
 if (1 : Int) < (↑(List.length y_1.fst) : Int) then
 (nth y_1.fst (Int.toNat (1 : Int))).bind fun y_3 =>
 both
 (if (2 : Int) < (↑(List.length y_1.fst) : Int) then
 both
 ((nth y_1.fst (Int.toNat (2 : Int))).bind fun y_4 =>
 bif decide (y.fst = (10 : Int)) then
 (nth a0 (Int.toNat (4 : Int))).bind fun y_5 =>
 if (2 : Int) < (↑(List.length y_1.fst) : Int) then
 (nth y_1.fst (Int.toNat (2 : Int))).bind fun y_6 =>
 some
 ((y.fst, y_2, y_3, y_4, ((1 : Int), y_5, y_6, PUnit.unit),
 PUnit.unit),
 true, PUnit.unit)
 else none
 else
 some
 ((y.fst, y_2, y_3, y_4,
 ((0 : Int), ByteArray.empty, (0 : Int), PUnit.unit), PUnit.unit),
 true, PUnit.unit))
 ((nth y_1.fst (Int.toNat (2 : Int))).bind fun y_4 =>
 bif decide (y.fst = (10 : Int)) then
 (nth a0 (Int.toNat (4 : Int))).bind fun y_5 =>
 if (2 : Int) < (↑(List.length y_1.fst) : Int) then
 (nth y_1.fst (Int.toNat (2 : Int))).bind fun y_6 =>
 some
 ((y.fst, y_2, y_3, y_4, ((1 : Int), y_5, y_6, PUnit.unit),
 PUnit.unit),
 true, PUnit.unit)
 else none
 else
 some
 ((y.fst, y_2, y_3, y_4,
 ((0 : Int), ByteArray.empty, (0 : Int), PUnit.unit), PUnit.unit),
 true, PUnit.unit))
 else none)
 (if (2 : Int) < (↑(List.length y_1.fst) : Int) then
 (nth y_1.fst (Int.toNat (2 : Int))).bind fun y_4 =>
 bif decide (y.fst = (10 : Int)) then
 (nth a0 (Int.toNat (4 : Int))).bind fun y_5 =>
 if (2 : Int) < (↑(List.length y_1.fst) : Int) then
 (nth y_1.fst (Int.toNat (2 : Int))).bind fun y_6 =>
 some
 ((y.fst, y_2, y_3, y_4, ((1 : Int), y_5, y_6, PUnit.unit),
 PUnit.unit),
 true, PUnit.unit)
 else none
 else
 some
 ((y.fst, y_2, y_3, y_4,
 ((0 : Int), ByteArray.empty, (0 : Int), PUnit.unit), PUnit.unit),
 true, PUnit.unit)
 else none)
 else none
 else
 bif decide (y.fst = (10 : Int)) then
 (nth a0 (Int.toNat (4 : Int))).bind fun y_3 =>
 if (2 : Int) < (↑(List.length y_1.fst) : Int) then
 (nth y_1.fst (Int.toNat (2 : Int))).bind fun y_4 =>
 some
 ((y.fst, y_2, (0 : Int), (0 : Int), ((1 : Int), y_3, y_4, PUnit.unit),
 PUnit.unit),
 true, PUnit.unit)
 else none
 else
 some
 ((y.fst, y_2, (0 : Int), (0 : Int),
 ((0 : Int), ByteArray.empty, (0 : Int), PUnit.unit), PUnit.unit),
 true, PUnit.unit)
 else none
 else none
 else none
 else none := by kernel_rfl

end Go.Sx.Tryz

set_option maxRecDepth 100000
namespace Go.Sx.Tryz
open Go Go.Sx Go.Proofs

noncomputable def l_s_l22Cmd : List (Nat × Con) := []
theorem l_s_l22Cmd_ok : ∀ q ∈ l_s_l22Cmd, ConOk Tryz.prog q.1 q.2 := Tryz.cons_nil
abbrev k_s_l22Cmd_3 : List Keep × List BK := ([.ro tString, .drop, .drop, .is (.own 0 0), .ro tInt64, .drop, .drop, .drop, .drop, .drop, .drop, .drop, .drop, .drop, .drop, .drop, .drop], [.arr tString])
def kp_s_l22Cmd : KP := [(3, k_s_l22Cmd_3)]
noncomputable def q_s_l22Cmd (n : Nat) (x : Args [tString]) := evX (false, false, []) l_s_l22Cmd kp_s_l22Cmd [none] Tryz.f22 (shV tInt) n (encA [tString] x)
noncomputable def c_s_l22Cmd : Con := roS [tString] true (shV tInt) (q_s_l22Cmd big)
theorem c_s_l22Cmd_ok : ConOk Tryz.prog 22 c_s_l22Cmd := roS_ok ⟨Tryz.f22, by kernel_rfl, rfl, by decide⟩ fun _ _ h => evX_ok l_s_l22Cmd_ok (f := Tryz.f22) (by kernel_rfl) rfl (by kernel_rfl) (by kernel_rfl) big h
noncomputable def Q_s_l22Cmd (n : Nat) (a0 : ByteArray) : Option Int := q_s_l22Cmd n (a0, ())
noncomputable def r_s_l22Cmd_3 (n : Nat) (x : KD k_s_l22Cmd_3.1) (y : BD k_s_l22Cmd_3.2) := rounds (env (false, false, []) l_s_l22Cmd) kp_s_l22Cmd (body Tryz.f22) (finX (false, false, []) l_s_l22Cmd [none] Tryz.f22 (shV tInt) [.val tString (zeroD tString)]) n 3 k_s_l22Cmd_3 x y
noncomputable def R_s_l22Cmd_3 (n : Nat) (s0 : ByteArray) (s4 : Int) (b0 : (List ByteArray)) : Option Int := r_s_l22Cmd_3 n (s0, s4, ()) (b0, ())
theorem Q_s_l22Cmd_eq (n : Nat) (a0 : ByteArray) : Q_s_l22Cmd n a0 =
    R_s_l22Cmd_3 n a0 (1 : Int)
 [ByteArray.mk #[], ByteArray.mk #[(115 : UInt8), (101 : UInt8), (116 : UInt8)],
 ByteArray.mk #[(97 : UInt8), (100 : UInt8), (100 : UInt8)],
 ByteArray.mk #[(116 : UInt8), (97 : UInt8), (107 : UInt8), (101 : UInt8)]] := by kernel_rfl
theorem R_s_l22Cmd_3_eq (n : Nat) (s0 : ByteArray) (s4 : Int) (b0 : (List ByteArray)) : R_s_l22Cmd_3 (n + 1) s0 s4 b0 =
    bif decide (s4 < (4 : Int)) then
 if (0 : Int) ≤ s4 then
 if s4 < (↑b0.length : Int) then
 (nth b0 s4.toNat).bind fun y =>
 bif decide (y = s0) then some s4 else R_s_l22Cmd_3 n s0 (IntKind.i64.wrap (s4 + (1 : Int))) b0
 else none
 else none
 else some (0 : Int) := by kernel_rfl

end Go.Sx.Tryz

set_option maxRecDepth 100000
namespace Go.Sx.Tryz
open Go Go.Sx Go.Proofs

noncomputable def l_s_l22Kind : List (Nat × Con) := []
theorem l_s_l22Kind_ok : ∀ q ∈ l_s_l22Kind, ConOk Tryz.prog q.1 q.2 := Tryz.cons_nil
def kp_s_l22Kind : KP := []
noncomputable def q_s_l22Kind (n : Nat) (x : Args [tString]) := evX (false, false, []) l_s_l22Kind kp_s_l22Kind [none, none] Tryz.f23 (shT [(false, tInt), (false, tInt)]) n (encA [tString] x)
noncomputable def c_s_l22Kind : Con := roS [tString] true (shT [(false, tInt), (false, tInt)]) (q_s_l22Kind big)
theorem c_s_l22Kind_ok : ConOk Tryz.prog 23 c_s_l22Kind := roS_ok ⟨Tryz.f23, by kernel_rfl, rfl, by decide⟩ fun _ _ h => evX_ok l_s_l22Kind_ok (f := Tryz.f23) (by kernel_rfl) rfl (by kernel_rfl) (by kernel_rfl) big h
noncomputable def Q_s_l22Kind (n : Nat) (a0 : ByteArray) : Option (Int × Int × Unit) := q_s_l22Kind n (a0, ())
theorem Q_s_l22Kind_eq (n : Nat) (a0 : ByteArray) : Q_s_l22Kind n a0 =
    bif decide (a0 = ByteArray.mk #[(115 : UInt8), (104 : UInt8), (111 : UInt8), (119 : UInt8)]) then
 some ((2 : Int), (1 : Int), PUnit.unit)
 else
 bif decide (a0 = ByteArray.mk #[(99 : UInt8), (97 : UInt8), (114 : UInt8), (114 : UInt8), (121 : UInt8)]) then
 some ((3 : Int), (1 : Int), PUnit.unit)
 else
 bif decide (a0 = ByteArray.mk #[(108 : UInt8), (111 : UInt8), (115 : UInt8), (101 : UInt8)]) then
 some ((4 : Int), (1 : Int), PUnit.unit)
 else
 bif decide (a0 = ByteArray.mk #[(116 : UInt8), (119 : UInt8), (105 : UInt8), (99 : UInt8), (101 : UInt8)]) then
 some ((5 : Int), (1 : Int), PUnit.unit)
 else
 bif decide (a0 = ByteArray.mk #[(119 : UInt8), (97 : UInt8), (105 : UInt8), (116 : UInt8)]) then
 some ((6 : Int), (1 : Int), PUnit.unit)
 else
 bif decide (a0 = ByteArray.mk #[(102 : UInt8), (97 : UInt8), (108 : UInt8), (108 : UInt8)]) then
 some ((7 : Int), (1 : Int), PUnit.unit)
 else
 bif decide (a0 = ByteArray.mk #[(118 : UInt8), (111 : UInt8), (116 : UInt8), (101 : UInt8)]) then
 some ((8 : Int), (3 : Int), PUnit.unit)
 else
 bif decide (a0 = ByteArray.mk #[(113 : UInt8), (99 : UInt8)]) then
 some ((9 : Int), (3 : Int), PUnit.unit)
 else
 bif decide (a0 = ByteArray.mk #[(118 : UInt8), (105 : UInt8), (101 : UInt8), (119 : UInt8)]) then
 some ((11 : Int), (3 : Int), PUnit.unit)
 else
 bif
 decide
 (a0 =
 ByteArray.mk
 #[(98 : UInt8), (108 : UInt8), (111 : UInt8), (99 : UInt8), (107 : UInt8)]) then
 some ((10 : Int), (3 : Int), PUnit.unit)
 else some ((0 : Int), (0 : Int), PUnit.unit) := by kernel_rfl

end Go.Sx.Tryz

set_option maxRecDepth 100000
namespace Go.Sx.Tryz
open Go Go.Sx Go.Proofs

noncomputable def l_s_l22Event : List (Nat × Con) := [(22, c_s_l22Cmd), (12, c_s_ReadDecimal), (23, c_s_l22Kind)]
theorem l_s_l22Event_ok : ∀ q ∈ l_s_l22Event, ConOk Tryz.prog q.1 q.2 := Tryz.cons_cons c_s_l22Cmd_ok (Tryz.cons_cons c_s_ReadDecimal_ok (Tryz.cons_cons c_s_l22Kind_ok (Tryz.cons_nil)))
def kp_s_l22Event : KP := []
noncomputable def q_s_l22Event (n : Nat) (x : Args [tSlString]) := evX (false, false, [9, 112]) l_s_l22Event kp_s_l22Event [none, none] Tryz.f13 (shT [(false, tIEvent), (false, tBool)]) n (encA [tSlString] x)
noncomputable def c_s_l22Event : Con := roS [tSlString] true (shT [(false, tIEvent), (false, tBool)]) (q_s_l22Event big)
theorem c_s_l22Event_ok : ConOk Tryz.prog 13 c_s_l22Event := roS_ok ⟨Tryz.f13, by kernel_rfl, rfl, by decide⟩ fun _ _ h => evX_ok l_s_l22Event_ok (f := Tryz.f13) (by kernel_rfl) rfl (by kernel_rfl) (by kernel_rfl) big h
noncomputable def Q_s_l22Event (n : Nat) (a0 : DSlString) : Option (DIEvent × Bool × Unit) := q_s_l22Event n (a0, ())
theorem Q_s_l22Event_eq (n : Nat) (a0 : DSlString) : Q_s_l22Event n a0 =
    (nth a0 (Int.toNat (0 : Int))).bind fun y =>
 bif decide (y = ByteArray.mk #[(111 : UInt8), (102 : UInt8), (102 : UInt8), (101 : UInt8), (114 : UInt8)]) then
 bif !decide ((↑(List.length a0) : Int) = (4 : Int)) then
 some
 (((0 : Int), (0 : Int), (0 : Int), (0 : Int), ((0 : Int), ByteArray.empty, (0 : Int), PUnit.unit),
 PUnit.unit),
 false, PUnit.unit)
 else
 (nth a0 (Int.toNat (1 : Int))).bind fun y =>
 (Q_s_l22Cmd big y).bind fun y =>
 bif decide (y = (0 : Int)) then
 some
 (((0 : Int), (0 : Int), (0 : Int), (0 : Int), ((0 : Int), ByteArray.empty, (0 : Int), PUnit.unit),
 PUnit.unit),
 false, PUnit.unit)
 else
 (nth a0 (Int.toNat (3 : Int))).bind fun y =>
 (Q_s_ReadDecimal big y).bind fun y =>
 (nth a0 (Int.toNat (1 : Int))).bind fun y_1 =>
 (nth a0 (Int.toNat (2 : Int))).bind fun y_2 =>
 (Q_s_l22Cmd big y_1).bind fun y_3 =>
 some
 (((1 : Int), (0 : Int), (0 : Int), (0 : Int), (y_3, y_2, y.fst, PUnit.unit), PUnit.unit),
 y.snd)
 else
 (nth a0 (Int.toNat (0 : Int))).bind fun y =>
 (Q_s_l22Kind big y).bind fun y =>
 bif decide (y.fst = (10 : Int)) then
 bif decide (y.fst = (0 : Int)) then
 some
 (((0 : Int), (0 : Int), (0 : Int), (0 : Int), ((0 : Int), ByteArray.empty, (0 : Int), PUnit.unit),
 PUnit.unit),
 false, PUnit.unit)
 else
 bif !decide ((↑(List.length a0) : Int) = (5 : Int)) then
 some
 (((0 : Int), (0 : Int), (0 : Int), (0 : Int), ((0 : Int), ByteArray.empty, (0 : Int), PUnit.unit),
 PUnit.unit),
 false, PUnit.unit)
 else
 (nth a0 (Int.toNat (1 : Int))).bind fun y_1 =>
 (Q_s_ReadDecimal big y_1).bind fun y_2 =>
 bif decide (y.snd.fst = (3 : Int)) then
 (nth a0 (Int.toNat (2 : Int))).bind fun y_3 =>
 (Q_s_ReadDecimal big y_3).bind fun y_4 =>
 (nth a0 (Int.toNat (3 : Int))).bind fun y_5 =>
 (Q_s_ReadDecimal big y_5).bind fun y_6 =>
 bif y_2.snd.fst then
 bif y_4.snd.fst then
 bif decide (y.fst = (10 : Int)) then
 (nth a0 (Int.toNat (4 : Int))).bind fun y_7 =>
 some
 ((y.fst, y_2.fst, y_4.fst, y_6.fst, ((1 : Int), y_7, y_6.fst, PUnit.unit),
 PUnit.unit),
 y_6.snd)
 else
 some
 ((y.fst, y_2.fst, y_4.fst, y_6.fst,
 ((0 : Int), ByteArray.empty, (0 : Int), PUnit.unit), PUnit.unit),
 y_6.snd)
 else
 bif decide (y.fst = (10 : Int)) then
 (nth a0 (Int.toNat (4 : Int))).bind fun y_7 =>
 some
 ((y.fst, y_2.fst, y_4.fst, y_6.fst, ((1 : Int), y_7, y_6.fst, PUnit.unit),
 PUnit.unit),
 false, PUnit.unit)
 else
 some
 ((y.fst, y_2.fst, y_4.fst, y_6.fst,
 ((0 : Int), ByteArray.empty, (0 : Int), PUnit.unit), PUnit.unit),
 false, PUnit.unit)
 else
 bif decide (y.fst = (10 : Int)) then
 (nth a0 (Int.toNat (4 : Int))).bind fun y_7 =>
 some
 ((y.fst, y_2.fst, y_4.fst, y_6.fst, ((1 : Int), y_7, y_6.fst, PUnit.unit),
 PUnit.unit),
 false, PUnit.unit)
 else
 some
 ((y.fst, y_2.fst, y_4.fst, y_6.fst,
 ((0 : Int), ByteArray.empty, (0 : Int), PUnit.unit), PUnit.unit),
 false, PUnit.unit)
 else
 bif decide (y.fst = (10 : Int)) then
 (nth a0 (Int.toNat (4 : Int))).bind fun y_3 =>
 some
 ((y.fst, y_2.fst, (0 : Int), (0 : Int), ((1 : Int), y_3, (0 : Int), PUnit.unit),
 PUnit.unit),
 y_2.snd)
 else
 some
 ((y.fst, y_2.fst, (0 : Int), (0 : Int), ((0 : Int), ByteArray.empty, (0 : Int), PUnit.unit),
 PUnit.unit),
 y_2.snd)
 else
 bif decide (y.fst = (0 : Int)) then
 some
 (((0 : Int), (0 : Int), (0 : Int), (0 : Int), ((0 : Int), ByteArray.empty, (0 : Int), PUnit.unit),
 PUnit.unit),
 false, PUnit.unit)
 else
 bif !decide ((↑(List.length a0) : Int) = IntKind.i64.wrap (y.snd.fst + (1 : Int))) then
 some
 (((0 : Int), (0 : Int), (0 : Int), (0 : Int), ((0 : Int), ByteArray.empty, (0 : Int), PUnit.unit),
 PUnit.unit),
 false, PUnit.unit)
 else
 (nth a0 (Int.toNat (1 : Int))).bind fun y_1 =>
 (Q_s_ReadDecimal big y_1).bind fun y_2 =>
 bif decide (y.snd.fst = (3 : Int)) then
 (nth a0 (Int.toNat (2 : Int))).bind fun y_3 =>
 (Q_s_ReadDecimal big y_3).bind fun y_4 =>
 (nth a0 (Int.toNat (3 : Int))).bind fun y_5 =>
 (Q_s_ReadDecimal big y_5).bind fun y_6 =>
 bif y_2.snd.fst then
 bif y_4.snd.fst then
 bif decide (y.fst = (10 : Int)) then
 (nth a0 (Int.toNat (4 : Int))).bind fun y_7 =>
 some
 ((y.fst, y_2.fst, y_4.fst, y_6.fst, ((1 : Int), y_7, y_6.fst, PUnit.unit),
 PUnit.unit),
 y_6.snd)
 else
 some
 ((y.fst, y_2.fst, y_4.fst, y_6.fst,
 ((0 : Int), ByteArray.empty, (0 : Int), PUnit.unit), PUnit.unit),
 y_6.snd)
 else
 bif decide (y.fst = (10 : Int)) then
 (nth a0 (Int.toNat (4 : Int))).bind fun y_7 =>
 some
 ((y.fst, y_2.fst, y_4.fst, y_6.fst, ((1 : Int), y_7, y_6.fst, PUnit.unit),
 PUnit.unit),
 false, PUnit.unit)
 else
 some
 ((y.fst, y_2.fst, y_4.fst, y_6.fst,
 ((0 : Int), ByteArray.empty, (0 : Int), PUnit.unit), PUnit.unit),
 false, PUnit.unit)
 else
 bif decide (y.fst = (10 : Int)) then
 (nth a0 (Int.toNat (4 : Int))).bind fun y_7 =>
 some
 ((y.fst, y_2.fst, y_4.fst, y_6.fst, ((1 : Int), y_7, y_6.fst, PUnit.unit),
 PUnit.unit),
 false, PUnit.unit)
 else
 some
 ((y.fst, y_2.fst, y_4.fst, y_6.fst,
 ((0 : Int), ByteArray.empty, (0 : Int), PUnit.unit), PUnit.unit),
 false, PUnit.unit)
 else
 bif decide (y.fst = (10 : Int)) then
 (nth a0 (Int.toNat (4 : Int))).bind fun y_3 =>
 some
 ((y.fst, y_2.fst, (0 : Int), (0 : Int), ((1 : Int), y_3, (0 : Int), PUnit.unit),
 PUnit.unit),
 y_2.snd)
 else
 some
 ((y.fst, y_2.fst, (0 : Int), (0 : Int), ((0 : Int), ByteArray.empty, (0 : Int), PUnit.unit),
 PUnit.unit),
 y_2.snd) := by kernel_rfl

end Go.Sx.Tryz

set_option maxRecDepth 100000
namespace Go.Sx.Tryz
open Go Go.Sx Go.Proofs


/-- the pieces -/
def piecesB (s sep : ByteArray) : List ByteArray := Lib.splitB sep 0 (Lib.countB s sep) s
noncomputable def q_x_strings_Split (_n : Nat) (x : Args [tString, tString]) : Option (List ByteArray) := if ByteArray.size x.1 < 4294967281 then (if 1 ≤ ByteArray.size x.2.1 then some (piecesB x.1 x.2.1) else none) else none
noncomputable def c_x_strings_Split : Con := roS [tString, tString] true (shF uSlString) (q_x_strings_Split big)
theorem c_x_strings_Split_ok : ConOk Tryz.prog 15 c_x_strings_Split := roS_ok ⟨Tryz.f15, by kernel_rfl, rfl, by decide⟩ fun xs v h => by
  obtain ⟨s, sep, u⟩ := xs
  cases u
  unfold q_x_strings_Split at h
  dsimp only at h
  split at h
  · rename_i h0
    split at h
    · rename_i h1
      simp only [Option.some.injEq] at h
      subst h
      intro p w cargs S B hcv hnd hS hp hnt
      have hcv' : CVL p w [.val .str s, .val .str sep] cargs S B := hcv
      obtain ⟨r, rfl, h2⟩ := CVL_str hcv'
      obtain ⟨r', rfl, h3⟩ := CVL_str h2
      obtain ⟨rfl, rfl, rfl⟩ := CVL_nil h3
      obtain ⟨m, hm⟩ := need_max hnt
      have hc := Any.strings_Split Tryz.lays146 (by kernel_rfl) s sep m w h0 hm h1
      have hlen : (piecesB s sep).length = Lib.countB s sep + 1 := Lib.splitB_all sep h1 0 _ s rfl
      refine hc.mono ?_
      rintro e w' ⟨rfl, rfl⟩
      refine ⟨_, [w.heap.size], [], rfl, by simp, ?_, kept_alloc w _ rfl, ?_, rfl⟩
      · intro k hk
        simp only [List.append_nil, List.mem_singleton] at hk
        subst hk
        exact ⟨.inr (Nat.le_refl _), by show _ < (w.heap.push _).size; rw [Array.size_push]; omega⟩
      · rw [← hlen]
        exact texts_ok (piecesB s sep) _
    · cases h
  · cases h
noncomputable def Q_x_strings_Split (n : Nat) (a0 a1 : ByteArray) : Option (List ByteArray) := q_x_strings_Split n (a0, a1, ())
theorem Q_x_strings_Split_eq (n : Nat) (a0 a1 : ByteArray) : Q_x_strings_Split n a0 a1 = if ByteArray.size a0 < 4294967281 then (if 1 ≤ ByteArray.size a1 then some (piecesB a0 a1) else none) else none := rfl
end Go.Sx.Tryz

set_option maxRecDepth 100000
namespace Go.Sx.Tryz
open Go Go.Sx Go.Proofs

noncomputable def l_s_l22Lines : List (Nat × Con) := []
theorem l_s_l22Lines_ok : ∀ q ∈ l_s_l22Lines, ConOk Tryz.prog q.1 q.2 := Tryz.cons_nil
abbrev k_s_l22Lines_4 : List Keep × List BK := ([.ro tString, .drop, .drop, .own tString, .ro tInt64, .ro tInt64, .drop, .drop, .drop, .drop, .drop, .drop, .drop, .drop, .drop, .drop, .drop, .drop, .drop, .drop, .drop, .drop, .drop, .drop, .drop, .drop, .drop, .drop, .drop, .drop, .drop, .drop, .drop, .drop, .drop, .drop, .drop], [])
def kp_s_l22Lines : KP := [(4, k_s_l22Lines_4)]
noncomputable def q_s_l22Lines (n : Nat) (x : Args [tString]) := evX (false, false, []) l_s_l22Lines kp_s_l22Lines [some uSlString] Tryz.f9 (shF uSlString) n (encA [tString] x)
noncomputable def c_s_l22Lines : Con := roS [tString] true (shF uSlString) (q_s_l22Lines big)
theorem c_s_l22Lines_ok : ConOk Tryz.prog 9 c_s_l22Lines := roS_ok ⟨Tryz.f9, by kernel_rfl, rfl, by decide⟩ fun _ _ h => evX_ok l_s_l22Lines_ok (f := Tryz.f9) (by kernel_rfl) rfl (by kernel_rfl) (by kernel_rfl) big h
noncomputable def Q_s_l22Lines (n : Nat) (a0 : ByteArray) : Option DSlString := q_s_l22Lines n (a0, ())
noncomputable def r_s_l22Lines_4 (n : Nat) (x : KD k_s_l22Lines_4.1) (y : BD k_s_l22Lines_4.2) := rounds (env (false, false, []) l_s_l22Lines) kp_s_l22Lines (body Tryz.f9) (finX (false, false, []) l_s_l22Lines [some uSlString] Tryz.f9 (shF uSlString) [.val tString (zeroD tString)]) n 4 k_s_l22Lines_4 x y
noncomputable def R_s_l22Lines_4 (n : Nat) (s0 : ByteArray) (s3 : (List ByteArray)) (s4 : Int) (s5 : Int) : Option DSlString := r_s_l22Lines_4 n (s0, s3, s4, s5, ()) ()
theorem Q_s_l22Lines_eq (n : Nat) (a0 : ByteArray) : Q_s_l22Lines n a0 =
    R_s_l22Lines_4 n a0 [] (0 : Int) (0 : Int) := by kernel_rfl
theorem R_s_l22Lines_4_eq (n : Nat) (s0 : ByteArray) (s3 : (List ByteArray)) (s4 : Int) (s5 : Int) : R_s_l22Lines_4 (n + 1) s0 s3 s4 s5 =
    bif decide (s5 < (↑s0.size : Int)) then
 if (0 : Int) ≤ s5 then
 (nth s0.data.toList s5.toNat).bind fun y =>
 bif decide ((↑y.toNat : Int) = (10 : Int)) then
 if (0 : Int) ≤ s5 then
 if s5 ≤ (↑s0.size : Int) then
 if (0 : Int) ≤ s4 then
 if s4 ≤ s5 then
 if s3.length + [s0.extract s4.toNat s5.toNat].length ≤ lim then
 R_s_l22Lines_4 n s0 (s3.append [s0.extract s4.toNat s5.toNat]) (IntKind.i64.wrap (s5 + (1 : Int)))
 (IntKind.i64.wrap (s5 + (1 : Int)))
 else none
 else none
 else none
 else none
 else none
 else R_s_l22Lines_4 n s0 s3 s4 (IntKind.i64.wrap (s5 + (1 : Int)))
 else none
 else
 bif decide (s4 < (↑s0.size : Int)) then
 if (0 : Int) ≤ s4 then
 if s4 ≤ (↑s0.size : Int) then
 if s3.length + [s0.extract s4.toNat s0.size].length ≤ lim then some (s3.append [s0.extract s4.toNat s0.size])
 else none
 else none
 else none
 else some s3 := by kernel_rfl

end Go.Sx.Tryz

set_option maxRecDepth 100000
namespace Go.Sx.Tryz
open Go Go.Sx Go.Proofs

noncomputable def l_i_reading_cluster : List (Nat × Con) := [(44, c_i_ReadDecimal), (45, c_i_ClusterNew)]
theorem l_i_reading_cluster_ok : ∀ q ∈ l_i_reading_cluster, ConOk Tryz.prog q.1 q.2 := Tryz.cons_cons c_i_ReadDecimal_ok (Tryz.cons_cons c_i_ClusterNew_ok (Tryz.cons_nil))
def kp_i_reading_cluster : KP := []
noncomputable def q_i_reading_cluster (n : Nat) (x : AP.denL [.mu uIreading, .ro tSlString]) := evX (false, false, [66, 74, 76, 77]) l_i_reading_cluster kp_i_reading_cluster [none] Tryz.f28 (shO (shV tBool) [.mu uIreading]) n (AP.encL [.mu uIreading, .ro tSlString] x)
noncomputable def c_i_reading_cluster : Con := apS [.mu uIreading, .ro tSlString] true (shO (shV tBool) [.mu uIreading]) (q_i_reading_cluster big)
theorem c_i_reading_cluster_ok : ConOk Tryz.prog 28 c_i_reading_cluster := apS_ok ⟨Tryz.f28, by kernel_rfl, rfl, by decide⟩ fun _ _ h => evX_ok l_i_reading_cluster_ok (f := Tryz.f28) (by kernel_rfl) rfl (by kernel_rfl) (by kernel_rfl) big h
noncomputable def Q_i_reading_cluster (n : Nat) (a0 : DIreading) (a1 : DSlString) : Option (Bool × DIreading × Unit) := q_i_reading_cluster n (a0, a1, ())
theorem Q_i_reading_cluster_eq (n : Nat) (a0 : DIreading) (a1 : DSlString) : Q_i_reading_cluster n a0 a1 =
    bif !decide ((↑(List.length a1) : Int) = (4 : Int)) then some (false, a0, PUnit.unit)
 else
 (nth a1 (Int.toNat (0 : Int))).bind fun y =>
 bif
 !decide
 (y =
 ByteArray.mk
 #[(99 : UInt8), (108 : UInt8), (117 : UInt8), (115 : UInt8), (116 : UInt8), (101 : UInt8),
 (114 : UInt8)]) then
 some (false, a0, PUnit.unit)
 else
 (nth a1 (Int.toNat (2 : Int))).bind fun y =>
 bif !decide (y = ByteArray.mk #[(97 : UInt8), (115 : UInt8), (107 : UInt8)]) then
 (nth a1 (Int.toNat (2 : Int))).bind fun y =>
 bif
 !decide
 (y = ByteArray.mk #[(99 : UInt8), (104 : UInt8), (97 : UInt8), (105 : UInt8), (110 : UInt8)]) then
 some (false, a0, PUnit.unit)
 else
 (nth a1 (Int.toNat (1 : Int))).bind fun y =>
 (Q_i_ReadDecimal big y).bind fun y =>
 (nth a1 (Int.toNat (3 : Int))).bind fun y_1 =>
 (Q_i_ReadDecimal big y_1).bind fun y_2 =>
 (nth a1 (Int.toNat (2 : Int))).bind fun y_3 =>
 (Q_i_ClusterNew big y.fst
 (decide
 (y_3 =
 ByteArray.mk
 #[(99 : UInt8), (104 : UInt8), (97 : UInt8), (105 : UInt8), (110 : UInt8)]))
 y_2.fst).bind
 fun y_4 =>
 bif !y.snd.fst then some (false, a0, PUnit.unit)
 else
 bif !y_2.snd.fst then some (false, a0, PUnit.unit)
 else
 bif !y_4.snd.fst then some (false, a0, PUnit.unit)
 else
 (nth a1 (Int.toNat (2 : Int))).bind fun y_5 =>
 some
 (true,
 ((y.fst,
 decide
 (y_5 =
 ByteArray.mk
 #[(99 : UInt8), (104 : UInt8), (97 : UInt8), (105 : UInt8),
 (110 : UInt8)]),
 y_2.fst, [], (0 : Int), PUnit.unit),
 true, a0.snd.snd),
 PUnit.unit)
 else
 (nth a1 (Int.toNat (1 : Int))).bind fun y =>
 (Q_i_ReadDecimal big y).bind fun y =>
 (nth a1 (Int.toNat (3 : Int))).bind fun y_1 =>
 (Q_i_ReadDecimal big y_1).bind fun y_2 =>
 (nth a1 (Int.toNat (2 : Int))).bind fun y_3 =>
 (Q_i_ClusterNew big y.fst
 (decide
 (y_3 =
 ByteArray.mk
 #[(99 : UInt8), (104 : UInt8), (97 : UInt8), (105 : UInt8), (110 : UInt8)]))
 y_2.fst).bind
 fun y_4 =>
 bif !y.snd.fst then some (false, a0, PUnit.unit)
 else
 bif !y_2.snd.fst then some (false, a0, PUnit.unit)
 else
 bif !y_4.snd.fst then some (false, a0, PUnit.unit)
 else
 (nth a1 (Int.toNat (2 : Int))).bind fun y_5 =>
 some
 (true,
 ((y.fst,
 decide
 (y_5 =
 ByteArray.mk
 #[(99 : UInt8), (104 : UInt8), (97 : UInt8), (105 : UInt8),
 (110 : UInt8)]),
 y_2.fst, [], (0 : Int), PUnit.unit),
 true, a0.snd.snd),
 PUnit.unit) := by kernel_rfl

end Go.Sx.Tryz

set_option maxRecDepth 100000
namespace Go.Sx.Tryz
open Go Go.Sx Go.Proofs

noncomputable def l_i_reading_line : List (Nat × Con) := [(27, c_i_PartsOf), (28, c_i_reading_cluster), (29, c_i_numbersOf), (30, c_i_eventLine), (31, c_i_EventOk)]
theorem l_i_reading_line_ok : ∀ q ∈ l_i_reading_line, ConOk Tryz.prog q.1 q.2 := Tryz.cons_cons c_i_PartsOf_ok (Tryz.cons_cons c_i_reading_cluster_ok (Tryz.cons_cons c_i_numbersOf_ok (Tryz.cons_cons c_i_eventLine_ok (Tryz.cons_cons c_i_EventOk_ok (Tryz.cons_nil)))))
def kp_i_reading_line : KP := []
noncomputable def q_i_reading_line (n : Nat) (x : AP.denL [.mu uIreading, .ro tString]) := evX (false, false, [9, 30, 31, 32, 39, 40, 41, 61, 65, 66, 68, 69, 84, 85, 86, 87, 92, 93, 94, 95, 96, 101, 102]) l_i_reading_line kp_i_reading_line [none] Tryz.f16 (shO (shV tBool) [.mu uIreading]) n (AP.encL [.mu uIreading, .ro tString] x)
noncomputable def c_i_reading_line : Con := apS [.mu uIreading, .ro tString] true (shO (shV tBool) [.mu uIreading]) (q_i_reading_line big)
theorem c_i_reading_line_ok : ConOk Tryz.prog 16 c_i_reading_line := apS_ok ⟨Tryz.f16, by kernel_rfl, rfl, by decide⟩ fun _ _ h => evX_ok l_i_reading_line_ok (f := Tryz.f16) (by kernel_rfl) rfl (by kernel_rfl) (by kernel_rfl) big h
noncomputable def Q_i_reading_line (n : Nat) (a0 : DIreading) (a1 : ByteArray) : Option (Bool × DIreading × Unit) := q_i_reading_line n (a0, a1, ())
theorem Q_i_reading_line_eq (n : Nat) (a0 : DIreading) (a1 : ByteArray) : Q_i_reading_line n a0 a1 =
    (Q_i_PartsOf big a1).bind fun y =>
 bif !y.snd.fst then some (false, a0, PUnit.unit)
 else
 bif decide ((↑(List.length y.fst) : Int) = (0 : Int)) then some (true, a0, PUnit.unit)
 else
 if (0 : Int) < (↑(List.length y.fst) : Int) then
 (nth y.fst (Int.toNat (0 : Int))).bind fun y_1 =>
 (nth y_1.data.toList (Int.toNat (0 : Int))).bind fun y_2 =>
 bif decide ((↑y_2.toNat : Int) = (35 : Int)) then some (true, a0, PUnit.unit)
 else
 bif !a0.snd.fst then (Q_i_reading_cluster big a0 y.fst).bind fun y => some y
 else
 bif a0.snd.snd.fst then some (false, a0, PUnit.unit)
 else
 if (0 : Int) < (↑(List.length y.fst) : Int) then
 (nth y.fst (Int.toNat (0 : Int))).bind fun y_3 =>
 bif decide (y_3 = ByteArray.mk #[(99 : UInt8), (97 : UInt8), (108 : UInt8), (109 : UInt8)]) then
 if (1 : Int) ≤ (↑(List.length y.fst) : Int) then
 (Q_i_numbersOf big
 (List.take (List.length y.fst - Int.toNat (1 : Int))
 (List.drop (Int.toNat (1 : Int)) y.fst))).bind
 fun y =>
 bif !y.snd.fst then some (false, a0, PUnit.unit)
 else
 bif !decide ((↑(List.length y.fst) : Int) = (1 : Int)) then some (false, a0, PUnit.unit)
 else
 if (0 : Int) < (↑(List.length y.fst) : Int) then
 (nth y.fst (Int.toNat (0 : Int))).bind fun y =>
 some
 (true,
 ((a0.fst.fst, a0.fst.snd.fst, a0.fst.snd.snd.fst, a0.fst.snd.snd.snd.fst, y,
 PUnit.unit),
 a0.snd.fst, true, PUnit.unit),
 PUnit.unit)
 else none
 else none
 else
 (Q_i_eventLine big y.fst).bind fun y =>
 bif !y.snd.fst then some (false, a0, PUnit.unit)
 else
 (Q_i_EventOk big y.fst).bind fun y_4 =>
 bif !y_4 then some (false, a0, PUnit.unit)
 else
 bif decide ((120 : Int) ≤ (↑(List.length a0.fst.snd.snd.snd.fst) : Int)) then
 some (false, a0, PUnit.unit)
 else
 if List.length a0.fst.snd.snd.snd.fst + (1 : Nat) ≤ lim then
 some
 (true,
 ((a0.fst.fst, a0.fst.snd.fst, a0.fst.snd.snd.fst,
 List.append a0.fst.snd.snd.snd.fst [y.fst], a0.fst.snd.snd.snd.snd),
 a0.snd),
 PUnit.unit)
 else none
 else none
 else none := by kernel_rfl

end Go.Sx.Tryz

set_option maxRecDepth 100000
namespace Go.Sx.Tryz
open Go Go.Sx Go.Proofs

noncomputable def l_i_ReadScript : List (Nat × Con) := [(15, c_x_strings_Split), (16, c_i_reading_line)]
theorem l_i_ReadScript_ok : ∀ q ∈ l_i_ReadScript, ConOk Tryz.prog q.1 q.2 := Tryz.cons_cons c_x_strings_Split_ok (Tryz.cons_cons c_i_reading_line_ok (Tryz.cons_nil))
abbrev k_i_ReadScript_8 : List Keep × List BK := ([.drop, .drop, .is (.ptr 0 0), .drop, .drop, .is (.ptr 2 0), .drop, .drop, .drop, .drop, .drop, .drop, .drop, .drop, .drop, .drop, .drop, .drop, .drop, .drop, .drop, .drop, .drop, .drop, .drop, .drop, .drop, .drop, .own tString, .ro tInt64, .ro tInt64, .drop, .drop, .drop, .drop, .drop, .drop, .drop, .drop, .drop, .drop, .drop, .drop, .drop, .drop, .drop, .drop, .drop, .drop, .drop, .drop, .drop, .drop], [.vars [.ro tInt64, .ro tBool, .ro tInt64, .own tIEvent, .ro tInt64], .drop, .vars [.ro tInt64, .ro tBool, .ro tInt64, .own tIEvent, .ro tInt64, .ro tBool, .ro tBool]])
def kp_i_ReadScript : KP := [(8, k_i_ReadScript_8)]
noncomputable def q_i_ReadScript (n : Nat) (x : Args [tString]) := evX (false, false, [43, 44, 45, 49, 50, 51]) l_i_ReadScript kp_i_ReadScript [some uIScript, none] Tryz.f5 (shT [(true, uIScript), (false, tInt)]) n (encA [tString] x)
noncomputable def c_i_ReadScript : Con := roS [tString] true (shT [(true, uIScript), (false, tInt)]) (q_i_ReadScript big)
theorem c_i_ReadScript_ok : ConOk Tryz.prog 5 c_i_ReadScript := roS_ok ⟨Tryz.f5, by kernel_rfl, rfl, by decide⟩ fun _ _ h => evX_ok l_i_ReadScript_ok (f := Tryz.f5) (by kernel_rfl) rfl (by kernel_rfl) (by kernel_rfl) big h
noncomputable def Q_i_ReadScript (n : Nat) (a0 : ByteArray) : Option (DIScript × Int × Unit) := q_i_ReadScript n (a0, ())
noncomputable def r_i_ReadScript_8 (n : Nat) (x : KD k_i_ReadScript_8.1) (y : BD k_i_ReadScript_8.2) := rounds (env (false, false, [43, 44, 45, 49, 50, 51]) l_i_ReadScript) kp_i_ReadScript (body Tryz.f5) (finX (false, false, [43, 44, 45, 49, 50, 51]) l_i_ReadScript [some uIScript, none] Tryz.f5 (shT [(true, uIScript), (false, tInt)]) [.val tString (zeroD tString)]) n 8 k_i_ReadScript_8 x y
noncomputable def R_i_ReadScript_8 (n : Nat) (s28 : (List ByteArray)) (s29 : Int) (s30 : Int) (b0_0 : Int) (b0_1 : Bool) (b0_2 : Int) (b0_3 : (List DIEvent)) (b0_4 : Int) (b2_0 : Int) (b2_1 : Bool) (b2_2 : Int) (b2_3 : (List DIEvent)) (b2_4 : Int) (b2_5 : Bool) (b2_6 : Bool) : Option (DIScript × Int × Unit) := r_i_ReadScript_8 n (s28, s29, s30, ()) ((b0_0, b0_1, b0_2, b0_3, b0_4, ()), (b2_0, b2_1, b2_2, b2_3, b2_4, b2_5, b2_6, ()), ())
theorem Q_i_ReadScript_eq (n : Nat) (a0 : ByteArray) : Q_i_ReadScript n a0 =
    bif decide ((3000 : Int) < (↑a0.size : Int)) then
 some (((0 : Int), false, (0 : Int), [], (0 : Int), PUnit.unit), (-1 : Int), PUnit.unit)
 else
 (Q_x_strings_Split big a0 (ByteArray.mk #[(10 : UInt8)])).bind fun y =>
 if (0 : Int) ≤ IntKind.i64.wrap ((↑(List.length y) : Int) - (1 : Int)) then
 if IntKind.i64.wrap ((↑(List.length y) : Int) - (1 : Int)) < (↑(List.length y) : Int) then
 (nth y (IntKind.i64.wrap ((↑(List.length y) : Int) - (1 : Int))).toNat).bind fun y_1 =>
 bif decide (y_1 = ByteArray.mk #[]) then
 if (0 : Int) ≤ IntKind.i64.wrap ((↑(List.length y) : Int) - (1 : Int)) then
 if IntKind.i64.wrap ((↑(List.length y) : Int) - (1 : Int)) ≤ (↑(List.length y) : Int) then
 R_i_ReadScript_8 n
 (List.take ((IntKind.i64.wrap ((↑(List.length y) : Int) - (1 : Int))).toNat - (0 : Nat))
 (List.drop (0 : Nat) y))
 (↑((IntKind.i64.wrap ((↑(List.length y) : Int) - (1 : Int))).toNat - (0 : Nat)) : Int) (0 : Int)
 (0 : Int) false (0 : Int) [] (0 : Int) (0 : Int) false (0 : Int) [] (0 : Int) false false
 else none
 else none
 else
 R_i_ReadScript_8 n y (↑(List.length y) : Int) (0 : Int) (0 : Int) false (0 : Int) [] (0 : Int) (0 : Int)
 false (0 : Int) [] (0 : Int) false false
 else none
 else none := by kernel_rfl
theorem R_i_ReadScript_8_eq (n : Nat) (s28 : (List ByteArray)) (s29 : Int) (s30 : Int) (b0_0 : Int) (b0_1 : Bool) (b0_2 : Int) (b0_3 : (List DIEvent)) (b0_4 : Int) (b2_0 : Int) (b2_1 : Bool) (b2_2 : Int) (b2_3 : (List DIEvent)) (b2_4 : Int) (b2_5 : Bool) (b2_6 : Bool) : R_i_ReadScript_8 (n + 1) s28 s29 s30 b0_0 b0_1 b0_2 b0_3 b0_4 b2_0 b2_1 b2_2 b2_3 b2_4 b2_5 b2_6 =
    bif decide (s30 < s29) then
 if (0 : Int) ≤ s30 then
 if s30 < (↑s28.length : Int) then
 (nth s28 s30.toNat).bind fun y =>
 (Q_i_reading_line big ((b2_0, b2_1, b2_2, b2_3, b2_4, ()), b2_5, b2_6, ()) y).bind fun y =>
 bif !y.fst then
 some
 (((0 : Int), false, (0 : Int), [], (0 : Int), PUnit.unit), IntKind.i64.wrap (s30 + (1 : Int)),
 PUnit.unit)
 else
 R_i_ReadScript_8 n s28 s29 (IntKind.i64.wrap (s30 + (1 : Int))) b0_0 b0_1 b0_2 b0_3 b0_4 y.snd.fst.fst.fst
 y.snd.fst.fst.snd.fst y.snd.fst.fst.snd.snd.fst y.snd.fst.fst.snd.snd.snd.fst
 y.snd.fst.fst.snd.snd.snd.snd.fst y.snd.fst.snd.fst y.snd.fst.snd.snd.fst
 else none
 else none
 else
 bif !b2_5 then some (((0 : Int), false, (0 : Int), [], (0 : Int), PUnit.unit), (1 : Int), PUnit.unit)
 else some ((b2_0, b2_1, b2_2, b2_3, b2_4, PUnit.unit), (0 : Int), PUnit.unit) := by kernel_rfl

end Go.Sx.Tryz

set_option maxRecDepth 100000
namespace Go.Sx.Tryz
open Go Go.Sx Go.Proofs

noncomputable def l_s_l22Head : List (Nat × Con) := [(12, c_s_ReadDecimal), (20, c_s_ClusterNew)]
theorem l_s_l22Head_ok : ∀ q ∈ l_s_l22Head, ConOk Tryz.prog q.1 q.2 := Tryz.cons_cons c_s_ReadDecimal_ok (Tryz.cons_cons c_s_ClusterNew_ok (Tryz.cons_nil))
def kp_s_l22Head : KP := []
noncomputable def q_s_l22Head (n : Nat) (x : Args [tSlString]) := evX (false, false, [4, 59]) l_s_l22Head kp_s_l22Head [some uIScript, none] Tryz.f11 (shT [(true, uIScript), (false, tBool)]) n (encA [tSlString] x)
noncomputable def c_s_l22Head : Con := roS [tSlString] true (shT [(true, uIScript), (false, tBool)]) (q_s_l22Head big)
theorem c_s_l22Head_ok : ConOk Tryz.prog 11 c_s_l22Head := roS_ok ⟨Tryz.f11, by kernel_rfl, rfl, by decide⟩ fun _ _ h => evX_ok l_s_l22Head_ok (f := Tryz.f11) (by kernel_rfl) rfl (by kernel_rfl) (by kernel_rfl) big h
noncomputable def Q_s_l22Head (n : Nat) (a0 : DSlString) : Option (DIScript × Bool × Unit) := q_s_l22Head n (a0, ())
theorem Q_s_l22Head_eq (n : Nat) (a0 : DSlString) : Q_s_l22Head n a0 =
    bif !decide ((↑(List.length a0) : Int) = (4 : Int)) then
 some (((0 : Int), false, (0 : Int), [], (0 : Int), PUnit.unit), false, PUnit.unit)
 else
 (nth a0 (Int.toNat (0 : Int))).bind fun y =>
 bif
 !decide
 (y =
 ByteArray.mk
 #[(99 : UInt8), (108 : UInt8), (117 : UInt8), (115 : UInt8), (116 : UInt8), (101 : UInt8),
 (114 : UInt8)]) then
 some (((0 : Int), false, (0 : Int), [], (0 : Int), PUnit.unit), false, PUnit.unit)
 else
 (nth a0 (Int.toNat (2 : Int))).bind fun y =>
 bif !decide (y = ByteArray.mk #[(97 : UInt8), (115 : UInt8), (107 : UInt8)]) then
 (nth a0 (Int.toNat (2 : Int))).bind fun y =>
 bif
 !decide
 (y = ByteArray.mk #[(99 : UInt8), (104 : UInt8), (97 : UInt8), (105 : UInt8), (110 : UInt8)]) then
 some (((0 : Int), false, (0 : Int), [], (0 : Int), PUnit.unit), false, PUnit.unit)
 else
 (nth a0 (Int.toNat (1 : Int))).bind fun y =>
 (Q_s_ReadDecimal big y).bind fun y =>
 (nth a0 (Int.toNat (3 : Int))).bind fun y_1 =>
 (Q_s_ReadDecimal big y_1).bind fun y_2 =>
 (nth a0 (Int.toNat (2 : Int))).bind fun y_3 =>
 (Q_s_ClusterNew big y.fst
 (decide
 (y_3 =
 ByteArray.mk
 #[(99 : UInt8), (104 : UInt8), (97 : UInt8), (105 : UInt8), (110 : UInt8)]))
 y_2.fst).bind
 fun y_4 =>
 bif y.snd.fst then
 bif y_2.snd.fst then
 some
 ((y.fst,
 decide
 (y_3 =
 ByteArray.mk
 #[(99 : UInt8), (104 : UInt8), (97 : UInt8), (105 : UInt8), (110 : UInt8)]),
 y_2.fst, [], (0 : Int), PUnit.unit),
 y_4.snd)
 else
 some
 ((y.fst,
 decide
 (y_3 =
 ByteArray.mk
 #[(99 : UInt8), (104 : UInt8), (97 : UInt8), (105 : UInt8), (110 : UInt8)]),
 y_2.fst, [], (0 : Int), PUnit.unit),
 false, PUnit.unit)
 else
 some
 ((y.fst,
 decide
 (y_3 =
 ByteArray.mk
 #[(99 : UInt8), (104 : UInt8), (97 : UInt8), (105 : UInt8), (110 : UInt8)]),
 y_2.fst, [], (0 : Int), PUnit.unit),
 false, PUnit.unit)
 else
 (nth a0 (Int.toNat (1 : Int))).bind fun y =>
 (Q_s_ReadDecimal big y).bind fun y =>
 (nth a0 (Int.toNat (3 : Int))).bind fun y_1 =>
 (Q_s_ReadDecimal big y_1).bind fun y_2 =>
 (nth a0 (Int.toNat (2 : Int))).bind fun y_3 =>
 (Q_s_ClusterNew big y.fst
 (decide
 (y_3 =
 ByteArray.mk
 #[(99 : UInt8), (104 : UInt8), (97 : UInt8), (105 : UInt8), (110 : UInt8)]))
 y_2.fst).bind
 fun y_4 =>
 bif y.snd.fst then
 bif y_2.snd.fst then
 some
 ((y.fst,
 decide
 (y_3 =
 ByteArray.mk
 #[(99 : UInt8), (104 : UInt8), (97 : UInt8), (105 : UInt8), (110 : UInt8)]),
 y_2.fst, [], (0 : Int), PUnit.unit),
 y_4.snd)
 else
 some
 ((y.fst,
 decide
 (y_3 =
 ByteArray.mk
 #[(99 : UInt8), (104 : UInt8), (97 : UInt8), (105 : UInt8), (110 : UInt8)]),
 y_2.fst, [], (0 : Int), PUnit.unit),
 false, PUnit.unit)
 else
 some
 ((y.fst,
 decide
 (y_3 =
 ByteArray.mk
 #[(99 : UInt8), (104 : UInt8), (97 : UInt8), (105 : UInt8), (110 : UInt8)]),
 y_2.fst, [], (0 : Int), PUnit.unit),
 false, PUnit.unit) := by kernel_rfl

end Go.Sx.Tryz

set_option maxRecDepth 100000
namespace Go.Sx.Tryz
open Go Go.Sx Go.Proofs

noncomputable def l_s_ReadScript : List (Nat × Con) := [(9, c_s_l22Lines), (10, c_s_PartsOf), (11, c_s_l22Head), (12, c_s_ReadDecimal), (13, c_s_l22Event), (14, c_s_EventOk)]
theorem l_s_ReadScript_ok : ∀ q ∈ l_s_ReadScript, ConOk Tryz.prog q.1 q.2 := Tryz.cons_cons c_s_l22Lines_ok (Tryz.cons_cons c_s_PartsOf_ok (Tryz.cons_cons c_s_l22Head_ok (Tryz.cons_cons c_s_ReadDecimal_ok (Tryz.cons_cons c_s_l22Event_ok (Tryz.cons_cons c_s_EventOk_ok (Tryz.cons_nil))))))
abbrev k_s_ReadScript_8 : List Keep × List BK := ([.drop, .drop, .is (.ptr 0 0), .drop, .is (.ptr 1 0), .ro tBool, .ro tBool, .is (.own 2 0), .ro tInt64, .drop, .drop, .drop, .drop, .drop, .drop, .drop, .drop, .drop, .drop, .drop, .drop, .drop, .drop, .drop, .drop, .drop, .drop, .drop, .drop, .drop, .drop, .drop, .drop, .drop, .drop, .drop, .drop, .drop, .drop, .drop, .drop, .drop, .drop, .drop, .drop, .drop, .drop, .drop, .drop, .drop, .drop, .drop, .drop, .drop, .drop, .drop, .drop, .drop, .drop, .drop, .drop, .drop, .drop, .drop, .drop, .drop, .drop, .drop, .drop, .drop, .drop, .drop, .drop, .drop, .drop, .drop, .drop, .drop, .drop, .drop, .drop, .drop, .drop, .drop, .drop, .drop, .drop, .drop, .drop, .drop, .drop, .drop, .drop, .drop, .drop, .drop, .drop, .drop, .drop, .drop, .drop, .drop, .drop, .drop, .drop, .drop, .drop, .drop, .drop, .drop, .drop, .drop, .drop, .drop, .drop, .drop, .drop, .drop, .drop, .drop, .drop, .drop, .drop, .drop, .drop], [.vars [.ro tInt64, .ro tBool, .ro tInt64, .own tIEvent, .ro tInt64], .vars [.ro tInt64, .ro tBool, .ro tInt64, .own tIEvent, .ro tInt64], .arr tString])
def kp_s_ReadScript : KP := [(8, k_s_ReadScript_8)]
noncomputable def q_s_ReadScript (n : Nat) (x : Args [tString]) := evX (false, false, [4, 11, 15, 107, 115]) l_s_ReadScript kp_s_ReadScript [some uIScript, none] Tryz.f4 (shT [(true, uIScript), (false, tInt)]) n (encA [tString] x)
noncomputable def c_s_ReadScript : Con := roS [tString] true (shT [(true, uIScript), (false, tInt)]) (q_s_ReadScript big)
theorem c_s_ReadScript_ok : ConOk Tryz.prog 4 c_s_ReadScript := roS_ok ⟨Tryz.f4, by kernel_rfl, rfl, by decide⟩ fun _ _ h => evX_ok l_s_ReadScript_ok (f := Tryz.f4) (by kernel_rfl) rfl (by kernel_rfl) (by kernel_rfl) big h
noncomputable def Q_s_ReadScript (n : Nat) (a0 : ByteArray) : Option (DIScript × Int × Unit) := q_s_ReadScript n (a0, ())
noncomputable def r_s_ReadScript_8 (n : Nat) (x : KD k_s_ReadScript_8.1) (y : BD k_s_ReadScript_8.2) := rounds (env (false, false, [4, 11, 15, 107, 115]) l_s_ReadScript) kp_s_ReadScript (body Tryz.f4) (finX (false, false, [4, 11, 15, 107, 115]) l_s_ReadScript [some uIScript, none] Tryz.f4 (shT [(true, uIScript), (false, tInt)]) [.val tString (zeroD tString)]) n 8 k_s_ReadScript_8 x y
noncomputable def R_s_ReadScript_8 (n : Nat) (s5 : Bool) (s6 : Bool) (s8 : Int) (b0_0 : Int) (b0_1 : Bool) (b0_2 : Int) (b0_3 : (List DIEvent)) (b0_4 : Int) (b1_0 : Int) (b1_1 : Bool) (b1_2 : Int) (b1_3 : (List DIEvent)) (b1_4 : Int) (b2 : (List ByteArray)) : Option (DIScript × Int × Unit) := r_s_ReadScript_8 n (s5, s6, s8, ()) ((b0_0, b0_1, b0_2, b0_3, b0_4, ()), (b1_0, b1_1, b1_2, b1_3, b1_4, ()), b2, ())
theorem Q_s_ReadScript_eq (n : Nat) (a0 : ByteArray) : Q_s_ReadScript n a0 =
    bif decide ((3000 : Int) < (↑a0.size : Int)) then
 some (((0 : Int), false, (0 : Int), [], (0 : Int), PUnit.unit), (-1 : Int), PUnit.unit)
 else
 (Q_s_l22Lines big a0).bind fun y =>
 R_s_ReadScript_8 n false false (0 : Int) (0 : Int) false (0 : Int) [] (0 : Int) (0 : Int) false (0 : Int) []
 (0 : Int) y := by kernel_rfl
theorem R_s_ReadScript_8_eq (n : Nat) (s5 : Bool) (s6 : Bool) (s8 : Int) (b0_0 : Int) (b0_1 : Bool) (b0_2 : Int) (b0_3 : (List DIEvent)) (b0_4 : Int) (b1_0 : Int) (b1_1 : Bool) (b1_2 : Int) (b1_3 : (List DIEvent)) (b1_4 : Int) (b2 : (List ByteArray)) : R_s_ReadScript_8 (n + 1) s5 s6 s8 b0_0 b0_1 b0_2 b0_3 b0_4 b1_0 b1_1 b1_2 b1_3 b1_4 b2 =
    bif decide (s8 < (↑b2.length : Int)) then
 if (0 : Int) ≤ s8 then
 if s8 < (↑b2.length : Int) then
 (nth b2 s8.toNat).bind fun y =>
 (Q_s_PartsOf big y).bind fun y =>
 bif y.snd.fst then
 bif decide ((↑(List.length y.fst) : Int) = (0 : Int)) then
 R_s_ReadScript_8 n s5 s6 (IntKind.i64.wrap (s8 + (1 : Int))) b0_0 b0_1 b0_2 b0_3 b0_4 b1_0 b1_1 b1_2
 b1_3 b1_4 b2
 else
 if (0 : Int) < (↑(List.length y.fst) : Int) then
 (nth y.fst (Int.toNat (0 : Int))).bind fun y_1 =>
 (nth y_1.data.toList (Int.toNat (0 : Int))).bind fun y_2 =>
 bif decide ((↑y_2.toNat : Int) = (35 : Int)) then
 R_s_ReadScript_8 n s5 s6 (IntKind.i64.wrap (s8 + (1 : Int))) b0_0 b0_1 b0_2 b0_3 b0_4 b1_0 b1_1
 b1_2 b1_3 b1_4 b2
 else
 bif !y.snd.fst then
 some
 (((0 : Int), false, (0 : Int), [], (0 : Int), PUnit.unit),
 IntKind.i64.wrap (s8 + (1 : Int)), PUnit.unit)
 else
 bif s6 then
 some
 (((0 : Int), false, (0 : Int), [], (0 : Int), PUnit.unit),
 IntKind.i64.wrap (s8 + (1 : Int)), PUnit.unit)
 else
 bif !s5 then
 (Q_s_l22Head big y.fst).bind fun y =>
 bif !y.snd.fst then
 some
 (((0 : Int), false, (0 : Int), [], (0 : Int), PUnit.unit),
 IntKind.i64.wrap (s8 + (1 : Int)), PUnit.unit)
 else
 R_s_ReadScript_8 n true s6 (IntKind.i64.wrap (s8 + (1 : Int))) b0_0 b0_1 b0_2 b0_3
 b0_4 y.fst.fst y.fst.snd.fst y.fst.snd.snd.fst y.fst.snd.snd.snd.fst
 y.fst.snd.snd.snd.snd.fst b2
 else
 if (0 : Int) < (↑(List.length y.fst) : Int) then
 (nth y.fst (Int.toNat (0 : Int))).bind fun y_3 =>
 bif
 decide
 (y_3 =
 ByteArray.mk #[(99 : UInt8), (97 : UInt8), (108 : UInt8), (109 : UInt8)]) then
 bif decide ((↑(List.length y.fst) : Int) = (2 : Int)) then
 if (1 : Int) < (↑(List.length y.fst) : Int) then
 (nth y.fst (Int.toNat (1 : Int))).bind fun y =>
 (Q_s_ReadDecimal big y).bind fun y =>
 bif !y.snd.fst then
 some
 (((0 : Int), false, (0 : Int), [], (0 : Int), PUnit.unit),
 IntKind.i64.wrap (s8 + (1 : Int)), PUnit.unit)
 else
 R_s_ReadScript_8 n s5 true (IntKind.i64.wrap (s8 + (1 : Int))) b0_0 b0_1
 b0_2 b0_3 b0_4 b1_0 b1_1 b1_2 b1_3 y.fst b2
 else none
 else
 bif !decide ((↑(List.length y.fst) : Int) = (2 : Int)) then
 some
 (((0 : Int), false, (0 : Int), [], (0 : Int), PUnit.unit),
 IntKind.i64.wrap (s8 + (1 : Int)), PUnit.unit)
 else
 R_s_ReadScript_8 n s5 true (IntKind.i64.wrap (s8 + (1 : Int))) b0_0 b0_1 b0_2
 b0_3 b0_4 b1_0 b1_1 b1_2 b1_3 (0 : Int) b2
 else
 (Q_s_l22Event big y.fst).bind fun y =>
 bif !y.snd.fst then
 some
 (((0 : Int), false, (0 : Int), [], (0 : Int), PUnit.unit),
 IntKind.i64.wrap (s8 + (1 : Int)), PUnit.unit)
 else
 (Q_s_EventOk big y.fst).bind fun y_4 =>
 bif !y_4 then
 some
 (((0 : Int), false, (0 : Int), [], (0 : Int), PUnit.unit),
 IntKind.i64.wrap (s8 + (1 : Int)), PUnit.unit)
 else
 bif decide ((↑b1_3.length : Int) = (120 : Int)) then
 some
 (((0 : Int), false, (0 : Int), [], (0 : Int), PUnit.unit),
 IntKind.i64.wrap (s8 + (1 : Int)), PUnit.unit)
 else
 if b1_3.length + (1 : Nat) ≤ lim then
 R_s_ReadScript_8 n s5 s6 (IntKind.i64.wrap (s8 + (1 : Int))) b0_0 b0_1
 b0_2 b0_3 b0_4 b1_0 b1_1 b1_2 (b1_3.append [y.fst]) b1_4 b2
 else none
 else none
 else none
 else
 bif !y.snd.fst then
 some
 (((0 : Int), false, (0 : Int), [], (0 : Int), PUnit.unit), IntKind.i64.wrap (s8 + (1 : Int)),
 PUnit.unit)
 else
 bif s6 then
 some
 (((0 : Int), false, (0 : Int), [], (0 : Int), PUnit.unit), IntKind.i64.wrap (s8 + (1 : Int)),
 PUnit.unit)
 else
 bif !s5 then
 (Q_s_l22Head big y.fst).bind fun y =>
 bif !y.snd.fst then
 some
 (((0 : Int), false, (0 : Int), [], (0 : Int), PUnit.unit), IntKind.i64.wrap (s8 + (1 : Int)),
 PUnit.unit)
 else
 R_s_ReadScript_8 n true s6 (IntKind.i64.wrap (s8 + (1 : Int))) b0_0 b0_1 b0_2 b0_3 b0_4
 y.fst.fst y.fst.snd.fst y.fst.snd.snd.fst y.fst.snd.snd.snd.fst y.fst.snd.snd.snd.snd.fst b2
 else
 if (0 : Int) < (↑(List.length y.fst) : Int) then
 (nth y.fst (Int.toNat (0 : Int))).bind fun y_1 =>
 bif decide (y_1 = ByteArray.mk #[(99 : UInt8), (97 : UInt8), (108 : UInt8), (109 : UInt8)]) then
 bif decide ((↑(List.length y.fst) : Int) = (2 : Int)) then
 if (1 : Int) < (↑(List.length y.fst) : Int) then
 (nth y.fst (Int.toNat (1 : Int))).bind fun y =>
 (Q_s_ReadDecimal big y).bind fun y =>
 bif !y.snd.fst then
 some
 (((0 : Int), false, (0 : Int), [], (0 : Int), PUnit.unit),
 IntKind.i64.wrap (s8 + (1 : Int)), PUnit.unit)
 else
 R_s_ReadScript_8 n s5 true (IntKind.i64.wrap (s8 + (1 : Int))) b0_0 b0_1 b0_2 b0_3
 b0_4 b1_0 b1_1 b1_2 b1_3 y.fst b2
 else none
 else
 bif !decide ((↑(List.length y.fst) : Int) = (2 : Int)) then
 some
 (((0 : Int), false, (0 : Int), [], (0 : Int), PUnit.unit),
 IntKind.i64.wrap (s8 + (1 : Int)), PUnit.unit)
 else
 R_s_ReadScript_8 n s5 true (IntKind.i64.wrap (s8 + (1 : Int))) b0_0 b0_1 b0_2 b0_3 b0_4
 b1_0 b1_1 b1_2 b1_3 (0 : Int) b2
 else
 (Q_s_l22Event big y.fst).bind fun y =>
 bif !y.snd.fst then
 some
 (((0 : Int), false, (0 : Int), [], (0 : Int), PUnit.unit),
 IntKind.i64.wrap (s8 + (1 : Int)), PUnit.unit)
 else
 (Q_s_EventOk big y.fst).bind fun y_2 =>
 bif !y_2 then
 some
 (((0 : Int), false, (0 : Int), [], (0 : Int), PUnit.unit),
 IntKind.i64.wrap (s8 + (1 : Int)), PUnit.unit)
 else
 bif decide ((↑b1_3.length : Int) = (120 : Int)) then
 some
 (((0 : Int), false, (0 : Int), [], (0 : Int), PUnit.unit),
 IntKind.i64.wrap (s8 + (1 : Int)), PUnit.unit)
 else
 if b1_3.length + (1 : Nat) ≤ lim then
 R_s_ReadScript_8 n s5 s6 (IntKind.i64.wrap (s8 + (1 : Int))) b0_0 b0_1 b0_2 b0_3
 b0_4 b1_0 b1_1 b1_2 (b1_3.append [y.fst]) b1_4 b2
 else none
 else none
 else none
 else none
 else
 bif !s5 then some (((0 : Int), false, (0 : Int), [], (0 : Int), PUnit.unit), (1 : Int), PUnit.unit)
 else some ((b1_0, b1_1, b1_2, b1_3, b1_4, PUnit.unit), (0 : Int), PUnit.unit) := by kernel_rfl

end Go.Sx.Tryz

set_option maxRecDepth 100000
namespace Go.Sx.Tryz
open Go Go.Sx Go.Proofs

noncomputable def l_l_markScript : List (Nat × Con) := [(18, c_l_markEventS)]
theorem l_l_markScript_ok : ∀ q ∈ l_l_markScript, ConOk Tryz.prog q.1 q.2 := Tryz.cons_cons c_l_markEventS_ok (Tryz.cons_nil)
def kp_l_markScript : KP := []
noncomputable def q_l_markScript (n : Nat) (x : AP.denL [.mo uIScript, .ro tInt]) := evX (false, false, [2, 5]) l_l_markScript kp_l_markScript [none] Tryz.f7 (shO (shV tInt) [.mo uIScript]) n (AP.encL [.mo uIScript, .ro tInt] x)
noncomputable def c_l_markScript : Con := apS [.mo uIScript, .ro tInt] true (shO (shV tInt) [.mo uIScript]) (q_l_markScript big)
theorem c_l_markScript_ok : ConOk Tryz.prog 7 c_l_markScript := apS_ok ⟨Tryz.f7, by kernel_rfl, rfl, by decide⟩ fun _ _ h => evX_ok l_l_markScript_ok (f := Tryz.f7) (by kernel_rfl) rfl (by kernel_rfl) (by kernel_rfl) big h
noncomputable def Q_l_markScript (n : Nat) (a0 : DIScript) (a1 : Int) : Option (Int × (Unit × Unit × Unit × (List DIEvent) × Unit × Unit) × Unit) := q_l_markScript n (a0, a1, ())
theorem Q_l_markScript_eq (n : Nat) (a0 : DIScript) (a1 : Int) : Q_l_markScript n a0 a1 =
    (Q_l_markEventS big a0.snd.snd.snd.fst a1).bind fun y =>
 some (y.fst, (PUnit.unit, PUnit.unit, PUnit.unit, y.snd.fst, PUnit.unit, PUnit.unit), PUnit.unit) := by kernel_rfl

end Go.Sx.Tryz

set_option maxRecDepth 100000
namespace Go.Sx.Tryz
open Go Go.Sx Go.Proofs

noncomputable def l_l_heldScript : List (Nat × Con) := [(19, c_l_heldEventS)]
theorem l_l_heldScript_ok : ∀ q ∈ l_l_heldScript, ConOk Tryz.prog q.1 q.2 := Tryz.cons_cons c_l_heldEventS_ok (Tryz.cons_nil)
def kp_l_heldScript : KP := []
noncomputable def q_l_heldScript (n : Nat) (x : Args [tIScript, tInt]) := evX (false, false, [2, 5]) l_l_heldScript kp_l_heldScript [none] Tryz.f8 (shV tInt) n (encA [tIScript, tInt] x)
noncomputable def c_l_heldScript : Con := roS [tIScript, tInt] true (shV tInt) (q_l_heldScript big)
theorem c_l_heldScript_ok : ConOk Tryz.prog 8 c_l_heldScript := roS_ok ⟨Tryz.f8, by kernel_rfl, rfl, by decide⟩ fun _ _ h => evX_ok l_l_heldScript_ok (f := Tryz.f8) (by kernel_rfl) rfl (by kernel_rfl) (by kernel_rfl) big h
noncomputable def Q_l_heldScript (n : Nat) (a0 : DIScript) (a1 : Int) : Option Int := q_l_heldScript n (a0, a1, ())
theorem Q_l_heldScript_eq (n : Nat) (a0 : DIScript) (a1 : Int) : Q_l_heldScript n a0 a1 =
    (Q_l_heldEventS big a0.snd.snd.snd.fst a1).bind fun y =>
 bif decide (y < (0 : Int)) then some (-1 : Int) else some y := by kernel_rfl

end Go.Sx.Tryz

set_option maxRecDepth 100000
namespace Go.Sx.Tryz
open Go Go.Sx Go.Proofs

noncomputable def l_l_FnExactReadScript : List (Nat × Con) := [(4, c_s_ReadScript), (5, c_i_ReadScript), (6, c_l_eqScript), (7, c_l_markScript), (8, c_l_heldScript)]
theorem l_l_FnExactReadScript_ok : ∀ q ∈ l_l_FnExactReadScript, ConOk Tryz.prog q.1 q.2 := Tryz.cons_cons c_s_ReadScript_ok (Tryz.cons_cons c_i_ReadScript_ok (Tryz.cons_cons c_l_eqScript_ok (Tryz.cons_cons c_l_markScript_ok (Tryz.cons_cons c_l_heldScript_ok (Tryz.cons_nil)))))
def kp_l_FnExactReadScript : KP := []
noncomputable def q_l_FnExactReadScript (n : Nat) (x : Args [tString]) := evX (false, false, [3, 5, 9, 999999]) l_l_FnExactReadScript kp_l_FnExactReadScript [none] Tryz.f3 (shV tBool) n (encA [tString] x)
noncomputable def c_l_FnExactReadScript : Con := roS [tString] true (shV tBool) (q_l_FnExactReadScript big)
theorem c_l_FnExactReadScript_ok : ConOk Tryz.prog 3 c_l_FnExactReadScript := roS_ok ⟨Tryz.f3, by kernel_rfl, rfl, by decide⟩ fun _ _ h => evX_ok l_l_FnExactReadScript_ok (f := Tryz.f3) (by kernel_rfl) rfl (by kernel_rfl) (by kernel_rfl) big h
noncomputable def Q_l_FnExactReadScript (n : Nat) (a0 : ByteArray) : Option Bool := q_l_FnExactReadScript n (a0, ())
theorem Q_l_FnExactReadScript_eq (n : Nat) (a0 : ByteArray) : Q_l_FnExactReadScript n a0 =
    bif decide ((1048576 : Int) < (↑a0.size : Int)) then some true
 else
 (Q_s_ReadScript big a0).bind fun y =>
 (Q_i_ReadScript big a0).bind fun y_1 =>
 (Q_l_eqScript big y_1.fst y.fst).bind fun y_2 =>
 bif !y_2 then some false
 else
 bif !decide (y_1.snd.fst = y.snd.fst) then some false
 else
 (Q_l_markScript big y_1.fst (1 : Int)).bind fun y_3 =>
 (Q_l_heldScript big
 (y_1.fst.fst, y_1.fst.snd.fst, y_1.fst.snd.snd.fst, y_3.snd.fst.snd.snd.snd.fst,
 y_1.fst.snd.snd.snd.snd)
 (1 : Int)).bind
 fun y_4 =>
 bif decide (y_4 < (0 : Int)) then some false
 else
 bif !decide (y_4 = y_3.fst) then some false
 else
 (Q_i_ReadScript big a0).bind fun y_5 =>
 (Q_l_eqScript big y_5.fst y.fst).bind fun y_6 =>
 bif !y_6 then some false
 else
 bif !decide (y_5.snd.fst = y.snd.fst) then some false
 else
 (Q_l_heldScript big
 (y_1.fst.fst, y_1.fst.snd.fst, y_1.fst.snd.snd.fst, y_3.snd.fst.snd.snd.snd.fst,
 y_1.fst.snd.snd.snd.snd)
 (1 : Int)).bind
 fun y =>
 bif decide (y < (0 : Int)) then some false
 else bif !decide (y = y_3.fst) then some false else some true := by kernel_rfl

end Go.Sx.Tryz
