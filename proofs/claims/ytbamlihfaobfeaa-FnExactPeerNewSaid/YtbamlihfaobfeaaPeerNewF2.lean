/- The functions of the seat: what each comes to. -/
import Derived.Test.YtbamlihfaobfeaaTypes
set_option linter.unusedVariables false
set_option maxRecDepth 100000
namespace Go.Sx.Try
open Go Go.Sx Go.Proofs

noncomputable def l_l_markLetterS : List (Nat × Con) := []
theorem l_l_markLetterS_ok : ∀ q ∈ l_l_markLetterS, ConOk Try.prog q.1 q.2 := Try.cons_nil
abbrev k_l_markLetterS_2 : List Keep × List BK := ([.is (.own 0 0), .ro tInt64, .drop, .drop, .drop, .ro tInt64, .drop, .drop, .drop, .drop, .drop, .drop, .drop, .drop, .drop, .drop, .drop, .drop, .drop, .drop, .drop, .drop, .drop, .drop, .drop, .drop, .drop, .drop, .drop, .drop, .drop, .drop, .drop, .drop, .drop, .drop, .drop, .drop, .drop, .drop, .drop, .drop, .drop, .drop, .drop, .drop, .drop, .drop, .drop, .drop, .drop, .drop, .drop, .drop, .drop, .drop, .drop, .drop, .drop, .drop, .drop, .drop, .drop, .drop, .drop, .drop, .drop, .drop, .drop, .drop, .drop, .drop, .drop, .drop, .drop, .drop, .drop, .drop, .drop, .drop, .drop, .drop, .drop, .drop, .drop, .drop, .drop, .drop, .drop, .drop, .drop, .drop, .drop, .drop, .drop, .drop, .drop, .drop, .drop, .drop, .drop, .drop, .drop, .drop, .drop, .drop, .drop, .drop, .drop, .drop, .drop, .drop], [.arr tILetter])
def kp_l_markLetterS : KP := [(2, k_l_markLetterS_2)]
noncomputable def q_l_markLetterS (n : Nat) (x : AP.denL [.io tILetter, .ro tInt]) := evX false l_l_markLetterS kp_l_markLetterS [none] Try.f47 (shO (shV tInt) [.io tILetter]) n (AP.encL [.io tILetter, .ro tInt] x)
noncomputable def c_l_markLetterS : Con := apS [.io tILetter, .ro tInt] true (shO (shV tInt) [.io tILetter]) (q_l_markLetterS big)
theorem c_l_markLetterS_ok : ConOk Try.prog 47 c_l_markLetterS := apS_ok ⟨Try.f47, by kernel_rfl, rfl, by decide⟩ fun _ _ h => evX_ok l_l_markLetterS_ok (f := Try.f47) (by kernel_rfl) rfl (by kernel_rfl) (by kernel_rfl) big h
noncomputable def Q_l_markLetterS (n : Nat) (a0 : DSlILetter) (a1 : DInt) : Option (DInt × DSlILetter × Unit) := q_l_markLetterS n (a0, a1, ())
noncomputable def r_l_markLetterS_2 (n : Nat) (x : KD k_l_markLetterS_2.1) (y : BD k_l_markLetterS_2.2) := rounds (env false l_l_markLetterS) kp_l_markLetterS (body Try.f47) (finX false l_l_markLetterS [none] Try.f47 (shO (shV tInt) [.io tILetter]) [AP.enc (.io tILetter) [], AP.enc (.ro tInt) (zeroD tInt)]) n 2 k_l_markLetterS_2 x y
noncomputable def R_l_markLetterS_2 (n : Nat) (s1 : DInt64) (s5 : DInt64) (b0 : (List DILetter)) : Option (DInt × DSlILetter × Unit) := r_l_markLetterS_2 n (s1, s5, ()) (b0, ())
theorem Q_l_markLetterS_eq (n : Nat) (a0 : DSlILetter) (a1 : DInt) : Q_l_markLetterS n a0 a1 =
    R_l_markLetterS_2 n a1 (0 : Int) a0 := by kernel_rfl
theorem R_l_markLetterS_2_eq (n : Nat) (s1 : DInt64) (s5 : DInt64) (b0 : (List DILetter)) : R_l_markLetterS_2 (n + 1) s1 s5 b0 =
    bif decide (s5 < (↑b0.length : Int)) then
    if (0 : Int) ≤ s5 then
      if s5 < (↑b0.length : Int) then
        (nth b0 (Int.toNat s5)).bind fun y =>
          if (0 : Int) ≤ s5 then
            if s5 < (↑(upd b0 (Int.toNat s5) (s1, y.snd)).length : Int) then
              (nth (upd b0 (Int.toNat s5) (s1, y.snd)) (Int.toNat s5)).bind fun y_1 =>
                if (0 : Int) ≤ s5 then
                  if
                      s5 <
                        (↑(upd (upd b0 (Int.toNat s5) (s1, y.snd)) (Int.toNat s5)
                                (y_1.fst, IntKind.i64.wrap (s1 + (1 : Int)), y_1.snd.snd)).length :
                          Int) then
                    (nth
                          (upd (upd b0 (Int.toNat s5) (s1, y.snd)) (Int.toNat s5)
                            (y_1.fst, IntKind.i64.wrap (s1 + (1 : Int)), y_1.snd.snd))
                          (Int.toNat s5)).bind
                      fun y_2 =>
                      if (0 : Int) ≤ s5 then
                        if
                            s5 <
                              (↑(upd
                                      (upd (upd b0 (Int.toNat s5) (s1, y.snd)) (Int.toNat s5)
                                        (y_1.fst, IntKind.i64.wrap (s1 + (1 : Int)), y_1.snd.snd))
                                      (Int.toNat s5)
                                      (y_2.fst, y_2.snd.fst,
                                        IntKind.i64.wrap (IntKind.i64.wrap (s1 + (1 : Int)) + (1 : Int)),
                                        y_2.snd.snd.snd)).length :
                                Int) then
                          (nth
                                (upd
                                  (upd (upd b0 (Int.toNat s5) (s1, y.snd)) (Int.toNat s5)
                                    (y_1.fst, IntKind.i64.wrap (s1 + (1 : Int)), y_1.snd.snd))
                                  (Int.toNat s5)
                                  (y_2.fst, y_2.snd.fst,
                                    IntKind.i64.wrap (IntKind.i64.wrap (s1 + (1 : Int)) + (1 : Int)), y_2.snd.snd.snd))
                                (Int.toNat s5)).bind
                            fun y_3 =>
                            if (0 : Int) ≤ s5 then
                              if
                                  s5 <
                                    (↑(upd
                                            (upd
                                              (upd (upd b0 (Int.toNat s5) (s1, y.snd)) (Int.toNat s5)
                                                (y_1.fst, IntKind.i64.wrap (s1 + (1 : Int)), y_1.snd.snd))
                                              (Int.toNat s5)
                                              (y_2.fst, y_2.snd.fst,
                                                IntKind.i64.wrap (IntKind.i64.wrap (s1 + (1 : Int)) + (1 : Int)),
                                                y_2.snd.snd.snd))
                                            (Int.toNat s5)
                                            (y_3.fst, y_3.snd.fst, y_3.snd.snd.fst,
                                              IntKind.i64.wrap
                                                (IntKind.i64.wrap (IntKind.i64.wrap (s1 + (1 : Int)) + (1 : Int)) +
                                                  (1 : Int)),
                                              y_3.snd.snd.snd.snd)).length :
                                      Int) then
                                (nth
                                      (upd
                                        (upd
                                          (upd (upd b0 (Int.toNat s5) (s1, y.snd)) (Int.toNat s5)
                                            (y_1.fst, IntKind.i64.wrap (s1 + (1 : Int)), y_1.snd.snd))
                                          (Int.toNat s5)
                                          (y_2.fst, y_2.snd.fst,
                                            IntKind.i64.wrap (IntKind.i64.wrap (s1 + (1 : Int)) + (1 : Int)),
                                            y_2.snd.snd.snd))
                                        (Int.toNat s5)
                                        (y_3.fst, y_3.snd.fst, y_3.snd.snd.fst,
                                          IntKind.i64.wrap
                                            (IntKind.i64.wrap (IntKind.i64.wrap (s1 + (1 : Int)) + (1 : Int)) +
                                              (1 : Int)),
                                          y_3.snd.snd.snd.snd))
                                      (Int.toNat s5)).bind
                                  fun y_4 =>
                                  if (0 : Int) ≤ s5 then
                                    if
                                        s5 <
                                          (↑(upd
                                                  (upd
                                                    (upd
                                                      (upd (upd b0 (Int.toNat s5) (s1, y.snd)) (Int.toNat s5)
                                                        (y_1.fst, IntKind.i64.wrap (s1 + (1 : Int)), y_1.snd.snd))
                                                      (Int.toNat s5)
                                                      (y_2.fst, y_2.snd.fst,
                                                        IntKind.i64.wrap
                                                          (IntKind.i64.wrap (s1 + (1 : Int)) + (1 : Int)),
                                                        y_2.snd.snd.snd))
                                                    (Int.toNat s5)
                                                    (y_3.fst, y_3.snd.fst, y_3.snd.snd.fst,
                                                      IntKind.i64.wrap
                                                        (IntKind.i64.wrap
                                                            (IntKind.i64.wrap (s1 + (1 : Int)) + (1 : Int)) +
                                                          (1 : Int)),
                                                      y_3.snd.snd.snd.snd))
                                                  (Int.toNat s5)
                                                  (y_4.fst, y_4.snd.fst, y_4.snd.snd.fst, y_4.snd.snd.snd.fst,
                                                    IntKind.i64.wrap
                                                      (IntKind.i64.wrap
                                                          (IntKind.i64.wrap
                                                              (IntKind.i64.wrap (s1 + (1 : Int)) + (1 : Int)) +
                                                            (1 : Int)) +
                                                        (1 : Int)),
                                                    y_4.snd.snd.snd.snd.snd)).length :
                                            Int) then
                                      (nth
                                            (upd
                                              (upd
                                                (upd
                                                  (upd (upd b0 (Int.toNat s5) (s1, y.snd)) (Int.toNat s5)
                                                    (y_1.fst, IntKind.i64.wrap (s1 + (1 : Int)), y_1.snd.snd))
                                                  (Int.toNat s5)
                                                  (y_2.fst, y_2.snd.fst,
                                                    IntKind.i64.wrap (IntKind.i64.wrap (s1 + (1 : Int)) + (1 : Int)),
                                                    y_2.snd.snd.snd))
                                                (Int.toNat s5)
                                                (y_3.fst, y_3.snd.fst, y_3.snd.snd.fst,
                                                  IntKind.i64.wrap
                                                    (IntKind.i64.wrap (IntKind.i64.wrap (s1 + (1 : Int)) + (1 : Int)) +
                                                      (1 : Int)),
                                                  y_3.snd.snd.snd.snd))
                                              (Int.toNat s5)
                                              (y_4.fst, y_4.snd.fst, y_4.snd.snd.fst, y_4.snd.snd.snd.fst,
                                                IntKind.i64.wrap
                                                  (IntKind.i64.wrap
                                                      (IntKind.i64.wrap
                                                          (IntKind.i64.wrap (s1 + (1 : Int)) + (1 : Int)) +
                                                        (1 : Int)) +
                                                    (1 : Int)),
                                                y_4.snd.snd.snd.snd.snd))
                                            (Int.toNat s5)).bind
                                        fun y_5 =>
                                        if (0 : Int) ≤ s5 then
                                          if
                                              s5 <
                                                (↑(upd
                                                        (upd
                                                          (upd
                                                            (upd
                                                              (upd (upd b0 (Int.toNat s5) (s1, y.snd)) (Int.toNat s5)
                                                                (y_1.fst, IntKind.i64.wrap (s1 + (1 : Int)),
                                                                  y_1.snd.snd))
                                                              (Int.toNat s5)
                                                              (y_2.fst, y_2.snd.fst,
                                                                IntKind.i64.wrap
                                                                  (IntKind.i64.wrap (s1 + (1 : Int)) + (1 : Int)),
                                                                y_2.snd.snd.snd))
                                                            (Int.toNat s5)
                                                            (y_3.fst, y_3.snd.fst, y_3.snd.snd.fst,
                                                              IntKind.i64.wrap
                                                                (IntKind.i64.wrap
                                                                    (IntKind.i64.wrap (s1 + (1 : Int)) + (1 : Int)) +
                                                                  (1 : Int)),
                                                              y_3.snd.snd.snd.snd))
                                                          (Int.toNat s5)
                                                          (y_4.fst, y_4.snd.fst, y_4.snd.snd.fst, y_4.snd.snd.snd.fst,
                                                            IntKind.i64.wrap
                                                              (IntKind.i64.wrap
                                                                  (IntKind.i64.wrap
                                                                      (IntKind.i64.wrap (s1 + (1 : Int)) + (1 : Int)) +
                                                                    (1 : Int)) +
                                                                (1 : Int)),
                                                            y_4.snd.snd.snd.snd.snd))
                                                        (Int.toNat s5)
                                                        (y_5.fst, y_5.snd.fst, y_5.snd.snd.fst, y_5.snd.snd.snd.fst,
                                                          y_5.snd.snd.snd.snd.fst,
                                                          (IntKind.i64.wrap
                                                              (IntKind.i64.wrap
                                                                  (IntKind.i64.wrap
                                                                      (IntKind.i64.wrap
                                                                          (IntKind.i64.wrap (s1 + (1 : Int)) +
                                                                            (1 : Int)) +
                                                                        (1 : Int)) +
                                                                    (1 : Int)) +
                                                                (1 : Int)),
                                                            y_5.snd.snd.snd.snd.snd.fst.snd),
                                                          y_5.snd.snd.snd.snd.snd.snd)).length :
                                                  Int) then
                                            (nth
                                                  (upd
                                                    (upd
                                                      (upd
                                                        (upd
                                                          (upd (upd b0 (Int.toNat s5) (s1, y.snd)) (Int.toNat s5)
                                                            (y_1.fst, IntKind.i64.wrap (s1 + (1 : Int)), y_1.snd.snd))
                                                          (Int.toNat s5)
                                                          (y_2.fst, y_2.snd.fst,
                                                            IntKind.i64.wrap
                                                              (IntKind.i64.wrap (s1 + (1 : Int)) + (1 : Int)),
                                                            y_2.snd.snd.snd))
                                                        (Int.toNat s5)
                                                        (y_3.fst, y_3.snd.fst, y_3.snd.snd.fst,
                                                          IntKind.i64.wrap
                                                            (IntKind.i64.wrap
                                                                (IntKind.i64.wrap (s1 + (1 : Int)) + (1 : Int)) +
                                                              (1 : Int)),
                                                          y_3.snd.snd.snd.snd))
                                                      (Int.toNat s5)
                                                      (y_4.fst, y_4.snd.fst, y_4.snd.snd.fst, y_4.snd.snd.snd.fst,
                                                        IntKind.i64.wrap
                                                          (IntKind.i64.wrap
                                                              (IntKind.i64.wrap
                                                                  (IntKind.i64.wrap (s1 + (1 : Int)) + (1 : Int)) +
                                                                (1 : Int)) +
                                                            (1 : Int)),
                                                        y_4.snd.snd.snd.snd.snd))
                                                    (Int.toNat s5)
                                                    (y_5.fst, y_5.snd.fst, y_5.snd.snd.fst, y_5.snd.snd.snd.fst,
                                                      y_5.snd.snd.snd.snd.fst,
                                                      (IntKind.i64.wrap
                                                          (IntKind.i64.wrap
                                                              (IntKind.i64.wrap
                                                                  (IntKind.i64.wrap
                                                                      (IntKind.i64.wrap (s1 + (1 : Int)) + (1 : Int)) +
                                                                    (1 : Int)) +
                                                                (1 : Int)) +
                                                            (1 : Int)),
                                                        y_5.snd.snd.snd.snd.snd.fst.snd),
                                                      y_5.snd.snd.snd.snd.snd.snd))
                                                  (Int.toNat s5)).bind
                                              fun y_6 =>
                                              if (0 : Int) ≤ s5 then
                                                if
                                                    s5 <
                                                      (↑(upd
                                                              (upd
                                                                (upd
                                                                  (upd
                                                                    (upd
                                                                      (upd (upd b0 (Int.toNat s5) (s1, y.snd))
                                                                        (Int.toNat s5)
                                                                        (y_1.fst, IntKind.i64.wrap (s1 + (1 : Int)),
                                                                          y_1.snd.snd))
                                                                      (Int.toNat s5)
                                                                      (y_2.fst, y_2.snd.fst,
                                                                        IntKind.i64.wrap
                                                                          (IntKind.i64.wrap (s1 + (1 : Int)) +
                                                                            (1 : Int)),
                                                                        y_2.snd.snd.snd))
                                                                    (Int.toNat s5)
                                                                    (y_3.fst, y_3.snd.fst, y_3.snd.snd.fst,
                                                                      IntKind.i64.wrap
                                                                        (IntKind.i64.wrap
                                                                            (IntKind.i64.wrap (s1 + (1 : Int)) +
                                                                              (1 : Int)) +
                                                                          (1 : Int)),
                                                                      y_3.snd.snd.snd.snd))
                                                                  (Int.toNat s5)
                                                                  (y_4.fst, y_4.snd.fst, y_4.snd.snd.fst,
                                                                    y_4.snd.snd.snd.fst,
                                                                    IntKind.i64.wrap
                                                                      (IntKind.i64.wrap
                                                                          (IntKind.i64.wrap
                                                                              (IntKind.i64.wrap (s1 + (1 : Int)) +
                                                                                (1 : Int)) +
                                                                            (1 : Int)) +
                                                                        (1 : Int)),
                                                                    y_4.snd.snd.snd.snd.snd))
                                                                (Int.toNat s5)
                                                                (y_5.fst, y_5.snd.fst, y_5.snd.snd.fst,
                                                                  y_5.snd.snd.snd.fst, y_5.snd.snd.snd.snd.fst,
                                                                  (IntKind.i64.wrap
                                                                      (IntKind.i64.wrap
                                                                          (IntKind.i64.wrap
                                                                              (IntKind.i64.wrap
                                                                                  (IntKind.i64.wrap (s1 + (1 : Int)) +
                                                                                    (1 : Int)) +
                                                                                (1 : Int)) +
                                                                            (1 : Int)) +
                                                                        (1 : Int)),
                                                                    y_5.snd.snd.snd.snd.snd.fst.snd),
                                                                  y_5.snd.snd.snd.snd.snd.snd))
                                                              (Int.toNat s5)
                                                              (y_6.fst, y_6.snd.fst, y_6.snd.snd.fst,
                                                                y_6.snd.snd.snd.fst, y_6.snd.snd.snd.snd.fst,
                                                                (y_6.snd.snd.snd.snd.snd.fst.fst,
                                                                  IntKind.i64.wrap
                                                                    (IntKind.i64.wrap
                                                                        (IntKind.i64.wrap
                                                                            (IntKind.i64.wrap
                                                                                (IntKind.i64.wrap
                                                                                    (IntKind.i64.wrap (s1 + (1 : Int)) +
                                                                                      (1 : Int)) +
                                                                                  (1 : Int)) +
                                                                              (1 : Int)) +
                                                                          (1 : Int)) +
                                                                      (1 : Int)),
                                                                  y_6.snd.snd.snd.snd.snd.fst.snd.snd),
                                                                y_6.snd.snd.snd.snd.snd.snd)).length :
                                                        Int) then
                                                  (nth
                                                        (upd
                                                          (upd
                                                            (upd
                                                              (upd
                                                                (upd
                                                                  (upd (upd b0 (Int.toNat s5) (s1, y.snd))
                                                                    (Int.toNat s5)
                                                                    (y_1.fst, IntKind.i64.wrap (s1 + (1 : Int)),
                                                                      y_1.snd.snd))
                                                                  (Int.toNat s5)
                                                                  (y_2.fst, y_2.snd.fst,
                                                                    IntKind.i64.wrap
                                                                      (IntKind.i64.wrap (s1 + (1 : Int)) + (1 : Int)),
                                                                    y_2.snd.snd.snd))
                                                                (Int.toNat s5)
                                                                (y_3.fst, y_3.snd.fst, y_3.snd.snd.fst,
                                                                  IntKind.i64.wrap
                                                                    (IntKind.i64.wrap
                                                                        (IntKind.i64.wrap (s1 + (1 : Int)) +
                                                                          (1 : Int)) +
                                                                      (1 : Int)),
                                                                  y_3.snd.snd.snd.snd))
                                                              (Int.toNat s5)
                                                              (y_4.fst, y_4.snd.fst, y_4.snd.snd.fst,
                                                                y_4.snd.snd.snd.fst,
                                                                IntKind.i64.wrap
                                                                  (IntKind.i64.wrap
                                                                      (IntKind.i64.wrap
                                                                          (IntKind.i64.wrap (s1 + (1 : Int)) +
                                                                            (1 : Int)) +
                                                                        (1 : Int)) +
                                                                    (1 : Int)),
                                                                y_4.snd.snd.snd.snd.snd))
                                                            (Int.toNat s5)
                                                            (y_5.fst, y_5.snd.fst, y_5.snd.snd.fst, y_5.snd.snd.snd.fst,
                                                              y_5.snd.snd.snd.snd.fst,
                                                              (IntKind.i64.wrap
                                                                  (IntKind.i64.wrap
                                                                      (IntKind.i64.wrap
                                                                          (IntKind.i64.wrap
                                                                              (IntKind.i64.wrap (s1 + (1 : Int)) +
                                                                                (1 : Int)) +
                                                                            (1 : Int)) +
                                                                        (1 : Int)) +
                                                                    (1 : Int)),
                                                                y_5.snd.snd.snd.snd.snd.fst.snd),
                                                              y_5.snd.snd.snd.snd.snd.snd))
                                                          (Int.toNat s5)
                                                          (y_6.fst, y_6.snd.fst, y_6.snd.snd.fst, y_6.snd.snd.snd.fst,
                                                            y_6.snd.snd.snd.snd.fst,
                                                            (y_6.snd.snd.snd.snd.snd.fst.fst,
                                                              IntKind.i64.wrap
                                                                (IntKind.i64.wrap
                                                                    (IntKind.i64.wrap
                                                                        (IntKind.i64.wrap
                                                                            (IntKind.i64.wrap
                                                                                (IntKind.i64.wrap (s1 + (1 : Int)) +
                                                                                  (1 : Int)) +
                                                                              (1 : Int)) +
                                                                          (1 : Int)) +
                                                                      (1 : Int)) +
                                                                  (1 : Int)),
                                                              y_6.snd.snd.snd.snd.snd.fst.snd.snd),
                                                            y_6.snd.snd.snd.snd.snd.snd))
                                                        (Int.toNat s5)).bind
                                                    fun y_7 =>
                                                    if (0 : Int) ≤ s5 then
                                                      if
                                                          s5 <
                                                            (↑(upd
                                                                    (upd
                                                                      (upd
                                                                        (upd
                                                                          (upd
                                                                            (upd
                                                                              (upd (upd b0 (Int.toNat s5) (s1, y.snd))
                                                                                (Int.toNat s5)
                                                                                (y_1.fst,
                                                                                  IntKind.i64.wrap (s1 + (1 : Int)),
                                                                                  y_1.snd.snd))
                                                                              (Int.toNat s5)
                                                                              (y_2.fst, y_2.snd.fst,
                                                                                IntKind.i64.wrap
                                                                                  (IntKind.i64.wrap (s1 + (1 : Int)) +
                                                                                    (1 : Int)),
                                                                                y_2.snd.snd.snd))
                                                                            (Int.toNat s5)
                                                                            (y_3.fst, y_3.snd.fst, y_3.snd.snd.fst,
                                                                              IntKind.i64.wrap
                                                                                (IntKind.i64.wrap
                                                                                    (IntKind.i64.wrap (s1 + (1 : Int)) +
                                                                                      (1 : Int)) +
                                                                                  (1 : Int)),
                                                                              y_3.snd.snd.snd.snd))
                                                                          (Int.toNat s5)
                                                                          (y_4.fst, y_4.snd.fst, y_4.snd.snd.fst,
                                                                            y_4.snd.snd.snd.fst,
                                                                            IntKind.i64.wrap
                                                                              (IntKind.i64.wrap
                                                                                  (IntKind.i64.wrap
                                                                                      (IntKind.i64.wrap
                                                                                          (s1 + (1 : Int)) +
                                                                                        (1 : Int)) +
                                                                                    (1 : Int)) +
                                                                                (1 : Int)),
                                                                            y_4.snd.snd.snd.snd.snd))
                                                                        (Int.toNat s5)
                                                                        (y_5.fst, y_5.snd.fst, y_5.snd.snd.fst,
                                                                          y_5.snd.snd.snd.fst, y_5.snd.snd.snd.snd.fst,
                                                                          (IntKind.i64.wrap
                                                                              (IntKind.i64.wrap
                                                                                  (IntKind.i64.wrap
                                                                                      (IntKind.i64.wrap
                                                                                          (IntKind.i64.wrap
                                                                                              (s1 + (1 : Int)) +
                                                                                            (1 : Int)) +
                                                                                        (1 : Int)) +
                                                                                    (1 : Int)) +
                                                                                (1 : Int)),
                                                                            y_5.snd.snd.snd.snd.snd.fst.snd),
                                                                          y_5.snd.snd.snd.snd.snd.snd))
                                                                      (Int.toNat s5)
                                                                      (y_6.fst, y_6.snd.fst, y_6.snd.snd.fst,
                                                                        y_6.snd.snd.snd.fst, y_6.snd.snd.snd.snd.fst,
                                                                        (y_6.snd.snd.snd.snd.snd.fst.fst,
                                                                          IntKind.i64.wrap
                                                                            (IntKind.i64.wrap
                                                                                (IntKind.i64.wrap
                                                                                    (IntKind.i64.wrap
                                                                                        (IntKind.i64.wrap
                                                                                            (IntKind.i64.wrap
                                                                                                (s1 + (1 : Int)) +
                                                                                              (1 : Int)) +
                                                                                          (1 : Int)) +
                                                                                      (1 : Int)) +
                                                                                  (1 : Int)) +
                                                                              (1 : Int)),
                                                                          y_6.snd.snd.snd.snd.snd.fst.snd.snd),
                                                                        y_6.snd.snd.snd.snd.snd.snd))
                                                                    (Int.toNat s5)
                                                                    (y_7.fst, y_7.snd.fst, y_7.snd.snd.fst,
                                                                      y_7.snd.snd.snd.fst, y_7.snd.snd.snd.snd.fst,
                                                                      (y_7.snd.snd.snd.snd.snd.fst.fst,
                                                                        y_7.snd.snd.snd.snd.snd.fst.snd.fst,
                                                                        IntKind.i64.wrap
                                                                          (IntKind.i64.wrap
                                                                              (IntKind.i64.wrap
                                                                                  (IntKind.i64.wrap
                                                                                      (IntKind.i64.wrap
                                                                                          (IntKind.i64.wrap
                                                                                              (IntKind.i64.wrap
                                                                                                  (s1 + (1 : Int)) +
                                                                                                (1 : Int)) +
                                                                                            (1 : Int)) +
                                                                                        (1 : Int)) +
                                                                                    (1 : Int)) +
                                                                                (1 : Int)) +
                                                                            (1 : Int)),
                                                                        y_7.snd.snd.snd.snd.snd.fst.snd.snd.snd),
                                                                      y_7.snd.snd.snd.snd.snd.snd)).length :
                                                              Int) then
                                                        (nth
                                                              (upd
                                                                (upd
                                                                  (upd
                                                                    (upd
                                                                      (upd
                                                                        (upd
                                                                          (upd (upd b0 (Int.toNat s5) (s1, y.snd))
                                                                            (Int.toNat s5)
                                                                            (y_1.fst, IntKind.i64.wrap (s1 + (1 : Int)),
                                                                              y_1.snd.snd))
                                                                          (Int.toNat s5)
                                                                          (y_2.fst, y_2.snd.fst,
                                                                            IntKind.i64.wrap
                                                                              (IntKind.i64.wrap (s1 + (1 : Int)) +
                                                                                (1 : Int)),
                                                                            y_2.snd.snd.snd))
                                                                        (Int.toNat s5)
                                                                        (y_3.fst, y_3.snd.fst, y_3.snd.snd.fst,
                                                                          IntKind.i64.wrap
                                                                            (IntKind.i64.wrap
                                                                                (IntKind.i64.wrap (s1 + (1 : Int)) +
                                                                                  (1 : Int)) +
                                                                              (1 : Int)),
                                                                          y_3.snd.snd.snd.snd))
                                                                      (Int.toNat s5)
                                                                      (y_4.fst, y_4.snd.fst, y_4.snd.snd.fst,
                                                                        y_4.snd.snd.snd.fst,
                                                                        IntKind.i64.wrap
                                                                          (IntKind.i64.wrap
                                                                              (IntKind.i64.wrap
                                                                                  (IntKind.i64.wrap (s1 + (1 : Int)) +
                                                                                    (1 : Int)) +
                                                                                (1 : Int)) +
                                                                            (1 : Int)),
                                                                        y_4.snd.snd.snd.snd.snd))
                                                                    (Int.toNat s5)
                                                                    (y_5.fst, y_5.snd.fst, y_5.snd.snd.fst,
                                                                      y_5.snd.snd.snd.fst, y_5.snd.snd.snd.snd.fst,
                                                                      (IntKind.i64.wrap
                                                                          (IntKind.i64.wrap
                                                                              (IntKind.i64.wrap
                                                                                  (IntKind.i64.wrap
                                                                                      (IntKind.i64.wrap
                                                                                          (s1 + (1 : Int)) +
                                                                                        (1 : Int)) +
                                                                                    (1 : Int)) +
                                                                                (1 : Int)) +
                                                                            (1 : Int)),
                                                                        y_5.snd.snd.snd.snd.snd.fst.snd),
                                                                      y_5.snd.snd.snd.snd.snd.snd))
                                                                  (Int.toNat s5)
                                                                  (y_6.fst, y_6.snd.fst, y_6.snd.snd.fst,
                                                                    y_6.snd.snd.snd.fst, y_6.snd.snd.snd.snd.fst,
                                                                    (y_6.snd.snd.snd.snd.snd.fst.fst,
                                                                      IntKind.i64.wrap
                                                                        (IntKind.i64.wrap
                                                                            (IntKind.i64.wrap
                                                                                (IntKind.i64.wrap
                                                                                    (IntKind.i64.wrap
                                                                                        (IntKind.i64.wrap
                                                                                            (s1 + (1 : Int)) +
                                                                                          (1 : Int)) +
                                                                                      (1 : Int)) +
                                                                                  (1 : Int)) +
                                                                              (1 : Int)) +
                                                                          (1 : Int)),
                                                                      y_6.snd.snd.snd.snd.snd.fst.snd.snd),
                                                                    y_6.snd.snd.snd.snd.snd.snd))
                                                                (Int.toNat s5)
                                                                (y_7.fst, y_7.snd.fst, y_7.snd.snd.fst,
                                                                  y_7.snd.snd.snd.fst, y_7.snd.snd.snd.snd.fst,
                                                                  (y_7.snd.snd.snd.snd.snd.fst.fst,
                                                                    y_7.snd.snd.snd.snd.snd.fst.snd.fst,
                                                                    IntKind.i64.wrap
                                                                      (IntKind.i64.wrap
                                                                          (IntKind.i64.wrap
                                                                              (IntKind.i64.wrap
                                                                                  (IntKind.i64.wrap
                                                                                      (IntKind.i64.wrap
                                                                                          (IntKind.i64.wrap
                                                                                              (s1 + (1 : Int)) +
                                                                                            (1 : Int)) +
                                                                                        (1 : Int)) +
                                                                                    (1 : Int)) +
                                                                                (1 : Int)) +
                                                                            (1 : Int)) +
                                                                        (1 : Int)),
                                                                    y_7.snd.snd.snd.snd.snd.fst.snd.snd.snd),
                                                                  y_7.snd.snd.snd.snd.snd.snd))
                                                              (Int.toNat s5)).bind
                                                          fun y_8 =>
                                                          if (0 : Int) ≤ s5 then
                                                            if
                                                                s5 <
                                                                  (↑(upd
                                                                          (upd
                                                                            (upd
                                                                              (upd
                                                                                (upd
                                                                                  (upd
                                                                                    (upd
                                                                                      (upd
                                                                                        (upd b0 (Int.toNat s5)
                                                                                          (s1, y.snd))
                                                                                        (Int.toNat s5)
                                                                                        (y_1.fst,
                                                                                          IntKind.i64.wrap
                                                                                            (s1 + (1 : Int)),
                                                                                          y_1.snd.snd))
                                                                                      (Int.toNat s5)
                                                                                      (y_2.fst, y_2.snd.fst,
                                                                                        IntKind.i64.wrap
                                                                                          (IntKind.i64.wrap
                                                                                              (s1 + (1 : Int)) +
                                                                                            (1 : Int)),
                                                                                        y_2.snd.snd.snd))
                                                                                    (Int.toNat s5)
                                                                                    (y_3.fst, y_3.snd.fst,
                                                                                      y_3.snd.snd.fst,
                                                                                      IntKind.i64.wrap
                                                                                        (IntKind.i64.wrap
                                                                                            (IntKind.i64.wrap
                                                                                                (s1 + (1 : Int)) +
                                                                                              (1 : Int)) +
                                                                                          (1 : Int)),
                                                                                      y_3.snd.snd.snd.snd))
                                                                                  (Int.toNat s5)
                                                                                  (y_4.fst, y_4.snd.fst,
                                                                                    y_4.snd.snd.fst,
                                                                                    y_4.snd.snd.snd.fst,
                                                                                    IntKind.i64.wrap
                                                                                      (IntKind.i64.wrap
                                                                                          (IntKind.i64.wrap
                                                                                              (IntKind.i64.wrap
                                                                                                  (s1 + (1 : Int)) +
                                                                                                (1 : Int)) +
                                                                                            (1 : Int)) +
                                                                                        (1 : Int)),
                                                                                    y_4.snd.snd.snd.snd.snd))
                                                                                (Int.toNat s5)
                                                                                (y_5.fst, y_5.snd.fst, y_5.snd.snd.fst,
                                                                                  y_5.snd.snd.snd.fst,
                                                                                  y_5.snd.snd.snd.snd.fst,
                                                                                  (IntKind.i64.wrap
                                                                                      (IntKind.i64.wrap
                                                                                          (IntKind.i64.wrap
                                                                                              (IntKind.i64.wrap
                                                                                                  (IntKind.i64.wrap
                                                                                                      (s1 + (1 : Int)) +
                                                                                                    (1 : Int)) +
                                                                                                (1 : Int)) +
                                                                                            (1 : Int)) +
                                                                                        (1 : Int)),
                                                                                    y_5.snd.snd.snd.snd.snd.fst.snd),
                                                                                  y_5.snd.snd.snd.snd.snd.snd))
                                                                              (Int.toNat s5)
                                                                              (y_6.fst, y_6.snd.fst, y_6.snd.snd.fst,
                                                                                y_6.snd.snd.snd.fst,
                                                                                y_6.snd.snd.snd.snd.fst,
                                                                                (y_6.snd.snd.snd.snd.snd.fst.fst,
                                                                                  IntKind.i64.wrap
                                                                                    (IntKind.i64.wrap
                                                                                        (IntKind.i64.wrap
                                                                                            (IntKind.i64.wrap
                                                                                                (IntKind.i64.wrap
                                                                                                    (IntKind.i64.wrap
                                                                                                        (s1 +
                                                                                                          (1 : Int)) +
                                                                                                      (1 : Int)) +
                                                                                                  (1 : Int)) +
                                                                                              (1 : Int)) +
                                                                                          (1 : Int)) +
                                                                                      (1 : Int)),
                                                                                  y_6.snd.snd.snd.snd.snd.fst.snd.snd),
                                                                                y_6.snd.snd.snd.snd.snd.snd))
                                                                            (Int.toNat s5)
                                                                            (y_7.fst, y_7.snd.fst, y_7.snd.snd.fst,
                                                                              y_7.snd.snd.snd.fst,
                                                                              y_7.snd.snd.snd.snd.fst,
                                                                              (y_7.snd.snd.snd.snd.snd.fst.fst,
                                                                                y_7.snd.snd.snd.snd.snd.fst.snd.fst,
                                                                                IntKind.i64.wrap
                                                                                  (IntKind.i64.wrap
                                                                                      (IntKind.i64.wrap
                                                                                          (IntKind.i64.wrap
                                                                                              (IntKind.i64.wrap
                                                                                                  (IntKind.i64.wrap
                                                                                                      (IntKind.i64.wrap
                                                                                                          (s1 +
                                                                                                            (1 : Int)) +
                                                                                                        (1 : Int)) +
                                                                                                    (1 : Int)) +
                                                                                                (1 : Int)) +
                                                                                            (1 : Int)) +
                                                                                        (1 : Int)) +
                                                                                    (1 : Int)),
                                                                                y_7.snd.snd.snd.snd.snd.fst.snd.snd.snd),
                                                                              y_7.snd.snd.snd.snd.snd.snd))
                                                                          (Int.toNat s5)
                                                                          (y_8.fst, y_8.snd.fst, y_8.snd.snd.fst,
                                                                            y_8.snd.snd.snd.fst,
                                                                            y_8.snd.snd.snd.snd.fst,
                                                                            (y_8.snd.snd.snd.snd.snd.fst.fst,
                                                                              y_8.snd.snd.snd.snd.snd.fst.snd.fst,
                                                                              y_8.snd.snd.snd.snd.snd.fst.snd.snd.fst,
                                                                              IntKind.i64.wrap
                                                                                (IntKind.i64.wrap
                                                                                    (IntKind.i64.wrap
                                                                                        (IntKind.i64.wrap
                                                                                            (IntKind.i64.wrap
                                                                                                (IntKind.i64.wrap
                                                                                                    (IntKind.i64.wrap
                                                                                                        (IntKind.i64.wrap
                                                                                                            (s1 +
                                                                                                              (1 :
                                                                                                                Int)) +
                                                                                                          (1 : Int)) +
                                                                                                      (1 : Int)) +
                                                                                                  (1 : Int)) +
                                                                                              (1 : Int)) +
                                                                                          (1 : Int)) +
                                                                                      (1 : Int)) +
                                                                                  (1 : Int)),
                                                                              ()),
                                                                            y_8.snd.snd.snd.snd.snd.snd)).length :
                                                                    Int) then
                                                              (nth
                                                                    (upd
                                                                      (upd
                                                                        (upd
                                                                          (upd
                                                                            (upd
                                                                              (upd
                                                                                (upd
                                                                                  (upd
                                                                                    (upd b0 (Int.toNat s5) (s1, y.snd))
                                                                                    (Int.toNat s5)
                                                                                    (y_1.fst,
                                                                                      IntKind.i64.wrap (s1 + (1 : Int)),
                                                                                      y_1.snd.snd))
                                                                                  (Int.toNat s5)
                                                                                  (y_2.fst, y_2.snd.fst,
                                                                                    IntKind.i64.wrap
                                                                                      (IntKind.i64.wrap
                                                                                          (s1 + (1 : Int)) +
                                                                                        (1 : Int)),
                                                                                    y_2.snd.snd.snd))
                                                                                (Int.toNat s5)
                                                                                (y_3.fst, y_3.snd.fst, y_3.snd.snd.fst,
                                                                                  IntKind.i64.wrap
                                                                                    (IntKind.i64.wrap
                                                                                        (IntKind.i64.wrap
                                                                                            (s1 + (1 : Int)) +
                                                                                          (1 : Int)) +
                                                                                      (1 : Int)),
                                                                                  y_3.snd.snd.snd.snd))
                                                                              (Int.toNat s5)
                                                                              (y_4.fst, y_4.snd.fst, y_4.snd.snd.fst,
                                                                                y_4.snd.snd.snd.fst,
                                                                                IntKind.i64.wrap
                                                                                  (IntKind.i64.wrap
                                                                                      (IntKind.i64.wrap
                                                                                          (IntKind.i64.wrap
                                                                                              (s1 + (1 : Int)) +
                                                                                            (1 : Int)) +
                                                                                        (1 : Int)) +
                                                                                    (1 : Int)),
                                                                                y_4.snd.snd.snd.snd.snd))
                                                                            (Int.toNat s5)
                                                                            (y_5.fst, y_5.snd.fst, y_5.snd.snd.fst,
                                                                              y_5.snd.snd.snd.fst,
                                                                              y_5.snd.snd.snd.snd.fst,
                                                                              (IntKind.i64.wrap
                                                                                  (IntKind.i64.wrap
                                                                                      (IntKind.i64.wrap
                                                                                          (IntKind.i64.wrap
                                                                                              (IntKind.i64.wrap
                                                                                                  (s1 + (1 : Int)) +
                                                                                                (1 : Int)) +
                                                                                            (1 : Int)) +
                                                                                        (1 : Int)) +
                                                                                    (1 : Int)),
                                                                                y_5.snd.snd.snd.snd.snd.fst.snd),
                                                                              y_5.snd.snd.snd.snd.snd.snd))
                                                                          (Int.toNat s5)
                                                                          (y_6.fst, y_6.snd.fst, y_6.snd.snd.fst,
                                                                            y_6.snd.snd.snd.fst,
                                                                            y_6.snd.snd.snd.snd.fst,
                                                                            (y_6.snd.snd.snd.snd.snd.fst.fst,
                                                                              IntKind.i64.wrap
                                                                                (IntKind.i64.wrap
                                                                                    (IntKind.i64.wrap
                                                                                        (IntKind.i64.wrap
                                                                                            (IntKind.i64.wrap
                                                                                                (IntKind.i64.wrap
                                                                                                    (s1 + (1 : Int)) +
                                                                                                  (1 : Int)) +
                                                                                              (1 : Int)) +
                                                                                          (1 : Int)) +
                                                                                      (1 : Int)) +
                                                                                  (1 : Int)),
                                                                              y_6.snd.snd.snd.snd.snd.fst.snd.snd),
                                                                            y_6.snd.snd.snd.snd.snd.snd))
                                                                        (Int.toNat s5)
                                                                        (y_7.fst, y_7.snd.fst, y_7.snd.snd.fst,
                                                                          y_7.snd.snd.snd.fst, y_7.snd.snd.snd.snd.fst,
                                                                          (y_7.snd.snd.snd.snd.snd.fst.fst,
                                                                            y_7.snd.snd.snd.snd.snd.fst.snd.fst,
                                                                            IntKind.i64.wrap
                                                                              (IntKind.i64.wrap
                                                                                  (IntKind.i64.wrap
                                                                                      (IntKind.i64.wrap
                                                                                          (IntKind.i64.wrap
                                                                                              (IntKind.i64.wrap
                                                                                                  (IntKind.i64.wrap
                                                                                                      (s1 + (1 : Int)) +
                                                                                                    (1 : Int)) +
                                                                                                (1 : Int)) +
                                                                                            (1 : Int)) +
                                                                                        (1 : Int)) +
                                                                                    (1 : Int)) +
                                                                                (1 : Int)),
                                                                            y_7.snd.snd.snd.snd.snd.fst.snd.snd.snd),
                                                                          y_7.snd.snd.snd.snd.snd.snd))
                                                                      (Int.toNat s5)
                                                                      (y_8.fst, y_8.snd.fst, y_8.snd.snd.fst,
                                                                        y_8.snd.snd.snd.fst, y_8.snd.snd.snd.snd.fst,
                                                                        (y_8.snd.snd.snd.snd.snd.fst.fst,
                                                                          y_8.snd.snd.snd.snd.snd.fst.snd.fst,
                                                                          y_8.snd.snd.snd.snd.snd.fst.snd.snd.fst,
                                                                          IntKind.i64.wrap
                                                                            (IntKind.i64.wrap
                                                                                (IntKind.i64.wrap
                                                                                    (IntKind.i64.wrap
                                                                                        (IntKind.i64.wrap
                                                                                            (IntKind.i64.wrap
                                                                                                (IntKind.i64.wrap
                                                                                                    (IntKind.i64.wrap
                                                                                                        (s1 +
                                                                                                          (1 : Int)) +
                                                                                                      (1 : Int)) +
                                                                                                  (1 : Int)) +
                                                                                              (1 : Int)) +
                                                                                          (1 : Int)) +
                                                                                      (1 : Int)) +
                                                                                  (1 : Int)) +
                                                                              (1 : Int)),
                                                                          ()),
                                                                        y_8.snd.snd.snd.snd.snd.snd))
                                                                    (Int.toNat s5)).bind
                                                                fun y_9 =>
                                                                if (0 : Int) ≤ s5 then
                                                                  if
                                                                      s5 <
                                                                        (↑(upd
                                                                                (upd
                                                                                  (upd
                                                                                    (upd
                                                                                      (upd
                                                                                        (upd
                                                                                          (upd
                                                                                            (upd
                                                                                              (upd
                                                                                                (upd b0 (Int.toNat s5)
                                                                                                  (s1, y.snd))
                                                                                                (Int.toNat s5)
                                                                                                (y_1.fst,
                                                                                                  IntKind.i64.wrap
                                                                                                    (s1 + (1 : Int)),
                                                                                                  y_1.snd.snd))
                                                                                              (Int.toNat s5)
                                                                                              (y_2.fst, y_2.snd.fst,
                                                                                                IntKind.i64.wrap
                                                                                                  (IntKind.i64.wrap
                                                                                                      (s1 + (1 : Int)) +
                                                                                                    (1 : Int)),
                                                                                                y_2.snd.snd.snd))
                                                                                            (Int.toNat s5)
                                                                                            (y_3.fst, y_3.snd.fst,
                                                                                              y_3.snd.snd.fst,
                                                                                              IntKind.i64.wrap
                                                                                                (IntKind.i64.wrap
                                                                                                    (IntKind.i64.wrap
                                                                                                        (s1 +
                                                                                                          (1 : Int)) +
                                                                                                      (1 : Int)) +
                                                                                                  (1 : Int)),
                                                                                              y_3.snd.snd.snd.snd))
                                                                                          (Int.toNat s5)
                                                                                          (y_4.fst, y_4.snd.fst,
                                                                                            y_4.snd.snd.fst,
                                                                                            y_4.snd.snd.snd.fst,
                                                                                            IntKind.i64.wrap
                                                                                              (IntKind.i64.wrap
                                                                                                  (IntKind.i64.wrap
                                                                                                      (IntKind.i64.wrap
                                                                                                          (s1 +
                                                                                                            (1 : Int)) +
                                                                                                        (1 : Int)) +
                                                                                                    (1 : Int)) +
                                                                                                (1 : Int)),
                                                                                            y_4.snd.snd.snd.snd.snd))
                                                                                        (Int.toNat s5)
                                                                                        (y_5.fst, y_5.snd.fst,
                                                                                          y_5.snd.snd.fst,
                                                                                          y_5.snd.snd.snd.fst,
                                                                                          y_5.snd.snd.snd.snd.fst,
                                                                                          (IntKind.i64.wrap
                                                                                              (IntKind.i64.wrap
                                                                                                  (IntKind.i64.wrap
                                                                                                      (IntKind.i64.wrap
                                                                                                          (IntKind.i64.wrap
                                                                                                              (s1 +
                                                                                                                (1 :
                                                                                                                  Int)) +
                                                                                                            (1 : Int)) +
                                                                                                        (1 : Int)) +
                                                                                                    (1 : Int)) +
                                                                                                (1 : Int)),
                                                                                            y_5.snd.snd.snd.snd.snd.fst.snd),
                                                                                          y_5.snd.snd.snd.snd.snd.snd))
                                                                                      (Int.toNat s5)
                                                                                      (y_6.fst, y_6.snd.fst,
                                                                                        y_6.snd.snd.fst,
                                                                                        y_6.snd.snd.snd.fst,
                                                                                        y_6.snd.snd.snd.snd.fst,
                                                                                        (y_6.snd.snd.snd.snd.snd.fst.fst,
                                                                                          IntKind.i64.wrap
                                                                                            (IntKind.i64.wrap
                                                                                                (IntKind.i64.wrap
                                                                                                    (IntKind.i64.wrap
                                                                                                        (IntKind.i64.wrap
                                                                                                            (IntKind.i64.wrap
                                                                                                                (s1 +
                                                                                                                  (1 :
                                                                                                                    Int)) +
                                                                                                              (1 :
                                                                                                                Int)) +
                                                                                                          (1 : Int)) +
                                                                                                      (1 : Int)) +
                                                                                                  (1 : Int)) +
                                                                                              (1 : Int)),
                                                                                          y_6.snd.snd.snd.snd.snd.fst.snd.snd),
                                                                                        y_6.snd.snd.snd.snd.snd.snd))
                                                                                    (Int.toNat s5)
                                                                                    (y_7.fst, y_7.snd.fst,
                                                                                      y_7.snd.snd.fst,
                                                                                      y_7.snd.snd.snd.fst,
                                                                                      y_7.snd.snd.snd.snd.fst,
                                                                                      (y_7.snd.snd.snd.snd.snd.fst.fst,
                                                                                        y_7.snd.snd.snd.snd.snd.fst.snd.fst,
                                                                                        IntKind.i64.wrap
                                                                                          (IntKind.i64.wrap
                                                                                              (IntKind.i64.wrap
                                                                                                  (IntKind.i64.wrap
                                                                                                      (IntKind.i64.wrap
                                                                                                          (IntKind.i64.wrap
                                                                                                              (IntKind.i64.wrap
                                                                                                                  (s1 +
                                                                                                                    (1 :
                                                                                                                      Int)) +
                                                                                                                (1 :
                                                                                                                  Int)) +
                                                                                                            (1 : Int)) +
                                                                                                        (1 : Int)) +
                                                                                                    (1 : Int)) +
                                                                                                (1 : Int)) +
                                                                                            (1 : Int)),
                                                                                        y_7.snd.snd.snd.snd.snd.fst.snd.snd.snd),
                                                                                      y_7.snd.snd.snd.snd.snd.snd))
                                                                                  (Int.toNat s5)
                                                                                  (y_8.fst, y_8.snd.fst,
                                                                                    y_8.snd.snd.fst,
                                                                                    y_8.snd.snd.snd.fst,
                                                                                    y_8.snd.snd.snd.snd.fst,
                                                                                    (y_8.snd.snd.snd.snd.snd.fst.fst,
                                                                                      y_8.snd.snd.snd.snd.snd.fst.snd.fst,
                                                                                      y_8.snd.snd.snd.snd.snd.fst.snd.snd.fst,
                                                                                      IntKind.i64.wrap
                                                                                        (IntKind.i64.wrap
                                                                                            (IntKind.i64.wrap
                                                                                                (IntKind.i64.wrap
                                                                                                    (IntKind.i64.wrap
                                                                                                        (IntKind.i64.wrap
                                                                                                            (IntKind.i64.wrap
                                                                                                                (IntKind.i64.wrap
                                                                                                                    (s1 +
                                                                                                                      (1 :
                                                                                                                        Int)) +
                                                                                                                  (1 :
                                                                                                                    Int)) +
                                                                                                              (1 :
                                                                                                                Int)) +
                                                                                                          (1 : Int)) +
                                                                                                      (1 : Int)) +
                                                                                                  (1 : Int)) +
                                                                                              (1 : Int)) +
                                                                                          (1 : Int)),
                                                                                      ()),
                                                                                    y_8.snd.snd.snd.snd.snd.snd))
                                                                                (Int.toNat s5)
                                                                                (y_9.fst, y_9.snd.fst, y_9.snd.snd.fst,
                                                                                  y_9.snd.snd.snd.fst,
                                                                                  y_9.snd.snd.snd.snd.fst,
                                                                                  y_9.snd.snd.snd.snd.snd.fst,
                                                                                  (IntKind.i64.wrap
                                                                                      (IntKind.i64.wrap
                                                                                          (IntKind.i64.wrap
                                                                                              (IntKind.i64.wrap
                                                                                                  (IntKind.i64.wrap
                                                                                                      (IntKind.i64.wrap
                                                                                                          (IntKind.i64.wrap
                                                                                                              (IntKind.i64.wrap
                                                                                                                  (IntKind.i64.wrap
                                                                                                                      (s1 +
                                                                                                                        (1 :
                                                                                                                          Int)) +
                                                                                                                    (1 :
                                                                                                                      Int)) +
                                                                                                                (1 :
                                                                                                                  Int)) +
                                                                                                            (1 : Int)) +
                                                                                                        (1 : Int)) +
                                                                                                    (1 : Int)) +
                                                                                                (1 : Int)) +
                                                                                            (1 : Int)) +
                                                                                        (1 : Int)),
                                                                                    y_9.snd.snd.snd.snd.snd.snd.fst.snd),
                                                                                  ())).length :
                                                                          Int) then
                                                                    (nth
                                                                          (upd
                                                                            (upd
                                                                              (upd
                                                                                (upd
                                                                                  (upd
                                                                                    (upd
                                                                                      (upd
                                                                                        (upd
                                                                                          (upd
                                                                                            (upd b0 (Int.toNat s5)
                                                                                              (s1, y.snd))
                                                                                            (Int.toNat s5)
                                                                                            (y_1.fst,
                                                                                              IntKind.i64.wrap
                                                                                                (s1 + (1 : Int)),
                                                                                              y_1.snd.snd))
                                                                                          (Int.toNat s5)
                                                                                          (y_2.fst, y_2.snd.fst,
                                                                                            IntKind.i64.wrap
                                                                                              (IntKind.i64.wrap
                                                                                                  (s1 + (1 : Int)) +
                                                                                                (1 : Int)),
                                                                                            y_2.snd.snd.snd))
                                                                                        (Int.toNat s5)
                                                                                        (y_3.fst, y_3.snd.fst,
                                                                                          y_3.snd.snd.fst,
                                                                                          IntKind.i64.wrap
                                                                                            (IntKind.i64.wrap
                                                                                                (IntKind.i64.wrap
                                                                                                    (s1 + (1 : Int)) +
                                                                                                  (1 : Int)) +
                                                                                              (1 : Int)),
                                                                                          y_3.snd.snd.snd.snd))
                                                                                      (Int.toNat s5)
                                                                                      (y_4.fst, y_4.snd.fst,
                                                                                        y_4.snd.snd.fst,
                                                                                        y_4.snd.snd.snd.fst,
                                                                                        IntKind.i64.wrap
                                                                                          (IntKind.i64.wrap
                                                                                              (IntKind.i64.wrap
                                                                                                  (IntKind.i64.wrap
                                                                                                      (s1 + (1 : Int)) +
                                                                                                    (1 : Int)) +
                                                                                                (1 : Int)) +
                                                                                            (1 : Int)),
                                                                                        y_4.snd.snd.snd.snd.snd))
                                                                                    (Int.toNat s5)
                                                                                    (y_5.fst, y_5.snd.fst,
                                                                                      y_5.snd.snd.fst,
                                                                                      y_5.snd.snd.snd.fst,
                                                                                      y_5.snd.snd.snd.snd.fst,
                                                                                      (IntKind.i64.wrap
                                                                                          (IntKind.i64.wrap
                                                                                              (IntKind.i64.wrap
                                                                                                  (IntKind.i64.wrap
                                                                                                      (IntKind.i64.wrap
                                                                                                          (s1 +
                                                                                                            (1 : Int)) +
                                                                                                        (1 : Int)) +
                                                                                                    (1 : Int)) +
                                                                                                (1 : Int)) +
                                                                                            (1 : Int)),
                                                                                        y_5.snd.snd.snd.snd.snd.fst.snd),
                                                                                      y_5.snd.snd.snd.snd.snd.snd))
                                                                                  (Int.toNat s5)
                                                                                  (y_6.fst, y_6.snd.fst,
                                                                                    y_6.snd.snd.fst,
                                                                                    y_6.snd.snd.snd.fst,
                                                                                    y_6.snd.snd.snd.snd.fst,
                                                                                    (y_6.snd.snd.snd.snd.snd.fst.fst,
                                                                                      IntKind.i64.wrap
                                                                                        (IntKind.i64.wrap
                                                                                            (IntKind.i64.wrap
                                                                                                (IntKind.i64.wrap
                                                                                                    (IntKind.i64.wrap
                                                                                                        (IntKind.i64.wrap
                                                                                                            (s1 +
                                                                                                              (1 :
                                                                                                                Int)) +
                                                                                                          (1 : Int)) +
                                                                                                      (1 : Int)) +
                                                                                                  (1 : Int)) +
                                                                                              (1 : Int)) +
                                                                                          (1 : Int)),
                                                                                      y_6.snd.snd.snd.snd.snd.fst.snd.snd),
                                                                                    y_6.snd.snd.snd.snd.snd.snd))
                                                                                (Int.toNat s5)
                                                                                (y_7.fst, y_7.snd.fst, y_7.snd.snd.fst,
                                                                                  y_7.snd.snd.snd.fst,
                                                                                  y_7.snd.snd.snd.snd.fst,
                                                                                  (y_7.snd.snd.snd.snd.snd.fst.fst,
                                                                                    y_7.snd.snd.snd.snd.snd.fst.snd.fst,
                                                                                    IntKind.i64.wrap
                                                                                      (IntKind.i64.wrap
                                                                                          (IntKind.i64.wrap
                                                                                              (IntKind.i64.wrap
                                                                                                  (IntKind.i64.wrap
                                                                                                      (IntKind.i64.wrap
                                                                                                          (IntKind.i64.wrap
                                                                                                              (s1 +
                                                                                                                (1 :
                                                                                                                  Int)) +
                                                                                                            (1 : Int)) +
                                                                                                        (1 : Int)) +
                                                                                                    (1 : Int)) +
                                                                                                (1 : Int)) +
                                                                                            (1 : Int)) +
                                                                                        (1 : Int)),
                                                                                    y_7.snd.snd.snd.snd.snd.fst.snd.snd.snd),
                                                                                  y_7.snd.snd.snd.snd.snd.snd))
                                                                              (Int.toNat s5)
                                                                              (y_8.fst, y_8.snd.fst, y_8.snd.snd.fst,
                                                                                y_8.snd.snd.snd.fst,
                                                                                y_8.snd.snd.snd.snd.fst,
                                                                                (y_8.snd.snd.snd.snd.snd.fst.fst,
                                                                                  y_8.snd.snd.snd.snd.snd.fst.snd.fst,
                                                                                  y_8.snd.snd.snd.snd.snd.fst.snd.snd.fst,
                                                                                  IntKind.i64.wrap
                                                                                    (IntKind.i64.wrap
                                                                                        (IntKind.i64.wrap
                                                                                            (IntKind.i64.wrap
                                                                                                (IntKind.i64.wrap
                                                                                                    (IntKind.i64.wrap
                                                                                                        (IntKind.i64.wrap
                                                                                                            (IntKind.i64.wrap
                                                                                                                (s1 +
                                                                                                                  (1 :
                                                                                                                    Int)) +
                                                                                                              (1 :
                                                                                                                Int)) +
                                                                                                          (1 : Int)) +
                                                                                                      (1 : Int)) +
                                                                                                  (1 : Int)) +
                                                                                              (1 : Int)) +
                                                                                          (1 : Int)) +
                                                                                      (1 : Int)),
                                                                                  ()),
                                                                                y_8.snd.snd.snd.snd.snd.snd))
                                                                            (Int.toNat s5)
                                                                            (y_9.fst, y_9.snd.fst, y_9.snd.snd.fst,
                                                                              y_9.snd.snd.snd.fst,
                                                                              y_9.snd.snd.snd.snd.fst,
                                                                              y_9.snd.snd.snd.snd.snd.fst,
                                                                              (IntKind.i64.wrap
                                                                                  (IntKind.i64.wrap
                                                                                      (IntKind.i64.wrap
                                                                                          (IntKind.i64.wrap
                                                                                              (IntKind.i64.wrap
                                                                                                  (IntKind.i64.wrap
                                                                                                      (IntKind.i64.wrap
                                                                                                          (IntKind.i64.wrap
                                                                                                              (IntKind.i64.wrap
                                                                                                                  (s1 +
                                                                                                                    (1 :
                                                                                                                      Int)) +
                                                                                                                (1 :
                                                                                                                  Int)) +
                                                                                                            (1 : Int)) +
                                                                                                        (1 : Int)) +
                                                                                                    (1 : Int)) +
                                                                                                (1 : Int)) +
                                                                                            (1 : Int)) +
                                                                                        (1 : Int)) +
                                                                                    (1 : Int)),
                                                                                y_9.snd.snd.snd.snd.snd.snd.fst.snd),
                                                                              ()))
                                                                          (Int.toNat s5)).bind
                                                                      fun y_10 =>
                                                                      if (0 : Int) ≤ s5 then
                                                                        if
                                                                            s5 <
                                                                              (↑(upd
                                                                                      (upd
                                                                                        (upd
                                                                                          (upd
                                                                                            (upd
                                                                                              (upd
                                                                                                (upd
                                                                                                  (upd
                                                                                                    (upd
                                                                                                      (upd
                                                                                                        (upd b0
                                                                                                          (Int.toNat s5)
                                                                                                          (s1, y.snd))
                                                                                                        (Int.toNat s5)
                                                                                                        (y_1.fst,
                                                                                                          IntKind.i64.wrap
                                                                                                            (s1 +
                                                                                                              (1 :
                                                                                                                Int)),
                                                                                                          y_1.snd.snd))
                                                                                                      (Int.toNat s5)
                                                                                                      (y_2.fst,
                                                                                                        y_2.snd.fst,
                                                                                                        IntKind.i64.wrap
                                                                                                          (IntKind.i64.wrap
                                                                                                              (s1 +
                                                                                                                (1 :
                                                                                                                  Int)) +
                                                                                                            (1 : Int)),
                                                                                                        y_2.snd.snd.snd))
                                                                                                    (Int.toNat s5)
                                                                                                    (y_3.fst,
                                                                                                      y_3.snd.fst,
                                                                                                      y_3.snd.snd.fst,
                                                                                                      IntKind.i64.wrap
                                                                                                        (IntKind.i64.wrap
                                                                                                            (IntKind.i64.wrap
                                                                                                                (s1 +
                                                                                                                  (1 :
                                                                                                                    Int)) +
                                                                                                              (1 :
                                                                                                                Int)) +
                                                                                                          (1 : Int)),
                                                                                                      y_3.snd.snd.snd.snd))
                                                                                                  (Int.toNat s5)
                                                                                                  (y_4.fst, y_4.snd.fst,
                                                                                                    y_4.snd.snd.fst,
                                                                                                    y_4.snd.snd.snd.fst,
                                                                                                    IntKind.i64.wrap
                                                                                                      (IntKind.i64.wrap
                                                                                                          (IntKind.i64.wrap
                                                                                                              (IntKind.i64.wrap
                                                                                                                  (s1 +
                                                                                                                    (1 :
                                                                                                                      Int)) +
                                                                                                                (1 :
                                                                                                                  Int)) +
                                                                                                            (1 : Int)) +
                                                                                                        (1 : Int)),
                                                                                                    y_4.snd.snd.snd.snd.snd))
                                                                                                (Int.toNat s5)
                                                                                                (y_5.fst, y_5.snd.fst,
                                                                                                  y_5.snd.snd.fst,
                                                                                                  y_5.snd.snd.snd.fst,
                                                                                                  y_5.snd.snd.snd.snd.fst,
                                                                                                  (IntKind.i64.wrap
                                                                                                      (IntKind.i64.wrap
                                                                                                          (IntKind.i64.wrap
                                                                                                              (IntKind.i64.wrap
                                                                                                                  (IntKind.i64.wrap
                                                                                                                      (s1 +
                                                                                                                        (1 :
                                                                                                                          Int)) +
                                                                                                                    (1 :
                                                                                                                      Int)) +
                                                                                                                (1 :
                                                                                                                  Int)) +
                                                                                                            (1 : Int)) +
                                                                                                        (1 : Int)),
                                                                                                    y_5.snd.snd.snd.snd.snd.fst.snd),
                                                                                                  y_5.snd.snd.snd.snd.snd.snd))
                                                                                              (Int.toNat s5)
                                                                                              (y_6.fst, y_6.snd.fst,
                                                                                                y_6.snd.snd.fst,
                                                                                                y_6.snd.snd.snd.fst,
                                                                                                y_6.snd.snd.snd.snd.fst,
                                                                                                (y_6.snd.snd.snd.snd.snd.fst.fst,
                                                                                                  IntKind.i64.wrap
                                                                                                    (IntKind.i64.wrap
                                                                                                        (IntKind.i64.wrap
                                                                                                            (IntKind.i64.wrap
                                                                                                                (IntKind.i64.wrap
                                                                                                                    (IntKind.i64.wrap
                                                                                                                        (s1 +
                                                                                                                          (1 :
                                                                                                                            Int)) +
                                                                                                                      (1 :
                                                                                                                        Int)) +
                                                                                                                  (1 :
                                                                                                                    Int)) +
                                                                                                              (1 :
                                                                                                                Int)) +
                                                                                                          (1 : Int)) +
                                                                                                      (1 : Int)),
                                                                                                  y_6.snd.snd.snd.snd.snd.fst.snd.snd),
                                                                                                y_6.snd.snd.snd.snd.snd.snd))
                                                                                            (Int.toNat s5)
                                                                                            (y_7.fst, y_7.snd.fst,
                                                                                              y_7.snd.snd.fst,
                                                                                              y_7.snd.snd.snd.fst,
                                                                                              y_7.snd.snd.snd.snd.fst,
                                                                                              (y_7.snd.snd.snd.snd.snd.fst.fst,
                                                                                                y_7.snd.snd.snd.snd.snd.fst.snd.fst,
                                                                                                IntKind.i64.wrap
                                                                                                  (IntKind.i64.wrap
                                                                                                      (IntKind.i64.wrap
                                                                                                          (IntKind.i64.wrap
                                                                                                              (IntKind.i64.wrap
                                                                                                                  (IntKind.i64.wrap
                                                                                                                      (IntKind.i64.wrap
                                                                                                                          (s1 +
                                                                                                                            (1 :
                                                                                                                              Int)) +
                                                                                                                        (1 :
                                                                                                                          Int)) +
                                                                                                                    (1 :
                                                                                                                      Int)) +
                                                                                                                (1 :
                                                                                                                  Int)) +
                                                                                                            (1 : Int)) +
                                                                                                        (1 : Int)) +
                                                                                                    (1 : Int)),
                                                                                                y_7.snd.snd.snd.snd.snd.fst.snd.snd.snd),
                                                                                              y_7.snd.snd.snd.snd.snd.snd))
                                                                                          (Int.toNat s5)
                                                                                          (y_8.fst, y_8.snd.fst,
                                                                                            y_8.snd.snd.fst,
                                                                                            y_8.snd.snd.snd.fst,
                                                                                            y_8.snd.snd.snd.snd.fst,
                                                                                            (y_8.snd.snd.snd.snd.snd.fst.fst,
                                                                                              y_8.snd.snd.snd.snd.snd.fst.snd.fst,
                                                                                              y_8.snd.snd.snd.snd.snd.fst.snd.snd.fst,
                                                                                              IntKind.i64.wrap
                                                                                                (IntKind.i64.wrap
                                                                                                    (IntKind.i64.wrap
                                                                                                        (IntKind.i64.wrap
                                                                                                            (IntKind.i64.wrap
                                                                                                                (IntKind.i64.wrap
                                                                                                                    (IntKind.i64.wrap
                                                                                                                        (IntKind.i64.wrap
                                                                                                                            (s1 +
                                                                                                                              (1 :
                                                                                                                                Int)) +
                                                                                                                          (1 :
                                                                                                                            Int)) +
                                                                                                                      (1 :
                                                                                                                        Int)) +
                                                                                                                  (1 :
                                                                                                                    Int)) +
                                                                                                              (1 :
                                                                                                                Int)) +
                                                                                                          (1 : Int)) +
                                                                                                      (1 : Int)) +
                                                                                                  (1 : Int)),
                                                                                              ()),
                                                                                            y_8.snd.snd.snd.snd.snd.snd))
                                                                                        (Int.toNat s5)
                                                                                        (y_9.fst, y_9.snd.fst,
                                                                                          y_9.snd.snd.fst,
                                                                                          y_9.snd.snd.snd.fst,
                                                                                          y_9.snd.snd.snd.snd.fst,
                                                                                          y_9.snd.snd.snd.snd.snd.fst,
                                                                                          (IntKind.i64.wrap
                                                                                              (IntKind.i64.wrap
                                                                                                  (IntKind.i64.wrap
                                                                                                      (IntKind.i64.wrap
                                                                                                          (IntKind.i64.wrap
                                                                                                              (IntKind.i64.wrap
                                                                                                                  (IntKind.i64.wrap
                                                                                                                      (IntKind.i64.wrap
                                                                                                                          (IntKind.i64.wrap
                                                                                                                              (s1 +
                                                                                                                                (1 :
                                                                                                                                  Int)) +
                                                                                                                            (1 :
                                                                                                                              Int)) +
                                                                                                                        (1 :
                                                                                                                          Int)) +
                                                                                                                    (1 :
                                                                                                                      Int)) +
                                                                                                                (1 :
                                                                                                                  Int)) +
                                                                                                            (1 : Int)) +
                                                                                                        (1 : Int)) +
                                                                                                    (1 : Int)) +
                                                                                                (1 : Int)),
                                                                                            y_9.snd.snd.snd.snd.snd.snd.fst.snd),
                                                                                          ()))
                                                                                      (Int.toNat s5)
                                                                                      (y_10.fst, y_10.snd.fst,
                                                                                        y_10.snd.snd.fst,
                                                                                        y_10.snd.snd.snd.fst,
                                                                                        y_10.snd.snd.snd.snd.fst,
                                                                                        y_10.snd.snd.snd.snd.snd.fst,
                                                                                        (y_10.snd.snd.snd.snd.snd.snd.fst.fst,
                                                                                          IntKind.i64.wrap
                                                                                            (IntKind.i64.wrap
                                                                                                (IntKind.i64.wrap
                                                                                                    (IntKind.i64.wrap
                                                                                                        (IntKind.i64.wrap
                                                                                                            (IntKind.i64.wrap
                                                                                                                (IntKind.i64.wrap
                                                                                                                    (IntKind.i64.wrap
                                                                                                                        (IntKind.i64.wrap
                                                                                                                            (IntKind.i64.wrap
                                                                                                                                (s1 +
                                                                                                                                  (1 :
                                                                                                                                    Int)) +
                                                                                                                              (1 :
                                                                                                                                Int)) +
                                                                                                                          (1 :
                                                                                                                            Int)) +
                                                                                                                      (1 :
                                                                                                                        Int)) +
                                                                                                                  (1 :
                                                                                                                    Int)) +
                                                                                                              (1 :
                                                                                                                Int)) +
                                                                                                          (1 : Int)) +
                                                                                                      (1 : Int)) +
                                                                                                  (1 : Int)) +
                                                                                              (1 : Int)),
                                                                                          y_10.snd.snd.snd.snd.snd.snd.fst.snd.snd),
                                                                                        ())).length :
                                                                                Int) then
                                                                          (nth
                                                                                (upd
                                                                                  (upd
                                                                                    (upd
                                                                                      (upd
                                                                                        (upd
                                                                                          (upd
                                                                                            (upd
                                                                                              (upd
                                                                                                (upd
                                                                                                  (upd
                                                                                                    (upd b0
                                                                                                      (Int.toNat s5)
                                                                                                      (s1, y.snd))
                                                                                                    (Int.toNat s5)
                                                                                                    (y_1.fst,
                                                                                                      IntKind.i64.wrap
                                                                                                        (s1 +
                                                                                                          (1 : Int)),
                                                                                                      y_1.snd.snd))
                                                                                                  (Int.toNat s5)
                                                                                                  (y_2.fst, y_2.snd.fst,
                                                                                                    IntKind.i64.wrap
                                                                                                      (IntKind.i64.wrap
                                                                                                          (s1 +
                                                                                                            (1 : Int)) +
                                                                                                        (1 : Int)),
                                                                                                    y_2.snd.snd.snd))
                                                                                                (Int.toNat s5)
                                                                                                (y_3.fst, y_3.snd.fst,
                                                                                                  y_3.snd.snd.fst,
                                                                                                  IntKind.i64.wrap
                                                                                                    (IntKind.i64.wrap
                                                                                                        (IntKind.i64.wrap
                                                                                                            (s1 +
                                                                                                              (1 :
                                                                                                                Int)) +
                                                                                                          (1 : Int)) +
                                                                                                      (1 : Int)),
                                                                                                  y_3.snd.snd.snd.snd))
                                                                                              (Int.toNat s5)
                                                                                              (y_4.fst, y_4.snd.fst,
                                                                                                y_4.snd.snd.fst,
                                                                                                y_4.snd.snd.snd.fst,
                                                                                                IntKind.i64.wrap
                                                                                                  (IntKind.i64.wrap
                                                                                                      (IntKind.i64.wrap
                                                                                                          (IntKind.i64.wrap
                                                                                                              (s1 +
                                                                                                                (1 :
                                                                                                                  Int)) +
                                                                                                            (1 : Int)) +
                                                                                                        (1 : Int)) +
                                                                                                    (1 : Int)),
                                                                                                y_4.snd.snd.snd.snd.snd))
                                                                                            (Int.toNat s5)
                                                                                            (y_5.fst, y_5.snd.fst,
                                                                                              y_5.snd.snd.fst,
                                                                                              y_5.snd.snd.snd.fst,
                                                                                              y_5.snd.snd.snd.snd.fst,
                                                                                              (IntKind.i64.wrap
                                                                                                  (IntKind.i64.wrap
                                                                                                      (IntKind.i64.wrap
                                                                                                          (IntKind.i64.wrap
                                                                                                              (IntKind.i64.wrap
                                                                                                                  (s1 +
                                                                                                                    (1 :
                                                                                                                      Int)) +
                                                                                                                (1 :
                                                                                                                  Int)) +
                                                                                                            (1 : Int)) +
                                                                                                        (1 : Int)) +
                                                                                                    (1 : Int)),
                                                                                                y_5.snd.snd.snd.snd.snd.fst.snd),
                                                                                              y_5.snd.snd.snd.snd.snd.snd))
                                                                                          (Int.toNat s5)
                                                                                          (y_6.fst, y_6.snd.fst,
                                                                                            y_6.snd.snd.fst,
                                                                                            y_6.snd.snd.snd.fst,
                                                                                            y_6.snd.snd.snd.snd.fst,
                                                                                            (y_6.snd.snd.snd.snd.snd.fst.fst,
                                                                                              IntKind.i64.wrap
                                                                                                (IntKind.i64.wrap
                                                                                                    (IntKind.i64.wrap
                                                                                                        (IntKind.i64.wrap
                                                                                                            (IntKind.i64.wrap
                                                                                                                (IntKind.i64.wrap
                                                                                                                    (s1 +
                                                                                                                      (1 :
                                                                                                                        Int)) +
                                                                                                                  (1 :
                                                                                                                    Int)) +
                                                                                                              (1 :
                                                                                                                Int)) +
                                                                                                          (1 : Int)) +
                                                                                                      (1 : Int)) +
                                                                                                  (1 : Int)),
                                                                                              y_6.snd.snd.snd.snd.snd.fst.snd.snd),
                                                                                            y_6.snd.snd.snd.snd.snd.snd))
                                                                                        (Int.toNat s5)
                                                                                        (y_7.fst, y_7.snd.fst,
                                                                                          y_7.snd.snd.fst,
                                                                                          y_7.snd.snd.snd.fst,
                                                                                          y_7.snd.snd.snd.snd.fst,
                                                                                          (y_7.snd.snd.snd.snd.snd.fst.fst,
                                                                                            y_7.snd.snd.snd.snd.snd.fst.snd.fst,
                                                                                            IntKind.i64.wrap
                                                                                              (IntKind.i64.wrap
                                                                                                  (IntKind.i64.wrap
                                                                                                      (IntKind.i64.wrap
                                                                                                          (IntKind.i64.wrap
                                                                                                              (IntKind.i64.wrap
                                                                                                                  (IntKind.i64.wrap
                                                                                                                      (s1 +
                                                                                                                        (1 :
                                                                                                                          Int)) +
                                                                                                                    (1 :
                                                                                                                      Int)) +
                                                                                                                (1 :
                                                                                                                  Int)) +
                                                                                                            (1 : Int)) +
                                                                                                        (1 : Int)) +
                                                                                                    (1 : Int)) +
                                                                                                (1 : Int)),
                                                                                            y_7.snd.snd.snd.snd.snd.fst.snd.snd.snd),
                                                                                          y_7.snd.snd.snd.snd.snd.snd))
                                                                                      (Int.toNat s5)
                                                                                      (y_8.fst, y_8.snd.fst,
                                                                                        y_8.snd.snd.fst,
                                                                                        y_8.snd.snd.snd.fst,
                                                                                        y_8.snd.snd.snd.snd.fst,
                                                                                        (y_8.snd.snd.snd.snd.snd.fst.fst,
                                                                                          y_8.snd.snd.snd.snd.snd.fst.snd.fst,
                                                                                          y_8.snd.snd.snd.snd.snd.fst.snd.snd.fst,
                                                                                          IntKind.i64.wrap
                                                                                            (IntKind.i64.wrap
                                                                                                (IntKind.i64.wrap
                                                                                                    (IntKind.i64.wrap
                                                                                                        (IntKind.i64.wrap
                                                                                                            (IntKind.i64.wrap
                                                                                                                (IntKind.i64.wrap
                                                                                                                    (IntKind.i64.wrap
                                                                                                                        (s1 +
                                                                                                                          (1 :
                                                                                                                            Int)) +
                                                                                                                      (1 :
                                                                                                                        Int)) +
                                                                                                                  (1 :
                                                                                                                    Int)) +
                                                                                                              (1 :
                                                                                                                Int)) +
                                                                                                          (1 : Int)) +
                                                                                                      (1 : Int)) +
                                                                                                  (1 : Int)) +
                                                                                              (1 : Int)),
                                                                                          ()),
                                                                                        y_8.snd.snd.snd.snd.snd.snd))
                                                                                    (Int.toNat s5)
                                                                                    (y_9.fst, y_9.snd.fst,
                                                                                      y_9.snd.snd.fst,
                                                                                      y_9.snd.snd.snd.fst,
                                                                                      y_9.snd.snd.snd.snd.fst,
                                                                                      y_9.snd.snd.snd.snd.snd.fst,
                                                                                      (IntKind.i64.wrap
                                                                                          (IntKind.i64.wrap
                                                                                              (IntKind.i64.wrap
                                                                                                  (IntKind.i64.wrap
                                                                                                      (IntKind.i64.wrap
                                                                                                          (IntKind.i64.wrap
                                                                                                              (IntKind.i64.wrap
                                                                                                                  (IntKind.i64.wrap
                                                                                                                      (IntKind.i64.wrap
                                                                                                                          (s1 +
                                                                                                                            (1 :
                                                                                                                              Int)) +
                                                                                                                        (1 :
                                                                                                                          Int)) +
                                                                                                                    (1 :
                                                                                                                      Int)) +
                                                                                                                (1 :
                                                                                                                  Int)) +
                                                                                                            (1 : Int)) +
                                                                                                        (1 : Int)) +
                                                                                                    (1 : Int)) +
                                                                                                (1 : Int)) +
                                                                                            (1 : Int)),
                                                                                        y_9.snd.snd.snd.snd.snd.snd.fst.snd),
                                                                                      ()))
                                                                                  (Int.toNat s5)
                                                                                  (y_10.fst, y_10.snd.fst,
                                                                                    y_10.snd.snd.fst,
                                                                                    y_10.snd.snd.snd.fst,
                                                                                    y_10.snd.snd.snd.snd.fst,
                                                                                    y_10.snd.snd.snd.snd.snd.fst,
                                                                                    (y_10.snd.snd.snd.snd.snd.snd.fst.fst,
                                                                                      IntKind.i64.wrap
                                                                                        (IntKind.i64.wrap
                                                                                            (IntKind.i64.wrap
                                                                                                (IntKind.i64.wrap
                                                                                                    (IntKind.i64.wrap
                                                                                                        (IntKind.i64.wrap
                                                                                                            (IntKind.i64.wrap
                                                                                                                (IntKind.i64.wrap
                                                                                                                    (IntKind.i64.wrap
                                                                                                                        (IntKind.i64.wrap
                                                                                                                            (s1 +
                                                                                                                              (1 :
                                                                                                                                Int)) +
                                                                                                                          (1 :
                                                                                                                            Int)) +
                                                                                                                      (1 :
                                                                                                                        Int)) +
                                                                                                                  (1 :
                                                                                                                    Int)) +
                                                                                                              (1 :
                                                                                                                Int)) +
                                                                                                          (1 : Int)) +
                                                                                                      (1 : Int)) +
                                                                                                  (1 : Int)) +
                                                                                              (1 : Int)) +
                                                                                          (1 : Int)),
                                                                                      y_10.snd.snd.snd.snd.snd.snd.fst.snd.snd),
                                                                                    ()))
                                                                                (Int.toNat s5)).bind
                                                                            fun y_11 =>
                                                                            if (0 : Int) ≤ s5 then
                                                                              if
                                                                                  s5 <
                                                                                    (↑(upd
                                                                                            (upd
                                                                                              (upd
                                                                                                (upd
                                                                                                  (upd
                                                                                                    (upd
                                                                                                      (upd
                                                                                                        (upd
                                                                                                          (upd
                                                                                                            (upd
                                                                                                              (upd
                                                                                                                (upd b0
                                                                                                                  (Int.toNat
                                                                                                                    s5)
                                                                                                                  (s1,
                                                                                                                    y.snd))
                                                                                                                (Int.toNat
                                                                                                                  s5)
                                                                                                                (y_1.fst,
                                                                                                                  IntKind.i64.wrap
                                                                                                                    (s1 +
                                                                                                                      (1 :
                                                                                                                        Int)),
                                                                                                                  y_1.snd.snd))
                                                                                                              (Int.toNat
                                                                                                                s5)
                                                                                                              (y_2.fst,
                                                                                                                y_2.snd.fst,
                                                                                                                IntKind.i64.wrap
                                                                                                                  (IntKind.i64.wrap
                                                                                                                      (s1 +
                                                                                                                        (1 :
                                                                                                                          Int)) +
                                                                                                                    (1 :
                                                                                                                      Int)),
                                                                                                                y_2.snd.snd.snd))
                                                                                                            (Int.toNat
                                                                                                              s5)
                                                                                                            (y_3.fst,
                                                                                                              y_3.snd.fst,
                                                                                                              y_3.snd.snd.fst,
                                                                                                              IntKind.i64.wrap
                                                                                                                (IntKind.i64.wrap
                                                                                                                    (IntKind.i64.wrap
                                                                                                                        (s1 +
                                                                                                                          (1 :
                                                                                                                            Int)) +
                                                                                                                      (1 :
                                                                                                                        Int)) +
                                                                                                                  (1 :
                                                                                                                    Int)),
                                                                                                              y_3.snd.snd.snd.snd))
                                                                                                          (Int.toNat s5)
                                                                                                          (y_4.fst,
                                                                                                            y_4.snd.fst,
                                                                                                            y_4.snd.snd.fst,
                                                                                                            y_4.snd.snd.snd.fst,
                                                                                                            IntKind.i64.wrap
                                                                                                              (IntKind.i64.wrap
                                                                                                                  (IntKind.i64.wrap
                                                                                                                      (IntKind.i64.wrap
                                                                                                                          (s1 +
                                                                                                                            (1 :
                                                                                                                              Int)) +
                                                                                                                        (1 :
                                                                                                                          Int)) +
                                                                                                                    (1 :
                                                                                                                      Int)) +
                                                                                                                (1 :
                                                                                                                  Int)),
                                                                                                            y_4.snd.snd.snd.snd.snd))
                                                                                                        (Int.toNat s5)
                                                                                                        (y_5.fst,
                                                                                                          y_5.snd.fst,
                                                                                                          y_5.snd.snd.fst,
                                                                                                          y_5.snd.snd.snd.fst,
                                                                                                          y_5.snd.snd.snd.snd.fst,
                                                                                                          (IntKind.i64.wrap
                                                                                                              (IntKind.i64.wrap
                                                                                                                  (IntKind.i64.wrap
                                                                                                                      (IntKind.i64.wrap
                                                                                                                          (IntKind.i64.wrap
                                                                                                                              (s1 +
                                                                                                                                (1 :
                                                                                                                                  Int)) +
                                                                                                                            (1 :
                                                                                                                              Int)) +
                                                                                                                        (1 :
                                                                                                                          Int)) +
                                                                                                                    (1 :
                                                                                                                      Int)) +
                                                                                                                (1 :
                                                                                                                  Int)),
                                                                                                            y_5.snd.snd.snd.snd.snd.fst.snd),
                                                                                                          y_5.snd.snd.snd.snd.snd.snd))
                                                                                                      (Int.toNat s5)
                                                                                                      (y_6.fst,
                                                                                                        y_6.snd.fst,
                                                                                                        y_6.snd.snd.fst,
                                                                                                        y_6.snd.snd.snd.fst,
                                                                                                        y_6.snd.snd.snd.snd.fst,
                                                                                                        (y_6.snd.snd.snd.snd.snd.fst.fst,
                                                                                                          IntKind.i64.wrap
                                                                                                            (IntKind.i64.wrap
                                                                                                                (IntKind.i64.wrap
                                                                                                                    (IntKind.i64.wrap
                                                                                                                        (IntKind.i64.wrap
                                                                                                                            (IntKind.i64.wrap
                                                                                                                                (s1 +
                                                                                                                                  (1 :
                                                                                                                                    Int)) +
                                                                                                                              (1 :
                                                                                                                                Int)) +
                                                                                                                          (1 :
                                                                                                                            Int)) +
                                                                                                                      (1 :
                                                                                                                        Int)) +
                                                                                                                  (1 :
                                                                                                                    Int)) +
                                                                                                              (1 :
                                                                                                                Int)),
                                                                                                          y_6.snd.snd.snd.snd.snd.fst.snd.snd),
                                                                                                        y_6.snd.snd.snd.snd.snd.snd))
                                                                                                    (Int.toNat s5)
                                                                                                    (y_7.fst,
                                                                                                      y_7.snd.fst,
                                                                                                      y_7.snd.snd.fst,
                                                                                                      y_7.snd.snd.snd.fst,
                                                                                                      y_7.snd.snd.snd.snd.fst,
                                                                                                      (y_7.snd.snd.snd.snd.snd.fst.fst,
                                                                                                        y_7.snd.snd.snd.snd.snd.fst.snd.fst,
                                                                                                        IntKind.i64.wrap
                                                                                                          (IntKind.i64.wrap
                                                                                                              (IntKind.i64.wrap
                                                                                                                  (IntKind.i64.wrap
                                                                                                                      (IntKind.i64.wrap
                                                                                                                          (IntKind.i64.wrap
                                                                                                                              (IntKind.i64.wrap
                                                                                                                                  (s1 +
                                                                                                                                    (1 :
                                                                                                                                      Int)) +
                                                                                                                                (1 :
                                                                                                                                  Int)) +
                                                                                                                            (1 :
                                                                                                                              Int)) +
                                                                                                                        (1 :
                                                                                                                          Int)) +
                                                                                                                    (1 :
                                                                                                                      Int)) +
                                                                                                                (1 :
                                                                                                                  Int)) +
                                                                                                            (1 : Int)),
                                                                                                        y_7.snd.snd.snd.snd.snd.fst.snd.snd.snd),
                                                                                                      y_7.snd.snd.snd.snd.snd.snd))
                                                                                                  (Int.toNat s5)
                                                                                                  (y_8.fst, y_8.snd.fst,
                                                                                                    y_8.snd.snd.fst,
                                                                                                    y_8.snd.snd.snd.fst,
                                                                                                    y_8.snd.snd.snd.snd.fst,
                                                                                                    (y_8.snd.snd.snd.snd.snd.fst.fst,
                                                                                                      y_8.snd.snd.snd.snd.snd.fst.snd.fst,
                                                                                                      y_8.snd.snd.snd.snd.snd.fst.snd.snd.fst,
                                                                                                      IntKind.i64.wrap
                                                                                                        (IntKind.i64.wrap
                                                                                                            (IntKind.i64.wrap
                                                                                                                (IntKind.i64.wrap
                                                                                                                    (IntKind.i64.wrap
                                                                                                                        (IntKind.i64.wrap
                                                                                                                            (IntKind.i64.wrap
                                                                                                                                (IntKind.i64.wrap
                                                                                                                                    (s1 +
                                                                                                                                      (1 :
                                                                                                                                        Int)) +
                                                                                                                                  (1 :
                                                                                                                                    Int)) +
                                                                                                                              (1 :
                                                                                                                                Int)) +
                                                                                                                          (1 :
                                                                                                                            Int)) +
                                                                                                                      (1 :
                                                                                                                        Int)) +
                                                                                                                  (1 :
                                                                                                                    Int)) +
                                                                                                              (1 :
                                                                                                                Int)) +
                                                                                                          (1 : Int)),
                                                                                                      ()),
                                                                                                    y_8.snd.snd.snd.snd.snd.snd))
                                                                                                (Int.toNat s5)
                                                                                                (y_9.fst, y_9.snd.fst,
                                                                                                  y_9.snd.snd.fst,
                                                                                                  y_9.snd.snd.snd.fst,
                                                                                                  y_9.snd.snd.snd.snd.fst,
                                                                                                  y_9.snd.snd.snd.snd.snd.fst,
                                                                                                  (IntKind.i64.wrap
                                                                                                      (IntKind.i64.wrap
                                                                                                          (IntKind.i64.wrap
                                                                                                              (IntKind.i64.wrap
                                                                                                                  (IntKind.i64.wrap
                                                                                                                      (IntKind.i64.wrap
                                                                                                                          (IntKind.i64.wrap
                                                                                                                              (IntKind.i64.wrap
                                                                                                                                  (IntKind.i64.wrap
                                                                                                                                      (s1 +
                                                                                                                                        (1 :
                                                                                                                                          Int)) +
                                                                                                                                    (1 :
                                                                                                                                      Int)) +
                                                                                                                                (1 :
                                                                                                                                  Int)) +
                                                                                                                            (1 :
                                                                                                                              Int)) +
                                                                                                                        (1 :
                                                                                                                          Int)) +
                                                                                                                    (1 :
                                                                                                                      Int)) +
                                                                                                                (1 :
                                                                                                                  Int)) +
                                                                                                            (1 : Int)) +
                                                                                                        (1 : Int)),
                                                                                                    y_9.snd.snd.snd.snd.snd.snd.fst.snd),
                                                                                                  ()))
                                                                                              (Int.toNat s5)
                                                                                              (y_10.fst, y_10.snd.fst,
                                                                                                y_10.snd.snd.fst,
                                                                                                y_10.snd.snd.snd.fst,
                                                                                                y_10.snd.snd.snd.snd.fst,
                                                                                                y_10.snd.snd.snd.snd.snd.fst,
                                                                                                (y_10.snd.snd.snd.snd.snd.snd.fst.fst,
                                                                                                  IntKind.i64.wrap
                                                                                                    (IntKind.i64.wrap
                                                                                                        (IntKind.i64.wrap
                                                                                                            (IntKind.i64.wrap
                                                                                                                (IntKind.i64.wrap
                                                                                                                    (IntKind.i64.wrap
                                                                                                                        (IntKind.i64.wrap
                                                                                                                            (IntKind.i64.wrap
                                                                                                                                (IntKind.i64.wrap
                                                                                                                                    (IntKind.i64.wrap
                                                                                                                                        (s1 +
                                                                                                                                          (1 :
                                                                                                                                            Int)) +
                                                                                                                                      (1 :
                                                                                                                                        Int)) +
                                                                                                                                  (1 :
                                                                                                                                    Int)) +
                                                                                                                              (1 :
                                                                                                                                Int)) +
                                                                                                                          (1 :
                                                                                                                            Int)) +
                                                                                                                      (1 :
                                                                                                                        Int)) +
                                                                                                                  (1 :
                                                                                                                    Int)) +
                                                                                                              (1 :
                                                                                                                Int)) +
                                                                                                          (1 : Int)) +
                                                                                                      (1 : Int)),
                                                                                                  y_10.snd.snd.snd.snd.snd.snd.fst.snd.snd),
                                                                                                ()))
                                                                                            (Int.toNat s5)
                                                                                            (y_11.fst, y_11.snd.fst,
                                                                                              y_11.snd.snd.fst,
                                                                                              y_11.snd.snd.snd.fst,
                                                                                              y_11.snd.snd.snd.snd.fst,
                                                                                              y_11.snd.snd.snd.snd.snd.fst,
                                                                                              (y_11.snd.snd.snd.snd.snd.snd.fst.fst,
                                                                                                y_11.snd.snd.snd.snd.snd.snd.fst.snd.fst,
                                                                                                IntKind.i64.wrap
                                                                                                  (IntKind.i64.wrap
                                                                                                      (IntKind.i64.wrap
                                                                                                          (IntKind.i64.wrap
                                                                                                              (IntKind.i64.wrap
                                                                                                                  (IntKind.i64.wrap
                                                                                                                      (IntKind.i64.wrap
                                                                                                                          (IntKind.i64.wrap
                                                                                                                              (IntKind.i64.wrap
                                                                                                                                  (IntKind.i64.wrap
                                                                                                                                      (IntKind.i64.wrap
                                                                                                                                          (s1 +
                                                                                                                                            (1 :
                                                                                                                                              Int)) +
                                                                                                                                        (1 :
                                                                                                                                          Int)) +
                                                                                                                                    (1 :
                                                                                                                                      Int)) +
                                                                                                                                (1 :
                                                                                                                                  Int)) +
                                                                                                                            (1 :
                                                                                                                              Int)) +
                                                                                                                        (1 :
                                                                                                                          Int)) +
                                                                                                                    (1 :
                                                                                                                      Int)) +
                                                                                                                (1 :
                                                                                                                  Int)) +
                                                                                                            (1 : Int)) +
                                                                                                        (1 : Int)) +
                                                                                                    (1 : Int)),
                                                                                                y_11.snd.snd.snd.snd.snd.snd.fst.snd.snd.snd),
                                                                                              ())).length :
                                                                                      Int) then
                                                                                (nth
                                                                                      (upd
                                                                                        (upd
                                                                                          (upd
                                                                                            (upd
                                                                                              (upd
                                                                                                (upd
                                                                                                  (upd
                                                                                                    (upd
                                                                                                      (upd
                                                                                                        (upd
                                                                                                          (upd
                                                                                                            (upd b0
                                                                                                              (Int.toNat
                                                                                                                s5)
                                                                                                              (s1,
                                                                                                                y.snd))
                                                                                                            (Int.toNat
                                                                                                              s5)
                                                                                                            (y_1.fst,
                                                                                                              IntKind.i64.wrap
                                                                                                                (s1 +
                                                                                                                  (1 :
                                                                                                                    Int)),
                                                                                                              y_1.snd.snd))
                                                                                                          (Int.toNat s5)
                                                                                                          (y_2.fst,
                                                                                                            y_2.snd.fst,
                                                                                                            IntKind.i64.wrap
                                                                                                              (IntKind.i64.wrap
                                                                                                                  (s1 +
                                                                                                                    (1 :
                                                                                                                      Int)) +
                                                                                                                (1 :
                                                                                                                  Int)),
                                                                                                            y_2.snd.snd.snd))
                                                                                                        (Int.toNat s5)
                                                                                                        (y_3.fst,
                                                                                                          y_3.snd.fst,
                                                                                                          y_3.snd.snd.fst,
                                                                                                          IntKind.i64.wrap
                                                                                                            (IntKind.i64.wrap
                                                                                                                (IntKind.i64.wrap
                                                                                                                    (s1 +
                                                                                                                      (1 :
                                                                                                                        Int)) +
                                                                                                                  (1 :
                                                                                                                    Int)) +
                                                                                                              (1 :
                                                                                                                Int)),
                                                                                                          y_3.snd.snd.snd.snd))
                                                                                                      (Int.toNat s5)
                                                                                                      (y_4.fst,
                                                                                                        y_4.snd.fst,
                                                                                                        y_4.snd.snd.fst,
                                                                                                        y_4.snd.snd.snd.fst,
                                                                                                        IntKind.i64.wrap
                                                                                                          (IntKind.i64.wrap
                                                                                                              (IntKind.i64.wrap
                                                                                                                  (IntKind.i64.wrap
                                                                                                                      (s1 +
                                                                                                                        (1 :
                                                                                                                          Int)) +
                                                                                                                    (1 :
                                                                                                                      Int)) +
                                                                                                                (1 :
                                                                                                                  Int)) +
                                                                                                            (1 : Int)),
                                                                                                        y_4.snd.snd.snd.snd.snd))
                                                                                                    (Int.toNat s5)
                                                                                                    (y_5.fst,
                                                                                                      y_5.snd.fst,
                                                                                                      y_5.snd.snd.fst,
                                                                                                      y_5.snd.snd.snd.fst,
                                                                                                      y_5.snd.snd.snd.snd.fst,
                                                                                                      (IntKind.i64.wrap
                                                                                                          (IntKind.i64.wrap
                                                                                                              (IntKind.i64.wrap
                                                                                                                  (IntKind.i64.wrap
                                                                                                                      (IntKind.i64.wrap
                                                                                                                          (s1 +
                                                                                                                            (1 :
                                                                                                                              Int)) +
                                                                                                                        (1 :
                                                                                                                          Int)) +
                                                                                                                    (1 :
                                                                                                                      Int)) +
                                                                                                                (1 :
                                                                                                                  Int)) +
                                                                                                            (1 : Int)),
                                                                                                        y_5.snd.snd.snd.snd.snd.fst.snd),
                                                                                                      y_5.snd.snd.snd.snd.snd.snd))
                                                                                                  (Int.toNat s5)
                                                                                                  (y_6.fst, y_6.snd.fst,
                                                                                                    y_6.snd.snd.fst,
                                                                                                    y_6.snd.snd.snd.fst,
                                                                                                    y_6.snd.snd.snd.snd.fst,
                                                                                                    (y_6.snd.snd.snd.snd.snd.fst.fst,
                                                                                                      IntKind.i64.wrap
                                                                                                        (IntKind.i64.wrap
                                                                                                            (IntKind.i64.wrap
                                                                                                                (IntKind.i64.wrap
                                                                                                                    (IntKind.i64.wrap
                                                                                                                        (IntKind.i64.wrap
                                                                                                                            (s1 +
                                                                                                                              (1 :
                                                                                                                                Int)) +
                                                                                                                          (1 :
                                                                                                                            Int)) +
                                                                                                                      (1 :
                                                                                                                        Int)) +
                                                                                                                  (1 :
                                                                                                                    Int)) +
                                                                                                              (1 :
                                                                                                                Int)) +
                                                                                                          (1 : Int)),
                                                                                                      y_6.snd.snd.snd.snd.snd.fst.snd.snd),
                                                                                                    y_6.snd.snd.snd.snd.snd.snd))
                                                                                                (Int.toNat s5)
                                                                                                (y_7.fst, y_7.snd.fst,
                                                                                                  y_7.snd.snd.fst,
                                                                                                  y_7.snd.snd.snd.fst,
                                                                                                  y_7.snd.snd.snd.snd.fst,
                                                                                                  (y_7.snd.snd.snd.snd.snd.fst.fst,
                                                                                                    y_7.snd.snd.snd.snd.snd.fst.snd.fst,
                                                                                                    IntKind.i64.wrap
                                                                                                      (IntKind.i64.wrap
                                                                                                          (IntKind.i64.wrap
                                                                                                              (IntKind.i64.wrap
                                                                                                                  (IntKind.i64.wrap
                                                                                                                      (IntKind.i64.wrap
                                                                                                                          (IntKind.i64.wrap
                                                                                                                              (s1 +
                                                                                                                                (1 :
                                                                                                                                  Int)) +
                                                                                                                            (1 :
                                                                                                                              Int)) +
                                                                                                                        (1 :
                                                                                                                          Int)) +
                                                                                                                    (1 :
                                                                                                                      Int)) +
                                                                                                                (1 :
                                                                                                                  Int)) +
                                                                                                            (1 : Int)) +
                                                                                                        (1 : Int)),
                                                                                                    y_7.snd.snd.snd.snd.snd.fst.snd.snd.snd),
                                                                                                  y_7.snd.snd.snd.snd.snd.snd))
                                                                                              (Int.toNat s5)
                                                                                              (y_8.fst, y_8.snd.fst,
                                                                                                y_8.snd.snd.fst,
                                                                                                y_8.snd.snd.snd.fst,
                                                                                                y_8.snd.snd.snd.snd.fst,
                                                                                                (y_8.snd.snd.snd.snd.snd.fst.fst,
                                                                                                  y_8.snd.snd.snd.snd.snd.fst.snd.fst,
                                                                                                  y_8.snd.snd.snd.snd.snd.fst.snd.snd.fst,
                                                                                                  IntKind.i64.wrap
                                                                                                    (IntKind.i64.wrap
                                                                                                        (IntKind.i64.wrap
                                                                                                            (IntKind.i64.wrap
                                                                                                                (IntKind.i64.wrap
                                                                                                                    (IntKind.i64.wrap
                                                                                                                        (IntKind.i64.wrap
                                                                                                                            (IntKind.i64.wrap
                                                                                                                                (s1 +
                                                                                                                                  (1 :
                                                                                                                                    Int)) +
                                                                                                                              (1 :
                                                                                                                                Int)) +
                                                                                                                          (1 :
                                                                                                                            Int)) +
                                                                                                                      (1 :
                                                                                                                        Int)) +
                                                                                                                  (1 :
                                                                                                                    Int)) +
                                                                                                              (1 :
                                                                                                                Int)) +
                                                                                                          (1 : Int)) +
                                                                                                      (1 : Int)),
                                                                                                  ()),
                                                                                                y_8.snd.snd.snd.snd.snd.snd))
                                                                                            (Int.toNat s5)
                                                                                            (y_9.fst, y_9.snd.fst,
                                                                                              y_9.snd.snd.fst,
                                                                                              y_9.snd.snd.snd.fst,
                                                                                              y_9.snd.snd.snd.snd.fst,
                                                                                              y_9.snd.snd.snd.snd.snd.fst,
                                                                                              (IntKind.i64.wrap
                                                                                                  (IntKind.i64.wrap
                                                                                                      (IntKind.i64.wrap
                                                                                                          (IntKind.i64.wrap
                                                                                                              (IntKind.i64.wrap
                                                                                                                  (IntKind.i64.wrap
                                                                                                                      (IntKind.i64.wrap
                                                                                                                          (IntKind.i64.wrap
                                                                                                                              (IntKind.i64.wrap
                                                                                                                                  (s1 +
                                                                                                                                    (1 :
                                                                                                                                      Int)) +
                                                                                                                                (1 :
                                                                                                                                  Int)) +
                                                                                                                            (1 :
                                                                                                                              Int)) +
                                                                                                                        (1 :
                                                                                                                          Int)) +
                                                                                                                    (1 :
                                                                                                                      Int)) +
                                                                                                                (1 :
                                                                                                                  Int)) +
                                                                                                            (1 : Int)) +
                                                                                                        (1 : Int)) +
                                                                                                    (1 : Int)),
                                                                                                y_9.snd.snd.snd.snd.snd.snd.fst.snd),
                                                                                              ()))
                                                                                          (Int.toNat s5)
                                                                                          (y_10.fst, y_10.snd.fst,
                                                                                            y_10.snd.snd.fst,
                                                                                            y_10.snd.snd.snd.fst,
                                                                                            y_10.snd.snd.snd.snd.fst,
                                                                                            y_10.snd.snd.snd.snd.snd.fst,
                                                                                            (y_10.snd.snd.snd.snd.snd.snd.fst.fst,
                                                                                              IntKind.i64.wrap
                                                                                                (IntKind.i64.wrap
                                                                                                    (IntKind.i64.wrap
                                                                                                        (IntKind.i64.wrap
                                                                                                            (IntKind.i64.wrap
                                                                                                                (IntKind.i64.wrap
                                                                                                                    (IntKind.i64.wrap
                                                                                                                        (IntKind.i64.wrap
                                                                                                                            (IntKind.i64.wrap
                                                                                                                                (IntKind.i64.wrap
                                                                                                                                    (s1 +
                                                                                                                                      (1 :
                                                                                                                                        Int)) +
                                                                                                                                  (1 :
                                                                                                                                    Int)) +
                                                                                                                              (1 :
                                                                                                                                Int)) +
                                                                                                                          (1 :
                                                                                                                            Int)) +
                                                                                                                      (1 :
                                                                                                                        Int)) +
                                                                                                                  (1 :
                                                                                                                    Int)) +
                                                                                                              (1 :
                                                                                                                Int)) +
                                                                                                          (1 : Int)) +
                                                                                                      (1 : Int)) +
                                                                                                  (1 : Int)),
                                                                                              y_10.snd.snd.snd.snd.snd.snd.fst.snd.snd),
                                                                                            ()))
                                                                                        (Int.toNat s5)
                                                                                        (y_11.fst, y_11.snd.fst,
                                                                                          y_11.snd.snd.fst,
                                                                                          y_11.snd.snd.snd.fst,
                                                                                          y_11.snd.snd.snd.snd.fst,
                                                                                          y_11.snd.snd.snd.snd.snd.fst,
                                                                                          (y_11.snd.snd.snd.snd.snd.snd.fst.fst,
                                                                                            y_11.snd.snd.snd.snd.snd.snd.fst.snd.fst,
                                                                                            IntKind.i64.wrap
                                                                                              (IntKind.i64.wrap
                                                                                                  (IntKind.i64.wrap
                                                                                                      (IntKind.i64.wrap
                                                                                                          (IntKind.i64.wrap
                                                                                                              (IntKind.i64.wrap
                                                                                                                  (IntKind.i64.wrap
                                                                                                                      (IntKind.i64.wrap
                                                                                                                          (IntKind.i64.wrap
                                                                                                                              (IntKind.i64.wrap
                                                                                                                                  (IntKind.i64.wrap
                                                                                                                                      (s1 +
                                                                                                                                        (1 :
                                                                                                                                          Int)) +
                                                                                                                                    (1 :
                                                                                                                                      Int)) +
                                                                                                                                (1 :
                                                                                                                                  Int)) +
                                                                                                                            (1 :
                                                                                                                              Int)) +
                                                                                                                        (1 :
                                                                                                                          Int)) +
                                                                                                                    (1 :
                                                                                                                      Int)) +
                                                                                                                (1 :
                                                                                                                  Int)) +
                                                                                                            (1 : Int)) +
                                                                                                        (1 : Int)) +
                                                                                                    (1 : Int)) +
                                                                                                (1 : Int)),
                                                                                            y_11.snd.snd.snd.snd.snd.snd.fst.snd.snd.snd),
                                                                                          ()))
                                                                                      (Int.toNat s5)).bind
                                                                                  fun y_12 =>
                                                                                  R_l_markLetterS_2 n
                                                                                    (IntKind.i64.wrap
                                                                                      (IntKind.i64.wrap
                                                                                          (IntKind.i64.wrap
                                                                                              (IntKind.i64.wrap
                                                                                                  (IntKind.i64.wrap
                                                                                                      (IntKind.i64.wrap
                                                                                                          (IntKind.i64.wrap
                                                                                                              (IntKind.i64.wrap
                                                                                                                  (IntKind.i64.wrap
                                                                                                                      (IntKind.i64.wrap
                                                                                                                          (IntKind.i64.wrap
                                                                                                                              (IntKind.i64.wrap
                                                                                                                                  (IntKind.i64.wrap
                                                                                                                                      (s1 +
                                                                                                                                        (1 :
                                                                                                                                          Int)) +
                                                                                                                                    (1 :
                                                                                                                                      Int)) +
                                                                                                                                (1 :
                                                                                                                                  Int)) +
                                                                                                                            (1 :
                                                                                                                              Int)) +
                                                                                                                        (1 :
                                                                                                                          Int)) +
                                                                                                                    (1 :
                                                                                                                      Int)) +
                                                                                                                (1 :
                                                                                                                  Int)) +
                                                                                                            (1 : Int)) +
                                                                                                        (1 : Int)) +
                                                                                                    (1 : Int)) +
                                                                                                (1 : Int)) +
                                                                                            (1 : Int)) +
                                                                                        (1 : Int)))
                                                                                    (IntKind.i64.wrap (s5 + (1 : Int)))
                                                                                    (upd
                                                                                      (upd
                                                                                        (upd
                                                                                          (upd
                                                                                            (upd
                                                                                              (upd
                                                                                                (upd
                                                                                                  (upd
                                                                                                    (upd
                                                                                                      (upd
                                                                                                        (upd
                                                                                                          (upd
                                                                                                            (upd b0
                                                                                                              (Int.toNat
                                                                                                                s5)
                                                                                                              (s1,
                                                                                                                y.snd))
                                                                                                            (Int.toNat
                                                                                                              s5)
                                                                                                            (y_1.fst,
                                                                                                              IntKind.i64.wrap
                                                                                                                (s1 +
                                                                                                                  (1 :
                                                                                                                    Int)),
                                                                                                              y_1.snd.snd))
                                                                                                          (Int.toNat s5)
                                                                                                          (y_2.fst,
                                                                                                            y_2.snd.fst,
                                                                                                            IntKind.i64.wrap
                                                                                                              (IntKind.i64.wrap
                                                                                                                  (s1 +
                                                                                                                    (1 :
                                                                                                                      Int)) +
                                                                                                                (1 :
                                                                                                                  Int)),
                                                                                                            y_2.snd.snd.snd))
                                                                                                        (Int.toNat s5)
                                                                                                        (y_3.fst,
                                                                                                          y_3.snd.fst,
                                                                                                          y_3.snd.snd.fst,
                                                                                                          IntKind.i64.wrap
                                                                                                            (IntKind.i64.wrap
                                                                                                                (IntKind.i64.wrap
                                                                                                                    (s1 +
                                                                                                                      (1 :
                                                                                                                        Int)) +
                                                                                                                  (1 :
                                                                                                                    Int)) +
                                                                                                              (1 :
                                                                                                                Int)),
                                                                                                          y_3.snd.snd.snd.snd))
                                                                                                      (Int.toNat s5)
                                                                                                      (y_4.fst,
                                                                                                        y_4.snd.fst,
                                                                                                        y_4.snd.snd.fst,
                                                                                                        y_4.snd.snd.snd.fst,
                                                                                                        IntKind.i64.wrap
                                                                                                          (IntKind.i64.wrap
                                                                                                              (IntKind.i64.wrap
                                                                                                                  (IntKind.i64.wrap
                                                                                                                      (s1 +
                                                                                                                        (1 :
                                                                                                                          Int)) +
                                                                                                                    (1 :
                                                                                                                      Int)) +
                                                                                                                (1 :
                                                                                                                  Int)) +
                                                                                                            (1 : Int)),
                                                                                                        y_4.snd.snd.snd.snd.snd))
                                                                                                    (Int.toNat s5)
                                                                                                    (y_5.fst,
                                                                                                      y_5.snd.fst,
                                                                                                      y_5.snd.snd.fst,
                                                                                                      y_5.snd.snd.snd.fst,
                                                                                                      y_5.snd.snd.snd.snd.fst,
                                                                                                      (IntKind.i64.wrap
                                                                                                          (IntKind.i64.wrap
                                                                                                              (IntKind.i64.wrap
                                                                                                                  (IntKind.i64.wrap
                                                                                                                      (IntKind.i64.wrap
                                                                                                                          (s1 +
                                                                                                                            (1 :
                                                                                                                              Int)) +
                                                                                                                        (1 :
                                                                                                                          Int)) +
                                                                                                                    (1 :
                                                                                                                      Int)) +
                                                                                                                (1 :
                                                                                                                  Int)) +
                                                                                                            (1 : Int)),
                                                                                                        y_5.snd.snd.snd.snd.snd.fst.snd),
                                                                                                      y_5.snd.snd.snd.snd.snd.snd))
                                                                                                  (Int.toNat s5)
                                                                                                  (y_6.fst, y_6.snd.fst,
                                                                                                    y_6.snd.snd.fst,
                                                                                                    y_6.snd.snd.snd.fst,
                                                                                                    y_6.snd.snd.snd.snd.fst,
                                                                                                    (y_6.snd.snd.snd.snd.snd.fst.fst,
                                                                                                      IntKind.i64.wrap
                                                                                                        (IntKind.i64.wrap
                                                                                                            (IntKind.i64.wrap
                                                                                                                (IntKind.i64.wrap
                                                                                                                    (IntKind.i64.wrap
                                                                                                                        (IntKind.i64.wrap
                                                                                                                            (s1 +
                                                                                                                              (1 :
                                                                                                                                Int)) +
                                                                                                                          (1 :
                                                                                                                            Int)) +
                                                                                                                      (1 :
                                                                                                                        Int)) +
                                                                                                                  (1 :
                                                                                                                    Int)) +
                                                                                                              (1 :
                                                                                                                Int)) +
                                                                                                          (1 : Int)),
                                                                                                      y_6.snd.snd.snd.snd.snd.fst.snd.snd),
                                                                                                    y_6.snd.snd.snd.snd.snd.snd))
                                                                                                (Int.toNat s5)
                                                                                                (y_7.fst, y_7.snd.fst,
                                                                                                  y_7.snd.snd.fst,
                                                                                                  y_7.snd.snd.snd.fst,
                                                                                                  y_7.snd.snd.snd.snd.fst,
                                                                                                  (y_7.snd.snd.snd.snd.snd.fst.fst,
                                                                                                    y_7.snd.snd.snd.snd.snd.fst.snd.fst,
                                                                                                    IntKind.i64.wrap
                                                                                                      (IntKind.i64.wrap
                                                                                                          (IntKind.i64.wrap
                                                                                                              (IntKind.i64.wrap
                                                                                                                  (IntKind.i64.wrap
                                                                                                                      (IntKind.i64.wrap
                                                                                                                          (IntKind.i64.wrap
                                                                                                                              (s1 +
                                                                                                                                (1 :
                                                                                                                                  Int)) +
                                                                                                                            (1 :
                                                                                                                              Int)) +
                                                                                                                        (1 :
                                                                                                                          Int)) +
                                                                                                                    (1 :
                                                                                                                      Int)) +
                                                                                                                (1 :
                                                                                                                  Int)) +
                                                                                                            (1 : Int)) +
                                                                                                        (1 : Int)),
                                                                                                    y_7.snd.snd.snd.snd.snd.fst.snd.snd.snd),
                                                                                                  y_7.snd.snd.snd.snd.snd.snd))
                                                                                              (Int.toNat s5)
                                                                                              (y_8.fst, y_8.snd.fst,
                                                                                                y_8.snd.snd.fst,
                                                                                                y_8.snd.snd.snd.fst,
                                                                                                y_8.snd.snd.snd.snd.fst,
                                                                                                (y_8.snd.snd.snd.snd.snd.fst.fst,
                                                                                                  y_8.snd.snd.snd.snd.snd.fst.snd.fst,
                                                                                                  y_8.snd.snd.snd.snd.snd.fst.snd.snd.fst,
                                                                                                  IntKind.i64.wrap
                                                                                                    (IntKind.i64.wrap
                                                                                                        (IntKind.i64.wrap
                                                                                                            (IntKind.i64.wrap
                                                                                                                (IntKind.i64.wrap
                                                                                                                    (IntKind.i64.wrap
                                                                                                                        (IntKind.i64.wrap
                                                                                                                            (IntKind.i64.wrap
                                                                                                                                (s1 +
                                                                                                                                  (1 :
                                                                                                                                    Int)) +
                                                                                                                              (1 :
                                                                                                                                Int)) +
                                                                                                                          (1 :
                                                                                                                            Int)) +
                                                                                                                      (1 :
                                                                                                                        Int)) +
                                                                                                                  (1 :
                                                                                                                    Int)) +
                                                                                                              (1 :
                                                                                                                Int)) +
                                                                                                          (1 : Int)) +
                                                                                                      (1 : Int)),
                                                                                                  ()),
                                                                                                y_8.snd.snd.snd.snd.snd.snd))
                                                                                            (Int.toNat s5)
                                                                                            (y_9.fst, y_9.snd.fst,
                                                                                              y_9.snd.snd.fst,
                                                                                              y_9.snd.snd.snd.fst,
                                                                                              y_9.snd.snd.snd.snd.fst,
                                                                                              y_9.snd.snd.snd.snd.snd.fst,
                                                                                              (IntKind.i64.wrap
                                                                                                  (IntKind.i64.wrap
                                                                                                      (IntKind.i64.wrap
                                                                                                          (IntKind.i64.wrap
                                                                                                              (IntKind.i64.wrap
                                                                                                                  (IntKind.i64.wrap
                                                                                                                      (IntKind.i64.wrap
                                                                                                                          (IntKind.i64.wrap
                                                                                                                              (IntKind.i64.wrap
                                                                                                                                  (s1 +
                                                                                                                                    (1 :
                                                                                                                                      Int)) +
                                                                                                                                (1 :
                                                                                                                                  Int)) +
                                                                                                                            (1 :
                                                                                                                              Int)) +
                                                                                                                        (1 :
                                                                                                                          Int)) +
                                                                                                                    (1 :
                                                                                                                      Int)) +
                                                                                                                (1 :
                                                                                                                  Int)) +
                                                                                                            (1 : Int)) +
                                                                                                        (1 : Int)) +
                                                                                                    (1 : Int)),
                                                                                                y_9.snd.snd.snd.snd.snd.snd.fst.snd),
                                                                                              ()))
                                                                                          (Int.toNat s5)
                                                                                          (y_10.fst, y_10.snd.fst,
                                                                                            y_10.snd.snd.fst,
                                                                                            y_10.snd.snd.snd.fst,
                                                                                            y_10.snd.snd.snd.snd.fst,
                                                                                            y_10.snd.snd.snd.snd.snd.fst,
                                                                                            (y_10.snd.snd.snd.snd.snd.snd.fst.fst,
                                                                                              IntKind.i64.wrap
                                                                                                (IntKind.i64.wrap
                                                                                                    (IntKind.i64.wrap
                                                                                                        (IntKind.i64.wrap
                                                                                                            (IntKind.i64.wrap
                                                                                                                (IntKind.i64.wrap
                                                                                                                    (IntKind.i64.wrap
                                                                                                                        (IntKind.i64.wrap
                                                                                                                            (IntKind.i64.wrap
                                                                                                                                (IntKind.i64.wrap
                                                                                                                                    (s1 +
                                                                                                                                      (1 :
                                                                                                                                        Int)) +
                                                                                                                                  (1 :
                                                                                                                                    Int)) +
                                                                                                                              (1 :
                                                                                                                                Int)) +
                                                                                                                          (1 :
                                                                                                                            Int)) +
                                                                                                                      (1 :
                                                                                                                        Int)) +
                                                                                                                  (1 :
                                                                                                                    Int)) +
                                                                                                              (1 :
                                                                                                                Int)) +
                                                                                                          (1 : Int)) +
                                                                                                      (1 : Int)) +
                                                                                                  (1 : Int)),
                                                                                              y_10.snd.snd.snd.snd.snd.snd.fst.snd.snd),
                                                                                            ()))
                                                                                        (Int.toNat s5)
                                                                                        (y_11.fst, y_11.snd.fst,
                                                                                          y_11.snd.snd.fst,
                                                                                          y_11.snd.snd.snd.fst,
                                                                                          y_11.snd.snd.snd.snd.fst,
                                                                                          y_11.snd.snd.snd.snd.snd.fst,
                                                                                          (y_11.snd.snd.snd.snd.snd.snd.fst.fst,
                                                                                            y_11.snd.snd.snd.snd.snd.snd.fst.snd.fst,
                                                                                            IntKind.i64.wrap
                                                                                              (IntKind.i64.wrap
                                                                                                  (IntKind.i64.wrap
                                                                                                      (IntKind.i64.wrap
                                                                                                          (IntKind.i64.wrap
                                                                                                              (IntKind.i64.wrap
                                                                                                                  (IntKind.i64.wrap
                                                                                                                      (IntKind.i64.wrap
                                                                                                                          (IntKind.i64.wrap
                                                                                                                              (IntKind.i64.wrap
                                                                                                                                  (IntKind.i64.wrap
                                                                                                                                      (s1 +
                                                                                                                                        (1 :
                                                                                                                                          Int)) +
                                                                                                                                    (1 :
                                                                                                                                      Int)) +
                                                                                                                                (1 :
                                                                                                                                  Int)) +
                                                                                                                            (1 :
                                                                                                                              Int)) +
                                                                                                                        (1 :
                                                                                                                          Int)) +
                                                                                                                    (1 :
                                                                                                                      Int)) +
                                                                                                                (1 :
                                                                                                                  Int)) +
                                                                                                            (1 : Int)) +
                                                                                                        (1 : Int)) +
                                                                                                    (1 : Int)) +
                                                                                                (1 : Int)),
                                                                                            y_11.snd.snd.snd.snd.snd.snd.fst.snd.snd.snd),
                                                                                          ()))
                                                                                      (Int.toNat s5)
                                                                                      (y_12.fst, y_12.snd.fst,
                                                                                        y_12.snd.snd.fst,
                                                                                        y_12.snd.snd.snd.fst,
                                                                                        y_12.snd.snd.snd.snd.fst,
                                                                                        y_12.snd.snd.snd.snd.snd.fst,
                                                                                        (y_12.snd.snd.snd.snd.snd.snd.fst.fst,
                                                                                          y_12.snd.snd.snd.snd.snd.snd.fst.snd.fst,
                                                                                          y_12.snd.snd.snd.snd.snd.snd.fst.snd.snd.fst,
                                                                                          IntKind.i64.wrap
                                                                                            (IntKind.i64.wrap
                                                                                                (IntKind.i64.wrap
                                                                                                    (IntKind.i64.wrap
                                                                                                        (IntKind.i64.wrap
                                                                                                            (IntKind.i64.wrap
                                                                                                                (IntKind.i64.wrap
                                                                                                                    (IntKind.i64.wrap
                                                                                                                        (IntKind.i64.wrap
                                                                                                                            (IntKind.i64.wrap
                                                                                                                                (IntKind.i64.wrap
                                                                                                                                    (IntKind.i64.wrap
                                                                                                                                        (s1 +
                                                                                                                                          (1 :
                                                                                                                                            Int)) +
                                                                                                                                      (1 :
                                                                                                                                        Int)) +
                                                                                                                                  (1 :
                                                                                                                                    Int)) +
                                                                                                                              (1 :
                                                                                                                                Int)) +
                                                                                                                          (1 :
                                                                                                                            Int)) +
                                                                                                                      (1 :
                                                                                                                        Int)) +
                                                                                                                  (1 :
                                                                                                                    Int)) +
                                                                                                              (1 :
                                                                                                                Int)) +
                                                                                                          (1 : Int)) +
                                                                                                      (1 : Int)) +
                                                                                                  (1 : Int)) +
                                                                                              (1 : Int)),
                                                                                          ()),
                                                                                        ()))
                                                                              else none
                                                                            else none
                                                                        else none
                                                                      else none
                                                                  else none
                                                                else none
                                                            else none
                                                          else none
                                                      else none
                                                    else none
                                                else none
                                              else none
                                          else none
                                        else none
                                    else none
                                  else none
                              else none
                            else none
                        else none
                      else none
                  else none
                else none
            else none
          else none
      else none
    else none
  else some (s1, b0, PUnit.unit) := by kernel_rfl

end Go.Sx.Try
