/- The functions of the seat: how each is evaluated. -/
import Derived.Test.YthjmknhkfkofgaaTypes
import Derived.Test.YthjmknhkfkofgaaM6
set_option linter.unusedVariables false
set_option maxRecDepth 100000
namespace Go.Sx.Try
open Go Go.Sx Go.Proofs

def env (l : List (Nat × Con)) : Env := ⟨assoc tis, eqs, assoc l⟩
theorem envOk {l : List (Nat × Con)} (h : ∀ q ∈ l, ConOk Try.prog q.1 q.2) : EnvOk Try.prog (env l) :=
  { ti := tisOk (env l) rfl, eqs := eqsOk (env l) rfl rfl, tbl := tbl_ok h }

def body (f : Func) : Code := f.body.getD .skip
abbrev KP : Type := List (Nat × (List Keep × List BK))

/-- a function's evaluation -/
noncomputable def finX {X : Type} (l : List (Nat × Con)) (rt : List (Option Ty)) (f : Func) (s : Sh X) (args : List SV) : Ex → St → Option X :=
  fun e st => (finK (env l) rt f.results.toList (enterL [] args).2.2 e st).bind s.un
noncomputable def evX {X : Type} (l : List (Nat × Con)) (kp : KP) (rt : List (Option Ty)) (f : Func) (s : Sh X) (N : Nat) (args : List SV) : Option X :=
  ev (env l) (Lr (env l) kp (body f) (finX l rt f s args) N) (body f) (startSt f.ntmps args) (finX l rt f s args)

theorem evX_ok {X : Type} {l : List (Nat × Con)} (hl : ∀ q ∈ l, ConOk Try.prog q.1 q.2) {kp : KP} {rt : List (Option Ty)} {s : Sh X} {n : FuncId} {f : Func} {b : Code} (hf : Try.prog.funcs[n]? = some f) (hb : f.body = some b) (hn : noDup (idsOf kp b) = true)
    {args : List SV} (hbx : boxesOk args kp = true) (N : Nat) {v : X} (h : evX l kp rt f s N args = some v) : CallOk Try.prog n args (s.sh v).1 (s.sh v).2 := by
  have e : body f = b := by unfold body; rw [hb]; rfl
  unfold evX at h
  rw [e] at h
  refine fn_ok (rt := rt) (envOk hl) hf hb hn hbx N (fun e st he => ?_) h
  obtain ⟨r, h1, h2⟩ := Option.bind_eq_some_iff.1 he
  rw [h1, s.ok r v h2]

/-- enough rounds -/
def big : Nat := 4611686018427387904

theorem all_nil : ∀ q ∈ ([] : List (Nat × Con)), ConOk Try.prog q.1 q.2 := fun _ h => by cases h
theorem all_cons {n : Nat} {c : Con} {l : List (Nat × Con)} (h : ConOk Try.prog n c) (t : ∀ q ∈ l, ConOk Try.prog q.1 q.2) : ∀ q ∈ (n, c) :: l, ConOk Try.prog q.1 q.2 := fun q hq => by
  rcases List.mem_cons.1 hq with rfl | hq
  · exact h
  · exact t q hq

end Go.Sx.Try

set_option maxRecDepth 100000
namespace Go.Sx.Try
open Go Go.Sx Go.Proofs

noncomputable def l67 : List (Nat × Con) := []
theorem l67_ok : ∀ q ∈ l67, ConOk Try.prog q.1 q.2 := Try.all_nil
def kp67 : KP := []
noncomputable def q67 (n : Nat) (x : Args [T23, T3]) := evX l67 kp67 [none] Try.f67 (shV T3) n (encA [T23, T3] x)
noncomputable def c67 : Con := roS [T23, T3] true (shV T3) (q67 big)
theorem c67_ok : ConOk Try.prog 67 c67 := roS_ok ⟨Try.f67, by kernel_rfl, rfl, by decide⟩ fun _ _ h => evX_ok l67_ok (f := Try.f67) (by kernel_rfl) rfl (by kernel_rfl) (by kernel_rfl) big h
theorem q67_eq (n : Nat) (a0 : T23.den) (a1 : T3.den) : q67 n (a0, a1, ()) =
    bif decide (IntKind.i64.wrap (a1 - (↑(ByteArray.size a0.snd.fst) : Int)) < (0 : Int)) then some (-1 : Int)
  else some (IntKind.i64.wrap (a1 - (↑(ByteArray.size a0.snd.fst) : Int))) := by kernel_rfl

end Go.Sx.Try

set_option maxRecDepth 100000
namespace Go.Sx.Try
open Go Go.Sx Go.Proofs

noncomputable def l75 : List (Nat × Con) := [(67, c67)]
theorem l75_ok : ∀ q ∈ l75, ConOk Try.prog q.1 q.2 := Try.all_cons c67_ok (Try.all_nil)
abbrev k75_5 : List Keep × List BK := ([.ro T97, .ro (.int .i64), .drop, .drop, .drop, .ro (.int .i64), .drop, .drop, .drop, .drop, .drop, .drop, .drop, .drop, .drop, .drop, .drop, .drop, .drop, .drop, .drop, .drop, .drop, .drop, .drop, .drop, .drop], [])
def kp75 : KP := [(5, k75_5)]
noncomputable def q75 (n : Nat) (x : Args [T97, T3]) := evX l75 kp75 [none] Try.f75 (shV T3) n (encA [T97, T3] x)
noncomputable def c75 : Con := roS [T97, T3] true (shV T3) (q75 big)
theorem c75_ok : ConOk Try.prog 75 c75 := roS_ok ⟨Try.f75, by kernel_rfl, rfl, by decide⟩ fun _ _ h => evX_ok l75_ok (f := Try.f75) (by kernel_rfl) rfl (by kernel_rfl) (by kernel_rfl) big h
noncomputable def r75_5 (n : Nat) (x : KD k75_5.1) (y : BD k75_5.2) := rounds (env l75) kp75 (body Try.f75) (finX l75 [none] Try.f75 (shV T3) [.val T97 (zeroD T97), .val T3 (zeroD T3)]) n 5 k75_5 x y
theorem q75_eq (n : Nat) (a0 : T97.den) (a1 : T3.den) : q75 n (a0, a1, ()) =
    bif decide (IntKind.i64.wrap (a1 - (↑(List.length a0) : Int)) < (0 : Int)) then some (-1 : Int)
  else r75_5 n (a0, IntKind.i64.wrap (a1 - (↑(List.length a0) : Int)), (0 : Int), PUnit.unit) PUnit.unit := by kernel_rfl
theorem r75_5_eq (n : Nat) (s0 : Ty.den T97) (s1 : Ty.den (.int .i64)) (s5 : Ty.den (.int .i64)) : r75_5 (n + 1) (s0, s1, s5, ()) () =
    bif decide (s5 < (↑(List.length s0) : Int)) then
    if (0 : Int) ≤ s5 then
      (nth s0 (Int.toNat s5)).bind fun y =>
        (q67 big (y, s1, ())).bind fun y =>
          bif decide (y < (0 : Int)) then some (-1 : Int)
          else r75_5 n (s0, y, IntKind.i64.wrap (s5 + (1 : Int)), PUnit.unit) PUnit.unit
    else none
  else some s1 := by kernel_rfl

end Go.Sx.Try

set_option maxRecDepth 100000
namespace Go.Sx.Try
open Go Go.Sx Go.Proofs

noncomputable def l23 : List (Nat × Con) := [(75, c75)]
theorem l23_ok : ∀ q ∈ l23, ConOk Try.prog q.1 q.2 := Try.all_cons c75_ok (Try.all_nil)
abbrev k23_5 : List Keep × List BK := ([.ro T40, .ro (.int .i64), .drop, .drop, .drop, .ro (.int .i64), .drop, .drop, .drop, .drop, .drop, .drop, .drop, .drop, .drop, .drop, .drop, .drop, .drop, .drop, .drop, .drop, .drop, .drop, .drop, .drop, .drop], [])
def kp23 : KP := [(5, k23_5)]
noncomputable def q23 (n : Nat) (x : Args [T40, T3]) := evX l23 kp23 [none] Try.f23 (shV T3) n (encA [T40, T3] x)
noncomputable def c23 : Con := roS [T40, T3] true (shV T3) (q23 big)
theorem c23_ok : ConOk Try.prog 23 c23 := roS_ok ⟨Try.f23, by kernel_rfl, rfl, by decide⟩ fun _ _ h => evX_ok l23_ok (f := Try.f23) (by kernel_rfl) rfl (by kernel_rfl) (by kernel_rfl) big h
noncomputable def r23_5 (n : Nat) (x : KD k23_5.1) (y : BD k23_5.2) := rounds (env l23) kp23 (body Try.f23) (finX l23 [none] Try.f23 (shV T3) [.val T40 (zeroD T40), .val T3 (zeroD T3)]) n 5 k23_5 x y
theorem q23_eq (n : Nat) (a0 : T40.den) (a1 : T3.den) : q23 n (a0, a1, ()) =
    bif decide (IntKind.i64.wrap (a1 - (↑(List.length a0) : Int)) < (0 : Int)) then some (-1 : Int)
  else r23_5 n (a0, IntKind.i64.wrap (a1 - (↑(List.length a0) : Int)), (0 : Int), PUnit.unit) PUnit.unit := by kernel_rfl
theorem r23_5_eq (n : Nat) (s0 : Ty.den T40) (s1 : Ty.den (.int .i64)) (s5 : Ty.den (.int .i64)) : r23_5 (n + 1) (s0, s1, s5, ()) () =
    bif decide (s5 < (↑(List.length s0) : Int)) then
    if (0 : Int) ≤ s5 then
      (nth s0 (Int.toNat s5)).bind fun y =>
        (q75 big (y, s1, ())).bind fun y =>
          bif decide (y < (0 : Int)) then some (-1 : Int)
          else r23_5 n (s0, y, IntKind.i64.wrap (s5 + (1 : Int)), PUnit.unit) PUnit.unit
    else none
  else some s1 := by kernel_rfl

end Go.Sx.Try

set_option maxRecDepth 100000
namespace Go.Sx.Try
open Go Go.Sx Go.Proofs

noncomputable def l70 : List (Nat × Con) := []
theorem l70_ok : ∀ q ∈ l70, ConOk Try.prog q.1 q.2 := Try.all_nil
def kp70 : KP := []
noncomputable def q70 (n : Nat) (x : Args [T23]) := evX l70 kp70 [none] Try.f70 (shV T28) n (encA [T23] x)
noncomputable def c70 : Con := roS [T23] true (shV T28) (q70 big)
theorem c70_ok : ConOk Try.prog 70 c70 := roS_ok ⟨Try.f70, by kernel_rfl, rfl, by decide⟩ fun _ _ h => evX_ok l70_ok (f := Try.f70) (by kernel_rfl) rfl (by kernel_rfl) (by kernel_rfl) big h
theorem q70_eq (n : Nat) (a0 : T23.den) : q70 n (a0, ()) =
    some a0 := by kernel_rfl

end Go.Sx.Try

set_option maxRecDepth 100000
namespace Go.Sx.Try
open Go Go.Sx Go.Proofs

noncomputable def l76 : List (Nat × Con) := [(70, c70)]
theorem l76_ok : ∀ q ∈ l76, ConOk Try.prog q.1 q.2 := Try.all_cons c70_ok (Try.all_nil)
abbrev k76_3 : List Keep × List BK := ([.ro T97, .drop, .drop, .is (.own 0 0), .ro (.int .i64), .drop, .drop, .drop, .drop, .drop, .drop, .drop, .drop, .drop, .drop, .drop, .drop, .drop, .drop, .drop, .drop, .drop, .drop], [.arr T28])
def kp76 : KP := [(3, k76_3)]
noncomputable def q76 (n : Nat) (x : Args [T97]) := evX l76 kp76 [some (.sl true T28)] Try.f76 (shF (.sl true T28)) n (encA [T97] x)
noncomputable def c76 : Con := roS [T97] true (shF (.sl true T28)) (q76 big)
theorem c76_ok : ConOk Try.prog 76 c76 := roS_ok ⟨Try.f76, by kernel_rfl, rfl, by decide⟩ fun _ _ h => evX_ok l76_ok (f := Try.f76) (by kernel_rfl) rfl (by kernel_rfl) (by kernel_rfl) big h
noncomputable def r76_3 (n : Nat) (x : KD k76_3.1) (y : BD k76_3.2) := rounds (env l76) kp76 (body Try.f76) (finX l76 [some (.sl true T28)] Try.f76 (shF (.sl true T28)) [.val T97 (zeroD T97)]) n 3 k76_3 x y
theorem q76_eq (n : Nat) (a0 : T97.den) : q76 n (a0, ()) =
    if (↑(List.length a0) : Int) ≤ (↑(List.length a0) : Int) then
    if (↑(List.length a0) : Int) ≤ (↑lim : Int) then
      r76_3 n (a0, (0 : Int), PUnit.unit) (List.replicate (↑(List.length a0) : Int).toNat (zeroD T28), PUnit.unit)
    else none
  else none := by kernel_rfl
theorem r76_3_eq (n : Nat) (s0 : Ty.den T97) (s4 : Ty.den (.int .i64)) (b0 : List (Ty.den T28)) : r76_3 (n + 1) (s0, s4, ()) (b0, ()) =
    bif decide (s4 < (↑(List.length s0) : Int)) then
    if (0 : Int) ≤ s4 then
      (nth s0 (Int.toNat s4)).bind fun y =>
        if (0 : Int) ≤ s4 then
          if s4 < (↑b0.length : Int) then
            (nth b0 (Int.toNat s4)).bind fun y_1 =>
              r76_3 n (s0, IntKind.i64.wrap (s4 + (1 : Int)), PUnit.unit) (upd b0 (Int.toNat s4) y, PUnit.unit)
          else none
        else none
    else none
  else some b0 := by kernel_rfl

end Go.Sx.Try

set_option maxRecDepth 100000
namespace Go.Sx.Try
open Go Go.Sx Go.Proofs

noncomputable def l25 : List (Nat × Con) := [(76, c76)]
theorem l25_ok : ∀ q ∈ l25, ConOk Try.prog q.1 q.2 := Try.all_cons c76_ok (Try.all_nil)
abbrev k25_3 : List Keep × List BK := ([.ro T40, .drop, .drop, .is (.own 0 0), .ro (.int .i64), .drop, .drop, .drop, .drop, .drop, .drop, .drop, .drop, .drop, .drop, .drop, .drop, .drop, .drop, .drop, .drop, .drop, .drop], [.arr T103])
def kp25 : KP := [(3, k25_3)]
noncomputable def q25 (n : Nat) (x : Args [T40]) := evX l25 kp25 [some (.sl true T103)] Try.f25 (shF (.sl true T103)) n (encA [T40] x)
noncomputable def c25 : Con := roS [T40] false (shF (.sl true T103)) (q25 big)
theorem c25_ok : ConOk Try.prog 25 c25 := roS_ok ⟨Try.f25, by kernel_rfl, rfl, by decide⟩ fun _ _ h => evX_ok l25_ok (f := Try.f25) (by kernel_rfl) rfl (by kernel_rfl) (by kernel_rfl) big h
noncomputable def r25_3 (n : Nat) (x : KD k25_3.1) (y : BD k25_3.2) := rounds (env l25) kp25 (body Try.f25) (finX l25 [some (.sl true T103)] Try.f25 (shF (.sl true T103)) [.val T40 (zeroD T40)]) n 3 k25_3 x y
theorem q25_eq (n : Nat) (a0 : T40.den) : q25 n (a0, ()) =
    if (↑(List.length a0) : Int) ≤ (↑(List.length a0) : Int) then
    if (↑(List.length a0) : Int) ≤ (↑lim : Int) then
      r25_3 n (a0, (0 : Int), PUnit.unit) (List.replicate (↑(List.length a0) : Int).toNat (zeroD T103), PUnit.unit)
    else none
  else none := by kernel_rfl
theorem r25_3_eq (n : Nat) (s0 : Ty.den T40) (s4 : Ty.den (.int .i64)) (b0 : List (Ty.den T103)) : r25_3 (n + 1) (s0, s4, ()) (b0, ()) =
    bif decide (s4 < (↑(List.length s0) : Int)) then
    if (0 : Int) ≤ s4 then
      (nth s0 (Int.toNat s4)).bind fun y =>
        (q76 big (y, ())).bind fun y =>
          if (0 : Int) ≤ s4 then
            if s4 < (↑b0.length : Int) then
              (nth b0 (Int.toNat s4)).bind fun y_1 =>
                r25_3 n (s0, IntKind.i64.wrap (s4 + (1 : Int)), PUnit.unit) (upd b0 (Int.toNat s4) y, PUnit.unit)
            else none
          else none
    else none
  else some b0 := by kernel_rfl

end Go.Sx.Try

set_option maxRecDepth 100000
namespace Go.Sx.Try
open Go Go.Sx Go.Proofs

noncomputable def l24 : List (Nat × Con) := []
theorem l24_ok : ∀ q ∈ l24, ConOk Try.prog q.1 q.2 := Try.all_nil
abbrev k24_4 : List Keep × List BK := ([.ro T43, .ro T43, .drop, .drop, .drop, .ro (.int .i64), .drop, .drop, .drop, .drop, .drop, .drop, .drop, .drop, .drop, .drop, .drop, .drop, .drop, .drop, .drop, .drop, .drop, .drop, .drop, .drop, .drop, .drop, .drop, .drop, .drop, .drop, .drop, .drop, .drop, .drop, .drop, .drop, .drop, .drop, .drop, .drop, .drop, .drop, .drop, .drop, .drop, .drop, .drop, .drop, .drop, .drop, .drop], [])
abbrev k24_9 : List Keep × List BK := ([.ro T43, .ro T43, .drop, .drop, .drop, .ro (.int .i64), .ro (.int .i64), .drop, .drop, .drop, .drop, .drop, .drop, .drop, .drop, .drop, .drop, .drop, .drop, .drop, .drop, .drop, .drop, .drop, .drop, .drop, .drop, .drop, .drop, .drop, .drop, .drop, .drop, .drop, .drop, .drop, .drop, .drop, .drop, .drop, .drop, .drop, .drop, .drop, .drop, .drop, .drop, .drop, .drop, .drop, .drop, .drop, .drop], [])
def kp24 : KP := [(4, k24_4), (9, k24_9)]
noncomputable def q24 (n : Nat) (x : Args [T43, T43]) := evX l24 kp24 [none] Try.f24 (shV T4) n (encA [T43, T43] x)
noncomputable def c24 : Con := roS [T43, T43] true (shV T4) (q24 big)
theorem c24_ok : ConOk Try.prog 24 c24 := roS_ok ⟨Try.f24, by kernel_rfl, rfl, by decide⟩ fun _ _ h => evX_ok l24_ok (f := Try.f24) (by kernel_rfl) rfl (by kernel_rfl) (by kernel_rfl) big h
noncomputable def r24_4 (n : Nat) (x : KD k24_4.1) (y : BD k24_4.2) := rounds (env l24) kp24 (body Try.f24) (finX l24 [none] Try.f24 (shV T4) [.val T43 (zeroD T43), .val T43 (zeroD T43)]) n 4 k24_4 x y
noncomputable def r24_9 (n : Nat) (x : KD k24_9.1) (y : BD k24_9.2) := rounds (env l24) kp24 (body Try.f24) (finX l24 [none] Try.f24 (shV T4) [.val T43 (zeroD T43), .val T43 (zeroD T43)]) n 9 k24_9 x y
theorem q24_eq (n : Nat) (a0 : T43.den) (a1 : T43.den) : q24 n (a0, a1, ()) =
    bif !decide ((↑(List.length a0) : Int) = (↑(List.length a1) : Int)) then some false
  else r24_4 n (a0, a1, (0 : Int), PUnit.unit) PUnit.unit := by kernel_rfl
theorem r24_4_eq (n : Nat) (s0 : Ty.den T43) (s1 : Ty.den T43) (s5 : Ty.den (.int .i64)) : r24_4 (n + 1) (s0, s1, s5, ()) () =
    bif decide (s5 < (↑(List.length s0) : Int)) then
    if (0 : Int) ≤ s5 then
      (nth s0 (Int.toNat s5)).bind fun y =>
        if (0 : Int) ≤ s5 then
          (nth s1 (Int.toNat s5)).bind fun y_1 =>
            bif !decide ((↑(List.length y) : Int) = (↑(List.length y_1) : Int)) then some false
            else r24_9 n (s0, s1, s5, (0 : Int), PUnit.unit) PUnit.unit
        else none
    else none
  else some true := by kernel_rfl
theorem r24_9_eq (n : Nat) (s0 : Ty.den T43) (s1 : Ty.den T43) (s5 : Ty.den (.int .i64)) (s6 : Ty.den (.int .i64)) : r24_9 (n + 1) (s0, s1, s5, s6, ()) () =
    if (0 : Int) ≤ s5 then
    (nth s0 (Int.toNat s5)).bind fun y =>
      bif decide (s6 < (↑(List.length y) : Int)) then
        if (0 : Int) ≤ s5 then
          (nth s0 (Int.toNat s5)).bind fun y =>
            if (0 : Int) ≤ s6 then
              (nth y (Int.toNat s6)).bind fun y =>
                if (0 : Int) ≤ s5 then
                  (nth s1 (Int.toNat s5)).bind fun y_1 =>
                    if (0 : Int) ≤ s6 then
                      (nth y_1 (Int.toNat s6)).bind fun y_2 =>
                        bif !eqD T28 y y_2 then some false
                        else r24_9 n (s0, s1, s5, IntKind.i64.wrap (s6 + (1 : Int)), PUnit.unit) PUnit.unit
                    else none
                else none
            else none
        else none
      else r24_4 n (s0, s1, IntKind.i64.wrap (s5 + (1 : Int)), PUnit.unit) PUnit.unit
  else none := by kernel_rfl

end Go.Sx.Try

set_option maxRecDepth 100000
namespace Go.Sx.Try
open Go Go.Sx Go.Proofs

noncomputable def l79 : List (Nat × Con) := []
theorem l79_ok : ∀ q ∈ l79, ConOk Try.prog q.1 q.2 := Try.all_nil
abbrev k79_4 : List Keep × List BK := ([.ro T103, .ro T103, .drop, .drop, .drop, .drop, .drop, .drop, .drop, .drop, .drop, .drop, .ro (.int .i64), .ro (.int .i64), .drop, .drop, .drop, .drop, .drop, .drop, .drop, .drop, .drop, .drop, .drop, .drop], [])
def kp79 : KP := [(4, k79_4)]
noncomputable def q79 (n : Nat) (x : Args [T103, T103]) := evX l79 kp79 [none] Try.f79 (shV T4) n (encA [T103, T103] x)
noncomputable def c79 : Con := roS [T103, T103] true (shV T4) (q79 big)
theorem c79_ok : ConOk Try.prog 79 c79 := roS_ok ⟨Try.f79, by kernel_rfl, rfl, by decide⟩ fun _ _ h => evX_ok l79_ok (f := Try.f79) (by kernel_rfl) rfl (by kernel_rfl) (by kernel_rfl) big h
noncomputable def r79_4 (n : Nat) (x : KD k79_4.1) (y : BD k79_4.2) := rounds (env l79) kp79 (body Try.f79) (finX l79 [none] Try.f79 (shV T4) [.val T103 (zeroD T103), .val T103 (zeroD T103)]) n 4 k79_4 x y
theorem q79_eq (n : Nat) (a0 : T103.den) (a1 : T103.den) : q79 n (a0, a1, ()) =
    bif !decide ((↑(List.length a0) : Int) = (↑(List.length a1) : Int)) then some false
  else r79_4 n (a0, a1, (↑(List.length a0) : Int), (0 : Int), PUnit.unit) PUnit.unit := by kernel_rfl
theorem r79_4_eq (n : Nat) (s0 : Ty.den T103) (s1 : Ty.den T103) (s12 : Ty.den (.int .i64)) (s13 : Ty.den (.int .i64)) : r79_4 (n + 1) (s0, s1, s12, s13, ()) () =
    bif decide (s13 < s12) then
    if (0 : Int) ≤ s13 then
      (nth s0 (Int.toNat s13)).bind fun y =>
        if (0 : Int) ≤ s13 then
          (nth s1 (Int.toNat s13)).bind fun y_1 =>
            bif !eqD T28 y y_1 then some false
            else r79_4 n (s0, s1, s12, IntKind.i64.wrap (s13 + (1 : Int)), PUnit.unit) PUnit.unit
        else none
    else none
  else some true := by kernel_rfl

end Go.Sx.Try

set_option maxRecDepth 100000
namespace Go.Sx.Try
open Go Go.Sx Go.Proofs

noncomputable def l78 : List (Nat × Con) := [(79, c79)]
theorem l78_ok : ∀ q ∈ l78, ConOk Try.prog q.1 q.2 := Try.all_cons c79_ok (Try.all_nil)
def kp78 : KP := []
noncomputable def q78 (n : Nat) (x : Args [T103, T103]) := evX l78 kp78 [none] Try.f78 (shV T4) n (encA [T103, T103] x)
noncomputable def c78 : Con := roS [T103, T103] true (shV T4) (q78 big)
theorem c78_ok : ConOk Try.prog 78 c78 := roS_ok ⟨Try.f78, by kernel_rfl, rfl, by decide⟩ fun _ _ h => evX_ok l78_ok (f := Try.f78) (by kernel_rfl) rfl (by kernel_rfl) (by kernel_rfl) big h
theorem q78_eq (n : Nat) (a0 : T103.den) (a1 : T103.den) : q78 n (a0, a1, ()) =
    (q79 big (a0, a1, ())).bind fun y => some y := by kernel_rfl

end Go.Sx.Try

set_option maxRecDepth 100000
namespace Go.Sx.Try
open Go Go.Sx Go.Proofs

noncomputable def l77_78 : List (Nat × Con) := [(78, c78)]
theorem l77_78_ok : ∀ q ∈ l77_78, ConOk Try.prog q.1 q.2 := Try.all_cons c78_ok (Try.all_nil)
abbrev k77_78_4 : List Keep × List BK := ([.drop, .ro T43, .is (.fn 78 []), .drop, .drop, .drop, .drop, .drop, .drop, .drop, .drop, .drop, .drop, .drop, .drop, .ro T43, .ro (.int .i64), .ro (.int .i64), .drop, .drop, .drop, .drop, .drop, .drop, .drop, .drop, .drop, .drop, .drop, .drop, .drop, .drop], [])
def kp77_78 : KP := [(4, k77_78_4)]
noncomputable def q77_78 (n : Nat) (x : AP.denL [.ro T43, .ro T43, .fn 78 []]) := evX l77_78 kp77_78 [none] Try.f77 (shV T4) n (AP.encL [.ro T43, .ro T43, .fn 78 []] x)
noncomputable def c77_78 : Con := apS [.ro T43, .ro T43, .fn 78 []] true (shV T4) (q77_78 big)
theorem c77_78_ok : ConOk Try.prog 77 c77_78 := apS_ok ⟨Try.f77, by kernel_rfl, rfl, by decide⟩ fun _ _ h => evX_ok l77_78_ok (f := Try.f77) (by kernel_rfl) rfl (by kernel_rfl) (by kernel_rfl) big h
noncomputable def r77_78_4 (n : Nat) (x : KD k77_78_4.1) (y : BD k77_78_4.2) := rounds (env l77_78) kp77_78 (body Try.f77) (finX l77_78 [none] Try.f77 (shV T4) [AP.enc (.ro T43) (zeroD T43), AP.enc (.ro T43) (zeroD T43), AP.enc (.fn 78 []) ()]) n 4 k77_78_4 x y
theorem q77_78_eq (n : Nat) (a0 : AP.den (.ro T43)) (a1 : AP.den (.ro T43)) (a2 : AP.den (.fn 78 [])) : q77_78 n (a0, a1, a2, ()) =
    bif !decide ((↑(List.length a0) : Int) = (↑(List.length a1) : Int)) then some false
  else r77_78_4 n (a1, a0, (↑(List.length a0) : Int), (0 : Int), PUnit.unit) PUnit.unit := by kernel_rfl
theorem r77_78_4_eq (n : Nat) (s1 : Ty.den T43) (s15 : Ty.den T43) (s16 : Ty.den (.int .i64)) (s17 : Ty.den (.int .i64)) : r77_78_4 (n + 1) (s1, s15, s16, s17, ()) () =
    bif decide (s17 < s16) then
    if (0 : Int) ≤ s17 then
      (nth s15 (Int.toNat s17)).bind fun y =>
        if (0 : Int) ≤ s17 then
          (nth s1 (Int.toNat s17)).bind fun y_1 =>
            (q78 big (y, y_1, ())).bind fun y =>
              bif !y then some false
              else r77_78_4 n (s1, s15, s16, IntKind.i64.wrap (s17 + (1 : Int)), PUnit.unit) PUnit.unit
        else none
    else none
  else some true := by kernel_rfl

end Go.Sx.Try

set_option maxRecDepth 100000
namespace Go.Sx.Try
open Go Go.Sx Go.Proofs

noncomputable def l26 : List (Nat × Con) := [(77, c77_78)]
theorem l26_ok : ∀ q ∈ l26, ConOk Try.prog q.1 q.2 := Try.all_cons c77_78_ok (Try.all_nil)
def kp26 : KP := []
noncomputable def q26 (n : Nat) (x : Args [T43, T43]) := evX l26 kp26 [none] Try.f26 (shV T4) n (encA [T43, T43] x)
noncomputable def c26 : Con := roS [T43, T43] true (shV T4) (q26 big)
theorem c26_ok : ConOk Try.prog 26 c26 := roS_ok ⟨Try.f26, by kernel_rfl, rfl, by decide⟩ fun _ _ h => evX_ok l26_ok (f := Try.f26) (by kernel_rfl) rfl (by kernel_rfl) (by kernel_rfl) big h
theorem q26_eq (n : Nat) (a0 : T43.den) (a1 : T43.den) : q26 n (a0, a1, ()) =
    (q77_78 big (a0, a1, (), ())).bind fun y => some y := by kernel_rfl

end Go.Sx.Try

set_option maxRecDepth 100000
namespace Go.Sx.Try
open Go Go.Sx Go.Proofs

noncomputable def l120 : List (Nat × Con) := []
theorem l120_ok : ∀ q ∈ l120, ConOk Try.prog q.1 q.2 := Try.all_nil
def kp120 : KP := []
noncomputable def q120 (n : Nat) (x : Args [T28, T28]) := evX l120 kp120 [none] Try.f120 (shV T4) n (encA [T28, T28] x)
noncomputable def c120 : Con := roS [T28, T28] true (shV T4) (q120 big)
theorem c120_ok : ConOk Try.prog 120 c120 := roS_ok ⟨Try.f120, by kernel_rfl, rfl, by decide⟩ fun _ _ h => evX_ok l120_ok (f := Try.f120) (by kernel_rfl) rfl (by kernel_rfl) (by kernel_rfl) big h
theorem q120_eq (n : Nat) (a0 : T28.den) (a1 : T28.den) : q120 n (a0, a1, ()) =
    bif !decide (a0.fst = a1.fst) then some false
  else
    bif !decide (a0.snd.fst = a1.snd.fst) then some false
    else bif !decide (a0.snd.snd.fst = a1.snd.snd.fst) then some false else some true := by kernel_rfl

end Go.Sx.Try

set_option maxRecDepth 100000
namespace Go.Sx.Try
open Go Go.Sx Go.Proofs

noncomputable def l80 : List (Nat × Con) := [(120, c120)]
theorem l80_ok : ∀ q ∈ l80, ConOk Try.prog q.1 q.2 := Try.all_cons c120_ok (Try.all_nil)
abbrev k80_4 : List Keep × List BK := ([.ro T103, .ro T103, .drop, .drop, .drop, .ro (.int .i64), .drop, .drop, .drop, .drop, .drop, .drop, .drop, .drop, .drop, .drop, .drop, .drop, .drop, .drop, .drop, .drop, .drop, .drop, .drop, .drop, .drop], [])
def kp80 : KP := [(4, k80_4)]
noncomputable def q80 (n : Nat) (x : Args [T103, T103]) := evX l80 kp80 [none] Try.f80 (shV T4) n (encA [T103, T103] x)
noncomputable def c80 : Con := roS [T103, T103] true (shV T4) (q80 big)
theorem c80_ok : ConOk Try.prog 80 c80 := roS_ok ⟨Try.f80, by kernel_rfl, rfl, by decide⟩ fun _ _ h => evX_ok l80_ok (f := Try.f80) (by kernel_rfl) rfl (by kernel_rfl) (by kernel_rfl) big h
noncomputable def r80_4 (n : Nat) (x : KD k80_4.1) (y : BD k80_4.2) := rounds (env l80) kp80 (body Try.f80) (finX l80 [none] Try.f80 (shV T4) [.val T103 (zeroD T103), .val T103 (zeroD T103)]) n 4 k80_4 x y
theorem q80_eq (n : Nat) (a0 : T103.den) (a1 : T103.den) : q80 n (a0, a1, ()) =
    bif !decide ((↑(List.length a0) : Int) = (↑(List.length a1) : Int)) then some false
  else r80_4 n (a0, a1, (0 : Int), PUnit.unit) PUnit.unit := by kernel_rfl
theorem r80_4_eq (n : Nat) (s0 : Ty.den T103) (s1 : Ty.den T103) (s5 : Ty.den (.int .i64)) : r80_4 (n + 1) (s0, s1, s5, ()) () =
    bif decide (s5 < (↑(List.length s0) : Int)) then
    if (0 : Int) ≤ s5 then
      (nth s0 (Int.toNat s5)).bind fun y =>
        if (0 : Int) ≤ s5 then
          (nth s1 (Int.toNat s5)).bind fun y_1 =>
            (q120 big (y, y_1, ())).bind fun y =>
              bif !y then some false else r80_4 n (s0, s1, IntKind.i64.wrap (s5 + (1 : Int)), PUnit.unit) PUnit.unit
        else none
    else none
  else some true := by kernel_rfl

end Go.Sx.Try

set_option maxRecDepth 100000
namespace Go.Sx.Try
open Go Go.Sx Go.Proofs

noncomputable def l27 : List (Nat × Con) := [(80, c80)]
theorem l27_ok : ∀ q ∈ l27, ConOk Try.prog q.1 q.2 := Try.all_cons c80_ok (Try.all_nil)
abbrev k27_4 : List Keep × List BK := ([.ro T43, .ro T43, .drop, .drop, .drop, .ro (.int .i64), .drop, .drop, .drop, .drop, .drop, .drop, .drop, .drop, .drop, .drop, .drop, .drop, .drop, .drop, .drop, .drop, .drop, .drop, .drop, .drop, .drop], [])
def kp27 : KP := [(4, k27_4)]
noncomputable def q27 (n : Nat) (x : Args [T43, T43]) := evX l27 kp27 [none] Try.f27 (shV T4) n (encA [T43, T43] x)
noncomputable def c27 : Con := roS [T43, T43] true (shV T4) (q27 big)
theorem c27_ok : ConOk Try.prog 27 c27 := roS_ok ⟨Try.f27, by kernel_rfl, rfl, by decide⟩ fun _ _ h => evX_ok l27_ok (f := Try.f27) (by kernel_rfl) rfl (by kernel_rfl) (by kernel_rfl) big h
noncomputable def r27_4 (n : Nat) (x : KD k27_4.1) (y : BD k27_4.2) := rounds (env l27) kp27 (body Try.f27) (finX l27 [none] Try.f27 (shV T4) [.val T43 (zeroD T43), .val T43 (zeroD T43)]) n 4 k27_4 x y
theorem q27_eq (n : Nat) (a0 : T43.den) (a1 : T43.den) : q27 n (a0, a1, ()) =
    bif !decide ((↑(List.length a0) : Int) = (↑(List.length a1) : Int)) then some false
  else r27_4 n (a0, a1, (0 : Int), PUnit.unit) PUnit.unit := by kernel_rfl
theorem r27_4_eq (n : Nat) (s0 : Ty.den T43) (s1 : Ty.den T43) (s5 : Ty.den (.int .i64)) : r27_4 (n + 1) (s0, s1, s5, ()) () =
    bif decide (s5 < (↑(List.length s0) : Int)) then
    if (0 : Int) ≤ s5 then
      (nth s0 (Int.toNat s5)).bind fun y =>
        if (0 : Int) ≤ s5 then
          (nth s1 (Int.toNat s5)).bind fun y_1 =>
            (q80 big (y, y_1, ())).bind fun y =>
              bif !y then some false else r27_4 n (s0, s1, IntKind.i64.wrap (s5 + (1 : Int)), PUnit.unit) PUnit.unit
        else none
    else none
  else some true := by kernel_rfl

end Go.Sx.Try

set_option maxRecDepth 100000
namespace Go.Sx.Try
open Go Go.Sx Go.Proofs

noncomputable def l5 : List (Nat × Con) := [(23, c23), (25, c25), (24, c24), (26, c26), (27, c27)]
theorem l5_ok : ∀ q ∈ l5, ConOk Try.prog q.1 q.2 := Try.all_cons c23_ok (Try.all_cons c25_ok (Try.all_cons c24_ok (Try.all_cons c26_ok (Try.all_cons c27_ok (Try.all_nil)))))
def kp5 : KP := []
noncomputable def q5 (n : Nat) (x : Args [T40, T40]) := evX l5 kp5 [none] Try.f5 (shV T4) n (encA [T40, T40] x)
noncomputable def c5 : Con := roS [T40, T40] true (shV T4) (q5 big)
theorem c5_ok : ConOk Try.prog 5 c5 := roS_ok ⟨Try.f5, by kernel_rfl, rfl, by decide⟩ fun _ _ h => evX_ok l5_ok (f := Try.f5) (by kernel_rfl) rfl (by kernel_rfl) (by kernel_rfl) big h
theorem q5_eq (n : Nat) (a0 : T40.den) (a1 : T40.den) : q5 n (a0, a1, ()) =
    (q23 big (a0, (1048576 : Int), ())).bind fun y =>
    bif decide (y < (0 : Int)) then some true
    else
      (q23 big (a1, y, ())).bind fun y =>
        bif decide (y < (0 : Int)) then some true
        else
          (q25 big (a0, ())).bind fun y =>
            (q25 big (a1, ())).bind fun y_1 =>
              (q24 big (y, y_1, ())).bind fun y =>
                (q25 big (a0, ())).bind fun y_2 =>
                  (q25 big (a1, ())).bind fun y_3 =>
                    (q26 big (y_2, y_3, ())).bind fun y_4 =>
                      bif !y_4 == y then some false
                      else
                        (q25 big (a0, ())).bind fun y =>
                          (q27 big (y_2, y, ())).bind fun y =>
                            bif !y then some false
                            else
                              (q25 big (a1, ())).bind fun y =>
                                (q27 big (y_3, y, ())).bind fun y => bif !y then some false else some true := by kernel_rfl

end Go.Sx.Try
