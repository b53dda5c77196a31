/- The functions of the seat: how each is evaluated. -/
import Derived.Test.YthjmknhkfkofgaaTypes
set_option linter.unusedVariables false
set_option maxRecDepth 100000
namespace Go.Sx.Try
open Go Go.Sx Go.Proofs

def env (l : List (Nat × Con)) : Env := ⟨assoc tis, eqs, assoc l⟩
theorem envOk {l : List (Nat × Con)} (h : ∀ q ∈ l, ConOk Try.prog q.1 q.2) : EnvOk Try.prog (env l) :=
  { ti := tisOk (env l) rfl, eqs := eqsOk (env l) rfl rfl, tbl := tbl_ok h }

def body (f : Func) : Code := f.body.getD .skip
abbrev KP : Type := List (Nat × (List Keep × List BK))

/-- a function's evaluation -/
noncomputable def finX {X : Type} (l : List (Nat × Con)) (rt : List (Option Ty)) (f : Func) (s : Sh X) (args : List SV) : Ex → St → Option X :=
  fun e st => (finK (env l) rt f.results.toList (enterL [] args).2.2 e st).bind s.un
noncomputable def evX {X : Type} (l : List (Nat × Con)) (kp : KP) (rt : List (Option Ty)) (f : Func) (s : Sh X) (N : Nat) (args : List SV) : Option X :=
  ev (env l) (Lr (env l) kp (body f) (finX l rt f s args) N) (body f) (startSt f.ntmps args) (finX l rt f s args)

theorem evX_ok {X : Type} {l : List (Nat × Con)} (hl : ∀ q ∈ l, ConOk Try.prog q.1 q.2) {kp : KP} {rt : List (Option Ty)} {s : Sh X} {n : FuncId} {f : Func} {b : Code} (hf : Try.prog.funcs[n]? = some f) (hb : f.body = some b) (hn : noDup (idsOf kp b) = true)
    {args : List SV} (hbx : boxesOk args kp = true) (N : Nat) {v : X} (h : evX l kp rt f s N args = some v) : CallOk Try.prog n args (s.sh v).1 (s.sh v).2 := by
  have e : body f = b := by unfold body; rw [hb]; rfl
  unfold evX at h
  rw [e] at h
  refine fn_ok (rt := rt) (envOk hl) hf hb hn hbx N (fun e st he => ?_) h
  obtain ⟨r, h1, h2⟩ := Option.bind_eq_some_iff.1 he
  rw [h1, s.ok r v h2]

/-- enough rounds -/
def big : Nat := 4611686018427387904

theorem all_nil : ∀ q ∈ ([] : List (Nat × Con)), ConOk Try.prog q.1 q.2 := fun _ h => by cases h
theorem all_cons {n : Nat} {c : Con} {l : List (Nat × Con)} (h : ConOk Try.prog n c) (t : ∀ q ∈ l, ConOk Try.prog q.1 q.2) : ∀ q ∈ (n, c) :: l, ConOk Try.prog q.1 q.2 := fun q hq => by
  rcases List.mem_cons.1 hq with rfl | hq
  · exact h
  · exact t q hq

end Go.Sx.Try

set_option maxRecDepth 100000
namespace Go.Sx.Try
open Go Go.Sx Go.Proofs

noncomputable def l45 : List (Nat × Con) := []
theorem l45_ok : ∀ q ∈ l45, ConOk Try.prog q.1 q.2 := all_nil
def kp45 : KP := []
noncomputable def q45 (n : Nat) (x : Args [T53, T53]) := evX l45 kp45 [none] Try.f45 (shV T4) n (encA [T53, T53] x)
noncomputable def c45 : Con := roS [T53, T53] true (shV T4) (q45 big)
theorem c45_ok : ConOk Try.prog 45 c45 := roS_ok ⟨Try.f45, by kernel_rfl, rfl, by decide⟩ fun _ _ h => evX_ok l45_ok (f := Try.f45) (by kernel_rfl) rfl (by kernel_rfl) (by kernel_rfl) big h
theorem q45_eq (n : Nat) (a0 : T53.den) (a1 : T53.den) : q45 n (a0, a1, ()) =
    bif !decide (a0.fst = a1.fst) then some false
  else
    bif !decide (a0.snd.fst = a1.snd.fst) then some false
    else
      bif !decide (a0.snd.snd.fst = a1.snd.snd.fst) then some false
      else bif !decide (a0.snd.snd.snd.fst = a1.snd.snd.snd.fst) then some false else some true := by kernel_rfl

end Go.Sx.Try

set_option maxRecDepth 100000
namespace Go.Sx.Try
open Go Go.Sx Go.Proofs

noncomputable def l66 : List (Nat × Con) := []
theorem l66_ok : ∀ q ∈ l66, ConOk Try.prog q.1 q.2 := all_nil
def kp66 : KP := []
noncomputable def q66 (n : Nat) (x : Args [T67, T67]) := evX l66 kp66 [none] Try.f66 (shV T4) n (encA [T67, T67] x)
noncomputable def c66 : Con := roS [T67, T67] true (shV T4) (q66 big)
theorem c66_ok : ConOk Try.prog 66 c66 := roS_ok ⟨Try.f66, by kernel_rfl, rfl, by decide⟩ fun _ _ h => evX_ok l66_ok (f := Try.f66) (by kernel_rfl) rfl (by kernel_rfl) (by kernel_rfl) big h
theorem q66_eq (n : Nat) (a0 : T67.den) (a1 : T67.den) : q66 n (a0, a1, ()) =
    bif !decide (a0.fst = a1.fst) then some false
  else
    bif !decide (a0.snd.fst = a1.snd.fst) then some false
    else
      bif !decide (a0.snd.snd.fst = a1.snd.snd.fst) then some false
      else bif !decide (a0.snd.snd.snd.fst = a1.snd.snd.snd.fst) then some false else some true := by kernel_rfl

end Go.Sx.Try

set_option maxRecDepth 100000
namespace Go.Sx.Try
open Go Go.Sx Go.Proofs

noncomputable def l42 : List (Nat × Con) := [(45, c45), (66, c66)]
theorem l42_ok : ∀ q ∈ l42, ConOk Try.prog q.1 q.2 := all_cons c45_ok (all_cons c66_ok all_nil)
def kp42 : KP := []
noncomputable def q42 (n : Nat) (x : Args [T77, T77]) := evX l42 kp42 [none] Try.f42 (shV T4) n (encA [T77, T77] x)
noncomputable def c42 : Con := roS [T77, T77] true (shV T4) (q42 big)
theorem c42_ok : ConOk Try.prog 42 c42 := roS_ok ⟨Try.f42, by kernel_rfl, rfl, by decide⟩ fun _ _ h => evX_ok l42_ok (f := Try.f42) (by kernel_rfl) rfl (by kernel_rfl) (by kernel_rfl) big h
theorem q42_eq (n : Nat) (a0 : T77.den) (a1 : T77.den) : q42 n (a0, a1, ()) =
    bif !decide (a0.fst = a1.fst) then some false
  else
    bif !decide (a0.snd.fst = a1.snd.fst) then some false
    else
      bif !decide (a0.snd.snd.fst = a1.snd.snd.fst) then some false
      else
        bif !decide (a0.snd.snd.snd.fst = a1.snd.snd.snd.fst) then some false
        else
          bif !decide (a0.snd.snd.snd.snd.fst = a1.snd.snd.snd.snd.fst) then some false
          else
            (q45 big (a0.snd.snd.snd.snd.snd.fst, a1.snd.snd.snd.snd.snd.fst, ())).bind fun y =>
              bif !y then some false
              else
                (q66 big (a0.snd.snd.snd.snd.snd.snd.fst, a1.snd.snd.snd.snd.snd.snd.fst, ())).bind fun y =>
                  bif !y then some false else some true := by kernel_rfl

end Go.Sx.Try

set_option maxRecDepth 100000
namespace Go.Sx.Try
open Go Go.Sx Go.Proofs

noncomputable def l18 : List (Nat × Con) := []
theorem l18_ok : ∀ q ∈ l18, ConOk Try.prog q.1 q.2 := all_nil
def kp18 : KP := []
noncomputable def q18 (n : Nat) (x : Args [T33, T3]) := evX l18 kp18 [none] Try.f18 (shV T3) n (encA [T33, T3] x)
noncomputable def c18 : Con := roS [T33, T3] true (shV T3) (q18 big)
theorem c18_ok : ConOk Try.prog 18 c18 := roS_ok ⟨Try.f18, by kernel_rfl, rfl, by decide⟩ fun _ _ h => evX_ok l18_ok (f := Try.f18) (by kernel_rfl) rfl (by kernel_rfl) (by kernel_rfl) big h
theorem q18_eq (n : Nat) (a0 : T33.den) (a1 : T3.den) : q18 n (a0, a1, ()) =
    bif decide (IntKind.i64.wrap (a1 - (↑(List.length a0) : Int)) < (0 : Int)) then some (-1 : Int)
  else some (IntKind.i64.wrap (a1 - (↑(List.length a0) : Int))) := by kernel_rfl

end Go.Sx.Try

set_option maxRecDepth 100000
namespace Go.Sx.Try
open Go Go.Sx Go.Proofs

noncomputable def l67 : List (Nat × Con) := []
theorem l67_ok : ∀ q ∈ l67, ConOk Try.prog q.1 q.2 := all_nil
def kp67 : KP := []
noncomputable def q67 (n : Nat) (x : Args [T23, T3]) := evX l67 kp67 [none] Try.f67 (shV T3) n (encA [T23, T3] x)
noncomputable def c67 : Con := roS [T23, T3] true (shV T3) (q67 big)
theorem c67_ok : ConOk Try.prog 67 c67 := roS_ok ⟨Try.f67, by kernel_rfl, rfl, by decide⟩ fun _ _ h => evX_ok l67_ok (f := Try.f67) (by kernel_rfl) rfl (by kernel_rfl) (by kernel_rfl) big h
theorem q67_eq (n : Nat) (a0 : T23.den) (a1 : T3.den) : q67 n (a0, a1, ()) =
    bif decide (IntKind.i64.wrap (a1 - (↑(ByteArray.size a0.snd.fst) : Int)) < (0 : Int)) then some (-1 : Int)
  else some (IntKind.i64.wrap (a1 - (↑(ByteArray.size a0.snd.fst) : Int))) := by kernel_rfl

end Go.Sx.Try

set_option maxRecDepth 100000
namespace Go.Sx.Try
open Go Go.Sx Go.Proofs

noncomputable def l75 : List (Nat × Con) := [(67, c67)]
theorem l75_ok : ∀ q ∈ l75, ConOk Try.prog q.1 q.2 := all_cons c67_ok all_nil
abbrev k75_5 : List Keep × List BK := ([.ro T97, .ro (.int .i64), .drop, .drop, .drop, .ro (.int .i64), .drop, .drop, .drop, .drop, .drop, .drop, .drop, .drop, .drop, .drop, .drop, .drop, .drop, .drop, .drop, .drop, .drop, .drop, .drop, .drop, .drop], [])
def kp75 : KP := [(5, k75_5)]
noncomputable def q75 (n : Nat) (x : Args [T97, T3]) := evX l75 kp75 [none] Try.f75 (shV T3) n (encA [T97, T3] x)
noncomputable def c75 : Con := roS [T97, T3] true (shV T3) (q75 big)
theorem c75_ok : ConOk Try.prog 75 c75 := roS_ok ⟨Try.f75, by kernel_rfl, rfl, by decide⟩ fun _ _ h => evX_ok l75_ok (f := Try.f75) (by kernel_rfl) rfl (by kernel_rfl) (by kernel_rfl) big h
noncomputable def r75_5 (n : Nat) (x : KD k75_5.1) (y : BD k75_5.2) := rounds (env l75) kp75 (body Try.f75) (finX l75 [none] Try.f75 (shV T3) [.val T97 (zeroD T97), .val T3 (zeroD T3)]) n 5 k75_5 x y
theorem q75_eq (n : Nat) (a0 : T97.den) (a1 : T3.den) : q75 n (a0, a1, ()) =
    bif decide (IntKind.i64.wrap (a1 - (↑(List.length a0) : Int)) < (0 : Int)) then some (-1 : Int)
  else r75_5 n (a0, IntKind.i64.wrap (a1 - (↑(List.length a0) : Int)), (0 : Int), PUnit.unit) PUnit.unit := by kernel_rfl
theorem r75_5_eq (n : Nat) (s0 : Ty.den T97) (s1 : Ty.den (.int .i64)) (s5 : Ty.den (.int .i64)) : r75_5 (n + 1) (s0, s1, s5, ()) () =
    bif decide (s5 < (↑(List.length s0) : Int)) then
    if (0 : Int) ≤ s5 then
      (nth s0 (Int.toNat s5)).bind fun y =>
        (q67 big (y, s1, ())).bind fun y =>
          bif decide (y < (0 : Int)) then some (-1 : Int)
          else r75_5 n (s0, y, IntKind.i64.wrap (s5 + (1 : Int)), PUnit.unit) PUnit.unit
    else none
  else some s1 := by kernel_rfl

end Go.Sx.Try

set_option maxRecDepth 100000
namespace Go.Sx.Try
open Go Go.Sx Go.Proofs

noncomputable def l81 : List (Nat × Con) := [(75, c75)]
theorem l81_ok : ∀ q ∈ l81, ConOk Try.prog q.1 q.2 := all_cons c75_ok all_nil
def kp81 : KP := []
noncomputable def q81 (n : Nat) (x : Args [T125, T3]) := evX l81 kp81 [none] Try.f81 (shV T3) n (encA [T125, T3] x)
noncomputable def c81 : Con := roS [T125, T3] true (shV T3) (q81 big)
theorem c81_ok : ConOk Try.prog 81 c81 := roS_ok ⟨Try.f81, by kernel_rfl, rfl, by decide⟩ fun _ _ h => evX_ok l81_ok (f := Try.f81) (by kernel_rfl) rfl (by kernel_rfl) (by kernel_rfl) big h
theorem q81_eq (n : Nat) (a0 : T125.den) (a1 : T3.den) : q81 n (a0, a1, ()) =
    (q75 big (a0.snd.snd.fst, a1, ())).bind fun y => bif decide (y < (0 : Int)) then some (-1 : Int) else some y := by kernel_rfl

end Go.Sx.Try

set_option maxRecDepth 100000
namespace Go.Sx.Try
open Go Go.Sx Go.Proofs

noncomputable def l28 : List (Nat × Con) := [(81, c81)]
theorem l28_ok : ∀ q ∈ l28, ConOk Try.prog q.1 q.2 := all_cons c81_ok all_nil
abbrev k28_5 : List Keep × List BK := ([.ro T46, .ro (.int .i64), .drop, .drop, .drop, .ro (.int .i64), .drop, .drop, .drop, .drop, .drop, .drop, .drop, .drop, .drop, .drop, .drop, .drop, .drop, .drop, .drop, .drop, .drop, .drop, .drop, .drop, .drop], [])
def kp28 : KP := [(5, k28_5)]
noncomputable def q28 (n : Nat) (x : Args [T46, T3]) := evX l28 kp28 [none] Try.f28 (shV T3) n (encA [T46, T3] x)
noncomputable def c28 : Con := roS [T46, T3] true (shV T3) (q28 big)
theorem c28_ok : ConOk Try.prog 28 c28 := roS_ok ⟨Try.f28, by kernel_rfl, rfl, by decide⟩ fun _ _ h => evX_ok l28_ok (f := Try.f28) (by kernel_rfl) rfl (by kernel_rfl) (by kernel_rfl) big h
noncomputable def r28_5 (n : Nat) (x : KD k28_5.1) (y : BD k28_5.2) := rounds (env l28) kp28 (body Try.f28) (finX l28 [none] Try.f28 (shV T3) [.val T46 (zeroD T46), .val T3 (zeroD T3)]) n 5 k28_5 x y
theorem q28_eq (n : Nat) (a0 : T46.den) (a1 : T3.den) : q28 n (a0, a1, ()) =
    bif decide (IntKind.i64.wrap (a1 - (↑(List.length a0) : Int)) < (0 : Int)) then some (-1 : Int)
  else r28_5 n (a0, IntKind.i64.wrap (a1 - (↑(List.length a0) : Int)), (0 : Int), PUnit.unit) PUnit.unit := by kernel_rfl
theorem r28_5_eq (n : Nat) (s0 : Ty.den T46) (s1 : Ty.den (.int .i64)) (s5 : Ty.den (.int .i64)) : r28_5 (n + 1) (s0, s1, s5, ()) () =
    bif decide (s5 < (↑(List.length s0) : Int)) then
    if (0 : Int) ≤ s5 then
      (nth s0 (Int.toNat s5)).bind fun y =>
        (q81 big (y, s1, ())).bind fun y =>
          bif decide (y < (0 : Int)) then some (-1 : Int)
          else r28_5 n (s0, y, IntKind.i64.wrap (s5 + (1 : Int)), PUnit.unit) PUnit.unit
    else none
  else some s1 := by kernel_rfl

end Go.Sx.Try

set_option maxRecDepth 100000
namespace Go.Sx.Try
open Go Go.Sx Go.Proofs

noncomputable def l89 : List (Nat × Con) := []
theorem l89_ok : ∀ q ∈ l89, ConOk Try.prog q.1 q.2 := all_nil
def kp89 : KP := []
noncomputable def q89 (n : Nat) (x : Args [T62, T3]) := evX l89 kp89 [none] Try.f89 (shV T3) n (encA [T62, T3] x)
noncomputable def c89 : Con := roS [T62, T3] true (shV T3) (q89 big)
theorem c89_ok : ConOk Try.prog 89 c89 := roS_ok ⟨Try.f89, by kernel_rfl, rfl, by decide⟩ fun _ _ h => evX_ok l89_ok (f := Try.f89) (by kernel_rfl) rfl (by kernel_rfl) (by kernel_rfl) big h
theorem q89_eq (n : Nat) (a0 : T62.den) (a1 : T3.den) : q89 n (a0, a1, ()) =
    bif decide (IntKind.i64.wrap (a1 - (↑(List.length a0) : Int)) < (0 : Int)) then some (-1 : Int)
  else some (IntKind.i64.wrap (a1 - (↑(List.length a0) : Int))) := by kernel_rfl

end Go.Sx.Try

set_option maxRecDepth 100000
namespace Go.Sx.Try
open Go Go.Sx Go.Proofs

noncomputable def l86 : List (Nat × Con) := []
theorem l86_ok : ∀ q ∈ l86, ConOk Try.prog q.1 q.2 := all_nil
def kp86 : KP := []
noncomputable def q86 (n : Nat) (x : Args [T59, T3]) := evX l86 kp86 [none] Try.f86 (shV T3) n (encA [T59, T3] x)
noncomputable def c86 : Con := roS [T59, T3] true (shV T3) (q86 big)
theorem c86_ok : ConOk Try.prog 86 c86 := roS_ok ⟨Try.f86, by kernel_rfl, rfl, by decide⟩ fun _ _ h => evX_ok l86_ok (f := Try.f86) (by kernel_rfl) rfl (by kernel_rfl) (by kernel_rfl) big h
theorem q86_eq (n : Nat) (a0 : T59.den) (a1 : T3.den) : q86 n (a0, a1, ()) =
    bif decide (IntKind.i64.wrap (a1 - (↑(List.length a0) : Int)) < (0 : Int)) then some (-1 : Int)
  else some (IntKind.i64.wrap (a1 - (↑(List.length a0) : Int))) := by kernel_rfl

end Go.Sx.Try

set_option maxRecDepth 100000
namespace Go.Sx.Try
open Go Go.Sx Go.Proofs

noncomputable def l124 : List (Nat × Con) := []
theorem l124_ok : ∀ q ∈ l124, ConOk Try.prog q.1 q.2 := all_nil
def kp124 : KP := []
noncomputable def q124 (n : Nat) (x : Args [T163, T3]) := evX l124 kp124 [none] Try.f124 (shV T3) n (encA [T163, T3] x)
noncomputable def c124 : Con := roS [T163, T3] true (shV T3) (q124 big)
theorem c124_ok : ConOk Try.prog 124 c124 := roS_ok ⟨Try.f124, by kernel_rfl, rfl, by decide⟩ fun _ _ h => evX_ok l124_ok (f := Try.f124) (by kernel_rfl) rfl (by kernel_rfl) (by kernel_rfl) big h
theorem q124_eq (n : Nat) (a0 : T163.den) (a1 : T3.den) : q124 n (a0, a1, ()) =
    bif decide (IntKind.i64.wrap (a1 - (↑(ByteArray.size a0.fst) : Int)) < (0 : Int)) then some (-1 : Int)
  else some (IntKind.i64.wrap (a1 - (↑(ByteArray.size a0.fst) : Int))) := by kernel_rfl

end Go.Sx.Try

set_option maxRecDepth 100000
namespace Go.Sx.Try
open Go Go.Sx Go.Proofs

noncomputable def l87 : List (Nat × Con) := [(124, c124)]
theorem l87_ok : ∀ q ∈ l87, ConOk Try.prog q.1 q.2 := all_cons c124_ok all_nil
abbrev k87_5 : List Keep × List BK := ([.ro T60, .ro (.int .i64), .drop, .drop, .drop, .ro (.int .i64), .drop, .drop, .drop, .drop, .drop, .drop, .drop, .drop, .drop, .drop, .drop, .drop, .drop, .drop, .drop, .drop, .drop, .drop, .drop, .drop, .drop], [])
def kp87 : KP := [(5, k87_5)]
noncomputable def q87 (n : Nat) (x : Args [T60, T3]) := evX l87 kp87 [none] Try.f87 (shV T3) n (encA [T60, T3] x)
noncomputable def c87 : Con := roS [T60, T3] true (shV T3) (q87 big)
theorem c87_ok : ConOk Try.prog 87 c87 := roS_ok ⟨Try.f87, by kernel_rfl, rfl, by decide⟩ fun _ _ h => evX_ok l87_ok (f := Try.f87) (by kernel_rfl) rfl (by kernel_rfl) (by kernel_rfl) big h
noncomputable def r87_5 (n : Nat) (x : KD k87_5.1) (y : BD k87_5.2) := rounds (env l87) kp87 (body Try.f87) (finX l87 [none] Try.f87 (shV T3) [.val T60 (zeroD T60), .val T3 (zeroD T3)]) n 5 k87_5 x y
theorem q87_eq (n : Nat) (a0 : T60.den) (a1 : T3.den) : q87 n (a0, a1, ()) =
    bif decide (IntKind.i64.wrap (a1 - (↑(List.length a0) : Int)) < (0 : Int)) then some (-1 : Int)
  else r87_5 n (a0, IntKind.i64.wrap (a1 - (↑(List.length a0) : Int)), (0 : Int), PUnit.unit) PUnit.unit := by kernel_rfl
theorem r87_5_eq (n : Nat) (s0 : Ty.den T60) (s1 : Ty.den (.int .i64)) (s5 : Ty.den (.int .i64)) : r87_5 (n + 1) (s0, s1, s5, ()) () =
    bif decide (s5 < (↑(List.length s0) : Int)) then
    if (0 : Int) ≤ s5 then
      (nth s0 (Int.toNat s5)).bind fun y =>
        (q124 big (y, s1, ())).bind fun y =>
          bif decide (y < (0 : Int)) then some (-1 : Int)
          else r87_5 n (s0, y, IntKind.i64.wrap (s5 + (1 : Int)), PUnit.unit) PUnit.unit
    else none
  else some s1 := by kernel_rfl

end Go.Sx.Try

set_option maxRecDepth 100000
namespace Go.Sx.Try
open Go Go.Sx Go.Proofs

noncomputable def l125 : List (Nat × Con) := []
theorem l125_ok : ∀ q ∈ l125, ConOk Try.prog q.1 q.2 := all_nil
def kp125 : KP := []
noncomputable def q125 (n : Nat) (x : Args [T166, T3]) := evX l125 kp125 [none] Try.f125 (shV T3) n (encA [T166, T3] x)
noncomputable def c125 : Con := roS [T166, T3] true (shV T3) (q125 big)
theorem c125_ok : ConOk Try.prog 125 c125 := roS_ok ⟨Try.f125, by kernel_rfl, rfl, by decide⟩ fun _ _ h => evX_ok l125_ok (f := Try.f125) (by kernel_rfl) rfl (by kernel_rfl) (by kernel_rfl) big h
theorem q125_eq (n : Nat) (a0 : T166.den) (a1 : T3.den) : q125 n (a0, a1, ()) =
    bif decide (IntKind.i64.wrap (a1 - (↑(ByteArray.size a0.fst) : Int)) < (0 : Int)) then some (-1 : Int)
  else some (IntKind.i64.wrap (a1 - (↑(ByteArray.size a0.fst) : Int))) := by kernel_rfl

end Go.Sx.Try

set_option maxRecDepth 100000
namespace Go.Sx.Try
open Go Go.Sx Go.Proofs

noncomputable def l88 : List (Nat × Con) := [(125, c125)]
theorem l88_ok : ∀ q ∈ l88, ConOk Try.prog q.1 q.2 := all_cons c125_ok all_nil
abbrev k88_5 : List Keep × List BK := ([.ro T61, .ro (.int .i64), .drop, .drop, .drop, .ro (.int .i64), .drop, .drop, .drop, .drop, .drop, .drop, .drop, .drop, .drop, .drop, .drop, .drop, .drop, .drop, .drop, .drop, .drop, .drop, .drop, .drop, .drop], [])
def kp88 : KP := [(5, k88_5)]
noncomputable def q88 (n : Nat) (x : Args [T61, T3]) := evX l88 kp88 [none] Try.f88 (shV T3) n (encA [T61, T3] x)
noncomputable def c88 : Con := roS [T61, T3] true (shV T3) (q88 big)
theorem c88_ok : ConOk Try.prog 88 c88 := roS_ok ⟨Try.f88, by kernel_rfl, rfl, by decide⟩ fun _ _ h => evX_ok l88_ok (f := Try.f88) (by kernel_rfl) rfl (by kernel_rfl) (by kernel_rfl) big h
noncomputable def r88_5 (n : Nat) (x : KD k88_5.1) (y : BD k88_5.2) := rounds (env l88) kp88 (body Try.f88) (finX l88 [none] Try.f88 (shV T3) [.val T61 (zeroD T61), .val T3 (zeroD T3)]) n 5 k88_5 x y
theorem q88_eq (n : Nat) (a0 : T61.den) (a1 : T3.den) : q88 n (a0, a1, ()) =
    bif decide (IntKind.i64.wrap (a1 - (↑(List.length a0) : Int)) < (0 : Int)) then some (-1 : Int)
  else r88_5 n (a0, IntKind.i64.wrap (a1 - (↑(List.length a0) : Int)), (0 : Int), PUnit.unit) PUnit.unit := by kernel_rfl
theorem r88_5_eq (n : Nat) (s0 : Ty.den T61) (s1 : Ty.den (.int .i64)) (s5 : Ty.den (.int .i64)) : r88_5 (n + 1) (s0, s1, s5, ()) () =
    bif decide (s5 < (↑(List.length s0) : Int)) then
    if (0 : Int) ≤ s5 then
      (nth s0 (Int.toNat s5)).bind fun y =>
        (q125 big (y, s1, ())).bind fun y =>
          bif decide (y < (0 : Int)) then some (-1 : Int)
          else r88_5 n (s0, y, IntKind.i64.wrap (s5 + (1 : Int)), PUnit.unit) PUnit.unit
    else none
  else some s1 := by kernel_rfl

end Go.Sx.Try

set_option maxRecDepth 100000
namespace Go.Sx.Try
open Go Go.Sx Go.Proofs

noncomputable def l34 : List (Nat × Con) := [(18, c18), (86, c86), (87, c87), (88, c88), (89, c89)]
theorem l34_ok : ∀ q ∈ l34, ConOk Try.prog q.1 q.2 := all_cons c18_ok (all_cons c86_ok (all_cons c87_ok (all_cons c88_ok (all_cons c89_ok all_nil))))
def kp34 : KP := []
noncomputable def q34 (n : Nat) (x : Args [T64, T3]) := evX l34 kp34 [none] Try.f34 (shV T3) n (encA [T64, T3] x)
noncomputable def c34 : Con := roS [T64, T3] true (shV T3) (q34 big)
theorem c34_ok : ConOk Try.prog 34 c34 := roS_ok ⟨Try.f34, by kernel_rfl, rfl, by decide⟩ fun _ _ h => evX_ok l34_ok (f := Try.f34) (by kernel_rfl) rfl (by kernel_rfl) (by kernel_rfl) big h
theorem q34_eq (n : Nat) (a0 : T64.den) (a1 : T3.den) : q34 n (a0, a1, ()) =
    (q86 big (a0.snd.snd.snd.snd.snd.fst, a1, ())).bind fun y =>
    bif decide (y < (0 : Int)) then some (-1 : Int)
    else
      (q87 big (a0.snd.snd.snd.snd.snd.snd.fst, y, ())).bind fun y =>
        bif decide (y < (0 : Int)) then some (-1 : Int)
        else
          (q86 big (a0.snd.snd.snd.snd.snd.snd.snd.fst, y, ())).bind fun y =>
            bif decide (y < (0 : Int)) then some (-1 : Int)
            else
              (q88 big (a0.snd.snd.snd.snd.snd.snd.snd.snd.fst, y, ())).bind fun y =>
                bif decide (y < (0 : Int)) then some (-1 : Int)
                else
                  (q18 big (a0.snd.snd.snd.snd.snd.snd.snd.snd.snd.fst, y, ())).bind fun y =>
                    bif decide (y < (0 : Int)) then some (-1 : Int)
                    else
                      (q89 big (a0.snd.snd.snd.snd.snd.snd.snd.snd.snd.snd.fst, y, ())).bind fun y =>
                        bif decide (y < (0 : Int)) then some (-1 : Int) else some y := by kernel_rfl

end Go.Sx.Try

set_option maxRecDepth 100000
namespace Go.Sx.Try
open Go Go.Sx Go.Proofs

noncomputable def l110 : List (Nat × Con) := [(34, c34)]
theorem l110_ok : ∀ q ∈ l110, ConOk Try.prog q.1 q.2 := all_cons c34_ok all_nil
abbrev k110_5 : List Keep × List BK := ([.ro T96, .ro (.int .i64), .drop, .drop, .drop, .ro (.int .i64), .drop, .drop, .drop, .drop, .drop, .drop, .drop, .drop, .drop, .drop, .drop, .drop, .drop, .drop, .drop, .drop, .drop, .drop, .drop, .drop, .drop], [])
def kp110 : KP := [(5, k110_5)]
noncomputable def q110 (n : Nat) (x : Args [T96, T3]) := evX l110 kp110 [none] Try.f110 (shV T3) n (encA [T96, T3] x)
noncomputable def c110 : Con := roS [T96, T3] true (shV T3) (q110 big)
theorem c110_ok : ConOk Try.prog 110 c110 := roS_ok ⟨Try.f110, by kernel_rfl, rfl, by decide⟩ fun _ _ h => evX_ok l110_ok (f := Try.f110) (by kernel_rfl) rfl (by kernel_rfl) (by kernel_rfl) big h
noncomputable def r110_5 (n : Nat) (x : KD k110_5.1) (y : BD k110_5.2) := rounds (env l110) kp110 (body Try.f110) (finX l110 [none] Try.f110 (shV T3) [.val T96 (zeroD T96), .val T3 (zeroD T3)]) n 5 k110_5 x y
theorem q110_eq (n : Nat) (a0 : T96.den) (a1 : T3.den) : q110 n (a0, a1, ()) =
    bif decide (IntKind.i64.wrap (a1 - (↑(List.length a0) : Int)) < (0 : Int)) then some (-1 : Int)
  else r110_5 n (a0, IntKind.i64.wrap (a1 - (↑(List.length a0) : Int)), (0 : Int), PUnit.unit) PUnit.unit := by kernel_rfl
theorem r110_5_eq (n : Nat) (s0 : Ty.den T96) (s1 : Ty.den (.int .i64)) (s5 : Ty.den (.int .i64)) : r110_5 (n + 1) (s0, s1, s5, ()) () =
    bif decide (s5 < (↑(List.length s0) : Int)) then
    if (0 : Int) ≤ s5 then
      (nth s0 (Int.toNat s5)).bind fun y =>
        (q34 big (y, s1, ())).bind fun y =>
          bif decide (y < (0 : Int)) then some (-1 : Int)
          else r110_5 n (s0, y, IntKind.i64.wrap (s5 + (1 : Int)), PUnit.unit) PUnit.unit
    else none
  else some s1 := by kernel_rfl

end Go.Sx.Try

set_option maxRecDepth 100000
namespace Go.Sx.Try
open Go Go.Sx Go.Proofs

noncomputable def l59 : List (Nat × Con) := [(18, c18), (28, c28), (75, c75), (89, c89), (110, c110)]
theorem l59_ok : ∀ q ∈ l59, ConOk Try.prog q.1 q.2 := all_cons c18_ok (all_cons c28_ok (all_cons c75_ok (all_cons c89_ok (all_cons c110_ok all_nil))))
def kp59 : KP := []
noncomputable def q59 (n : Nat) (x : Args [T99, T3]) := evX l59 kp59 [none] Try.f59 (shV T3) n (encA [T99, T3] x)
noncomputable def c59 : Con := roS [T99, T3] true (shV T3) (q59 big)
theorem c59_ok : ConOk Try.prog 59 c59 := roS_ok ⟨Try.f59, by kernel_rfl, rfl, by decide⟩ fun _ _ h => evX_ok l59_ok (f := Try.f59) (by kernel_rfl) rfl (by kernel_rfl) (by kernel_rfl) big h
theorem q59_eq (n : Nat) (a0 : T99.den) (a1 : T3.den) : q59 n (a0, a1, ()) =
    (q28 big (a0.snd.snd.snd.fst, a1, ())).bind fun y =>
    bif decide (y < (0 : Int)) then some (-1 : Int)
    else
      (q110 big (a0.snd.snd.snd.snd.fst, y, ())).bind fun y =>
        bif decide (y < (0 : Int)) then some (-1 : Int)
        else
          (q89 big (a0.snd.snd.snd.snd.snd.fst, y, ())).bind fun y =>
            bif decide (y < (0 : Int)) then some (-1 : Int)
            else
              (q18 big (a0.snd.snd.snd.snd.snd.snd.fst, y, ())).bind fun y =>
                bif decide (y < (0 : Int)) then some (-1 : Int)
                else
                  (q75 big (a0.snd.snd.snd.snd.snd.snd.snd.fst, y, ())).bind fun y =>
                    bif decide (y < (0 : Int)) then some (-1 : Int) else some y := by kernel_rfl

end Go.Sx.Try

set_option maxRecDepth 100000
namespace Go.Sx.Try
open Go Go.Sx Go.Proofs

noncomputable def l68 : List (Nat × Con) := []
theorem l68_ok : ∀ q ∈ l68, ConOk Try.prog q.1 q.2 := all_nil
def kp68 : KP := []
noncomputable def q68 (n : Nat) (x : Args [T3, T3, T3]) := evX l68 kp68 [none] Try.f68 (shV T4) n (encA [T3, T3, T3] x)
noncomputable def c68 : Con := roS [T3, T3, T3] true (shV T4) (q68 big)
theorem c68_ok : ConOk Try.prog 68 c68 := roS_ok ⟨Try.f68, by kernel_rfl, rfl, by decide⟩ fun _ _ h => evX_ok l68_ok (f := Try.f68) (by kernel_rfl) rfl (by kernel_rfl) (by kernel_rfl) big h
theorem q68_eq (n : Nat) (a0 : T3.den) (a1 : T3.den) (a2 : T3.den) : q68 n (a0, a1, a2, ()) =
    bif decide (a1 ≤ a0) then some (decide (a0 ≤ a2)) else some false := by kernel_rfl

end Go.Sx.Try

set_option maxRecDepth 100000
namespace Go.Sx.Try
open Go Go.Sx Go.Proofs

noncomputable def l60 : List (Nat × Con) := [(68, c68)]
theorem l60_ok : ∀ q ∈ l60, ConOk Try.prog q.1 q.2 := all_cons c68_ok all_nil
def kp60 : KP := []
noncomputable def q60 (n : Nat) (x : Args [T105, T3, T3, T3, T3]) := evX l60 kp60 [none] Try.f60 (shV T77) n (encA [T105, T3, T3, T3, T3] x)
noncomputable def c60 : Con := roS [T105, T3, T3, T3, T3] true (shV T77) (q60 big)
theorem c60_ok : ConOk Try.prog 60 c60 := roS_ok ⟨Try.f60, by kernel_rfl, rfl, by decide⟩ fun _ _ h => evX_ok l60_ok (f := Try.f60) (by kernel_rfl) rfl (by kernel_rfl) (by kernel_rfl) big h
theorem q60_eq (n : Nat) (a0 : T105.den) (a1 : T3.den) (a2 : T3.den) (a3 : T3.den) (a4 : T3.den) : q60 n (a0, a1, a2, a3, a4, ()) =
    (q68 big (a4, (0 : Int), IntKind.i64.wrap ((↑(List.length a0.snd.snd.snd.fst) : Int) - (1 : Int)), ())).bind fun y =>
    bif y then
      if (0 : Int) ≤ a4 then
        (nth a0.snd.snd.snd.fst (Int.toNat a4)).bind fun y =>
          some
            ((2 : Int), a1, a2, y.snd.fst, (0 : Int), ((0 : Int), (0 : Int), (0 : Int), (0 : Int), PUnit.unit),
              (a3, y.snd.fst, a4, a1, PUnit.unit), PUnit.unit)
      else none
    else
      some
        ((2 : Int), a1, a2, (0 : Int), (0 : Int), ((0 : Int), (0 : Int), (0 : Int), (0 : Int), PUnit.unit),
          (a3, (0 : Int), a4, a1, PUnit.unit), PUnit.unit) := by kernel_rfl

end Go.Sx.Try

set_option maxRecDepth 100000
namespace Go.Sx.Try
open Go Go.Sx Go.Proofs

noncomputable def l40 : List (Nat × Con) := []
theorem l40_ok : ∀ q ∈ l40, ConOk Try.prog q.1 q.2 := all_nil
def kp40 : KP := []
noncomputable def q40 (n : Nat) (x : Args [T58]) := evX l40 kp40 [none] Try.f40 (shV T67) n (encA [T58] x)
noncomputable def c40 : Con := roS [T58] true (shV T67) (q40 big)
theorem c40_ok : ConOk Try.prog 40 c40 := roS_ok ⟨Try.f40, by kernel_rfl, rfl, by decide⟩ fun _ _ h => evX_ok l40_ok (f := Try.f40) (by kernel_rfl) rfl (by kernel_rfl) (by kernel_rfl) big h
theorem q40_eq (n : Nat) (a0 : T58.den) : q40 n (a0, ()) =
    some a0 := by kernel_rfl

end Go.Sx.Try

set_option maxRecDepth 100000
namespace Go.Sx.Try
open Go Go.Sx Go.Proofs

noncomputable def l20 : List (Nat × Con) := [(40, c40)]
theorem l20_ok : ∀ q ∈ l20, ConOk Try.prog q.1 q.2 := all_cons c40_ok all_nil
abbrev k20_3 : List Keep × List BK := ([.ro T33, .drop, .drop, .is (.own 0 0), .ro (.int .i64), .drop, .drop, .drop, .drop, .drop, .drop, .drop, .drop, .drop, .drop, .drop, .drop, .drop, .drop, .drop, .drop, .drop, .drop], [.arr T67])
def kp20 : KP := [(3, k20_3)]
noncomputable def q20 (n : Nat) (x : Args [T33]) := evX l20 kp20 [some (.sl true T67)] Try.f20 (shF (.sl true T67)) n (encA [T33] x)
noncomputable def c20 : Con := roS [T33] true (shF (.sl true T67)) (q20 big)
theorem c20_ok : ConOk Try.prog 20 c20 := roS_ok ⟨Try.f20, by kernel_rfl, rfl, by decide⟩ fun _ _ h => evX_ok l20_ok (f := Try.f20) (by kernel_rfl) rfl (by kernel_rfl) (by kernel_rfl) big h
noncomputable def r20_3 (n : Nat) (x : KD k20_3.1) (y : BD k20_3.2) := rounds (env l20) kp20 (body Try.f20) (finX l20 [some (.sl true T67)] Try.f20 (shF (.sl true T67)) [.val T33 (zeroD T33)]) n 3 k20_3 x y
theorem q20_eq (n : Nat) (a0 : T33.den) : q20 n (a0, ()) =
    if (↑(List.length a0) : Int) ≤ (↑(List.length a0) : Int) then
    if (↑(List.length a0) : Int) ≤ (↑lim : Int) then
      r20_3 n (a0, (0 : Int), PUnit.unit) (List.replicate (↑(List.length a0) : Int).toNat (zeroD T67), PUnit.unit)
    else none
  else none := by kernel_rfl
theorem r20_3_eq (n : Nat) (s0 : Ty.den T33) (s4 : Ty.den (.int .i64)) (b0 : List (Ty.den T67)) : r20_3 (n + 1) (s0, s4, ()) (b0, ()) =
    bif decide (s4 < (↑(List.length s0) : Int)) then
    if (0 : Int) ≤ s4 then
      (nth s0 (Int.toNat s4)).bind fun y =>
        if (0 : Int) ≤ s4 then
          if s4 < (↑b0.length : Int) then
            (nth b0 (Int.toNat s4)).bind fun y_1 =>
              r20_3 n (s0, IntKind.i64.wrap (s4 + (1 : Int)), PUnit.unit) (upd b0 (Int.toNat s4) y, PUnit.unit)
          else none
        else none
    else none
  else some b0 := by kernel_rfl

end Go.Sx.Try

set_option maxRecDepth 100000
namespace Go.Sx.Try
open Go Go.Sx Go.Proofs

noncomputable def l31 : List (Nat × Con) := []
theorem l31_ok : ∀ q ∈ l31, ConOk Try.prog q.1 q.2 := all_nil
def kp31 : KP := []
noncomputable def q31 (n : Nat) (x : Args [T48]) := evX l31 kp31 [none] Try.f31 (shV T53) n (encA [T48] x)
noncomputable def c31 : Con := roS [T48] true (shV T53) (q31 big)
theorem c31_ok : ConOk Try.prog 31 c31 := roS_ok ⟨Try.f31, by kernel_rfl, rfl, by decide⟩ fun _ _ h => evX_ok l31_ok (f := Try.f31) (by kernel_rfl) rfl (by kernel_rfl) (by kernel_rfl) big h
theorem q31_eq (n : Nat) (a0 : T48.den) : q31 n (a0, ()) =
    some a0 := by kernel_rfl

end Go.Sx.Try

set_option maxRecDepth 100000
namespace Go.Sx.Try
open Go Go.Sx Go.Proofs

noncomputable def l70 : List (Nat × Con) := []
theorem l70_ok : ∀ q ∈ l70, ConOk Try.prog q.1 q.2 := all_nil
def kp70 : KP := []
noncomputable def q70 (n : Nat) (x : Args [T23]) := evX l70 kp70 [none] Try.f70 (shV T28) n (encA [T23] x)
noncomputable def c70 : Con := roS [T23] true (shV T28) (q70 big)
theorem c70_ok : ConOk Try.prog 70 c70 := roS_ok ⟨Try.f70, by kernel_rfl, rfl, by decide⟩ fun _ _ h => evX_ok l70_ok (f := Try.f70) (by kernel_rfl) rfl (by kernel_rfl) (by kernel_rfl) big h
theorem q70_eq (n : Nat) (a0 : T23.den) : q70 n (a0, ()) =
    some a0 := by kernel_rfl

end Go.Sx.Try

set_option maxRecDepth 100000
namespace Go.Sx.Try
open Go Go.Sx Go.Proofs

noncomputable def l76 : List (Nat × Con) := [(70, c70)]
theorem l76_ok : ∀ q ∈ l76, ConOk Try.prog q.1 q.2 := all_cons c70_ok all_nil
abbrev k76_3 : List Keep × List BK := ([.ro T97, .drop, .drop, .is (.own 0 0), .ro (.int .i64), .drop, .drop, .drop, .drop, .drop, .drop, .drop, .drop, .drop, .drop, .drop, .drop, .drop, .drop, .drop, .drop, .drop, .drop], [.arr T28])
def kp76 : KP := [(3, k76_3)]
noncomputable def q76 (n : Nat) (x : Args [T97]) := evX l76 kp76 [some (.sl true T28)] Try.f76 (shF (.sl true T28)) n (encA [T97] x)
noncomputable def c76 : Con := roS [T97] true (shF (.sl true T28)) (q76 big)
theorem c76_ok : ConOk Try.prog 76 c76 := roS_ok ⟨Try.f76, by kernel_rfl, rfl, by decide⟩ fun _ _ h => evX_ok l76_ok (f := Try.f76) (by kernel_rfl) rfl (by kernel_rfl) (by kernel_rfl) big h
noncomputable def r76_3 (n : Nat) (x : KD k76_3.1) (y : BD k76_3.2) := rounds (env l76) kp76 (body Try.f76) (finX l76 [some (.sl true T28)] Try.f76 (shF (.sl true T28)) [.val T97 (zeroD T97)]) n 3 k76_3 x y
theorem q76_eq (n : Nat) (a0 : T97.den) : q76 n (a0, ()) =
    if (↑(List.length a0) : Int) ≤ (↑(List.length a0) : Int) then
    if (↑(List.length a0) : Int) ≤ (↑lim : Int) then
      r76_3 n (a0, (0 : Int), PUnit.unit) (List.replicate (↑(List.length a0) : Int).toNat (zeroD T28), PUnit.unit)
    else none
  else none := by kernel_rfl
theorem r76_3_eq (n : Nat) (s0 : Ty.den T97) (s4 : Ty.den (.int .i64)) (b0 : List (Ty.den T28)) : r76_3 (n + 1) (s0, s4, ()) (b0, ()) =
    bif decide (s4 < (↑(List.length s0) : Int)) then
    if (0 : Int) ≤ s4 then
      (nth s0 (Int.toNat s4)).bind fun y =>
        if (0 : Int) ≤ s4 then
          if s4 < (↑b0.length : Int) then
            (nth b0 (Int.toNat s4)).bind fun y_1 =>
              r76_3 n (s0, IntKind.i64.wrap (s4 + (1 : Int)), PUnit.unit) (upd b0 (Int.toNat s4) y, PUnit.unit)
          else none
        else none
    else none
  else some b0 := by kernel_rfl

end Go.Sx.Try

set_option maxRecDepth 100000
namespace Go.Sx.Try
open Go Go.Sx Go.Proofs

noncomputable def l83 : List (Nat × Con) := [(31, c31), (76, c76)]
theorem l83_ok : ∀ q ∈ l83, ConOk Try.prog q.1 q.2 := all_cons c31_ok (all_cons c76_ok all_nil)
def kp83 : KP := []
noncomputable def q83 (n : Nat) (x : Args [T125]) := evX l83 kp83 [some (.pair T3 (.pair T3 (.pair (.sl true T28) (.pair (.pair T3 (.pair T3 (.pair T3 (.pair T3 .unit)))) .unit))))] Try.f83 (shF (.pair T3 (.pair T3 (.pair (.sl true T28) (.pair (.pair T3 (.pair T3 (.pair T3 (.pair T3 .unit)))) .unit))))) n (encA [T125] x)
noncomputable def c83 : Con := roS [T125] true (shF (.pair T3 (.pair T3 (.pair (.sl true T28) (.pair (.pair T3 (.pair T3 (.pair T3 (.pair T3 .unit)))) .unit))))) (q83 big)
theorem c83_ok : ConOk Try.prog 83 c83 := roS_ok ⟨Try.f83, by kernel_rfl, rfl, by decide⟩ fun _ _ h => evX_ok l83_ok (f := Try.f83) (by kernel_rfl) rfl (by kernel_rfl) (by kernel_rfl) big h
theorem q83_eq (n : Nat) (a0 : T125.den) : q83 n (a0, ()) =
    (q76 big (a0.snd.snd.fst, ())).bind fun y => some (a0.fst, a0.snd.fst, y, a0.snd.snd.snd) := by kernel_rfl

end Go.Sx.Try

set_option maxRecDepth 100000
namespace Go.Sx.Try
open Go Go.Sx Go.Proofs

noncomputable def l30 : List (Nat × Con) := [(83, c83)]
theorem l30_ok : ∀ q ∈ l30, ConOk Try.prog q.1 q.2 := all_cons c83_ok all_nil
abbrev k30_3 : List Keep × List BK := ([.ro T46, .drop, .drop, .is (.own 0 0), .ro (.int .i64), .drop, .drop, .drop, .drop, .drop, .drop, .drop, .drop, .drop, .drop, .drop, .drop, .drop, .drop, .drop, .drop, .drop, .drop], [.arr T128])
def kp30 : KP := [(3, k30_3)]
noncomputable def q30 (n : Nat) (x : Args [T46]) := evX l30 kp30 [some (.sl true T128)] Try.f30 (shF (.sl true T128)) n (encA [T46] x)
noncomputable def c30 : Con := roS [T46] false (shF (.sl true T128)) (q30 big)
theorem c30_ok : ConOk Try.prog 30 c30 := roS_ok ⟨Try.f30, by kernel_rfl, rfl, by decide⟩ fun _ _ h => evX_ok l30_ok (f := Try.f30) (by kernel_rfl) rfl (by kernel_rfl) (by kernel_rfl) big h
noncomputable def r30_3 (n : Nat) (x : KD k30_3.1) (y : BD k30_3.2) := rounds (env l30) kp30 (body Try.f30) (finX l30 [some (.sl true T128)] Try.f30 (shF (.sl true T128)) [.val T46 (zeroD T46)]) n 3 k30_3 x y
theorem q30_eq (n : Nat) (a0 : T46.den) : q30 n (a0, ()) =
    if (↑(List.length a0) : Int) ≤ (↑(List.length a0) : Int) then
    if (↑(List.length a0) : Int) ≤ (↑lim : Int) then
      r30_3 n (a0, (0 : Int), PUnit.unit) (List.replicate (↑(List.length a0) : Int).toNat (zeroD T128), PUnit.unit)
    else none
  else none := by kernel_rfl
theorem r30_3_eq (n : Nat) (s0 : Ty.den T46) (s4 : Ty.den (.int .i64)) (b0 : List (Ty.den T128)) : r30_3 (n + 1) (s0, s4, ()) (b0, ()) =
    bif decide (s4 < (↑(List.length s0) : Int)) then
    if (0 : Int) ≤ s4 then
      (nth s0 (Int.toNat s4)).bind fun y =>
        (q83 big (y, ())).bind fun y =>
          if (0 : Int) ≤ s4 then
            if s4 < (↑b0.length : Int) then
              (nth b0 (Int.toNat s4)).bind fun y_1 =>
                r30_3 n (s0, IntKind.i64.wrap (s4 + (1 : Int)), PUnit.unit) (upd b0 (Int.toNat s4) y, PUnit.unit)
            else none
          else none
    else none
  else some b0 := by kernel_rfl

end Go.Sx.Try

set_option maxRecDepth 100000
namespace Go.Sx.Try
open Go Go.Sx Go.Proofs

noncomputable def l128 : List (Nat × Con) := [(31, c31), (40, c40)]
theorem l128_ok : ∀ q ∈ l128, ConOk Try.prog q.1 q.2 := all_cons c31_ok (all_cons c40_ok all_nil)
def kp128 : KP := []
noncomputable def q128 (n : Nat) (x : Args [T172]) := evX l128 kp128 [none] Try.f128 (shV T77) n (encA [T172] x)
noncomputable def c128 : Con := roS [T172] true (shV T77) (q128 big)
theorem c128_ok : ConOk Try.prog 128 c128 := roS_ok ⟨Try.f128, by kernel_rfl, rfl, by decide⟩ fun _ _ h => evX_ok l128_ok (f := Try.f128) (by kernel_rfl) rfl (by kernel_rfl) (by kernel_rfl) big h
theorem q128_eq (n : Nat) (a0 : T172.den) : q128 n (a0, ()) =
    some a0 := by kernel_rfl

end Go.Sx.Try

set_option maxRecDepth 100000
namespace Go.Sx.Try
open Go Go.Sx Go.Proofs

noncomputable def l92 : List (Nat × Con) := [(128, c128)]
theorem l92_ok : ∀ q ∈ l92, ConOk Try.prog q.1 q.2 := all_cons c128_ok all_nil
abbrev k92_3 : List Keep × List BK := ([.ro T62, .drop, .drop, .is (.own 0 0), .ro (.int .i64), .drop, .drop, .drop, .drop, .drop, .drop, .drop, .drop, .drop, .drop, .drop, .drop, .drop, .drop, .drop, .drop, .drop, .drop], [.arr T77])
def kp92 : KP := [(3, k92_3)]
noncomputable def q92 (n : Nat) (x : Args [T62]) := evX l92 kp92 [some (.sl true T77)] Try.f92 (shF (.sl true T77)) n (encA [T62] x)
noncomputable def c92 : Con := roS [T62] true (shF (.sl true T77)) (q92 big)
theorem c92_ok : ConOk Try.prog 92 c92 := roS_ok ⟨Try.f92, by kernel_rfl, rfl, by decide⟩ fun _ _ h => evX_ok l92_ok (f := Try.f92) (by kernel_rfl) rfl (by kernel_rfl) (by kernel_rfl) big h
noncomputable def r92_3 (n : Nat) (x : KD k92_3.1) (y : BD k92_3.2) := rounds (env l92) kp92 (body Try.f92) (finX l92 [some (.sl true T77)] Try.f92 (shF (.sl true T77)) [.val T62 (zeroD T62)]) n 3 k92_3 x y
theorem q92_eq (n : Nat) (a0 : T62.den) : q92 n (a0, ()) =
    if (↑(List.length a0) : Int) ≤ (↑(List.length a0) : Int) then
    if (↑(List.length a0) : Int) ≤ (↑lim : Int) then
      r92_3 n (a0, (0 : Int), PUnit.unit) (List.replicate (↑(List.length a0) : Int).toNat (zeroD T77), PUnit.unit)
    else none
  else none := by kernel_rfl
theorem r92_3_eq (n : Nat) (s0 : Ty.den T62) (s4 : Ty.den (.int .i64)) (b0 : List (Ty.den T77)) : r92_3 (n + 1) (s0, s4, ()) (b0, ()) =
    bif decide (s4 < (↑(List.length s0) : Int)) then
    if (0 : Int) ≤ s4 then
      (nth s0 (Int.toNat s4)).bind fun y =>
        if (0 : Int) ≤ s4 then
          if s4 < (↑b0.length : Int) then
            (nth b0 (Int.toNat s4)).bind fun y_1 =>
              r92_3 n (s0, IntKind.i64.wrap (s4 + (1 : Int)), PUnit.unit) (upd b0 (Int.toNat s4) y, PUnit.unit)
          else none
        else none
    else none
  else some b0 := by kernel_rfl

end Go.Sx.Try

set_option maxRecDepth 100000
namespace Go.Sx.Try
open Go Go.Sx Go.Proofs

noncomputable def l51 : List (Nat × Con) := []
theorem l51_ok : ∀ q ∈ l51, ConOk Try.prog q.1 q.2 := all_nil
abbrev k51_3 : List Keep × List BK := ([.ro T59, .drop, .drop, .is (.own 0 0), .ro (.int .i64), .drop, .drop, .drop, .drop, .drop, .drop, .drop, .drop, .drop, .drop, .drop, .drop, .drop, .drop, .drop, .drop, .drop], [.arr T3])
def kp51 : KP := [(3, k51_3)]
noncomputable def q51 (n : Nat) (x : Args [T59]) := evX l51 kp51 [some (.sl true T3)] Try.f51 (shF (.sl true T3)) n (encA [T59] x)
noncomputable def c51 : Con := roS [T59] true (shF (.sl true T3)) (q51 big)
theorem c51_ok : ConOk Try.prog 51 c51 := roS_ok ⟨Try.f51, by kernel_rfl, rfl, by decide⟩ fun _ _ h => evX_ok l51_ok (f := Try.f51) (by kernel_rfl) rfl (by kernel_rfl) (by kernel_rfl) big h
noncomputable def r51_3 (n : Nat) (x : KD k51_3.1) (y : BD k51_3.2) := rounds (env l51) kp51 (body Try.f51) (finX l51 [some (.sl true T3)] Try.f51 (shF (.sl true T3)) [.val T59 (zeroD T59)]) n 3 k51_3 x y
theorem q51_eq (n : Nat) (a0 : T59.den) : q51 n (a0, ()) =
    if (↑(List.length a0) : Int) ≤ (↑(List.length a0) : Int) then
    if (↑(List.length a0) : Int) ≤ (↑lim : Int) then
      r51_3 n (a0, (0 : Int), PUnit.unit) (List.replicate (↑(List.length a0) : Int).toNat (zeroD T3), PUnit.unit)
    else none
  else none := by kernel_rfl
theorem r51_3_eq (n : Nat) (s0 : Ty.den T59) (s4 : Ty.den (.int .i64)) (b0 : List (Ty.den T3)) : r51_3 (n + 1) (s0, s4, ()) (b0, ()) =
    bif decide (s4 < (↑(List.length s0) : Int)) then
    if (0 : Int) ≤ s4 then
      (nth s0 (Int.toNat s4)).bind fun y =>
        if (0 : Int) ≤ s4 then
          if s4 < (↑b0.length : Int) then
            (nth b0 (Int.toNat s4)).bind fun y_1 =>
              r51_3 n (s0, IntKind.i64.wrap (s4 + (1 : Int)), PUnit.unit) (upd b0 (Int.toNat s4) y, PUnit.unit)
          else none
        else none
    else none
  else some b0 := by kernel_rfl

end Go.Sx.Try

set_option maxRecDepth 100000
namespace Go.Sx.Try
open Go Go.Sx Go.Proofs

noncomputable def l126 : List (Nat × Con) := []
theorem l126_ok : ∀ q ∈ l126, ConOk Try.prog q.1 q.2 := all_nil
def kp126 : KP := []
noncomputable def q126 (n : Nat) (x : Args [T163]) := evX l126 kp126 [none] Try.f126 (shV T148) n (encA [T163] x)
noncomputable def c126 : Con := roS [T163] true (shV T148) (q126 big)
theorem c126_ok : ConOk Try.prog 126 c126 := roS_ok ⟨Try.f126, by kernel_rfl, rfl, by decide⟩ fun _ _ h => evX_ok l126_ok (f := Try.f126) (by kernel_rfl) rfl (by kernel_rfl) (by kernel_rfl) big h
theorem q126_eq (n : Nat) (a0 : T163.den) : q126 n (a0, ()) =
    some a0 := by kernel_rfl

end Go.Sx.Try

set_option maxRecDepth 100000
namespace Go.Sx.Try
open Go Go.Sx Go.Proofs

noncomputable def l90 : List (Nat × Con) := [(126, c126)]
theorem l90_ok : ∀ q ∈ l90, ConOk Try.prog q.1 q.2 := all_cons c126_ok all_nil
abbrev k90_3 : List Keep × List BK := ([.ro T60, .drop, .drop, .is (.own 0 0), .ro (.int .i64), .drop, .drop, .drop, .drop, .drop, .drop, .drop, .drop, .drop, .drop, .drop, .drop, .drop, .drop, .drop, .drop, .drop, .drop], [.arr T148])
def kp90 : KP := [(3, k90_3)]
noncomputable def q90 (n : Nat) (x : Args [T60]) := evX l90 kp90 [some (.sl true T148)] Try.f90 (shF (.sl true T148)) n (encA [T60] x)
noncomputable def c90 : Con := roS [T60] true (shF (.sl true T148)) (q90 big)
theorem c90_ok : ConOk Try.prog 90 c90 := roS_ok ⟨Try.f90, by kernel_rfl, rfl, by decide⟩ fun _ _ h => evX_ok l90_ok (f := Try.f90) (by kernel_rfl) rfl (by kernel_rfl) (by kernel_rfl) big h
noncomputable def r90_3 (n : Nat) (x : KD k90_3.1) (y : BD k90_3.2) := rounds (env l90) kp90 (body Try.f90) (finX l90 [some (.sl true T148)] Try.f90 (shF (.sl true T148)) [.val T60 (zeroD T60)]) n 3 k90_3 x y
theorem q90_eq (n : Nat) (a0 : T60.den) : q90 n (a0, ()) =
    if (↑(List.length a0) : Int) ≤ (↑(List.length a0) : Int) then
    if (↑(List.length a0) : Int) ≤ (↑lim : Int) then
      r90_3 n (a0, (0 : Int), PUnit.unit) (List.replicate (↑(List.length a0) : Int).toNat (zeroD T148), PUnit.unit)
    else none
  else none := by kernel_rfl
theorem r90_3_eq (n : Nat) (s0 : Ty.den T60) (s4 : Ty.den (.int .i64)) (b0 : List (Ty.den T148)) : r90_3 (n + 1) (s0, s4, ()) (b0, ()) =
    bif decide (s4 < (↑(List.length s0) : Int)) then
    if (0 : Int) ≤ s4 then
      (nth s0 (Int.toNat s4)).bind fun y =>
        if (0 : Int) ≤ s4 then
          if s4 < (↑b0.length : Int) then
            (nth b0 (Int.toNat s4)).bind fun y_1 =>
              r90_3 n (s0, IntKind.i64.wrap (s4 + (1 : Int)), PUnit.unit) (upd b0 (Int.toNat s4) y, PUnit.unit)
          else none
        else none
    else none
  else some b0 := by kernel_rfl

end Go.Sx.Try

set_option maxRecDepth 100000
namespace Go.Sx.Try
open Go Go.Sx Go.Proofs

noncomputable def l127 : List (Nat × Con) := []
theorem l127_ok : ∀ q ∈ l127, ConOk Try.prog q.1 q.2 := all_nil
def kp127 : KP := []
noncomputable def q127 (n : Nat) (x : Args [T166]) := evX l127 kp127 [none] Try.f127 (shV T168) n (encA [T166] x)
noncomputable def c127 : Con := roS [T166] true (shV T168) (q127 big)
theorem c127_ok : ConOk Try.prog 127 c127 := roS_ok ⟨Try.f127, by kernel_rfl, rfl, by decide⟩ fun _ _ h => evX_ok l127_ok (f := Try.f127) (by kernel_rfl) rfl (by kernel_rfl) (by kernel_rfl) big h
theorem q127_eq (n : Nat) (a0 : T166.den) : q127 n (a0, ()) =
    some a0 := by kernel_rfl

end Go.Sx.Try

set_option maxRecDepth 100000
namespace Go.Sx.Try
open Go Go.Sx Go.Proofs

noncomputable def l91 : List (Nat × Con) := [(127, c127)]
theorem l91_ok : ∀ q ∈ l91, ConOk Try.prog q.1 q.2 := all_cons c127_ok all_nil
abbrev k91_3 : List Keep × List BK := ([.ro T61, .drop, .drop, .is (.own 0 0), .ro (.int .i64), .drop, .drop, .drop, .drop, .drop, .drop, .drop, .drop, .drop, .drop, .drop, .drop, .drop, .drop, .drop, .drop, .drop, .drop], [.arr T168])
def kp91 : KP := [(3, k91_3)]
noncomputable def q91 (n : Nat) (x : Args [T61]) := evX l91 kp91 [some (.sl true T168)] Try.f91 (shF (.sl true T168)) n (encA [T61] x)
noncomputable def c91 : Con := roS [T61] true (shF (.sl true T168)) (q91 big)
theorem c91_ok : ConOk Try.prog 91 c91 := roS_ok ⟨Try.f91, by kernel_rfl, rfl, by decide⟩ fun _ _ h => evX_ok l91_ok (f := Try.f91) (by kernel_rfl) rfl (by kernel_rfl) (by kernel_rfl) big h
noncomputable def r91_3 (n : Nat) (x : KD k91_3.1) (y : BD k91_3.2) := rounds (env l91) kp91 (body Try.f91) (finX l91 [some (.sl true T168)] Try.f91 (shF (.sl true T168)) [.val T61 (zeroD T61)]) n 3 k91_3 x y
theorem q91_eq (n : Nat) (a0 : T61.den) : q91 n (a0, ()) =
    if (↑(List.length a0) : Int) ≤ (↑(List.length a0) : Int) then
    if (↑(List.length a0) : Int) ≤ (↑lim : Int) then
      r91_3 n (a0, (0 : Int), PUnit.unit) (List.replicate (↑(List.length a0) : Int).toNat (zeroD T168), PUnit.unit)
    else none
  else none := by kernel_rfl
theorem r91_3_eq (n : Nat) (s0 : Ty.den T61) (s4 : Ty.den (.int .i64)) (b0 : List (Ty.den T168)) : r91_3 (n + 1) (s0, s4, ()) (b0, ()) =
    bif decide (s4 < (↑(List.length s0) : Int)) then
    if (0 : Int) ≤ s4 then
      (nth s0 (Int.toNat s4)).bind fun y =>
        if (0 : Int) ≤ s4 then
          if s4 < (↑b0.length : Int) then
            (nth b0 (Int.toNat s4)).bind fun y_1 =>
              r91_3 n (s0, IntKind.i64.wrap (s4 + (1 : Int)), PUnit.unit) (upd b0 (Int.toNat s4) y, PUnit.unit)
          else none
        else none
    else none
  else some b0 := by kernel_rfl

end Go.Sx.Try

set_option maxRecDepth 100000
namespace Go.Sx.Try
open Go Go.Sx Go.Proofs

noncomputable def l36 : List (Nat × Con) := [(20, c20), (31, c31), (40, c40), (51, c51), (90, c90), (91, c91), (92, c92)]
theorem l36_ok : ∀ q ∈ l36, ConOk Try.prog q.1 q.2 := all_cons c20_ok (all_cons c31_ok (all_cons c40_ok (all_cons c51_ok (all_cons c90_ok (all_cons c91_ok (all_cons c92_ok all_nil))))))
def kp36 : KP := []
noncomputable def q36 (n : Nat) (x : Args [T64]) := evX l36 kp36 [some (.pair T3 (.pair T3 (.pair (.pair T3 (.pair T3 (.pair T3 (.pair T3 .unit)))) (.pair (.pair T3 (.pair T3 (.pair T3 (.pair T3 .unit)))) (.pair (.pair T3 (.pair T3 (.pair T3 (.pair T3 .unit)))) (.pair (.sl true T3) (.pair (.sl true T148) (.pair (.sl true T3) (.pair (.sl true T168) (.pair (.sl true T67) (.pair (.sl true T77) (.pair T3 .unit))))))))))))] Try.f36 (shF (.pair T3 (.pair T3 (.pair (.pair T3 (.pair T3 (.pair T3 (.pair T3 .unit)))) (.pair (.pair T3 (.pair T3 (.pair T3 (.pair T3 .unit)))) (.pair (.pair T3 (.pair T3 (.pair T3 (.pair T3 .unit)))) (.pair (.sl true T3) (.pair (.sl true T148) (.pair (.sl true T3) (.pair (.sl true T168) (.pair (.sl true T67) (.pair (.sl true T77) (.pair T3 .unit))))))))))))) n (encA [T64] x)
noncomputable def c36 : Con := roS [T64] true (shF (.pair T3 (.pair T3 (.pair (.pair T3 (.pair T3 (.pair T3 (.pair T3 .unit)))) (.pair (.pair T3 (.pair T3 (.pair T3 (.pair T3 .unit)))) (.pair (.pair T3 (.pair T3 (.pair T3 (.pair T3 .unit)))) (.pair (.sl true T3) (.pair (.sl true T148) (.pair (.sl true T3) (.pair (.sl true T168) (.pair (.sl true T67) (.pair (.sl true T77) (.pair T3 .unit))))))))))))) (q36 big)
theorem c36_ok : ConOk Try.prog 36 c36 := roS_ok ⟨Try.f36, by kernel_rfl, rfl, by decide⟩ fun _ _ h => evX_ok l36_ok (f := Try.f36) (by kernel_rfl) rfl (by kernel_rfl) (by kernel_rfl) big h
theorem q36_eq (n : Nat) (a0 : T64.den) : q36 n (a0, ()) =
    (q51 big (a0.snd.snd.snd.snd.snd.fst, ())).bind fun y =>
    (q90 big (a0.snd.snd.snd.snd.snd.snd.fst, ())).bind fun y_1 =>
      (q51 big (a0.snd.snd.snd.snd.snd.snd.snd.fst, ())).bind fun y_2 =>
        (q91 big (a0.snd.snd.snd.snd.snd.snd.snd.snd.fst, ())).bind fun y_3 =>
          (q20 big (a0.snd.snd.snd.snd.snd.snd.snd.snd.snd.fst, ())).bind fun y_4 =>
            (q92 big (a0.snd.snd.snd.snd.snd.snd.snd.snd.snd.snd.fst, ())).bind fun y_5 =>
              some
                (a0.fst, a0.snd.fst, a0.snd.snd.fst, a0.snd.snd.snd.fst, a0.snd.snd.snd.snd.fst, y, y_1, y_2, y_3, y_4,
                  y_5, a0.snd.snd.snd.snd.snd.snd.snd.snd.snd.snd.snd) := by kernel_rfl

end Go.Sx.Try

set_option maxRecDepth 100000
namespace Go.Sx.Try
open Go Go.Sx Go.Proofs

noncomputable def l111 : List (Nat × Con) := [(36, c36)]
theorem l111_ok : ∀ q ∈ l111, ConOk Try.prog q.1 q.2 := all_cons c36_ok all_nil
abbrev k111_3 : List Keep × List BK := ([.ro T96, .drop, .drop, .is (.own 0 0), .ro (.int .i64), .drop, .drop, .drop, .drop, .drop, .drop, .drop, .drop, .drop, .drop, .drop, .drop, .drop, .drop, .drop, .drop, .drop, .drop], [.arr T72])
def kp111 : KP := [(3, k111_3)]
noncomputable def q111 (n : Nat) (x : Args [T96]) := evX l111 kp111 [some (.sl true T72)] Try.f111 (shF (.sl true T72)) n (encA [T96] x)
noncomputable def c111 : Con := roS [T96] false (shF (.sl true T72)) (q111 big)
theorem c111_ok : ConOk Try.prog 111 c111 := roS_ok ⟨Try.f111, by kernel_rfl, rfl, by decide⟩ fun _ _ h => evX_ok l111_ok (f := Try.f111) (by kernel_rfl) rfl (by kernel_rfl) (by kernel_rfl) big h
noncomputable def r111_3 (n : Nat) (x : KD k111_3.1) (y : BD k111_3.2) := rounds (env l111) kp111 (body Try.f111) (finX l111 [some (.sl true T72)] Try.f111 (shF (.sl true T72)) [.val T96 (zeroD T96)]) n 3 k111_3 x y
theorem q111_eq (n : Nat) (a0 : T96.den) : q111 n (a0, ()) =
    if (↑(List.length a0) : Int) ≤ (↑(List.length a0) : Int) then
    if (↑(List.length a0) : Int) ≤ (↑lim : Int) then
      r111_3 n (a0, (0 : Int), PUnit.unit) (List.replicate (↑(List.length a0) : Int).toNat (zeroD T72), PUnit.unit)
    else none
  else none := by kernel_rfl
theorem r111_3_eq (n : Nat) (s0 : Ty.den T96) (s4 : Ty.den (.int .i64)) (b0 : List (Ty.den T72)) : r111_3 (n + 1) (s0, s4, ()) (b0, ()) =
    bif decide (s4 < (↑(List.length s0) : Int)) then
    if (0 : Int) ≤ s4 then
      (nth s0 (Int.toNat s4)).bind fun y =>
        (q36 big (y, ())).bind fun y =>
          if (0 : Int) ≤ s4 then
            if s4 < (↑b0.length : Int) then
              (nth b0 (Int.toNat s4)).bind fun y_1 =>
                r111_3 n (s0, IntKind.i64.wrap (s4 + (1 : Int)), PUnit.unit) (upd b0 (Int.toNat s4) y, PUnit.unit)
            else none
          else none
    else none
  else some b0 := by kernel_rfl

end Go.Sx.Try

set_option maxRecDepth 100000
namespace Go.Sx.Try
open Go Go.Sx Go.Proofs

noncomputable def l61 : List (Nat × Con) := [(20, c20), (30, c30), (76, c76), (92, c92), (111, c111)]
theorem l61_ok : ∀ q ∈ l61, ConOk Try.prog q.1 q.2 := all_cons c20_ok (all_cons c30_ok (all_cons c76_ok (all_cons c92_ok (all_cons c111_ok all_nil))))
def kp61 : KP := []
noncomputable def q61 (n : Nat) (x : Args [T99]) := evX l61 kp61 [some (.pair T3 (.pair T4 (.pair T3 (.pair (.sl true T128) (.pair (.sl true T72) (.pair (.sl true T77) (.pair (.sl true T67) (.pair (.sl true T28) .unit))))))))] Try.f61 (shF (.pair T3 (.pair T4 (.pair T3 (.pair (.sl true T128) (.pair (.sl true T72) (.pair (.sl true T77) (.pair (.sl true T67) (.pair (.sl true T28) .unit))))))))) n (encA [T99] x)
noncomputable def c61 : Con := roS [T99] false (shF (.pair T3 (.pair T4 (.pair T3 (.pair (.sl true T128) (.pair (.sl true T72) (.pair (.sl true T77) (.pair (.sl true T67) (.pair (.sl true T28) .unit))))))))) (q61 big)
theorem c61_ok : ConOk Try.prog 61 c61 := roS_ok ⟨Try.f61, by kernel_rfl, rfl, by decide⟩ fun _ _ h => evX_ok l61_ok (f := Try.f61) (by kernel_rfl) rfl (by kernel_rfl) (by kernel_rfl) big h
theorem q61_eq (n : Nat) (a0 : T99.den) : q61 n (a0, ()) =
    (q30 big (a0.snd.snd.snd.fst, ())).bind fun y =>
    (q111 big (a0.snd.snd.snd.snd.fst, ())).bind fun y_1 =>
      (q92 big (a0.snd.snd.snd.snd.snd.fst, ())).bind fun y_2 =>
        (q20 big (a0.snd.snd.snd.snd.snd.snd.fst, ())).bind fun y_3 =>
          (q76 big (a0.snd.snd.snd.snd.snd.snd.snd.fst, ())).bind fun y_4 =>
            some (a0.fst, a0.snd.fst, a0.snd.snd.fst, y, y_1, y_2, y_3, y_4, PUnit.unit) := by kernel_rfl

end Go.Sx.Try

set_option maxRecDepth 100000
namespace Go.Sx.Try
open Go Go.Sx Go.Proofs

noncomputable def l71 : List (Nat × Con) := []
theorem l71_ok : ∀ q ∈ l71, ConOk Try.prog q.1 q.2 := all_nil
def kp71 : KP := []
noncomputable def q71 (n : Nat) (x : Args [T3, T3, T3]) := evX l71 kp71 [none] Try.f71 (shV T4) n (encA [T3, T3, T3] x)
noncomputable def c71 : Con := roS [T3, T3, T3] true (shV T4) (q71 big)
theorem c71_ok : ConOk Try.prog 71 c71 := roS_ok ⟨Try.f71, by kernel_rfl, rfl, by decide⟩ fun _ _ h => evX_ok l71_ok (f := Try.f71) (by kernel_rfl) rfl (by kernel_rfl) (by kernel_rfl) big h
theorem q71_eq (n : Nat) (a0 : T3.den) (a1 : T3.den) (a2 : T3.den) : q71 n (a0, a1, a2, ()) =
    bif decide (a1 ≤ a0) then some (decide (a0 ≤ a2)) else some false := by kernel_rfl

end Go.Sx.Try

set_option maxRecDepth 100000
namespace Go.Sx.Try
open Go Go.Sx Go.Proofs

noncomputable def l112 : List (Nat × Con) := [(71, c71)]
theorem l112_ok : ∀ q ∈ l112, ConOk Try.prog q.1 q.2 := all_cons c71_ok all_nil
def kp112 : KP := []
noncomputable def q112 (n : Nat) (x : Args [T105, T3]) := evX l112 kp112 [none] Try.f112 (shV T3) n (encA [T105, T3] x)
noncomputable def c112 : Con := roS [T105, T3] true (shV T3) (q112 big)
theorem c112_ok : ConOk Try.prog 112 c112 := roS_ok ⟨Try.f112, by kernel_rfl, rfl, by decide⟩ fun _ _ h => evX_ok l112_ok (f := Try.f112) (by kernel_rfl) rfl (by kernel_rfl) (by kernel_rfl) big h
theorem q112_eq (n : Nat) (a0 : T105.den) (a1 : T3.den) : q112 n (a0, a1, ()) =
    (q71 big (a1, (0 : Int), IntKind.i64.wrap ((↑(List.length a0.snd.snd.snd.fst) : Int) - (1 : Int)), ())).bind fun y =>
    bif !y then some (0 : Int)
    else if (0 : Int) ≤ a1 then (nth a0.snd.snd.snd.fst (Int.toNat a1)).bind fun y => some y.snd.fst else none := by kernel_rfl

end Go.Sx.Try

set_option maxRecDepth 100000
namespace Go.Sx.Try
open Go Go.Sx Go.Proofs

noncomputable def l62 : List (Nat × Con) := [(112, c112)]
theorem l62_ok : ∀ q ∈ l62, ConOk Try.prog q.1 q.2 := all_cons c112_ok all_nil
def kp62 : KP := []
noncomputable def q62 (n : Nat) (x : Args [T105, T3, T3, T3, T3]) := evX l62 kp62 [none] Try.f62 (shV T77) n (encA [T105, T3, T3, T3, T3] x)
noncomputable def c62 : Con := roS [T105, T3, T3, T3, T3] true (shV T77) (q62 big)
theorem c62_ok : ConOk Try.prog 62 c62 := roS_ok ⟨Try.f62, by kernel_rfl, rfl, by decide⟩ fun _ _ h => evX_ok l62_ok (f := Try.f62) (by kernel_rfl) rfl (by kernel_rfl) (by kernel_rfl) big h
theorem q62_eq (n : Nat) (a0 : T105.den) (a1 : T3.den) (a2 : T3.den) (a3 : T3.den) (a4 : T3.den) : q62 n (a0, a1, a2, a3, a4, ()) =
    (q112 big (a0, a4, ())).bind fun y =>
    some
      ((2 : Int), a1, a2, y, (0 : Int), ((0 : Int), (0 : Int), (0 : Int), (0 : Int), PUnit.unit),
        (a3, y, a4, a1, PUnit.unit), PUnit.unit) := by kernel_rfl

end Go.Sx.Try

set_option maxRecDepth 100000
namespace Go.Sx.Try
open Go Go.Sx Go.Proofs

noncomputable def l22 : List (Nat × Con) := [(66, c66)]
theorem l22_ok : ∀ q ∈ l22, ConOk Try.prog q.1 q.2 := all_cons c66_ok all_nil
abbrev k22_4 : List Keep × List BK := ([.ro T36, .ro T36, .drop, .drop, .drop, .ro (.int .i64), .drop, .drop, .drop, .drop, .drop, .drop, .drop, .drop, .drop, .drop, .drop, .drop, .drop, .drop, .drop, .drop, .drop, .drop, .drop, .drop, .drop], [])
def kp22 : KP := [(4, k22_4)]
noncomputable def q22 (n : Nat) (x : Args [T36, T36]) := evX l22 kp22 [none] Try.f22 (shV T4) n (encA [T36, T36] x)
noncomputable def c22 : Con := roS [T36, T36] true (shV T4) (q22 big)
theorem c22_ok : ConOk Try.prog 22 c22 := roS_ok ⟨Try.f22, by kernel_rfl, rfl, by decide⟩ fun _ _ h => evX_ok l22_ok (f := Try.f22) (by kernel_rfl) rfl (by kernel_rfl) (by kernel_rfl) big h
noncomputable def r22_4 (n : Nat) (x : KD k22_4.1) (y : BD k22_4.2) := rounds (env l22) kp22 (body Try.f22) (finX l22 [none] Try.f22 (shV T4) [.val T36 (zeroD T36), .val T36 (zeroD T36)]) n 4 k22_4 x y
theorem q22_eq (n : Nat) (a0 : T36.den) (a1 : T36.den) : q22 n (a0, a1, ()) =
    bif !decide ((↑(List.length a0) : Int) = (↑(List.length a1) : Int)) then some false
  else r22_4 n (a0, a1, (0 : Int), PUnit.unit) PUnit.unit := by kernel_rfl
theorem r22_4_eq (n : Nat) (s0 : Ty.den T36) (s1 : Ty.den T36) (s5 : Ty.den (.int .i64)) : r22_4 (n + 1) (s0, s1, s5, ()) () =
    bif decide (s5 < (↑(List.length s0) : Int)) then
    if (0 : Int) ≤ s5 then
      (nth s0 (Int.toNat s5)).bind fun y =>
        if (0 : Int) ≤ s5 then
          (nth s1 (Int.toNat s5)).bind fun y_1 =>
            (q66 big (y, y_1, ())).bind fun y =>
              bif !y then some false else r22_4 n (s0, s1, IntKind.i64.wrap (s5 + (1 : Int)), PUnit.unit) PUnit.unit
        else none
    else none
  else some true := by kernel_rfl

end Go.Sx.Try

set_option maxRecDepth 100000
namespace Go.Sx.Try
open Go Go.Sx Go.Proofs

noncomputable def l120 : List (Nat × Con) := []
theorem l120_ok : ∀ q ∈ l120, ConOk Try.prog q.1 q.2 := all_nil
def kp120 : KP := []
noncomputable def q120 (n : Nat) (x : Args [T28, T28]) := evX l120 kp120 [none] Try.f120 (shV T4) n (encA [T28, T28] x)
noncomputable def c120 : Con := roS [T28, T28] true (shV T4) (q120 big)
theorem c120_ok : ConOk Try.prog 120 c120 := roS_ok ⟨Try.f120, by kernel_rfl, rfl, by decide⟩ fun _ _ h => evX_ok l120_ok (f := Try.f120) (by kernel_rfl) rfl (by kernel_rfl) (by kernel_rfl) big h
theorem q120_eq (n : Nat) (a0 : T28.den) (a1 : T28.den) : q120 n (a0, a1, ()) =
    bif !decide (a0.fst = a1.fst) then some false
  else
    bif !decide (a0.snd.fst = a1.snd.fst) then some false
    else bif !decide (a0.snd.snd.fst = a1.snd.snd.fst) then some false else some true := by kernel_rfl

end Go.Sx.Try

set_option maxRecDepth 100000
namespace Go.Sx.Try
open Go Go.Sx Go.Proofs

noncomputable def l80 : List (Nat × Con) := [(120, c120)]
theorem l80_ok : ∀ q ∈ l80, ConOk Try.prog q.1 q.2 := all_cons c120_ok all_nil
abbrev k80_4 : List Keep × List BK := ([.ro T103, .ro T103, .drop, .drop, .drop, .ro (.int .i64), .drop, .drop, .drop, .drop, .drop, .drop, .drop, .drop, .drop, .drop, .drop, .drop, .drop, .drop, .drop, .drop, .drop, .drop, .drop, .drop, .drop], [])
def kp80 : KP := [(4, k80_4)]
noncomputable def q80 (n : Nat) (x : Args [T103, T103]) := evX l80 kp80 [none] Try.f80 (shV T4) n (encA [T103, T103] x)
noncomputable def c80 : Con := roS [T103, T103] true (shV T4) (q80 big)
theorem c80_ok : ConOk Try.prog 80 c80 := roS_ok ⟨Try.f80, by kernel_rfl, rfl, by decide⟩ fun _ _ h => evX_ok l80_ok (f := Try.f80) (by kernel_rfl) rfl (by kernel_rfl) (by kernel_rfl) big h
noncomputable def r80_4 (n : Nat) (x : KD k80_4.1) (y : BD k80_4.2) := rounds (env l80) kp80 (body Try.f80) (finX l80 [none] Try.f80 (shV T4) [.val T103 (zeroD T103), .val T103 (zeroD T103)]) n 4 k80_4 x y
theorem q80_eq (n : Nat) (a0 : T103.den) (a1 : T103.den) : q80 n (a0, a1, ()) =
    bif !decide ((↑(List.length a0) : Int) = (↑(List.length a1) : Int)) then some false
  else r80_4 n (a0, a1, (0 : Int), PUnit.unit) PUnit.unit := by kernel_rfl
theorem r80_4_eq (n : Nat) (s0 : Ty.den T103) (s1 : Ty.den T103) (s5 : Ty.den (.int .i64)) : r80_4 (n + 1) (s0, s1, s5, ()) () =
    bif decide (s5 < (↑(List.length s0) : Int)) then
    if (0 : Int) ≤ s5 then
      (nth s0 (Int.toNat s5)).bind fun y =>
        if (0 : Int) ≤ s5 then
          (nth s1 (Int.toNat s5)).bind fun y_1 =>
            (q120 big (y, y_1, ())).bind fun y =>
              bif !y then some false else r80_4 n (s0, s1, IntKind.i64.wrap (s5 + (1 : Int)), PUnit.unit) PUnit.unit
        else none
    else none
  else some true := by kernel_rfl

end Go.Sx.Try

set_option maxRecDepth 100000
namespace Go.Sx.Try
open Go Go.Sx Go.Proofs

noncomputable def l85 : List (Nat × Con) := [(45, c45), (80, c80)]
theorem l85_ok : ∀ q ∈ l85, ConOk Try.prog q.1 q.2 := all_cons c45_ok (all_cons c80_ok all_nil)
def kp85 : KP := []
noncomputable def q85 (n : Nat) (x : Args [T128, T128]) := evX l85 kp85 [none] Try.f85 (shV T4) n (encA [T128, T128] x)
noncomputable def c85 : Con := roS [T128, T128] true (shV T4) (q85 big)
theorem c85_ok : ConOk Try.prog 85 c85 := roS_ok ⟨Try.f85, by kernel_rfl, rfl, by decide⟩ fun _ _ h => evX_ok l85_ok (f := Try.f85) (by kernel_rfl) rfl (by kernel_rfl) (by kernel_rfl) big h
theorem q85_eq (n : Nat) (a0 : T128.den) (a1 : T128.den) : q85 n (a0, a1, ()) =
    bif !decide (a0.fst = a1.fst) then some false
  else
    bif !decide (a0.snd.fst = a1.snd.fst) then some false
    else
      (q80 big (a0.snd.snd.fst, a1.snd.snd.fst, ())).bind fun y =>
        bif !y then some false
        else
          (q45 big (a0.snd.snd.snd.fst, a1.snd.snd.snd.fst, ())).bind fun y =>
            bif !y then some false else some true := by kernel_rfl

end Go.Sx.Try

set_option maxRecDepth 100000
namespace Go.Sx.Try
open Go Go.Sx Go.Proofs

noncomputable def l33 : List (Nat × Con) := [(85, c85)]
theorem l33_ok : ∀ q ∈ l33, ConOk Try.prog q.1 q.2 := all_cons c85_ok all_nil
abbrev k33_4 : List Keep × List BK := ([.ro T51, .ro T51, .drop, .drop, .drop, .ro (.int .i64), .drop, .drop, .drop, .drop, .drop, .drop, .drop, .drop, .drop, .drop, .drop, .drop, .drop, .drop, .drop, .drop, .drop, .drop, .drop, .drop, .drop], [])
def kp33 : KP := [(4, k33_4)]
noncomputable def q33 (n : Nat) (x : Args [T51, T51]) := evX l33 kp33 [none] Try.f33 (shV T4) n (encA [T51, T51] x)
noncomputable def c33 : Con := roS [T51, T51] true (shV T4) (q33 big)
theorem c33_ok : ConOk Try.prog 33 c33 := roS_ok ⟨Try.f33, by kernel_rfl, rfl, by decide⟩ fun _ _ h => evX_ok l33_ok (f := Try.f33) (by kernel_rfl) rfl (by kernel_rfl) (by kernel_rfl) big h
noncomputable def r33_4 (n : Nat) (x : KD k33_4.1) (y : BD k33_4.2) := rounds (env l33) kp33 (body Try.f33) (finX l33 [none] Try.f33 (shV T4) [.val T51 (zeroD T51), .val T51 (zeroD T51)]) n 4 k33_4 x y
theorem q33_eq (n : Nat) (a0 : T51.den) (a1 : T51.den) : q33 n (a0, a1, ()) =
    bif !decide ((↑(List.length a0) : Int) = (↑(List.length a1) : Int)) then some false
  else r33_4 n (a0, a1, (0 : Int), PUnit.unit) PUnit.unit := by kernel_rfl
theorem r33_4_eq (n : Nat) (s0 : Ty.den T51) (s1 : Ty.den T51) (s5 : Ty.den (.int .i64)) : r33_4 (n + 1) (s0, s1, s5, ()) () =
    bif decide (s5 < (↑(List.length s0) : Int)) then
    if (0 : Int) ≤ s5 then
      (nth s0 (Int.toNat s5)).bind fun y =>
        if (0 : Int) ≤ s5 then
          (nth s1 (Int.toNat s5)).bind fun y_1 =>
            (q85 big (y, y_1, ())).bind fun y =>
              bif !y then some false else r33_4 n (s0, s1, IntKind.i64.wrap (s5 + (1 : Int)), PUnit.unit) PUnit.unit
        else none
    else none
  else some true := by kernel_rfl

end Go.Sx.Try

set_option maxRecDepth 100000
namespace Go.Sx.Try
open Go Go.Sx Go.Proofs

noncomputable def l94 : List (Nat × Con) := [(42, c42)]
theorem l94_ok : ∀ q ∈ l94, ConOk Try.prog q.1 q.2 := all_cons c42_ok all_nil
abbrev k94_4 : List Keep × List BK := ([.ro T70, .ro T70, .drop, .drop, .drop, .ro (.int .i64), .drop, .drop, .drop, .drop, .drop, .drop, .drop, .drop, .drop, .drop, .drop, .drop, .drop, .drop, .drop, .drop, .drop, .drop, .drop, .drop, .drop], [])
def kp94 : KP := [(4, k94_4)]
noncomputable def q94 (n : Nat) (x : Args [T70, T70]) := evX l94 kp94 [none] Try.f94 (shV T4) n (encA [T70, T70] x)
noncomputable def c94 : Con := roS [T70, T70] true (shV T4) (q94 big)
theorem c94_ok : ConOk Try.prog 94 c94 := roS_ok ⟨Try.f94, by kernel_rfl, rfl, by decide⟩ fun _ _ h => evX_ok l94_ok (f := Try.f94) (by kernel_rfl) rfl (by kernel_rfl) (by kernel_rfl) big h
noncomputable def r94_4 (n : Nat) (x : KD k94_4.1) (y : BD k94_4.2) := rounds (env l94) kp94 (body Try.f94) (finX l94 [none] Try.f94 (shV T4) [.val T70 (zeroD T70), .val T70 (zeroD T70)]) n 4 k94_4 x y
theorem q94_eq (n : Nat) (a0 : T70.den) (a1 : T70.den) : q94 n (a0, a1, ()) =
    bif !decide ((↑(List.length a0) : Int) = (↑(List.length a1) : Int)) then some false
  else r94_4 n (a0, a1, (0 : Int), PUnit.unit) PUnit.unit := by kernel_rfl
theorem r94_4_eq (n : Nat) (s0 : Ty.den T70) (s1 : Ty.den T70) (s5 : Ty.den (.int .i64)) : r94_4 (n + 1) (s0, s1, s5, ()) () =
    bif decide (s5 < (↑(List.length s0) : Int)) then
    if (0 : Int) ≤ s5 then
      (nth s0 (Int.toNat s5)).bind fun y =>
        if (0 : Int) ≤ s5 then
          (nth s1 (Int.toNat s5)).bind fun y_1 =>
            (q42 big (y, y_1, ())).bind fun y =>
              bif !y then some false else r94_4 n (s0, s1, IntKind.i64.wrap (s5 + (1 : Int)), PUnit.unit) PUnit.unit
        else none
    else none
  else some true := by kernel_rfl

end Go.Sx.Try

set_option maxRecDepth 100000
namespace Go.Sx.Try
open Go Go.Sx Go.Proofs

noncomputable def l107 : List (Nat × Con) := []
theorem l107_ok : ∀ q ∈ l107, ConOk Try.prog q.1 q.2 := all_nil
def kp107 : KP := []
noncomputable def q107 (n : Nat) (x : Args [T148, T148]) := evX l107 kp107 [none] Try.f107 (shV T4) n (encA [T148, T148] x)
noncomputable def c107 : Con := roS [T148, T148] true (shV T4) (q107 big)
theorem c107_ok : ConOk Try.prog 107 c107 := roS_ok ⟨Try.f107, by kernel_rfl, rfl, by decide⟩ fun _ _ h => evX_ok l107_ok (f := Try.f107) (by kernel_rfl) rfl (by kernel_rfl) (by kernel_rfl) big h
theorem q107_eq (n : Nat) (a0 : T148.den) (a1 : T148.den) : q107 n (a0, a1, ()) =
    bif !decide (a0.fst = a1.fst) then some false
  else bif !decide (a0.snd.fst = a1.snd.fst) then some false else some true := by kernel_rfl

end Go.Sx.Try

set_option maxRecDepth 100000
namespace Go.Sx.Try
open Go Go.Sx Go.Proofs

noncomputable def l53 : List (Nat × Con) := [(107, c107)]
theorem l53_ok : ∀ q ∈ l53, ConOk Try.prog q.1 q.2 := all_cons c107_ok all_nil
abbrev k53_4 : List Keep × List BK := ([.ro T68, .ro T68, .drop, .drop, .drop, .ro (.int .i64), .drop, .drop, .drop, .drop, .drop, .drop, .drop, .drop, .drop, .drop, .drop, .drop, .drop, .drop, .drop, .drop, .drop, .drop, .drop, .drop, .drop], [])
def kp53 : KP := [(4, k53_4)]
noncomputable def q53 (n : Nat) (x : Args [T68, T68]) := evX l53 kp53 [none] Try.f53 (shV T4) n (encA [T68, T68] x)
noncomputable def c53 : Con := roS [T68, T68] true (shV T4) (q53 big)
theorem c53_ok : ConOk Try.prog 53 c53 := roS_ok ⟨Try.f53, by kernel_rfl, rfl, by decide⟩ fun _ _ h => evX_ok l53_ok (f := Try.f53) (by kernel_rfl) rfl (by kernel_rfl) (by kernel_rfl) big h
noncomputable def r53_4 (n : Nat) (x : KD k53_4.1) (y : BD k53_4.2) := rounds (env l53) kp53 (body Try.f53) (finX l53 [none] Try.f53 (shV T4) [.val T68 (zeroD T68), .val T68 (zeroD T68)]) n 4 k53_4 x y
theorem q53_eq (n : Nat) (a0 : T68.den) (a1 : T68.den) : q53 n (a0, a1, ()) =
    bif !decide ((↑(List.length a0) : Int) = (↑(List.length a1) : Int)) then some false
  else r53_4 n (a0, a1, (0 : Int), PUnit.unit) PUnit.unit := by kernel_rfl
theorem r53_4_eq (n : Nat) (s0 : Ty.den T68) (s1 : Ty.den T68) (s5 : Ty.den (.int .i64)) : r53_4 (n + 1) (s0, s1, s5, ()) () =
    bif decide (s5 < (↑(List.length s0) : Int)) then
    if (0 : Int) ≤ s5 then
      (nth s0 (Int.toNat s5)).bind fun y =>
        if (0 : Int) ≤ s5 then
          (nth s1 (Int.toNat s5)).bind fun y_1 =>
            (q107 big (y, y_1, ())).bind fun y =>
              bif !y then some false else r53_4 n (s0, s1, IntKind.i64.wrap (s5 + (1 : Int)), PUnit.unit) PUnit.unit
        else none
    else none
  else some true := by kernel_rfl

end Go.Sx.Try

set_option maxRecDepth 100000
namespace Go.Sx.Try
open Go Go.Sx Go.Proofs

noncomputable def l54 : List (Nat × Con) := []
theorem l54_ok : ∀ q ∈ l54, ConOk Try.prog q.1 q.2 := all_nil
abbrev k54_4 : List Keep × List BK := ([.ro T59, .ro T59, .drop, .drop, .drop, .ro (.int .i64), .drop, .drop, .drop, .drop, .drop, .drop, .drop, .drop, .drop, .drop, .drop, .drop, .drop, .drop, .drop, .drop, .drop, .drop, .drop, .drop], [])
def kp54 : KP := [(4, k54_4)]
noncomputable def q54 (n : Nat) (x : Args [T59, T59]) := evX l54 kp54 [none] Try.f54 (shV T4) n (encA [T59, T59] x)
noncomputable def c54 : Con := roS [T59, T59] true (shV T4) (q54 big)
theorem c54_ok : ConOk Try.prog 54 c54 := roS_ok ⟨Try.f54, by kernel_rfl, rfl, by decide⟩ fun _ _ h => evX_ok l54_ok (f := Try.f54) (by kernel_rfl) rfl (by kernel_rfl) (by kernel_rfl) big h
noncomputable def r54_4 (n : Nat) (x : KD k54_4.1) (y : BD k54_4.2) := rounds (env l54) kp54 (body Try.f54) (finX l54 [none] Try.f54 (shV T4) [.val T59 (zeroD T59), .val T59 (zeroD T59)]) n 4 k54_4 x y
theorem q54_eq (n : Nat) (a0 : T59.den) (a1 : T59.den) : q54 n (a0, a1, ()) =
    bif !decide ((↑(List.length a0) : Int) = (↑(List.length a1) : Int)) then some false
  else r54_4 n (a0, a1, (0 : Int), PUnit.unit) PUnit.unit := by kernel_rfl
theorem r54_4_eq (n : Nat) (s0 : Ty.den T59) (s1 : Ty.den T59) (s5 : Ty.den (.int .i64)) : r54_4 (n + 1) (s0, s1, s5, ()) () =
    bif decide (s5 < (↑(List.length s0) : Int)) then
    if (0 : Int) ≤ s5 then
      (nth s0 (Int.toNat s5)).bind fun y =>
        if (0 : Int) ≤ s5 then
          (nth s1 (Int.toNat s5)).bind fun y_1 =>
            bif !decide (y = y_1) then some false
            else r54_4 n (s0, s1, IntKind.i64.wrap (s5 + (1 : Int)), PUnit.unit) PUnit.unit
        else none
    else none
  else some true := by kernel_rfl

end Go.Sx.Try

set_option maxRecDepth 100000
namespace Go.Sx.Try
open Go Go.Sx Go.Proofs

noncomputable def l129 : List (Nat × Con) := []
theorem l129_ok : ∀ q ∈ l129, ConOk Try.prog q.1 q.2 := all_nil
def kp129 : KP := []
noncomputable def q129 (n : Nat) (x : Args [T168, T168]) := evX l129 kp129 [none] Try.f129 (shV T4) n (encA [T168, T168] x)
noncomputable def c129 : Con := roS [T168, T168] true (shV T4) (q129 big)
theorem c129_ok : ConOk Try.prog 129 c129 := roS_ok ⟨Try.f129, by kernel_rfl, rfl, by decide⟩ fun _ _ h => evX_ok l129_ok (f := Try.f129) (by kernel_rfl) rfl (by kernel_rfl) (by kernel_rfl) big h
theorem q129_eq (n : Nat) (a0 : T168.den) (a1 : T168.den) : q129 n (a0, a1, ()) =
    bif !decide (a0.fst = a1.fst) then some false
  else
    bif !a0.snd.fst == a1.snd.fst then some false
    else bif !decide (a0.snd.snd.fst = a1.snd.snd.fst) then some false else some true := by kernel_rfl

end Go.Sx.Try

set_option maxRecDepth 100000
namespace Go.Sx.Try
open Go Go.Sx Go.Proofs

noncomputable def l93 : List (Nat × Con) := [(129, c129)]
theorem l93_ok : ∀ q ∈ l93, ConOk Try.prog q.1 q.2 := all_cons c129_ok all_nil
abbrev k93_4 : List Keep × List BK := ([.ro T69, .ro T69, .drop, .drop, .drop, .ro (.int .i64), .drop, .drop, .drop, .drop, .drop, .drop, .drop, .drop, .drop, .drop, .drop, .drop, .drop, .drop, .drop, .drop, .drop, .drop, .drop, .drop, .drop], [])
def kp93 : KP := [(4, k93_4)]
noncomputable def q93 (n : Nat) (x : Args [T69, T69]) := evX l93 kp93 [none] Try.f93 (shV T4) n (encA [T69, T69] x)
noncomputable def c93 : Con := roS [T69, T69] true (shV T4) (q93 big)
theorem c93_ok : ConOk Try.prog 93 c93 := roS_ok ⟨Try.f93, by kernel_rfl, rfl, by decide⟩ fun _ _ h => evX_ok l93_ok (f := Try.f93) (by kernel_rfl) rfl (by kernel_rfl) (by kernel_rfl) big h
noncomputable def r93_4 (n : Nat) (x : KD k93_4.1) (y : BD k93_4.2) := rounds (env l93) kp93 (body Try.f93) (finX l93 [none] Try.f93 (shV T4) [.val T69 (zeroD T69), .val T69 (zeroD T69)]) n 4 k93_4 x y
theorem q93_eq (n : Nat) (a0 : T69.den) (a1 : T69.den) : q93 n (a0, a1, ()) =
    bif !decide ((↑(List.length a0) : Int) = (↑(List.length a1) : Int)) then some false
  else r93_4 n (a0, a1, (0 : Int), PUnit.unit) PUnit.unit := by kernel_rfl
theorem r93_4_eq (n : Nat) (s0 : Ty.den T69) (s1 : Ty.den T69) (s5 : Ty.den (.int .i64)) : r93_4 (n + 1) (s0, s1, s5, ()) () =
    bif decide (s5 < (↑(List.length s0) : Int)) then
    if (0 : Int) ≤ s5 then
      (nth s0 (Int.toNat s5)).bind fun y =>
        if (0 : Int) ≤ s5 then
          (nth s1 (Int.toNat s5)).bind fun y_1 =>
            (q129 big (y, y_1, ())).bind fun y =>
              bif !y then some false else r93_4 n (s0, s1, IntKind.i64.wrap (s5 + (1 : Int)), PUnit.unit) PUnit.unit
        else none
    else none
  else some true := by kernel_rfl

end Go.Sx.Try

set_option maxRecDepth 100000
namespace Go.Sx.Try
open Go Go.Sx Go.Proofs

noncomputable def l38 : List (Nat × Con) := [(22, c22), (45, c45), (53, c53), (54, c54), (66, c66), (93, c93), (94, c94)]
theorem l38_ok : ∀ q ∈ l38, ConOk Try.prog q.1 q.2 := all_cons c22_ok (all_cons c45_ok (all_cons c53_ok (all_cons c54_ok (all_cons c66_ok (all_cons c93_ok (all_cons c94_ok all_nil))))))
def kp38 : KP := []
noncomputable def q38 (n : Nat) (x : Args [T72, T72]) := evX l38 kp38 [none] Try.f38 (shV T4) n (encA [T72, T72] x)
noncomputable def c38 : Con := roS [T72, T72] true (shV T4) (q38 big)
theorem c38_ok : ConOk Try.prog 38 c38 := roS_ok ⟨Try.f38, by kernel_rfl, rfl, by decide⟩ fun _ _ h => evX_ok l38_ok (f := Try.f38) (by kernel_rfl) rfl (by kernel_rfl) (by kernel_rfl) big h
theorem q38_eq (n : Nat) (a0 : T72.den) (a1 : T72.den) : q38 n (a0, a1, ()) =
    bif !decide (a0.fst = a1.fst) then some false
  else
    bif !decide (a0.snd.fst = a1.snd.fst) then some false
    else
      (q45 big (a0.snd.snd.fst, a1.snd.snd.fst, ())).bind fun y =>
        bif !y then some false
        else
          (q45 big (a0.snd.snd.snd.fst, a1.snd.snd.snd.fst, ())).bind fun y =>
            bif !y then some false
            else
              (q66 big (a0.snd.snd.snd.snd.fst, a1.snd.snd.snd.snd.fst, ())).bind fun y =>
                bif !y then some false
                else
                  (q54 big (a0.snd.snd.snd.snd.snd.fst, a1.snd.snd.snd.snd.snd.fst, ())).bind fun y =>
                    bif !y then some false
                    else
                      (q53 big (a0.snd.snd.snd.snd.snd.snd.fst, a1.snd.snd.snd.snd.snd.snd.fst, ())).bind fun y =>
                        bif !y then some false
                        else
                          (q54 big (a0.snd.snd.snd.snd.snd.snd.snd.fst, a1.snd.snd.snd.snd.snd.snd.snd.fst, ())).bind
                            fun y =>
                            bif !y then some false
                            else
                              (q93 big
                                    (a0.snd.snd.snd.snd.snd.snd.snd.snd.fst, a1.snd.snd.snd.snd.snd.snd.snd.snd.fst,
                                      ())).bind
                                fun y =>
                                bif !y then some false
                                else
                                  (q22 big
                                        (a0.snd.snd.snd.snd.snd.snd.snd.snd.snd.fst,
                                          a1.snd.snd.snd.snd.snd.snd.snd.snd.snd.fst, ())).bind
                                    fun y =>
                                    bif !y then some false
                                    else
                                      (q94 big
                                            (a0.snd.snd.snd.snd.snd.snd.snd.snd.snd.snd.fst,
                                              a1.snd.snd.snd.snd.snd.snd.snd.snd.snd.snd.fst, ())).bind
                                        fun y =>
                                        bif !y then some false
                                        else
                                          bif
                                              !decide
                                                  (a0.snd.snd.snd.snd.snd.snd.snd.snd.snd.snd.snd.fst =
                                                    a1.snd.snd.snd.snd.snd.snd.snd.snd.snd.snd.snd.fst) then
                                            some false
                                          else some true := by kernel_rfl

end Go.Sx.Try

set_option maxRecDepth 100000
namespace Go.Sx.Try
open Go Go.Sx Go.Proofs

noncomputable def l113 : List (Nat × Con) := [(38, c38)]
theorem l113_ok : ∀ q ∈ l113, ConOk Try.prog q.1 q.2 := all_cons c38_ok all_nil
abbrev k113_4 : List Keep × List BK := ([.ro T102, .ro T102, .drop, .drop, .drop, .ro (.int .i64), .drop, .drop, .drop, .drop, .drop, .drop, .drop, .drop, .drop, .drop, .drop, .drop, .drop, .drop, .drop, .drop, .drop, .drop, .drop, .drop, .drop], [])
def kp113 : KP := [(4, k113_4)]
noncomputable def q113 (n : Nat) (x : Args [T102, T102]) := evX l113 kp113 [none] Try.f113 (shV T4) n (encA [T102, T102] x)
noncomputable def c113 : Con := roS [T102, T102] true (shV T4) (q113 big)
theorem c113_ok : ConOk Try.prog 113 c113 := roS_ok ⟨Try.f113, by kernel_rfl, rfl, by decide⟩ fun _ _ h => evX_ok l113_ok (f := Try.f113) (by kernel_rfl) rfl (by kernel_rfl) (by kernel_rfl) big h
noncomputable def r113_4 (n : Nat) (x : KD k113_4.1) (y : BD k113_4.2) := rounds (env l113) kp113 (body Try.f113) (finX l113 [none] Try.f113 (shV T4) [.val T102 (zeroD T102), .val T102 (zeroD T102)]) n 4 k113_4 x y
theorem q113_eq (n : Nat) (a0 : T102.den) (a1 : T102.den) : q113 n (a0, a1, ()) =
    bif !decide ((↑(List.length a0) : Int) = (↑(List.length a1) : Int)) then some false
  else r113_4 n (a0, a1, (0 : Int), PUnit.unit) PUnit.unit := by kernel_rfl
theorem r113_4_eq (n : Nat) (s0 : Ty.den T102) (s1 : Ty.den T102) (s5 : Ty.den (.int .i64)) : r113_4 (n + 1) (s0, s1, s5, ()) () =
    bif decide (s5 < (↑(List.length s0) : Int)) then
    if (0 : Int) ≤ s5 then
      (nth s0 (Int.toNat s5)).bind fun y =>
        if (0 : Int) ≤ s5 then
          (nth s1 (Int.toNat s5)).bind fun y_1 =>
            (q38 big (y, y_1, ())).bind fun y =>
              bif !y then some false else r113_4 n (s0, s1, IntKind.i64.wrap (s5 + (1 : Int)), PUnit.unit) PUnit.unit
        else none
    else none
  else some true := by kernel_rfl

end Go.Sx.Try

set_option maxRecDepth 100000
namespace Go.Sx.Try
open Go Go.Sx Go.Proofs

noncomputable def l63 : List (Nat × Con) := [(22, c22), (33, c33), (80, c80), (94, c94), (113, c113)]
theorem l63_ok : ∀ q ∈ l63, ConOk Try.prog q.1 q.2 := all_cons c22_ok (all_cons c33_ok (all_cons c80_ok (all_cons c94_ok (all_cons c113_ok all_nil))))
def kp63 : KP := []
noncomputable def q63 (n : Nat) (x : Args [T105, T105]) := evX l63 kp63 [none] Try.f63 (shV T4) n (encA [T105, T105] x)
noncomputable def c63 : Con := roS [T105, T105] true (shV T4) (q63 big)
theorem c63_ok : ConOk Try.prog 63 c63 := roS_ok ⟨Try.f63, by kernel_rfl, rfl, by decide⟩ fun _ _ h => evX_ok l63_ok (f := Try.f63) (by kernel_rfl) rfl (by kernel_rfl) (by kernel_rfl) big h
theorem q63_eq (n : Nat) (a0 : T105.den) (a1 : T105.den) : q63 n (a0, a1, ()) =
    bif !decide (a0.fst = a1.fst) then some false
  else
    bif !a0.snd.fst == a1.snd.fst then some false
    else
      bif !decide (a0.snd.snd.fst = a1.snd.snd.fst) then some false
      else
        (q33 big (a0.snd.snd.snd.fst, a1.snd.snd.snd.fst, ())).bind fun y =>
          bif !y then some false
          else
            (q113 big (a0.snd.snd.snd.snd.fst, a1.snd.snd.snd.snd.fst, ())).bind fun y =>
              bif !y then some false
              else
                (q94 big (a0.snd.snd.snd.snd.snd.fst, a1.snd.snd.snd.snd.snd.fst, ())).bind fun y =>
                  bif !y then some false
                  else
                    (q22 big (a0.snd.snd.snd.snd.snd.snd.fst, a1.snd.snd.snd.snd.snd.snd.fst, ())).bind fun y =>
                      bif !y then some false
                      else
                        (q80 big (a0.snd.snd.snd.snd.snd.snd.snd.fst, a1.snd.snd.snd.snd.snd.snd.snd.fst, ())).bind
                          fun y => bif !y then some false else some true := by kernel_rfl

end Go.Sx.Try

set_option maxRecDepth 100000
namespace Go.Sx.Try
open Go Go.Sx Go.Proofs

noncomputable def l12 : List (Nat × Con) := [(42, c42), (59, c59), (60, c60), (61, c61), (62, c62), (63, c63)]
theorem l12_ok : ∀ q ∈ l12, ConOk Try.prog q.1 q.2 := all_cons c42_ok (all_cons c59_ok (all_cons c60_ok (all_cons c61_ok (all_cons c62_ok (all_cons c63_ok all_nil)))))
def kp12 : KP := []
noncomputable def q12 (n : Nat) (x : Args [T99, T3, T3, T3, T3]) := evX l12 kp12 [none] Try.f12 (shV T4) n (encA [T99, T3, T3, T3, T3] x)
noncomputable def c12 : Con := roS [T99, T3, T3, T3, T3] true (shV T4) (q12 big)
theorem c12_ok : ConOk Try.prog 12 c12 := roS_ok ⟨Try.f12, by kernel_rfl, rfl, by decide⟩ fun _ _ h => evX_ok l12_ok (f := Try.f12) (by kernel_rfl) rfl (by kernel_rfl) (by kernel_rfl) big h
theorem q12_eq (n : Nat) (a0 : T99.den) (a1 : T3.den) (a2 : T3.den) (a3 : T3.den) (a4 : T3.den) : q12 n (a0, a1, a2, a3, a4, ()) =
    (q59 big (a0, (1048576 : Int), ())).bind fun y =>
    bif decide (y < (0 : Int)) then some true
    else
      (q61 big (a0, ())).bind fun y =>
        (q60 big (y, a1, a2, a3, a4, ())).bind fun y =>
          (q61 big (a0, ())).bind fun y_1 =>
            (q62 big (y_1, a1, a2, a3, a4, ())).bind fun y_2 =>
              (q42 big (y_2, y, ())).bind fun y =>
                bif !y then some false
                else
                  both
                    ((q61 big (a0, ())).bind fun y =>
                      (q63 big (y_1, y, ())).bind fun y => bif !y then some false else some true)
                    ((q61 big (a0, ())).bind fun y =>
                      (q63 big (y_1, y, ())).bind fun y => bif !y then some false else some true) := by kernel_rfl

end Go.Sx.Try
