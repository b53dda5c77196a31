/- The functions of the seat: how each is evaluated. -/
import Derived.Test.YthjmknhkfkofgaaTypes
import Derived.Test.YthjmknhkfkofgaaM6
set_option linter.unusedVariables false
set_option maxRecDepth 100000
namespace Go.Sx.Try
open Go Go.Sx Go.Proofs

def env (l : List (Nat × Con)) : Env := ⟨assoc tis, eqs, assoc l⟩
theorem envOk {l : List (Nat × Con)} (h : ∀ q ∈ l, ConOk Try.prog q.1 q.2) : EnvOk Try.prog (env l) :=
  { ti := tisOk (env l) rfl, eqs := eqsOk (env l) rfl rfl, tbl := tbl_ok h }

def body (f : Func) : Code := f.body.getD .skip
abbrev KP : Type := List (Nat × (List Keep × List BK))

/-- a function's evaluation -/
noncomputable def finX {X : Type} (l : List (Nat × Con)) (rt : List (Option Ty)) (f : Func) (s : Sh X) (args : List SV) : Ex → St → Option X :=
  fun e st => (finK (env l) rt f.results.toList (enterL [] args).2.2 e st).bind s.un
noncomputable def evX {X : Type} (l : List (Nat × Con)) (kp : KP) (rt : List (Option Ty)) (f : Func) (s : Sh X) (N : Nat) (args : List SV) : Option X :=
  ev (env l) (Lr (env l) kp (body f) (finX l rt f s args) N) (body f) (startSt f.ntmps args) (finX l rt f s args)

theorem evX_ok {X : Type} {l : List (Nat × Con)} (hl : ∀ q ∈ l, ConOk Try.prog q.1 q.2) {kp : KP} {rt : List (Option Ty)} {s : Sh X} {n : FuncId} {f : Func} {b : Code} (hf : Try.prog.funcs[n]? = some f) (hb : f.body = some b) (hn : noDup (idsOf kp b) = true)
    {args : List SV} (hbx : boxesOk args kp = true) (N : Nat) {v : X} (h : evX l kp rt f s N args = some v) : CallOk Try.prog n args (s.sh v).1 (s.sh v).2 := by
  have e : body f = b := by unfold body; rw [hb]; rfl
  unfold evX at h
  rw [e] at h
  refine fn_ok (rt := rt) (envOk hl) hf hb hn hbx N (fun e st he => ?_) h
  obtain ⟨r, h1, h2⟩ := Option.bind_eq_some_iff.1 he
  rw [h1, s.ok r v h2]

/-- enough rounds -/
def big : Nat := 4611686018427387904

theorem all_nil : ∀ q ∈ ([] : List (Nat × Con)), ConOk Try.prog q.1 q.2 := fun _ h => by cases h
theorem all_cons {n : Nat} {c : Con} {l : List (Nat × Con)} (h : ConOk Try.prog n c) (t : ∀ q ∈ l, ConOk Try.prog q.1 q.2) : ∀ q ∈ (n, c) :: l, ConOk Try.prog q.1 q.2 := fun q hq => by
  rcases List.mem_cons.1 hq with rfl | hq
  · exact h
  · exact t q hq

end Go.Sx.Try

set_option maxRecDepth 100000
namespace Go.Sx.Try
open Go Go.Sx Go.Proofs

noncomputable def l67 : List (Nat × Con) := []
theorem l67_ok : ∀ q ∈ l67, ConOk Try.prog q.1 q.2 := Try.all_nil
def kp67 : KP := []
noncomputable def q67 (n : Nat) (x : Args [T23, T3]) := evX l67 kp67 [none] Try.f67 (shV T3) n (encA [T23, T3] x)
noncomputable def c67 : Con := roS [T23, T3] true (shV T3) (q67 big)
theorem c67_ok : ConOk Try.prog 67 c67 := roS_ok ⟨Try.f67, by kernel_rfl, rfl, by decide⟩ fun _ _ h => evX_ok l67_ok (f := Try.f67) (by kernel_rfl) rfl (by kernel_rfl) (by kernel_rfl) big h
theorem q67_eq (n : Nat) (a0 : T23.den) (a1 : T3.den) : q67 n (a0, a1, ()) =
    bif decide (IntKind.i64.wrap (a1 - (↑(ByteArray.size a0.snd.fst) : Int)) < (0 : Int)) then some (-1 : Int)
  else some (IntKind.i64.wrap (a1 - (↑(ByteArray.size a0.snd.fst) : Int))) := by kernel_rfl

end Go.Sx.Try

set_option maxRecDepth 100000
namespace Go.Sx.Try
open Go Go.Sx Go.Proofs

noncomputable def l75 : List (Nat × Con) := [(67, c67)]
theorem l75_ok : ∀ q ∈ l75, ConOk Try.prog q.1 q.2 := Try.all_cons c67_ok (Try.all_nil)
abbrev k75_5 : List Keep × List BK := ([.ro T97, .ro (.int .i64), .drop, .drop, .drop, .ro (.int .i64), .drop, .drop, .drop, .drop, .drop, .drop, .drop, .drop, .drop, .drop, .drop, .drop, .drop, .drop, .drop, .drop, .drop, .drop, .drop, .drop, .drop], [])
def kp75 : KP := [(5, k75_5)]
noncomputable def q75 (n : Nat) (x : Args [T97, T3]) := evX l75 kp75 [none] Try.f75 (shV T3) n (encA [T97, T3] x)
noncomputable def c75 : Con := roS [T97, T3] true (shV T3) (q75 big)
theorem c75_ok : ConOk Try.prog 75 c75 := roS_ok ⟨Try.f75, by kernel_rfl, rfl, by decide⟩ fun _ _ h => evX_ok l75_ok (f := Try.f75) (by kernel_rfl) rfl (by kernel_rfl) (by kernel_rfl) big h
noncomputable def r75_5 (n : Nat) (x : KD k75_5.1) (y : BD k75_5.2) := rounds (env l75) kp75 (body Try.f75) (finX l75 [none] Try.f75 (shV T3) [.val T97 (zeroD T97), .val T3 (zeroD T3)]) n 5 k75_5 x y
theorem q75_eq (n : Nat) (a0 : T97.den) (a1 : T3.den) : q75 n (a0, a1, ()) =
    bif decide (IntKind.i64.wrap (a1 - (↑(List.length a0) : Int)) < (0 : Int)) then some (-1 : Int)
  else r75_5 n (a0, IntKind.i64.wrap (a1 - (↑(List.length a0) : Int)), (0 : Int), PUnit.unit) PUnit.unit := by kernel_rfl
theorem r75_5_eq (n : Nat) (s0 : Ty.den T97) (s1 : Ty.den (.int .i64)) (s5 : Ty.den (.int .i64)) : r75_5 (n + 1) (s0, s1, s5, ()) () =
    bif decide (s5 < (↑(List.length s0) : Int)) then
    if (0 : Int) ≤ s5 then
      (nth s0 (Int.toNat s5)).bind fun y =>
        (q67 big (y, s1, ())).bind fun y =>
          bif decide (y < (0 : Int)) then some (-1 : Int)
          else r75_5 n (s0, y, IntKind.i64.wrap (s5 + (1 : Int)), PUnit.unit) PUnit.unit
    else none
  else some s1 := by kernel_rfl

end Go.Sx.Try

set_option maxRecDepth 100000
namespace Go.Sx.Try
open Go Go.Sx Go.Proofs

noncomputable def l81 : List (Nat × Con) := [(75, c75)]
theorem l81_ok : ∀ q ∈ l81, ConOk Try.prog q.1 q.2 := Try.all_cons c75_ok (Try.all_nil)
def kp81 : KP := []
noncomputable def q81 (n : Nat) (x : Args [T125, T3]) := evX l81 kp81 [none] Try.f81 (shV T3) n (encA [T125, T3] x)
noncomputable def c81 : Con := roS [T125, T3] true (shV T3) (q81 big)
theorem c81_ok : ConOk Try.prog 81 c81 := roS_ok ⟨Try.f81, by kernel_rfl, rfl, by decide⟩ fun _ _ h => evX_ok l81_ok (f := Try.f81) (by kernel_rfl) rfl (by kernel_rfl) (by kernel_rfl) big h
theorem q81_eq (n : Nat) (a0 : T125.den) (a1 : T3.den) : q81 n (a0, a1, ()) =
    (q75 big (a0.snd.snd.fst, a1, ())).bind fun y => bif decide (y < (0 : Int)) then some (-1 : Int) else some y := by kernel_rfl

end Go.Sx.Try

set_option maxRecDepth 100000
namespace Go.Sx.Try
open Go Go.Sx Go.Proofs

noncomputable def l28 : List (Nat × Con) := [(81, c81)]
theorem l28_ok : ∀ q ∈ l28, ConOk Try.prog q.1 q.2 := Try.all_cons c81_ok (Try.all_nil)
abbrev k28_5 : List Keep × List BK := ([.ro T46, .ro (.int .i64), .drop, .drop, .drop, .ro (.int .i64), .drop, .drop, .drop, .drop, .drop, .drop, .drop, .drop, .drop, .drop, .drop, .drop, .drop, .drop, .drop, .drop, .drop, .drop, .drop, .drop, .drop], [])
def kp28 : KP := [(5, k28_5)]
noncomputable def q28 (n : Nat) (x : Args [T46, T3]) := evX l28 kp28 [none] Try.f28 (shV T3) n (encA [T46, T3] x)
noncomputable def c28 : Con := roS [T46, T3] true (shV T3) (q28 big)
theorem c28_ok : ConOk Try.prog 28 c28 := roS_ok ⟨Try.f28, by kernel_rfl, rfl, by decide⟩ fun _ _ h => evX_ok l28_ok (f := Try.f28) (by kernel_rfl) rfl (by kernel_rfl) (by kernel_rfl) big h
noncomputable def r28_5 (n : Nat) (x : KD k28_5.1) (y : BD k28_5.2) := rounds (env l28) kp28 (body Try.f28) (finX l28 [none] Try.f28 (shV T3) [.val T46 (zeroD T46), .val T3 (zeroD T3)]) n 5 k28_5 x y
theorem q28_eq (n : Nat) (a0 : T46.den) (a1 : T3.den) : q28 n (a0, a1, ()) =
    bif decide (IntKind.i64.wrap (a1 - (↑(List.length a0) : Int)) < (0 : Int)) then some (-1 : Int)
  else r28_5 n (a0, IntKind.i64.wrap (a1 - (↑(List.length a0) : Int)), (0 : Int), PUnit.unit) PUnit.unit := by kernel_rfl
theorem r28_5_eq (n : Nat) (s0 : Ty.den T46) (s1 : Ty.den (.int .i64)) (s5 : Ty.den (.int .i64)) : r28_5 (n + 1) (s0, s1, s5, ()) () =
    bif decide (s5 < (↑(List.length s0) : Int)) then
    if (0 : Int) ≤ s5 then
      (nth s0 (Int.toNat s5)).bind fun y =>
        (q81 big (y, s1, ())).bind fun y =>
          bif decide (y < (0 : Int)) then some (-1 : Int)
          else r28_5 n (s0, y, IntKind.i64.wrap (s5 + (1 : Int)), PUnit.unit) PUnit.unit
    else none
  else some s1 := by kernel_rfl

end Go.Sx.Try

set_option maxRecDepth 100000
namespace Go.Sx.Try
open Go Go.Sx Go.Proofs

noncomputable def l70 : List (Nat × Con) := []
theorem l70_ok : ∀ q ∈ l70, ConOk Try.prog q.1 q.2 := Try.all_nil
def kp70 : KP := []
noncomputable def q70 (n : Nat) (x : Args [T23]) := evX l70 kp70 [none] Try.f70 (shV T28) n (encA [T23] x)
noncomputable def c70 : Con := roS [T23] true (shV T28) (q70 big)
theorem c70_ok : ConOk Try.prog 70 c70 := roS_ok ⟨Try.f70, by kernel_rfl, rfl, by decide⟩ fun _ _ h => evX_ok l70_ok (f := Try.f70) (by kernel_rfl) rfl (by kernel_rfl) (by kernel_rfl) big h
theorem q70_eq (n : Nat) (a0 : T23.den) : q70 n (a0, ()) =
    some a0 := by kernel_rfl

end Go.Sx.Try

set_option maxRecDepth 100000
namespace Go.Sx.Try
open Go Go.Sx Go.Proofs

noncomputable def l76 : List (Nat × Con) := [(70, c70)]
theorem l76_ok : ∀ q ∈ l76, ConOk Try.prog q.1 q.2 := Try.all_cons c70_ok (Try.all_nil)
abbrev k76_3 : List Keep × List BK := ([.ro T97, .drop, .drop, .is (.own 0 0), .ro (.int .i64), .drop, .drop, .drop, .drop, .drop, .drop, .drop, .drop, .drop, .drop, .drop, .drop, .drop, .drop, .drop, .drop, .drop, .drop], [.arr T28])
def kp76 : KP := [(3, k76_3)]
noncomputable def q76 (n : Nat) (x : Args [T97]) := evX l76 kp76 [some (.sl true T28)] Try.f76 (shF (.sl true T28)) n (encA [T97] x)
noncomputable def c76 : Con := roS [T97] true (shF (.sl true T28)) (q76 big)
theorem c76_ok : ConOk Try.prog 76 c76 := roS_ok ⟨Try.f76, by kernel_rfl, rfl, by decide⟩ fun _ _ h => evX_ok l76_ok (f := Try.f76) (by kernel_rfl) rfl (by kernel_rfl) (by kernel_rfl) big h
noncomputable def r76_3 (n : Nat) (x : KD k76_3.1) (y : BD k76_3.2) := rounds (env l76) kp76 (body Try.f76) (finX l76 [some (.sl true T28)] Try.f76 (shF (.sl true T28)) [.val T97 (zeroD T97)]) n 3 k76_3 x y
theorem q76_eq (n : Nat) (a0 : T97.den) : q76 n (a0, ()) =
    if (↑(List.length a0) : Int) ≤ (↑(List.length a0) : Int) then
    if (↑(List.length a0) : Int) ≤ (↑lim : Int) then
      r76_3 n (a0, (0 : Int), PUnit.unit) (List.replicate (↑(List.length a0) : Int).toNat (zeroD T28), PUnit.unit)
    else none
  else none := by kernel_rfl
theorem r76_3_eq (n : Nat) (s0 : Ty.den T97) (s4 : Ty.den (.int .i64)) (b0 : List (Ty.den T28)) : r76_3 (n + 1) (s0, s4, ()) (b0, ()) =
    bif decide (s4 < (↑(List.length s0) : Int)) then
    if (0 : Int) ≤ s4 then
      (nth s0 (Int.toNat s4)).bind fun y =>
        if (0 : Int) ≤ s4 then
          if s4 < (↑b0.length : Int) then
            (nth b0 (Int.toNat s4)).bind fun y_1 =>
              r76_3 n (s0, IntKind.i64.wrap (s4 + (1 : Int)), PUnit.unit) (upd b0 (Int.toNat s4) y, PUnit.unit)
          else none
        else none
    else none
  else some b0 := by kernel_rfl

end Go.Sx.Try

set_option maxRecDepth 100000
namespace Go.Sx.Try
open Go Go.Sx Go.Proofs

noncomputable def l31 : List (Nat × Con) := []
theorem l31_ok : ∀ q ∈ l31, ConOk Try.prog q.1 q.2 := Try.all_nil
def kp31 : KP := []
noncomputable def q31 (n : Nat) (x : Args [T48]) := evX l31 kp31 [none] Try.f31 (shV T53) n (encA [T48] x)
noncomputable def c31 : Con := roS [T48] true (shV T53) (q31 big)
theorem c31_ok : ConOk Try.prog 31 c31 := roS_ok ⟨Try.f31, by kernel_rfl, rfl, by decide⟩ fun _ _ h => evX_ok l31_ok (f := Try.f31) (by kernel_rfl) rfl (by kernel_rfl) (by kernel_rfl) big h
theorem q31_eq (n : Nat) (a0 : T48.den) : q31 n (a0, ()) =
    some a0 := by kernel_rfl

end Go.Sx.Try

set_option maxRecDepth 100000
namespace Go.Sx.Try
open Go Go.Sx Go.Proofs

noncomputable def l83 : List (Nat × Con) := [(76, c76), (31, c31)]
theorem l83_ok : ∀ q ∈ l83, ConOk Try.prog q.1 q.2 := Try.all_cons c76_ok (Try.all_cons c31_ok (Try.all_nil))
def kp83 : KP := []
noncomputable def q83 (n : Nat) (x : Args [T125]) := evX l83 kp83 [some (.pair T3 (.pair T3 (.pair (.sl true T28) (.pair (.pair T3 (.pair T3 (.pair T3 (.pair T3 .unit)))) .unit))))] Try.f83 (shF (.pair T3 (.pair T3 (.pair (.sl true T28) (.pair (.pair T3 (.pair T3 (.pair T3 (.pair T3 .unit)))) .unit))))) n (encA [T125] x)
noncomputable def c83 : Con := roS [T125] true (shF (.pair T3 (.pair T3 (.pair (.sl true T28) (.pair (.pair T3 (.pair T3 (.pair T3 (.pair T3 .unit)))) .unit))))) (q83 big)
theorem c83_ok : ConOk Try.prog 83 c83 := roS_ok ⟨Try.f83, by kernel_rfl, rfl, by decide⟩ fun _ _ h => evX_ok l83_ok (f := Try.f83) (by kernel_rfl) rfl (by kernel_rfl) (by kernel_rfl) big h
theorem q83_eq (n : Nat) (a0 : T125.den) : q83 n (a0, ()) =
    (q76 big (a0.snd.snd.fst, ())).bind fun y => some (a0.fst, a0.snd.fst, y, a0.snd.snd.snd) := by kernel_rfl

end Go.Sx.Try

set_option maxRecDepth 100000
namespace Go.Sx.Try
open Go Go.Sx Go.Proofs

noncomputable def l30 : List (Nat × Con) := [(83, c83)]
theorem l30_ok : ∀ q ∈ l30, ConOk Try.prog q.1 q.2 := Try.all_cons c83_ok (Try.all_nil)
abbrev k30_3 : List Keep × List BK := ([.ro T46, .drop, .drop, .is (.own 0 0), .ro (.int .i64), .drop, .drop, .drop, .drop, .drop, .drop, .drop, .drop, .drop, .drop, .drop, .drop, .drop, .drop, .drop, .drop, .drop, .drop], [.arr T128])
def kp30 : KP := [(3, k30_3)]
noncomputable def q30 (n : Nat) (x : Args [T46]) := evX l30 kp30 [some (.sl true T128)] Try.f30 (shF (.sl true T128)) n (encA [T46] x)
noncomputable def c30 : Con := roS [T46] false (shF (.sl true T128)) (q30 big)
theorem c30_ok : ConOk Try.prog 30 c30 := roS_ok ⟨Try.f30, by kernel_rfl, rfl, by decide⟩ fun _ _ h => evX_ok l30_ok (f := Try.f30) (by kernel_rfl) rfl (by kernel_rfl) (by kernel_rfl) big h
noncomputable def r30_3 (n : Nat) (x : KD k30_3.1) (y : BD k30_3.2) := rounds (env l30) kp30 (body Try.f30) (finX l30 [some (.sl true T128)] Try.f30 (shF (.sl true T128)) [.val T46 (zeroD T46)]) n 3 k30_3 x y
theorem q30_eq (n : Nat) (a0 : T46.den) : q30 n (a0, ()) =
    if (↑(List.length a0) : Int) ≤ (↑(List.length a0) : Int) then
    if (↑(List.length a0) : Int) ≤ (↑lim : Int) then
      r30_3 n (a0, (0 : Int), PUnit.unit) (List.replicate (↑(List.length a0) : Int).toNat (zeroD T128), PUnit.unit)
    else none
  else none := by kernel_rfl
theorem r30_3_eq (n : Nat) (s0 : Ty.den T46) (s4 : Ty.den (.int .i64)) (b0 : List (Ty.den T128)) : r30_3 (n + 1) (s0, s4, ()) (b0, ()) =
    bif decide (s4 < (↑(List.length s0) : Int)) then
    if (0 : Int) ≤ s4 then
      (nth s0 (Int.toNat s4)).bind fun y =>
        (q83 big (y, ())).bind fun y =>
          if (0 : Int) ≤ s4 then
            if s4 < (↑b0.length : Int) then
              (nth b0 (Int.toNat s4)).bind fun y_1 =>
                r30_3 n (s0, IntKind.i64.wrap (s4 + (1 : Int)), PUnit.unit) (upd b0 (Int.toNat s4) y, PUnit.unit)
            else none
          else none
    else none
  else some b0 := by kernel_rfl

end Go.Sx.Try

set_option maxRecDepth 100000
namespace Go.Sx.Try
open Go Go.Sx Go.Proofs

noncomputable def l68 : List (Nat × Con) := []
theorem l68_ok : ∀ q ∈ l68, ConOk Try.prog q.1 q.2 := Try.all_nil
def kp68 : KP := []
noncomputable def q68 (n : Nat) (x : Args [T3, T3, T3]) := evX l68 kp68 [none] Try.f68 (shV T4) n (encA [T3, T3, T3] x)
noncomputable def c68 : Con := roS [T3, T3, T3] true (shV T4) (q68 big)
theorem c68_ok : ConOk Try.prog 68 c68 := roS_ok ⟨Try.f68, by kernel_rfl, rfl, by decide⟩ fun _ _ h => evX_ok l68_ok (f := Try.f68) (by kernel_rfl) rfl (by kernel_rfl) (by kernel_rfl) big h
theorem q68_eq (n : Nat) (a0 : T3.den) (a1 : T3.den) (a2 : T3.den) : q68 n (a0, a1, a2, ()) =
    bif decide (a1 ≤ a0) then some (decide (a0 ≤ a2)) else some false := by kernel_rfl

end Go.Sx.Try

set_option maxRecDepth 100000
namespace Go.Sx.Try
open Go Go.Sx Go.Proofs

noncomputable def l121 : List (Nat × Con) := [(68, c68)]
theorem l121_ok : ∀ q ∈ l121, ConOk Try.prog q.1 q.2 := Try.all_cons c68_ok (Try.all_nil)
abbrev k121_2 : List Keep × List BK := ([.ro T51, .ro T3, .drop, .drop, .drop, .ro (.int .i64), .drop, .drop, .drop, .drop, .drop, .drop, .drop, .drop, .drop, .drop, .drop, .drop, .drop, .drop, .drop, .drop, .drop, .drop, .drop, .drop, .drop, .drop, .drop, .drop, .drop, .drop, .drop, .drop, .drop, .drop], [])
def kp121 : KP := [(2, k121_2)]
noncomputable def q121 (n : Nat) (x : Args [T51, T3]) := evX l121 kp121 [none] Try.f121 (shV T3) n (encA [T51, T3] x)
noncomputable def c121 : Con := roS [T51, T3] true (shV T3) (q121 big)
theorem c121_ok : ConOk Try.prog 121 c121 := roS_ok ⟨Try.f121, by kernel_rfl, rfl, by decide⟩ fun _ _ h => evX_ok l121_ok (f := Try.f121) (by kernel_rfl) rfl (by kernel_rfl) (by kernel_rfl) big h
noncomputable def r121_2 (n : Nat) (x : KD k121_2.1) (y : BD k121_2.2) := rounds (env l121) kp121 (body Try.f121) (finX l121 [none] Try.f121 (shV T3) [.val T51 (zeroD T51), .val T3 (zeroD T3)]) n 2 k121_2 x y
theorem q121_eq (n : Nat) (a0 : T51.den) (a1 : T3.den) : q121 n (a0, a1, ()) =
    r121_2 n (a0, a1, (0 : Int), PUnit.unit) PUnit.unit := by kernel_rfl
theorem r121_2_eq (n : Nat) (s0 : Ty.den T51) (s1 : Ty.den T3) (s5 : Ty.den (.int .i64)) : r121_2 (n + 1) (s0, s1, s5, ()) () =
    bif !decide (s1 = (0 : Int)) then
    (q68 big (s1, (0 : Int), IntKind.i64.wrap ((↑(List.length s0) : Int) - (1 : Int)), ())).bind fun y =>
      bif !y then some (-1 : Int)
      else
        if (0 : Int) ≤ s1 then
          (nth s0 (Int.toNat s1)).bind fun y =>
            (q68 big (y.fst, (0 : Int), IntKind.i64.wrap (s1 - (1 : Int)), ())).bind fun y =>
              bif !y then some (-1 : Int)
              else
                if (0 : Int) ≤ s1 then
                  (nth s0 (Int.toNat s1)).bind fun y =>
                    r121_2 n (s0, y.fst, IntKind.i64.wrap (s5 + (1 : Int)), PUnit.unit) PUnit.unit
                else none
        else none
  else bif decide ((↑(List.length s0) : Int) = (0 : Int)) then some (-1 : Int) else some s5 := by kernel_rfl

end Go.Sx.Try

set_option maxRecDepth 100000
namespace Go.Sx.Try
open Go Go.Sx Go.Proofs

noncomputable def l82 : List (Nat × Con) := [(121, c121)]
theorem l82_ok : ∀ q ∈ l82, ConOk Try.prog q.1 q.2 := Try.all_cons c121_ok (Try.all_nil)
abbrev k82_3 : List Keep × List BK := ([.ro T51, .ro T3, .ro T3, .drop, .drop, .drop, .drop, .drop, .drop, .drop, .drop, .drop, .drop, .drop, .drop, .drop, .drop, .drop, .drop, .drop, .drop, .drop, .drop, .drop, .drop, .drop], [])
def kp82 : KP := [(3, k82_3)]
noncomputable def q82 (n : Nat) (x : Args [T51, T3, T3]) := evX l82 kp82 [none] Try.f82 (shV T4) n (encA [T51, T3, T3] x)
noncomputable def c82 : Con := roS [T51, T3, T3] true (shV T4) (q82 big)
theorem c82_ok : ConOk Try.prog 82 c82 := roS_ok ⟨Try.f82, by kernel_rfl, rfl, by decide⟩ fun _ _ h => evX_ok l82_ok (f := Try.f82) (by kernel_rfl) rfl (by kernel_rfl) (by kernel_rfl) big h
noncomputable def r82_3 (n : Nat) (x : KD k82_3.1) (y : BD k82_3.2) := rounds (env l82) kp82 (body Try.f82) (finX l82 [none] Try.f82 (shV T4) [.val T51 (zeroD T51), .val T3 (zeroD T3), .val T3 (zeroD T3)]) n 3 k82_3 x y
theorem q82_eq (n : Nat) (a0 : T51.den) (a1 : T3.den) (a2 : T3.den) : q82 n (a0, a1, a2, ()) =
    (q121 big (a0, a1, ())).bind fun y =>
    bif decide (y < (0 : Int)) then some false else r82_3 n (a0, a1, a2, PUnit.unit) PUnit.unit := by kernel_rfl
theorem r82_3_eq (n : Nat) (s0 : Ty.den T51) (s1 : Ty.den T3) (s2 : Ty.den T3) : r82_3 (n + 1) (s0, s1, s2, ()) () =
    bif decide ((0 : Int) < s1) then
    bif !decide (s1 = s2) then
      if (0 : Int) ≤ s1 then (nth s0 (Int.toNat s1)).bind fun y => r82_3 n (s0, y.fst, s2, PUnit.unit) PUnit.unit
      else none
    else some (decide (s1 = s2))
  else some (decide (s1 = s2)) := by kernel_rfl

end Go.Sx.Try

set_option maxRecDepth 100000
namespace Go.Sx.Try
open Go Go.Sx Go.Proofs

noncomputable def l29 : List (Nat × Con) := [(68, c68), (82, c82)]
theorem l29_ok : ∀ q ∈ l29, ConOk Try.prog q.1 q.2 := Try.all_cons c68_ok (Try.all_cons c82_ok (Try.all_nil))
def kp29 : KP := []
noncomputable def q29 (n : Nat) (x : Args [T51, T53, T3]) := evX l29 kp29 [none] Try.f29 (shV T4) n (encA [T51, T53, T3] x)
noncomputable def c29 : Con := roS [T51, T53, T3] true (shV T4) (q29 big)
theorem c29_ok : ConOk Try.prog 29 c29 := roS_ok ⟨Try.f29, by kernel_rfl, rfl, by decide⟩ fun _ _ h => evX_ok l29_ok (f := Try.f29) (by kernel_rfl) rfl (by kernel_rfl) (by kernel_rfl) big h
theorem q29_eq (n : Nat) (a0 : T51.den) (a1 : T53.den) (a2 : T3.den) : q29 n (a0, a1, a2, ()) =
    (q68 big (a2, (0 : Int), IntKind.i64.wrap ((↑(List.length a0) : Int) - (1 : Int)), ())).bind fun y =>
    bif !y then some false
    else
      (q82 big (a0, a2, a1.snd.snd.fst, ())).bind fun y =>
        bif y then some true
        else
          if (0 : Int) ≤ a2 then
            (nth a0 (Int.toNat a2)).bind fun y => some (decide (a1.snd.fst < y.snd.snd.snd.fst.snd.fst))
          else none := by kernel_rfl

end Go.Sx.Try

set_option maxRecDepth 100000
namespace Go.Sx.Try
open Go Go.Sx Go.Proofs

noncomputable def l71 : List (Nat × Con) := []
theorem l71_ok : ∀ q ∈ l71, ConOk Try.prog q.1 q.2 := Try.all_nil
def kp71 : KP := []
noncomputable def q71 (n : Nat) (x : Args [T3, T3, T3]) := evX l71 kp71 [none] Try.f71 (shV T4) n (encA [T3, T3, T3] x)
noncomputable def c71 : Con := roS [T3, T3, T3] true (shV T4) (q71 big)
theorem c71_ok : ConOk Try.prog 71 c71 := roS_ok ⟨Try.f71, by kernel_rfl, rfl, by decide⟩ fun _ _ h => evX_ok l71_ok (f := Try.f71) (by kernel_rfl) rfl (by kernel_rfl) (by kernel_rfl) big h
theorem q71_eq (n : Nat) (a0 : T3.den) (a1 : T3.den) (a2 : T3.den) : q71 n (a0, a1, a2, ()) =
    bif decide (a1 ≤ a0) then some (decide (a0 ≤ a2)) else some false := by kernel_rfl

end Go.Sx.Try

set_option maxRecDepth 100000
namespace Go.Sx.Try
open Go Go.Sx Go.Proofs

noncomputable def l122 : List (Nat × Con) := [(71, c71)]
theorem l122_ok : ∀ q ∈ l122, ConOk Try.prog q.1 q.2 := Try.all_cons c71_ok (Try.all_nil)
abbrev k122_4 : List Keep × List BK := ([.ro T51, .ro T3, .drop, .drop, .drop, .drop, .own T3, .drop, .drop, .drop, .drop, .drop, .drop, .drop, .drop, .drop, .drop, .drop, .drop, .drop, .drop, .drop, .drop, .drop, .drop, .drop, .drop, .drop, .drop, .drop, .drop, .drop, .drop, .drop, .drop, .drop], [])
def kp122 : KP := [(4, k122_4)]
noncomputable def q122 (n : Nat) (x : Args [T51, T3]) := evX l122 kp122 [some (.sl true T3), none] Try.f122 (shT [(true, (.sl true T3)), (false, T4)]) n (encA [T51, T3] x)
noncomputable def c122 : Con := roS [T51, T3] true (shT [(true, (.sl true T3)), (false, T4)]) (q122 big)
theorem c122_ok : ConOk Try.prog 122 c122 := roS_ok ⟨Try.f122, by kernel_rfl, rfl, by decide⟩ fun _ _ h => evX_ok l122_ok (f := Try.f122) (by kernel_rfl) rfl (by kernel_rfl) (by kernel_rfl) big h
noncomputable def r122_4 (n : Nat) (x : KD k122_4.1) (y : BD k122_4.2) := rounds (env l122) kp122 (body Try.f122) (finX l122 [some (.sl true T3), none] Try.f122 (shT [(true, (.sl true T3)), (false, T4)]) [.val T51 (zeroD T51), .val T3 (zeroD T3)]) n 4 k122_4 x y
theorem q122_eq (n : Nat) (a0 : T51.den) (a1 : T3.den) : q122 n (a0, a1, ()) =
    (q71 big (a1, (0 : Int), IntKind.i64.wrap ((↑(List.length a0) : Int) - (1 : Int)), ())).bind fun y =>
    bif !y then some ([], false, PUnit.unit) else r122_4 n (a0, a1, [a1], PUnit.unit) PUnit.unit := by kernel_rfl
theorem r122_4_eq (n : Nat) (s0 : Ty.den T51) (s1 : Ty.den T3) (s6 : List (Ty.den T3)) : r122_4 (n + 1) (s0, s1, s6, ()) () =
    bif decide ((0 : Int) < s1) then
    if (0 : Int) ≤ s1 then
      (nth s0 (Int.toNat s1)).bind fun y =>
        (q71 big (y.fst, (0 : Int), IntKind.i64.wrap (s1 - (1 : Int)), ())).bind fun y =>
          bif !y then some ([], false, PUnit.unit)
          else
            if (0 : Int) ≤ s1 then
              (nth s0 (Int.toNat s1)).bind fun y =>
                if s6.length + [y.fst].length ≤ lim then r122_4 n (s0, y.fst, s6 ++ [y.fst], PUnit.unit) PUnit.unit
                else none
            else none
    else none
  else some (s6, true, PUnit.unit) := by kernel_rfl

end Go.Sx.Try

set_option maxRecDepth 100000
namespace Go.Sx.Try
open Go Go.Sx Go.Proofs

noncomputable def l137 : List (Nat × Con) := []
theorem l137_ok : ∀ q ∈ l137, ConOk Try.prog q.1 q.2 := Try.all_nil
abbrev k137_2 : List Keep × List BK := ([.ro T59, .ro T3, .drop, .drop, .drop, .drop, .drop, .ro (.int .i64), .ro (.int .i64), .drop, .drop, .drop, .drop, .drop, .drop, .drop, .drop, .drop, .drop], [])
def kp137 : KP := [(2, k137_2)]
noncomputable def q137 (n : Nat) (x : Args [T59, T3]) := evX l137 kp137 [none] Try.f137 (shV T3) n (encA [T59, T3] x)
noncomputable def c137 : Con := roS [T59, T3] true (shV T3) (q137 big)
theorem c137_ok : ConOk Try.prog 137 c137 := roS_ok ⟨Try.f137, by kernel_rfl, rfl, by decide⟩ fun _ _ h => evX_ok l137_ok (f := Try.f137) (by kernel_rfl) rfl (by kernel_rfl) (by kernel_rfl) big h
noncomputable def r137_2 (n : Nat) (x : KD k137_2.1) (y : BD k137_2.2) := rounds (env l137) kp137 (body Try.f137) (finX l137 [none] Try.f137 (shV T3) [.val T59 (zeroD T59), .val T3 (zeroD T3)]) n 2 k137_2 x y
theorem q137_eq (n : Nat) (a0 : T59.den) (a1 : T3.den) : q137 n (a0, a1, ()) =
    r137_2 n (a0, a1, (↑(List.length a0) : Int), (0 : Int), PUnit.unit) PUnit.unit := by kernel_rfl
theorem r137_2_eq (n : Nat) (s0 : Ty.den T59) (s1 : Ty.den T3) (s7 : Ty.den (.int .i64)) (s8 : Ty.den (.int .i64)) : r137_2 (n + 1) (s0, s1, s7, s8, ()) () =
    bif decide (s8 < s7) then
    if (0 : Int) ≤ s8 then
      (nth s0 (Int.toNat s8)).bind fun y =>
        bif decide (s1 = y) then some s8
        else r137_2 n (s0, s1, s7, IntKind.i64.wrap (s8 + (1 : Int)), PUnit.unit) PUnit.unit
    else none
  else some (-1 : Int) := by kernel_rfl

end Go.Sx.Try

set_option maxRecDepth 100000
namespace Go.Sx.Try
open Go Go.Sx Go.Proofs

noncomputable def l123 : List (Nat × Con) := [(137, c137)]
theorem l123_ok : ∀ q ∈ l123, ConOk Try.prog q.1 q.2 := Try.all_cons c137_ok (Try.all_nil)
def kp123 : KP := []
noncomputable def q123 (n : Nat) (x : Args [T59, T3]) := evX l123 kp123 [none] Try.f123 (shV T4) n (encA [T59, T3] x)
noncomputable def c123 : Con := roS [T59, T3] true (shV T4) (q123 big)
theorem c123_ok : ConOk Try.prog 123 c123 := roS_ok ⟨Try.f123, by kernel_rfl, rfl, by decide⟩ fun _ _ h => evX_ok l123_ok (f := Try.f123) (by kernel_rfl) rfl (by kernel_rfl) (by kernel_rfl) big h
theorem q123_eq (n : Nat) (a0 : T59.den) (a1 : T3.den) : q123 n (a0, a1, ()) =
    (q137 big (a0, a1, ())).bind fun y => some (decide ((0 : Int) ≤ y)) := by kernel_rfl

end Go.Sx.Try

set_option maxRecDepth 100000
namespace Go.Sx.Try
open Go Go.Sx Go.Proofs

noncomputable def l84 : List (Nat × Con) := [(122, c122), (123, c123)]
theorem l84_ok : ∀ q ∈ l84, ConOk Try.prog q.1 q.2 := Try.all_cons c122_ok (Try.all_cons c123_ok (Try.all_nil))
def kp84 : KP := []
noncomputable def q84 (n : Nat) (x : Args [T51, T3, T3]) := evX l84 kp84 [none] Try.f84 (shV T4) n (encA [T51, T3, T3] x)
noncomputable def c84 : Con := roS [T51, T3, T3] true (shV T4) (q84 big)
theorem c84_ok : ConOk Try.prog 84 c84 := roS_ok ⟨Try.f84, by kernel_rfl, rfl, by decide⟩ fun _ _ h => evX_ok l84_ok (f := Try.f84) (by kernel_rfl) rfl (by kernel_rfl) (by kernel_rfl) big h
theorem q84_eq (n : Nat) (a0 : T51.den) (a1 : T3.den) (a2 : T3.den) : q84 n (a0, a1, a2, ()) =
    (q122 big (a0, a1, ())).bind fun y =>
    bif y.snd.fst then (q123 big (y.fst, a2, ())).bind fun y => some y else some false := by kernel_rfl

end Go.Sx.Try

set_option maxRecDepth 100000
namespace Go.Sx.Try
open Go Go.Sx Go.Proofs

noncomputable def l32 : List (Nat × Con) := [(84, c84), (71, c71)]
theorem l32_ok : ∀ q ∈ l32, ConOk Try.prog q.1 q.2 := Try.all_cons c84_ok (Try.all_cons c71_ok (Try.all_nil))
def kp32 : KP := []
noncomputable def q32 (n : Nat) (x : Args [T51, T53, T3]) := evX l32 kp32 [none] Try.f32 (shV T4) n (encA [T51, T53, T3] x)
noncomputable def c32 : Con := roS [T51, T53, T3] true (shV T4) (q32 big)
theorem c32_ok : ConOk Try.prog 32 c32 := roS_ok ⟨Try.f32, by kernel_rfl, rfl, by decide⟩ fun _ _ h => evX_ok l32_ok (f := Try.f32) (by kernel_rfl) rfl (by kernel_rfl) (by kernel_rfl) big h
theorem q32_eq (n : Nat) (a0 : T51.den) (a1 : T53.den) (a2 : T3.den) : q32 n (a0, a1, a2, ()) =
    (q84 big (a0, a2, a1.snd.snd.fst, ())).bind fun y =>
    bif y then some true
    else
      (q71 big (a2, (0 : Int), IntKind.i64.wrap ((↑(List.length a0) : Int) - (1 : Int)), ())).bind fun y =>
        bif y then
          if (0 : Int) ≤ a2 then
            (nth a0 (Int.toNat a2)).bind fun y => some (decide (a1.snd.fst < y.snd.snd.snd.fst.snd.fst))
          else none
        else some false := by kernel_rfl

end Go.Sx.Try

set_option maxRecDepth 100000
namespace Go.Sx.Try
open Go Go.Sx Go.Proofs

noncomputable def l120 : List (Nat × Con) := []
theorem l120_ok : ∀ q ∈ l120, ConOk Try.prog q.1 q.2 := Try.all_nil
def kp120 : KP := []
noncomputable def q120 (n : Nat) (x : Args [T28, T28]) := evX l120 kp120 [none] Try.f120 (shV T4) n (encA [T28, T28] x)
noncomputable def c120 : Con := roS [T28, T28] true (shV T4) (q120 big)
theorem c120_ok : ConOk Try.prog 120 c120 := roS_ok ⟨Try.f120, by kernel_rfl, rfl, by decide⟩ fun _ _ h => evX_ok l120_ok (f := Try.f120) (by kernel_rfl) rfl (by kernel_rfl) (by kernel_rfl) big h
theorem q120_eq (n : Nat) (a0 : T28.den) (a1 : T28.den) : q120 n (a0, a1, ()) =
    bif !decide (a0.fst = a1.fst) then some false
  else
    bif !decide (a0.snd.fst = a1.snd.fst) then some false
    else bif !decide (a0.snd.snd.fst = a1.snd.snd.fst) then some false else some true := by kernel_rfl

end Go.Sx.Try

set_option maxRecDepth 100000
namespace Go.Sx.Try
open Go Go.Sx Go.Proofs

noncomputable def l80 : List (Nat × Con) := [(120, c120)]
theorem l80_ok : ∀ q ∈ l80, ConOk Try.prog q.1 q.2 := Try.all_cons c120_ok (Try.all_nil)
abbrev k80_4 : List Keep × List BK := ([.ro T103, .ro T103, .drop, .drop, .drop, .ro (.int .i64), .drop, .drop, .drop, .drop, .drop, .drop, .drop, .drop, .drop, .drop, .drop, .drop, .drop, .drop, .drop, .drop, .drop, .drop, .drop, .drop, .drop], [])
def kp80 : KP := [(4, k80_4)]
noncomputable def q80 (n : Nat) (x : Args [T103, T103]) := evX l80 kp80 [none] Try.f80 (shV T4) n (encA [T103, T103] x)
noncomputable def c80 : Con := roS [T103, T103] true (shV T4) (q80 big)
theorem c80_ok : ConOk Try.prog 80 c80 := roS_ok ⟨Try.f80, by kernel_rfl, rfl, by decide⟩ fun _ _ h => evX_ok l80_ok (f := Try.f80) (by kernel_rfl) rfl (by kernel_rfl) (by kernel_rfl) big h
noncomputable def r80_4 (n : Nat) (x : KD k80_4.1) (y : BD k80_4.2) := rounds (env l80) kp80 (body Try.f80) (finX l80 [none] Try.f80 (shV T4) [.val T103 (zeroD T103), .val T103 (zeroD T103)]) n 4 k80_4 x y
theorem q80_eq (n : Nat) (a0 : T103.den) (a1 : T103.den) : q80 n (a0, a1, ()) =
    bif !decide ((↑(List.length a0) : Int) = (↑(List.length a1) : Int)) then some false
  else r80_4 n (a0, a1, (0 : Int), PUnit.unit) PUnit.unit := by kernel_rfl
theorem r80_4_eq (n : Nat) (s0 : Ty.den T103) (s1 : Ty.den T103) (s5 : Ty.den (.int .i64)) : r80_4 (n + 1) (s0, s1, s5, ()) () =
    bif decide (s5 < (↑(List.length s0) : Int)) then
    if (0 : Int) ≤ s5 then
      (nth s0 (Int.toNat s5)).bind fun y =>
        if (0 : Int) ≤ s5 then
          (nth s1 (Int.toNat s5)).bind fun y_1 =>
            (q120 big (y, y_1, ())).bind fun y =>
              bif !y then some false else r80_4 n (s0, s1, IntKind.i64.wrap (s5 + (1 : Int)), PUnit.unit) PUnit.unit
        else none
    else none
  else some true := by kernel_rfl

end Go.Sx.Try

set_option maxRecDepth 100000
namespace Go.Sx.Try
open Go Go.Sx Go.Proofs

noncomputable def l45 : List (Nat × Con) := []
theorem l45_ok : ∀ q ∈ l45, ConOk Try.prog q.1 q.2 := Try.all_nil
def kp45 : KP := []
noncomputable def q45 (n : Nat) (x : Args [T53, T53]) := evX l45 kp45 [none] Try.f45 (shV T4) n (encA [T53, T53] x)
noncomputable def c45 : Con := roS [T53, T53] true (shV T4) (q45 big)
theorem c45_ok : ConOk Try.prog 45 c45 := roS_ok ⟨Try.f45, by kernel_rfl, rfl, by decide⟩ fun _ _ h => evX_ok l45_ok (f := Try.f45) (by kernel_rfl) rfl (by kernel_rfl) (by kernel_rfl) big h
theorem q45_eq (n : Nat) (a0 : T53.den) (a1 : T53.den) : q45 n (a0, a1, ()) =
    bif !decide (a0.fst = a1.fst) then some false
  else
    bif !decide (a0.snd.fst = a1.snd.fst) then some false
    else
      bif !decide (a0.snd.snd.fst = a1.snd.snd.fst) then some false
      else bif !decide (a0.snd.snd.snd.fst = a1.snd.snd.snd.fst) then some false else some true := by kernel_rfl

end Go.Sx.Try

set_option maxRecDepth 100000
namespace Go.Sx.Try
open Go Go.Sx Go.Proofs

noncomputable def l85 : List (Nat × Con) := [(80, c80), (45, c45)]
theorem l85_ok : ∀ q ∈ l85, ConOk Try.prog q.1 q.2 := Try.all_cons c80_ok (Try.all_cons c45_ok (Try.all_nil))
def kp85 : KP := []
noncomputable def q85 (n : Nat) (x : Args [T128, T128]) := evX l85 kp85 [none] Try.f85 (shV T4) n (encA [T128, T128] x)
noncomputable def c85 : Con := roS [T128, T128] true (shV T4) (q85 big)
theorem c85_ok : ConOk Try.prog 85 c85 := roS_ok ⟨Try.f85, by kernel_rfl, rfl, by decide⟩ fun _ _ h => evX_ok l85_ok (f := Try.f85) (by kernel_rfl) rfl (by kernel_rfl) (by kernel_rfl) big h
theorem q85_eq (n : Nat) (a0 : T128.den) (a1 : T128.den) : q85 n (a0, a1, ()) =
    bif !decide (a0.fst = a1.fst) then some false
  else
    bif !decide (a0.snd.fst = a1.snd.fst) then some false
    else
      (q80 big (a0.snd.snd.fst, a1.snd.snd.fst, ())).bind fun y =>
        bif !y then some false
        else
          (q45 big (a0.snd.snd.snd.fst, a1.snd.snd.snd.fst, ())).bind fun y =>
            bif !y then some false else some true := by kernel_rfl

end Go.Sx.Try

set_option maxRecDepth 100000
namespace Go.Sx.Try
open Go Go.Sx Go.Proofs

noncomputable def l33 : List (Nat × Con) := [(85, c85)]
theorem l33_ok : ∀ q ∈ l33, ConOk Try.prog q.1 q.2 := Try.all_cons c85_ok (Try.all_nil)
abbrev k33_4 : List Keep × List BK := ([.ro T51, .ro T51, .drop, .drop, .drop, .ro (.int .i64), .drop, .drop, .drop, .drop, .drop, .drop, .drop, .drop, .drop, .drop, .drop, .drop, .drop, .drop, .drop, .drop, .drop, .drop, .drop, .drop, .drop], [])
def kp33 : KP := [(4, k33_4)]
noncomputable def q33 (n : Nat) (x : Args [T51, T51]) := evX l33 kp33 [none] Try.f33 (shV T4) n (encA [T51, T51] x)
noncomputable def c33 : Con := roS [T51, T51] true (shV T4) (q33 big)
theorem c33_ok : ConOk Try.prog 33 c33 := roS_ok ⟨Try.f33, by kernel_rfl, rfl, by decide⟩ fun _ _ h => evX_ok l33_ok (f := Try.f33) (by kernel_rfl) rfl (by kernel_rfl) (by kernel_rfl) big h
noncomputable def r33_4 (n : Nat) (x : KD k33_4.1) (y : BD k33_4.2) := rounds (env l33) kp33 (body Try.f33) (finX l33 [none] Try.f33 (shV T4) [.val T51 (zeroD T51), .val T51 (zeroD T51)]) n 4 k33_4 x y
theorem q33_eq (n : Nat) (a0 : T51.den) (a1 : T51.den) : q33 n (a0, a1, ()) =
    bif !decide ((↑(List.length a0) : Int) = (↑(List.length a1) : Int)) then some false
  else r33_4 n (a0, a1, (0 : Int), PUnit.unit) PUnit.unit := by kernel_rfl
theorem r33_4_eq (n : Nat) (s0 : Ty.den T51) (s1 : Ty.den T51) (s5 : Ty.den (.int .i64)) : r33_4 (n + 1) (s0, s1, s5, ()) () =
    bif decide (s5 < (↑(List.length s0) : Int)) then
    if (0 : Int) ≤ s5 then
      (nth s0 (Int.toNat s5)).bind fun y =>
        if (0 : Int) ≤ s5 then
          (nth s1 (Int.toNat s5)).bind fun y_1 =>
            (q85 big (y, y_1, ())).bind fun y =>
              bif !y then some false else r33_4 n (s0, s1, IntKind.i64.wrap (s5 + (1 : Int)), PUnit.unit) PUnit.unit
        else none
    else none
  else some true := by kernel_rfl

end Go.Sx.Try

set_option maxRecDepth 100000
namespace Go.Sx.Try
open Go Go.Sx Go.Proofs

noncomputable def l6 : List (Nat × Con) := [(28, c28), (30, c30), (31, c31), (29, c29), (32, c32), (33, c33)]
theorem l6_ok : ∀ q ∈ l6, ConOk Try.prog q.1 q.2 := Try.all_cons c28_ok (Try.all_cons c30_ok (Try.all_cons c31_ok (Try.all_cons c29_ok (Try.all_cons c32_ok (Try.all_cons c33_ok (Try.all_nil))))))
def kp6 : KP := []
noncomputable def q6 (n : Nat) (x : Args [T46, T48, T3]) := evX l6 kp6 [none] Try.f6 (shV T4) n (encA [T46, T48, T3] x)
noncomputable def c6 : Con := roS [T46, T48, T3] true (shV T4) (q6 big)
theorem c6_ok : ConOk Try.prog 6 c6 := roS_ok ⟨Try.f6, by kernel_rfl, rfl, by decide⟩ fun _ _ h => evX_ok l6_ok (f := Try.f6) (by kernel_rfl) rfl (by kernel_rfl) (by kernel_rfl) big h
theorem q6_eq (n : Nat) (a0 : T46.den) (a1 : T48.den) (a2 : T3.den) : q6 n (a0, a1, a2, ()) =
    (q28 big (a0, (1048576 : Int), ())).bind fun y =>
    bif decide (y < (0 : Int)) then some true
    else
      both
        ((q30 big (a0, ())).bind fun y =>
          (q29 big (y, a1, a2, ())).bind fun y =>
            (q30 big (a0, ())).bind fun y_1 =>
              (q32 big (y_1, a1, a2, ())).bind fun y_2 =>
                bif !y_2 == y then some false
                else
                  (q30 big (a0, ())).bind fun y =>
                    (q33 big (y_1, y, ())).bind fun y => bif !y then some false else some true)
        ((q30 big (a0, ())).bind fun y =>
          (q29 big (y, a1, a2, ())).bind fun y =>
            (q30 big (a0, ())).bind fun y_1 =>
              (q32 big (y_1, a1, a2, ())).bind fun y_2 =>
                bif !y_2 == y then some false
                else
                  (q30 big (a0, ())).bind fun y =>
                    (q33 big (y_1, y, ())).bind fun y => bif !y then some false else some true) := by kernel_rfl

end Go.Sx.Try
