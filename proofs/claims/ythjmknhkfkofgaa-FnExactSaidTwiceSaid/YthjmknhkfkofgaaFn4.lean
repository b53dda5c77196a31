/- The functions of the seat: how each is evaluated. -/
import Derived.Test.YthjmknhkfkofgaaTypes
import Derived.Test.YthjmknhkfkofgaaM6
set_option linter.unusedVariables false
set_option maxRecDepth 100000
namespace Go.Sx.Try
open Go Go.Sx Go.Proofs

def env (l : List (Nat × Con)) : Env := ⟨assoc tis, eqs, assoc l⟩
theorem envOk {l : List (Nat × Con)} (h : ∀ q ∈ l, ConOk Try.prog q.1 q.2) : EnvOk Try.prog (env l) :=
  { ti := tisOk (env l) rfl, eqs := eqsOk (env l) rfl rfl, tbl := tbl_ok h }

def body (f : Func) : Code := f.body.getD .skip
abbrev KP : Type := List (Nat × (List Keep × List BK))

/-- a function's evaluation -/
noncomputable def finX {X : Type} (l : List (Nat × Con)) (rt : List (Option Ty)) (f : Func) (s : Sh X) (args : List SV) : Ex → St → Option X :=
  fun e st => (finK (env l) rt f.results.toList (enterL [] args).2.2 e st).bind s.un
noncomputable def evX {X : Type} (l : List (Nat × Con)) (kp : KP) (rt : List (Option Ty)) (f : Func) (s : Sh X) (N : Nat) (args : List SV) : Option X :=
  ev (env l) (Lr (env l) kp (body f) (finX l rt f s args) N) (body f) (startSt f.ntmps args) (finX l rt f s args)

theorem evX_ok {X : Type} {l : List (Nat × Con)} (hl : ∀ q ∈ l, ConOk Try.prog q.1 q.2) {kp : KP} {rt : List (Option Ty)} {s : Sh X} {n : FuncId} {f : Func} {b : Code} (hf : Try.prog.funcs[n]? = some f) (hb : f.body = some b) (hn : noDup (idsOf kp b) = true)
    {args : List SV} (hbx : boxesOk args kp = true) (N : Nat) {v : X} (h : evX l kp rt f s N args = some v) : CallOk Try.prog n args (s.sh v).1 (s.sh v).2 := by
  have e : body f = b := by unfold body; rw [hb]; rfl
  unfold evX at h
  rw [e] at h
  refine fn_ok (rt := rt) (envOk hl) hf hb hn hbx N (fun e st he => ?_) h
  obtain ⟨r, h1, h2⟩ := Option.bind_eq_some_iff.1 he
  rw [h1, s.ok r v h2]

/-- enough rounds -/
def big : Nat := 4611686018427387904

theorem all_nil : ∀ q ∈ ([] : List (Nat × Con)), ConOk Try.prog q.1 q.2 := fun _ h => by cases h
theorem all_cons {n : Nat} {c : Con} {l : List (Nat × Con)} (h : ConOk Try.prog n c) (t : ∀ q ∈ l, ConOk Try.prog q.1 q.2) : ∀ q ∈ (n, c) :: l, ConOk Try.prog q.1 q.2 := fun q hq => by
  rcases List.mem_cons.1 hq with rfl | hq
  · exact h
  · exact t q hq

end Go.Sx.Try

set_option maxRecDepth 100000
namespace Go.Sx.Try
open Go Go.Sx Go.Proofs

noncomputable def l18 : List (Nat × Con) := []
theorem l18_ok : ∀ q ∈ l18, ConOk Try.prog q.1 q.2 := Try.all_nil
def kp18 : KP := []
noncomputable def q18 (n : Nat) (x : Args [T33, T3]) := evX l18 kp18 [none] Try.f18 (shV T3) n (encA [T33, T3] x)
noncomputable def c18 : Con := roS [T33, T3] true (shV T3) (q18 big)
theorem c18_ok : ConOk Try.prog 18 c18 := roS_ok ⟨Try.f18, by kernel_rfl, rfl, by decide⟩ fun _ _ h => evX_ok l18_ok (f := Try.f18) (by kernel_rfl) rfl (by kernel_rfl) (by kernel_rfl) big h
theorem q18_eq (n : Nat) (a0 : T33.den) (a1 : T3.den) : q18 n (a0, a1, ()) =
    bif decide (IntKind.i64.wrap (a1 - (↑(List.length a0) : Int)) < (0 : Int)) then some (-1 : Int)
  else some (IntKind.i64.wrap (a1 - (↑(List.length a0) : Int))) := by kernel_rfl

end Go.Sx.Try

set_option maxRecDepth 100000
namespace Go.Sx.Try
open Go Go.Sx Go.Proofs

noncomputable def l40 : List (Nat × Con) := []
theorem l40_ok : ∀ q ∈ l40, ConOk Try.prog q.1 q.2 := Try.all_nil
def kp40 : KP := []
noncomputable def q40 (n : Nat) (x : Args [T58]) := evX l40 kp40 [none] Try.f40 (shV T67) n (encA [T58] x)
noncomputable def c40 : Con := roS [T58] true (shV T67) (q40 big)
theorem c40_ok : ConOk Try.prog 40 c40 := roS_ok ⟨Try.f40, by kernel_rfl, rfl, by decide⟩ fun _ _ h => evX_ok l40_ok (f := Try.f40) (by kernel_rfl) rfl (by kernel_rfl) (by kernel_rfl) big h
theorem q40_eq (n : Nat) (a0 : T58.den) : q40 n (a0, ()) =
    some a0 := by kernel_rfl

end Go.Sx.Try

set_option maxRecDepth 100000
namespace Go.Sx.Try
open Go Go.Sx Go.Proofs

noncomputable def l20 : List (Nat × Con) := [(40, c40)]
theorem l20_ok : ∀ q ∈ l20, ConOk Try.prog q.1 q.2 := Try.all_cons c40_ok (Try.all_nil)
abbrev k20_3 : List Keep × List BK := ([.ro T33, .drop, .drop, .is (.own 0 0), .ro (.int .i64), .drop, .drop, .drop, .drop, .drop, .drop, .drop, .drop, .drop, .drop, .drop, .drop, .drop, .drop, .drop, .drop, .drop, .drop], [.arr T67])
def kp20 : KP := [(3, k20_3)]
noncomputable def q20 (n : Nat) (x : Args [T33]) := evX l20 kp20 [some (.sl true T67)] Try.f20 (shF (.sl true T67)) n (encA [T33] x)
noncomputable def c20 : Con := roS [T33] true (shF (.sl true T67)) (q20 big)
theorem c20_ok : ConOk Try.prog 20 c20 := roS_ok ⟨Try.f20, by kernel_rfl, rfl, by decide⟩ fun _ _ h => evX_ok l20_ok (f := Try.f20) (by kernel_rfl) rfl (by kernel_rfl) (by kernel_rfl) big h
noncomputable def r20_3 (n : Nat) (x : KD k20_3.1) (y : BD k20_3.2) := rounds (env l20) kp20 (body Try.f20) (finX l20 [some (.sl true T67)] Try.f20 (shF (.sl true T67)) [.val T33 (zeroD T33)]) n 3 k20_3 x y
theorem q20_eq (n : Nat) (a0 : T33.den) : q20 n (a0, ()) =
    if (↑(List.length a0) : Int) ≤ (↑(List.length a0) : Int) then
    if (↑(List.length a0) : Int) ≤ (↑lim : Int) then
      r20_3 n (a0, (0 : Int), PUnit.unit) (List.replicate (↑(List.length a0) : Int).toNat (zeroD T67), PUnit.unit)
    else none
  else none := by kernel_rfl
theorem r20_3_eq (n : Nat) (s0 : Ty.den T33) (s4 : Ty.den (.int .i64)) (b0 : List (Ty.den T67)) : r20_3 (n + 1) (s0, s4, ()) (b0, ()) =
    bif decide (s4 < (↑(List.length s0) : Int)) then
    if (0 : Int) ≤ s4 then
      (nth s0 (Int.toNat s4)).bind fun y =>
        if (0 : Int) ≤ s4 then
          if s4 < (↑b0.length : Int) then
            (nth b0 (Int.toNat s4)).bind fun y_1 =>
              r20_3 n (s0, IntKind.i64.wrap (s4 + (1 : Int)), PUnit.unit) (upd b0 (Int.toNat s4) y, PUnit.unit)
          else none
        else none
    else none
  else some b0 := by kernel_rfl

end Go.Sx.Try

set_option maxRecDepth 100000
namespace Go.Sx.Try
open Go Go.Sx Go.Proofs

noncomputable def l19 : List (Nat × Con) := []
theorem l19_ok : ∀ q ∈ l19, ConOk Try.prog q.1 q.2 := Try.all_nil
abbrev k19_2 : List Keep × List BK := ([.ro T36, .drop, .drop, .ro (.int .i64), .drop, .drop, .drop, .drop, .drop, .drop, .drop, .drop, .drop, .drop, .drop, .drop, .drop, .drop, .drop, .drop, .drop, .drop, .drop, .drop, .drop, .drop, .drop, .drop, .drop, .drop, .drop, .drop, .drop, .drop, .drop, .drop, .drop, .drop, .drop, .drop, .drop, .drop, .drop, .drop, .drop, .drop, .drop, .drop, .drop, .drop, .drop, .drop], [])
abbrev k19_5 : List Keep × List BK := ([.ro T36, .drop, .drop, .ro (.int .i64), .ro (.int .i64), .drop, .drop, .drop, .drop, .drop, .drop, .drop, .drop, .drop, .drop, .drop, .drop, .drop, .drop, .drop, .drop, .drop, .drop, .drop, .drop, .drop, .drop, .drop, .drop, .drop, .drop, .drop, .drop, .drop, .drop, .drop, .drop, .drop, .drop, .drop, .drop, .drop, .drop, .drop, .drop, .drop, .drop, .drop, .drop, .drop, .drop, .drop], [])
def kp19 : KP := [(2, k19_2), (5, k19_5)]
noncomputable def q19 (n : Nat) (x : Args [T36]) := evX l19 kp19 [none] Try.f19 (shV T4) n (encA [T36] x)
noncomputable def c19 : Con := roS [T36] true (shV T4) (q19 big)
theorem c19_ok : ConOk Try.prog 19 c19 := roS_ok ⟨Try.f19, by kernel_rfl, rfl, by decide⟩ fun _ _ h => evX_ok l19_ok (f := Try.f19) (by kernel_rfl) rfl (by kernel_rfl) (by kernel_rfl) big h
noncomputable def r19_2 (n : Nat) (x : KD k19_2.1) (y : BD k19_2.2) := rounds (env l19) kp19 (body Try.f19) (finX l19 [none] Try.f19 (shV T4) [.val T36 (zeroD T36)]) n 2 k19_2 x y
noncomputable def r19_5 (n : Nat) (x : KD k19_5.1) (y : BD k19_5.2) := rounds (env l19) kp19 (body Try.f19) (finX l19 [none] Try.f19 (shV T4) [.val T36 (zeroD T36)]) n 5 k19_5 x y
theorem q19_eq (n : Nat) (a0 : T36.den) : q19 n (a0, ()) =
    r19_2 n (a0, (0 : Int), PUnit.unit) PUnit.unit := by kernel_rfl
theorem r19_2_eq (n : Nat) (s0 : Ty.den T36) (s3 : Ty.den (.int .i64)) : r19_2 (n + 1) (s0, s3, ()) () =
    bif decide (s3 < (↑(List.length s0) : Int)) then r19_5 n (s0, s3, (0 : Int), PUnit.unit) PUnit.unit
  else some false := by kernel_rfl
theorem r19_5_eq (n : Nat) (s0 : Ty.den T36) (s3 : Ty.den (.int .i64)) (s4 : Ty.den (.int .i64)) : r19_5 (n + 1) (s0, s3, s4, ()) () =
    bif decide (s4 < s3) then
    if (0 : Int) ≤ s3 then
      (nth s0 (Int.toNat s3)).bind fun y =>
        if (0 : Int) ≤ s4 then
          (nth s0 (Int.toNat s4)).bind fun y_1 =>
            bif decide (y.snd.snd.snd.fst = y_1.snd.snd.snd.fst) then
              bif decide (y.fst = y_1.fst) then
                bif decide (y.snd.fst = y_1.snd.fst) then
                  bif !decide (y.snd.snd.fst = y_1.snd.snd.fst) then some true
                  else r19_5 n (s0, s3, IntKind.i64.wrap (s4 + (1 : Int)), PUnit.unit) PUnit.unit
                else r19_5 n (s0, s3, IntKind.i64.wrap (s4 + (1 : Int)), PUnit.unit) PUnit.unit
              else r19_5 n (s0, s3, IntKind.i64.wrap (s4 + (1 : Int)), PUnit.unit) PUnit.unit
            else r19_5 n (s0, s3, IntKind.i64.wrap (s4 + (1 : Int)), PUnit.unit) PUnit.unit
        else none
    else none
  else r19_2 n (s0, IntKind.i64.wrap (s3 + (1 : Int)), PUnit.unit) PUnit.unit := by kernel_rfl

end Go.Sx.Try

set_option maxRecDepth 100000
namespace Go.Sx.Try
open Go Go.Sx Go.Proofs

noncomputable def l74 : List (Nat × Con) := []
theorem l74_ok : ∀ q ∈ l74, ConOk Try.prog q.1 q.2 := Try.all_nil
def kp74 : KP := []
noncomputable def q74 (n : Nat) (x : AP.denL [.ro T67, .mr T67]) := evX l74 kp74 [none] Try.f74 (shB T4 T67) n (AP.encL [.ro T67, .mr T67] x)
noncomputable def c74 : Con := apS [.ro T67, .mr T67] true (shB T4 T67) (q74 big)
theorem c74_ok : ConOk Try.prog 74 c74 := apS_ok ⟨Try.f74, by kernel_rfl, rfl, by decide⟩ fun _ _ h => evX_ok l74_ok (f := Try.f74) (by kernel_rfl) rfl (by kernel_rfl) (by kernel_rfl) big h
theorem q74_eq (n : Nat) (a0 : AP.den (.ro T67)) (a1 : AP.den (.mr T67)) : q74 n (a0, a1, ()) =
    bif decide (a0.snd.snd.snd.fst = a1.snd.snd.snd.fst) then
    bif decide (a0.fst = a1.fst) then
      bif decide (a0.snd.fst = a1.snd.fst) then some (!decide (a0.snd.snd.fst = a1.snd.snd.fst), a1)
      else some (false, a1)
    else some (false, a1)
  else some (false, a1) := by kernel_rfl

end Go.Sx.Try

set_option maxRecDepth 100000
namespace Go.Sx.Try
open Go Go.Sx Go.Proofs

noncomputable def l119_74 : List (Nat × Con) := [(74, c74)]
theorem l119_74_ok : ∀ q ∈ l119_74, ConOk Try.prog q.1 q.2 := Try.all_cons c74_ok (Try.all_nil)
abbrev k119_74_2 : List Keep × List BK := ([.ro T36, .is (.fn 74 [.ptr 0 0]), .drop, .drop, .drop, .drop, .drop, .ro (.int .i64), .ro (.int .i64), .drop, .drop, .drop, .drop, .drop, .drop, .drop, .drop, .drop, .drop], [.vars [.ro (.int .i64), .ro (.int .i64), .ro (.int .i64), .ro (.int .i64)]])
def kp119_74 : KP := [(2, k119_74_2)]
noncomputable def q119_74 (n : Nat) (x : AP.denL [.ro T36, .fn 74 [T67]]) := evX l119_74 kp119_74 [none] Try.f119 (shB T3 T67) n (AP.encL [.ro T36, .fn 74 [T67]] x)
noncomputable def c119_74 : Con := apS [.ro T36, .fn 74 [T67]] true (shB T3 T67) (q119_74 big)
theorem c119_74_ok : ConOk Try.prog 119 c119_74 := apS_ok ⟨Try.f119, by kernel_rfl, rfl, by decide⟩ fun _ _ h => evX_ok l119_74_ok (f := Try.f119) (by kernel_rfl) rfl (by kernel_rfl) (by kernel_rfl) big h
noncomputable def r119_74_2 (n : Nat) (x : KD k119_74_2.1) (y : BD k119_74_2.2) := rounds (env l119_74) kp119_74 (body Try.f119) (finX l119_74 [none] Try.f119 (shB T3 T67) [AP.enc (.ro T36) (zeroD T36), AP.enc (.fn 74 [T67]) (zeroD T67, ())]) n 2 k119_74_2 x y
theorem q119_74_eq (n : Nat) (a0 : AP.den (.ro T36)) (a1 : AP.den (.fn 74 [T67])) : q119_74 n (a0, a1, ()) =
    r119_74_2 n (a0, (↑(List.length a0) : Int), (0 : Int), PUnit.unit) a1 := by kernel_rfl
theorem r119_74_2_eq (n : Nat) (s0 : Ty.den T36) (s7 : Ty.den (.int .i64)) (s8 : Ty.den (.int .i64)) (b0 : KD [.ro (.int .i64), .ro (.int .i64), .ro (.int .i64), .ro (.int .i64)]) : r119_74_2 (n + 1) (s0, s7, s8, ()) (b0, ()) =
    bif decide (s8 < s7) then
    if (0 : Int) ≤ s8 then
      (nth s0 (Int.toNat s8)).bind fun y =>
        (q74 big (y, b0, ())).bind fun y =>
          bif y.fst then some (s8, y.snd)
          else r119_74_2 n (s0, s7, IntKind.i64.wrap (s8 + (1 : Int)), PUnit.unit) (y.snd, PUnit.unit)
    else none
  else some ((-1 : Int), b0) := by kernel_rfl

end Go.Sx.Try

set_option maxRecDepth 100000
namespace Go.Sx.Try
open Go Go.Sx Go.Proofs

noncomputable def l73_74 : List (Nat × Con) := [(119, c119_74)]
theorem l73_74_ok : ∀ q ∈ l73_74, ConOk Try.prog q.1 q.2 := Try.all_cons c119_74_ok (Try.all_nil)
def kp73_74 : KP := []
noncomputable def q73_74 (n : Nat) (x : AP.denL [.ro T36, .fn 74 [T67]]) := evX l73_74 kp73_74 [none] Try.f73 (shB T4 T67) n (AP.encL [.ro T36, .fn 74 [T67]] x)
noncomputable def c73_74 : Con := apS [.ro T36, .fn 74 [T67]] true (shB T4 T67) (q73_74 big)
theorem c73_74_ok : ConOk Try.prog 73 c73_74 := apS_ok ⟨Try.f73, by kernel_rfl, rfl, by decide⟩ fun _ _ h => evX_ok l73_74_ok (f := Try.f73) (by kernel_rfl) rfl (by kernel_rfl) (by kernel_rfl) big h
theorem q73_74_eq (n : Nat) (a0 : AP.den (.ro T36)) (a1 : AP.den (.fn 74 [T67])) : q73_74 n (a0, a1, ()) =
    (q119_74 big (a0, a1, ())).bind fun y => some (decide ((0 : Int) ≤ y.fst), y.snd) := by kernel_rfl

end Go.Sx.Try

set_option maxRecDepth 100000
namespace Go.Sx.Try
open Go Go.Sx Go.Proofs

noncomputable def l21 : List (Nat × Con) := [(73, c73_74)]
theorem l21_ok : ∀ q ∈ l21, ConOk Try.prog q.1 q.2 := Try.all_cons c73_74_ok (Try.all_nil)
abbrev k21_2 : List Keep × List BK := ([.ro T36, .drop, .drop, .drop, .drop, .ro T36, .ro (.int .i64), .ro (.int .i64), .drop, .drop, .drop, .drop, .drop, .drop, .drop, .drop, .drop, .drop], [])
def kp21 : KP := [(2, k21_2)]
noncomputable def q21 (n : Nat) (x : Args [T36]) := evX l21 kp21 [none] Try.f21 (shV T4) n (encA [T36] x)
noncomputable def c21 : Con := roS [T36] true (shV T4) (q21 big)
theorem c21_ok : ConOk Try.prog 21 c21 := roS_ok ⟨Try.f21, by kernel_rfl, rfl, by decide⟩ fun _ _ h => evX_ok l21_ok (f := Try.f21) (by kernel_rfl) rfl (by kernel_rfl) (by kernel_rfl) big h
noncomputable def r21_2 (n : Nat) (x : KD k21_2.1) (y : BD k21_2.2) := rounds (env l21) kp21 (body Try.f21) (finX l21 [none] Try.f21 (shV T4) [.val T36 (zeroD T36)]) n 2 k21_2 x y
theorem q21_eq (n : Nat) (a0 : T36.den) : q21 n (a0, ()) =
    r21_2 n (a0, a0, (↑(List.length a0) : Int), (0 : Int), PUnit.unit) PUnit.unit := by kernel_rfl
theorem r21_2_eq (n : Nat) (s0 : Ty.den T36) (s5 : Ty.den T36) (s6 : Ty.den (.int .i64)) (s7 : Ty.den (.int .i64)) : r21_2 (n + 1) (s0, s5, s6, s7, ()) () =
    bif decide (s7 < s6) then
    if (0 : Int) ≤ s7 then
      (nth s5 (Int.toNat s7)).bind fun y =>
        if (0 : Int) ≤ s7 then
          if s7 ≤ (↑(List.length s0) : Int) then
            (q73_74 big (List.take (Int.toNat s7 - (0 : Nat)) (List.drop (0 : Nat) s0), (y, ()), ())).bind fun y =>
              bif y.fst then some true
              else r21_2 n (s0, s5, s6, IntKind.i64.wrap (s7 + (1 : Int)), PUnit.unit) PUnit.unit
          else none
        else none
    else none
  else some false := by kernel_rfl

end Go.Sx.Try

set_option maxRecDepth 100000
namespace Go.Sx.Try
open Go Go.Sx Go.Proofs

noncomputable def l66 : List (Nat × Con) := []
theorem l66_ok : ∀ q ∈ l66, ConOk Try.prog q.1 q.2 := Try.all_nil
def kp66 : KP := []
noncomputable def q66 (n : Nat) (x : Args [T67, T67]) := evX l66 kp66 [none] Try.f66 (shV T4) n (encA [T67, T67] x)
noncomputable def c66 : Con := roS [T67, T67] true (shV T4) (q66 big)
theorem c66_ok : ConOk Try.prog 66 c66 := roS_ok ⟨Try.f66, by kernel_rfl, rfl, by decide⟩ fun _ _ h => evX_ok l66_ok (f := Try.f66) (by kernel_rfl) rfl (by kernel_rfl) (by kernel_rfl) big h
theorem q66_eq (n : Nat) (a0 : T67.den) (a1 : T67.den) : q66 n (a0, a1, ()) =
    bif !decide (a0.fst = a1.fst) then some false
  else
    bif !decide (a0.snd.fst = a1.snd.fst) then some false
    else
      bif !decide (a0.snd.snd.fst = a1.snd.snd.fst) then some false
      else bif !decide (a0.snd.snd.snd.fst = a1.snd.snd.snd.fst) then some false else some true := by kernel_rfl

end Go.Sx.Try

set_option maxRecDepth 100000
namespace Go.Sx.Try
open Go Go.Sx Go.Proofs

noncomputable def l22 : List (Nat × Con) := [(66, c66)]
theorem l22_ok : ∀ q ∈ l22, ConOk Try.prog q.1 q.2 := Try.all_cons c66_ok (Try.all_nil)
abbrev k22_4 : List Keep × List BK := ([.ro T36, .ro T36, .drop, .drop, .drop, .ro (.int .i64), .drop, .drop, .drop, .drop, .drop, .drop, .drop, .drop, .drop, .drop, .drop, .drop, .drop, .drop, .drop, .drop, .drop, .drop, .drop, .drop, .drop], [])
def kp22 : KP := [(4, k22_4)]
noncomputable def q22 (n : Nat) (x : Args [T36, T36]) := evX l22 kp22 [none] Try.f22 (shV T4) n (encA [T36, T36] x)
noncomputable def c22 : Con := roS [T36, T36] true (shV T4) (q22 big)
theorem c22_ok : ConOk Try.prog 22 c22 := roS_ok ⟨Try.f22, by kernel_rfl, rfl, by decide⟩ fun _ _ h => evX_ok l22_ok (f := Try.f22) (by kernel_rfl) rfl (by kernel_rfl) (by kernel_rfl) big h
noncomputable def r22_4 (n : Nat) (x : KD k22_4.1) (y : BD k22_4.2) := rounds (env l22) kp22 (body Try.f22) (finX l22 [none] Try.f22 (shV T4) [.val T36 (zeroD T36), .val T36 (zeroD T36)]) n 4 k22_4 x y
theorem q22_eq (n : Nat) (a0 : T36.den) (a1 : T36.den) : q22 n (a0, a1, ()) =
    bif !decide ((↑(List.length a0) : Int) = (↑(List.length a1) : Int)) then some false
  else r22_4 n (a0, a1, (0 : Int), PUnit.unit) PUnit.unit := by kernel_rfl
theorem r22_4_eq (n : Nat) (s0 : Ty.den T36) (s1 : Ty.den T36) (s5 : Ty.den (.int .i64)) : r22_4 (n + 1) (s0, s1, s5, ()) () =
    bif decide (s5 < (↑(List.length s0) : Int)) then
    if (0 : Int) ≤ s5 then
      (nth s0 (Int.toNat s5)).bind fun y =>
        if (0 : Int) ≤ s5 then
          (nth s1 (Int.toNat s5)).bind fun y_1 =>
            (q66 big (y, y_1, ())).bind fun y =>
              bif !y then some false else r22_4 n (s0, s1, IntKind.i64.wrap (s5 + (1 : Int)), PUnit.unit) PUnit.unit
        else none
    else none
  else some true := by kernel_rfl

end Go.Sx.Try

set_option maxRecDepth 100000
namespace Go.Sx.Try
open Go Go.Sx Go.Proofs

noncomputable def l4 : List (Nat × Con) := [(18, c18), (20, c20), (19, c19), (21, c21), (22, c22)]
theorem l4_ok : ∀ q ∈ l4, ConOk Try.prog q.1 q.2 := Try.all_cons c18_ok (Try.all_cons c20_ok (Try.all_cons c19_ok (Try.all_cons c21_ok (Try.all_cons c22_ok (Try.all_nil)))))
def kp4 : KP := []
noncomputable def q4 (n : Nat) (x : Args [T33]) := evX l4 kp4 [none] Try.f4 (shV T4) n (encA [T33] x)
noncomputable def c4 : Con := roS [T33] true (shV T4) (q4 big)
theorem c4_ok : ConOk Try.prog 4 c4 := roS_ok ⟨Try.f4, by kernel_rfl, rfl, by decide⟩ fun _ _ h => evX_ok l4_ok (f := Try.f4) (by kernel_rfl) rfl (by kernel_rfl) (by kernel_rfl) big h
theorem q4_eq (n : Nat) (a0 : T33.den) : q4 n (a0, ()) =
    (q18 big (a0, (1048576 : Int), ())).bind fun y =>
    bif decide (y < (0 : Int)) then some true
    else
      (q20 big (a0, ())).bind fun y =>
        (q19 big (y, ())).bind fun y =>
          (q20 big (a0, ())).bind fun y_1 =>
            (q21 big (y_1, ())).bind fun y_2 =>
              bif !y_2 == y then some false
              else
                (q20 big (a0, ())).bind fun y =>
                  (q22 big (y_1, y, ())).bind fun y => bif !y then some false else some true := by kernel_rfl

end Go.Sx.Try
