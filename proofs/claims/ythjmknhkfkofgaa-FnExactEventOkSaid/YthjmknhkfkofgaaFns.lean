/- The functions of the first seat, 1. -/
import Derived.Test.YthjmknhkfkofgaaTy
set_option linter.unusedVariables false
set_option maxRecDepth 100000
namespace Go.Sx.Try
open Go Go.Sx Go.Proofs

abbrev dn : Array Oper → Bool := fun _ => false

def E0 : Env := ⟨assoc tis, eqs, assoc []⟩
def env (l : List (Nat × Con)) : Env := ⟨assoc tis, eqs, assoc l⟩
theorem envOk {l : List (Nat × Con)} (h : ∀ q ∈ l, ConOk Try.prog q.1 q.2) : EnvOk Try.prog (env l) :=
  { ti := tisOk (env l) rfl, eqs := eqsOk (env l) rfl rfl, tbl := tbl_ok h }

def body (f : Func) : Code := f.body.getD .skip

/-- a function's evaluation on arguments that are only read -/
def evF (l : List (Nat × Con)) (kp : List (Nat × (List Keep × List (Option (List Keep))))) (f : Func) (N : Nat) (args : List SV) : Option Res :=
  ev (env l) (Lr (env l) dn kp (body f) (finK (env l) f.results.toList (enterL [] args).2.2) N) dn (body f) (startSt f.ntmps args) (finK (env l) f.results.toList (enterL [] args).2.2)

theorem evF_ok {l : List (Nat × Con)} (hl : ∀ q ∈ l, ConOk Try.prog q.1 q.2) {kp : List (Nat × (List Keep × List (Option (List Keep))))} {n : FuncId} {f : Func} {b : Code} (hf : Try.prog.funcs[n]? = some f) (hb : f.body = some b) (hn : noDup (idsOf kp b) = true)
    {args : List SV} (hbx : boxesOk args kp = true) (N : Nat) {r : Res} (h : evF l kp f N args = some r) : CallOk Try.prog n args r.1 r.2 := by
  have e : body f = b := by unfold body; rw [hb]; rfl
  unfold evF at h
  rw [e] at h
  exact fn_ok (envOk hl) drawn_none hf hb hn hbx N h

def inF (n lo hi : Int) : Bool := bif decide (lo ≤ n) then decide (n ≤ hi) else false
def c71 : Con := reads [i64, i64, i64] (fun _ => true) .bool fun x => inF x.1 x.2.1 x.2.2.1

theorem e71 (n lo hi : Int) : evF [] [] Try.f71 0 [.val i64 n, .val i64 lo, .val i64 hi] = bif decide (lo ≤ n) then vb (decide (n ≤ hi)) else vb false := by kernel_rfl
theorem e68 (n lo hi : Int) : evF [] [] Try.f68 0 [.val i64 n, .val i64 lo, .val i64 hi] = bif decide (lo ≤ n) then vb (decide (n ≤ hi)) else vb false := by kernel_rfl
theorem inF_eq (n lo hi : Int) : (bif decide (lo ≤ n) then vb (decide (n ≤ hi)) else vb false) = vb (inF n lo hi) := by
  unfold inF
  cases decide (lo ≤ n) <;> rfl
theorem c71_ok : ConOk Try.prog 71 c71 := reads_ok ⟨Try.f71, by kernel_rfl, rfl, by decide⟩ fun x _ =>
  evF_ok (r := (.val .bool (inF x.1 x.2.1 x.2.2.1), [])) (args := encA _ x) all_nil (kp := []) (n := 71) (by kernel_rfl) rfl rfl rfl 0 (f := Try.f71) ((e71 x.1 x.2.1 x.2.2.1).trans (inF_eq _ _ _))
theorem c68_ok : ConOk Try.prog 68 c71 := reads_ok ⟨Try.f68, by kernel_rfl, rfl, by decide⟩ fun x _ =>
  evF_ok (r := (.val .bool (inF x.1 x.2.1 x.2.2.1), [])) (args := encA _ x) all_nil (kp := []) (n := 68) (by kernel_rfl) rfl rfl rfl 0 (f := Try.f68) ((e68 x.1 x.2.1 x.2.2.1).trans (inF_eq _ _ _))

end Go.Sx.Try

set_option maxRecDepth 100000
namespace Go.Sx.Try
open Go Go.Sx Go.Proofs

abbrev D (n : Nat) : List Keep := List.replicate n .drop
def l117 : List (Nat × Con) := [(71, c71)]
theorem l117_ok : ∀ q ∈ l117, ConOk Try.prog q.1 q.2 := all_cons c71_ok all_nil
abbrev k117 : List Keep × List (Option (List Keep)) := ([.ro .str, .drop, .drop, .drop, .drop, .ro i64, .ro i64, .drop, .drop, .drop, .drop, .drop, .drop, .drop, .drop, .drop, .drop, .drop, .drop, .drop, .drop, .drop, .drop], [])
def kp117 : List (Nat × (List Keep × List (Option (List Keep)))) := [(2, k117)]
noncomputable def r117 (n : Nat) (s : ByteArray) (m i : Int) : Option Res := rounds (env l117) dn kp117 (body Try.f117) (finK (env l117) Try.f117.results.toList []) n 2 k117 (s, m, i, ()) ()

theorem r117_succ (n : Nat) (s : ByteArray) (m i : Int) : r117 (n + 1) s m i =
    bif decide (i < m) then byteS s i (fun b => bif decide (b < 97) then vb false else byteS s i (fun b' => bif decide (122 < b') then vb false else r117 n s m (IntKind.wrap .i64 (i + 1))))
    else vb (inF (s.size : Int) 1 3) := by kernel_rfl
theorem e117 (n : Nat) (s : ByteArray) : evF l117 kp117 Try.f117 (n + 1) [.val .str s] = r117 (n + 1) s (s.size : Int) 0 := by kernel_rfl


def keyB (s : ByteArray) : Bool := s.data.toList.all (fun b => !decide ((b.toNat : Int) < 97) && !decide (122 < (b.toNat : Int))) && inF (s.size : Int) 1 3
def okStr32 (s : ByteArray) : Bool := decide (s.size ≤ lim)

theorem r117_eq (s : ByteArray) (hs : s.size ≤ lim) : ∀ (n j : Nat), j ≤ s.size → s.size - j < n →
    r117 n s (s.size : Int) (j : Int) = vb ((s.data.toList.drop j).all (fun b => !decide ((b.toNat : Int) < 97) && !decide (122 < (b.toNat : Int))) && inF (s.size : Int) 1 3)
  | 0, _, _, h => by omega
  | n + 1, j, hj, h => by
    rw [r117_succ]
    by_cases hlt : j < s.size
    · rw [show decide ((j : Int) < (s.size : Int)) = true by simpa using hlt]
      simp only [cond_true]
      obtain ⟨b, e1, e2⟩ := byteS_at hlt (fun b => bif decide (b < 97) then vb false else byteS s j (fun b' => bif decide (122 < b') then vb false else r117 n s s.size (IntKind.wrap .i64 (j + 1))))
      rw [e2, e1]
      obtain ⟨b', f1, f2⟩ := byteS_at hlt (fun b' => bif decide (122 < b') then vb false else r117 n s s.size (IntKind.wrap .i64 (j + 1)))
      rw [f2]
      have : b' = b := by rw [e1] at f1; exact ((List.cons.inj f1).1).symm
      subst this
      rw [wrap64 (by omega) (by unfold lim at hs; omega), show ((j : Int) + 1) = ((j + 1 : Nat) : Int) by omega, r117_eq s hs n (j + 1) hlt (by omega)]
      simp only [List.all_cons]
      cases decide ((b'.toNat : Int) < 97) <;> cases decide (122 < (b'.toNat : Int)) <;> rfl
    · have hje : j = s.size := by omega
      subst hje
      rw [show decide ((s.size : Int) < (s.size : Int)) = false by simp]
      rw [List.drop_of_length_le (by simp)]
      rfl

def c117 : Con := reads [.str] (fun x => okStr32 x.1) .bool fun x => keyB x.1
theorem c117_ok : ConOk Try.prog 117 c117 := reads_ok ⟨Try.f117, by kernel_rfl, rfl, by decide⟩ fun x hx =>
  evF_ok (r := (.val .bool (keyB x.1), [])) (args := encA _ x) l117_ok (kp := kp117) (n := 117) (by kernel_rfl) rfl (by kernel_rfl) rfl (x.1.size + 1) (f := Try.f117) ((e117 x.1.size x.1).trans (by
    have := r117_eq x.1 (by simpa [okStr32] using hx) (x.1.size + 1) 0 (Nat.zero_le _) (by omega)
    exact this))

end Go.Sx.Try

set_option maxRecDepth 100000
namespace Go.Sx.Try
open Go Go.Sx Go.Proofs

def l116 : List (Nat × Con) := [(68, c71)]
theorem l116_ok : ∀ q ∈ l116, ConOk Try.prog q.1 q.2 := all_cons c68_ok all_nil
abbrev k116 : List Keep × List (Option (List Keep)) := ([.ro .str, .drop, .drop, .ro i64, .drop, .drop, .drop, .drop, .drop, .drop, .drop, .drop, .drop, .drop, .drop, .drop, .drop, .drop, .drop, .drop, .drop, .drop, .drop], [])
def kp116 : List (Nat × (List Keep × List (Option (List Keep)))) := [(2, k116)]
noncomputable def r116 (n : Nat) (s : ByteArray) (i : Int) : Option Res := rounds (env l116) dn kp116 (body Try.f116) (finK (env l116) Try.f116.results.toList []) n 2 k116 (s, i, ()) ()
theorem r116_succ (n : Nat) (s : ByteArray) (i : Int) : r116 (n + 1) s i =
    bif decide (i < (s.size : Int)) then byteS s i (fun b => bif decide (b < 97) then vb false else byteS s i (fun b' => bif decide (122 < b') then vb false else r116 n s (IntKind.wrap .i64 (i + 1))))
    else vb (inF (s.size : Int) 1 3) := by kernel_rfl
theorem e116 (n : Nat) (s : ByteArray) : evF l116 kp116 Try.f116 (n + 1) [.val .str s] = r116 (n + 1) s 0 := by kernel_rfl
theorem r116_eq (s : ByteArray) (m : Int) (hm : m = (s.size : Int)) : ∀ (n : Nat) (i : Int), r116 n s i = r117 n s m i
  | 0, _ => rfl
  | n + 1, i => by
    rw [r116_succ, r117_succ, hm]
    simp only [r116_eq s _ rfl n]
theorem c116_ok : ConOk Try.prog 116 c117 := reads_ok ⟨Try.f116, by kernel_rfl, rfl, by decide⟩ fun x hx =>
  evF_ok (r := (.val .bool (keyB x.1), [])) (args := encA _ x) l116_ok (kp := kp116) (n := 116) (by kernel_rfl) rfl (by kernel_rfl) rfl (x.1.size + 1) (f := Try.f116) ((e116 x.1.size x.1).trans (by
    rw [r116_eq x.1 _ rfl]
    have := r117_eq x.1 (by simpa [okStr32] using hx) (x.1.size + 1) 0 (Nat.zero_le _) (by omega)
    exact this))

def l118 : List (Nat × Con) := [(71, c71)]
def numB (n : Int) : Bool := inF n 0 1000000000
theorem e118 (n : Int) : evF l117 [] Try.f118 0 [.val i64 n] = vb (numB n) := by kernel_rfl
def c118 : Con := reads [i64] (fun _ => true) .bool fun x => numB x.1
theorem c118_ok : ConOk Try.prog 118 c118 := reads_ok ⟨Try.f118, by kernel_rfl, rfl, by decide⟩ fun x _ =>
  evF_ok (r := (.val .bool (numB x.1), [])) (args := encA _ x) l117_ok (kp := []) (n := 118) (by kernel_rfl) rfl rfl rfl 0 (f := Try.f118) (e118 x.1)

def cmdB (c : T28.den) : Bool := bif inF c.1 1 3 then (bif keyB c.2.1 then numB c.2.2.1 else false) else false
def l72 : List (Nat × Con) := [(71, c71), (117, c117), (118, c118)]
theorem l72_ok : ∀ q ∈ l72, ConOk Try.prog q.1 q.2 := all_cons c71_ok (all_cons c117_ok (all_cons c118_ok all_nil))
def l69 : List (Nat × Con) := [(68, c71), (116, c117)]
theorem l69_ok : ∀ q ∈ l69, ConOk Try.prog q.1 q.2 := all_cons c68_ok (all_cons c116_ok all_nil)
theorem e72 (c : T28.den) : evF l72 [] Try.f72 0 [.val T28 c] = bif inF c.1 1 3 then (bif okStr32 c.2.1 then (bif keyB c.2.1 then vb (numB c.2.2.1) else vb false) else none) else vb false := by kernel_rfl
theorem e69 (c : T28.den) : evF l69 [] Try.f69 0 [.val T28 c] = bif inF c.1 1 3 then (bif okStr32 c.2.1 then (bif keyB c.2.1 then vb (numB c.2.2.1) else vb false) else none) else vb false := by kernel_rfl
theorem cmdB_eq (c : T28.den) (h : okStr32 c.2.1 = true) : (bif inF c.1 1 3 then (bif okStr32 c.2.1 then (bif keyB c.2.1 then vb (numB c.2.2.1) else vb false) else none) else vb false) = vb (cmdB c) := by
  unfold cmdB
  rw [h]
  cases inF c.1 1 3 <;> cases keyB c.2.1 <;> rfl
def c72 : Con := reads [T28] (fun x => okStr32 x.1.2.1) .bool fun x => cmdB x.1
theorem c72_ok : ConOk Try.prog 72 c72 := reads_ok ⟨Try.f72, by kernel_rfl, rfl, by decide⟩ fun x hx =>
  evF_ok (r := (.val .bool (cmdB x.1), [])) (args := encA _ x) l72_ok (kp := []) (n := 72) (by kernel_rfl) rfl rfl rfl 0 (f := Try.f72) ((e72 x.1).trans (cmdB_eq x.1 hx))
theorem c69_ok : ConOk Try.prog 69 c72 := reads_ok ⟨Try.f69, by kernel_rfl, rfl, by decide⟩ fun x hx =>
  evF_ok (r := (.val .bool (cmdB x.1), [])) (args := encA _ x) l69_ok (kp := []) (n := 69) (by kernel_rfl) rfl rfl rfl 0 (f := Try.f69) ((e69 x.1).trans (cmdB_eq x.1 hx))

end Go.Sx.Try

set_option maxRecDepth 100000
namespace Go.Sx.Try
open Go Go.Sx Go.Proofs

def evB (e : T30.den) : Bool :=
  bif !inF e.1 1 11 then false else bif decide (e.2.1 < 0) then false else bif decide (e.2.2.1 < 0) then false else bif decide (e.2.2.2.1 < 0) then false else
    bif decide (e.1 = 1) then cmdB e.2.2.2.2.1 else bif decide (e.1 = 10) then cmdB e.2.2.2.2.1 else eqD T28 e.2.2.2.2.1 (zeroD T28)

def l17 : List (Nat × Con) := [(71, c71), (72, c72)]
theorem l17_ok : ∀ q ∈ l17, ConOk Try.prog q.1 q.2 := all_cons c71_ok (all_cons c72_ok all_nil)
def l15 : List (Nat × Con) := [(68, c71), (69, c72)]
theorem l15_ok : ∀ q ∈ l15, ConOk Try.prog q.1 q.2 := all_cons c68_ok (all_cons c69_ok all_nil)
abbrev evR (e : T30.den) : Option Res :=
  bif !inF e.1 1 11 then vb false else bif decide (e.2.1 < 0) then vb false else bif decide (e.2.2.1 < 0) then vb false else bif decide (e.2.2.2.1 < 0) then vb false else
    bif decide (e.1 = 1) then (bif okStr32 e.2.2.2.2.1.2.1 then vb (cmdB e.2.2.2.2.1) else none) else bif decide (e.1 = 10) then (bif okStr32 e.2.2.2.2.1.2.1 then vb (cmdB e.2.2.2.2.1) else none) else vb (eqD T28 e.2.2.2.2.1 (zeroD T28))
theorem e17 (e : T30.den) : evF l17 [] Try.f17 0 [.val T30 e] = evR e := by kernel_rfl
theorem e15 (e : T30.den) : evF l15 [] Try.f15 0 [.val T30 e] = evR e := by kernel_rfl
theorem evR_eq (e : T30.den) (h : okStr32 e.2.2.2.2.1.2.1 = true) : evR e = vb (evB e) := by
  unfold evR evB
  rw [h]
  cases (!inF e.1 1 11) <;> cases decide (e.2.1 < 0) <;> cases decide (e.2.2.1 < 0) <;> cases decide (e.2.2.2.1 < 0) <;> cases decide (e.1 = 1) <;> cases decide (e.1 = 10) <;> rfl
def c17 : Con := reads [T30] (fun x => okStr32 x.1.2.2.2.2.1.2.1) .bool fun x => evB x.1
theorem c17_ok : ConOk Try.prog 17 c17 := reads_ok ⟨Try.f17, by kernel_rfl, rfl, by decide⟩ fun x hx =>
  evF_ok (r := (.val .bool (evB x.1), [])) (args := encA _ x) l17_ok (kp := []) (n := 17) (by kernel_rfl) rfl rfl rfl 0 (f := Try.f17) ((e17 x.1).trans (evR_eq x.1 hx))
theorem c15_ok : ConOk Try.prog 15 c17 := reads_ok ⟨Try.f15, by kernel_rfl, rfl, by decide⟩ fun x hx =>
  evF_ok (r := (.val .bool (evB x.1), [])) (args := encA _ x) l15_ok (kp := []) (n := 15) (by kernel_rfl) rfl rfl rfl 0 (f := Try.f15) ((e15 x.1).trans (evR_eq x.1 hx))

-- the conversions
theorem e70 (x : T23.den) : evF [] [] Try.f70 0 [.val T23 x] = vt T28 x := by kernel_rfl
def c70 : Con := reads [T23] (fun _ => true) T28 fun x => x.1
theorem c70_ok : ConOk Try.prog 70 c70 := reads_ok ⟨Try.f70, by kernel_rfl, rfl, by decide⟩ fun x _ =>
  evF_ok (r := (.val T28 x.1, [])) (args := encA _ x) all_nil (kp := []) (n := 70) (by kernel_rfl) rfl rfl rfl 0 (f := Try.f70) (e70 x.1)
def l16 : List (Nat × Con) := [(70, c70)]
theorem l16_ok : ∀ q ∈ l16, ConOk Try.prog q.1 q.2 := all_cons c70_ok all_nil
theorem e16 (x : T25.den) : evF l16 [] Try.f16 0 [.val T25 x] = vt T30 x := by kernel_rfl
def c16 : Con := reads [T25] (fun _ => true) T30 fun x => x.1
theorem c16_ok : ConOk Try.prog 16 c16 := reads_ok ⟨Try.f16, by kernel_rfl, rfl, by decide⟩ fun x _ =>
  evF_ok (r := (.val T30 x.1, [])) (args := encA _ x) l16_ok (kp := []) (n := 16) (by kernel_rfl) rfl rfl rfl 0 (f := Try.f16) (e16 x.1)

-- the sizes
def szCmd (x : T23.den) (left : Int) : Int := bif decide (IntKind.wrap .i64 (left - (x.2.1.size : Int)) < 0) then -1 else IntKind.wrap .i64 (left - (x.2.1.size : Int))
theorem vi_if (c : Bool) (a b : Int) : (bif c then vi a else vi b) = vi (bif c then a else b) := by cases c <;> rfl
theorem e67 (x : T23.den) (left : Int) : evF [] [] Try.f67 0 [.val T23 x, .val i64 left] = bif decide (IntKind.wrap .i64 (left - (x.2.1.size : Int)) < 0) then vi (-1) else vi (IntKind.wrap .i64 (left - (x.2.1.size : Int))) := by kernel_rfl
def c67 : Con := reads [T23, i64] (fun _ => true) i64 fun x => szCmd x.1 x.2.1
theorem c67_ok : ConOk Try.prog 67 c67 := reads_ok ⟨Try.f67, by kernel_rfl, rfl, by decide⟩ fun x _ =>
  evF_ok (r := (.val i64 (szCmd x.1 x.2.1), [])) (args := encA _ x) all_nil (kp := []) (n := 67) (by kernel_rfl) rfl rfl rfl 0 (f := Try.f67) ((e67 x.1 x.2.1).trans (vi_if _ _ _))
def szEvent (x : T25.den) (left : Int) : Int := bif decide (szCmd x.2.2.2.2.1 left < 0) then -1 else szCmd x.2.2.2.2.1 left
def l14 : List (Nat × Con) := [(67, c67)]
theorem l14_ok : ∀ q ∈ l14, ConOk Try.prog q.1 q.2 := all_cons c67_ok all_nil
theorem e14 (x : T25.den) (left : Int) : evF l14 [] Try.f14 0 [.val T25 x, .val i64 left] = bif decide (szCmd x.2.2.2.2.1 left < 0) then vi (-1) else vi (szCmd x.2.2.2.2.1 left) := by kernel_rfl
def c14 : Con := reads [T25, i64] (fun _ => true) i64 fun x => szEvent x.1 x.2.1
theorem c14_ok : ConOk Try.prog 14 c14 := reads_ok ⟨Try.f14, by kernel_rfl, rfl, by decide⟩ fun x _ =>
  evF_ok (r := (.val i64 (szEvent x.1 x.2.1), [])) (args := encA _ x) l14_ok (kp := []) (n := 14) (by kernel_rfl) rfl rfl rfl 0 (f := Try.f14) ((e14 x.1 x.2.1).trans (vi_if _ _ _))

theorem szCmd_big (x : T23.den) (h : ByteArray.size x.2.1 ≤ 9223372036854775807) (hs : 1048576 < ByteArray.size x.2.1) : szCmd x 1048576 = -1 := by
  unfold szCmd
  have e := wrap64 (n := 1048576 - (ByteArray.size x.2.1 : Int)) (by omega) (by omega)
  simp only [e]
  rw [show decide ((1048576 : Int) - (ByteArray.size x.2.1 : Int) < 0) = true by simp; omega]
  rfl
theorem szEvent_big (x : T25.den) (h : ByteArray.size x.2.2.2.2.1.2.1 ≤ 9223372036854775807) (hs : 1048576 < ByteArray.size x.2.2.2.2.1.2.1) : szEvent x 1048576 = -1 := by
  unfold szEvent
  rw [szCmd_big x.2.2.2.2.1 h hs]
  rfl

-- the law
def l3 : List (Nat × Con) := [(14, c14), (16, c16), (15, c17), (17, c17)]
theorem l3_ok : ∀ q ∈ l3, ConOk Try.prog q.1 q.2 := all_cons c14_ok (all_cons c16_ok (all_cons c15_ok (all_cons c17_ok all_nil)))
theorem e3 (x : T25.den) : evF l3 [] Try.f3 0 [.val T25 x] = bif decide (szEvent x 1048576 < 0) then vb true else bif okStr32 x.2.2.2.2.1.2.1 then (bif okStr32 x.2.2.2.2.1.2.1 then (bif !(evB x == evB x) then vb false else vb true) else none) else none := by kernel_rfl
theorem law3 (x : T25.den) (h : ByteArray.size x.2.2.2.2.1.2.1 ≤ 9223372036854775807) : CallOk Try.prog 3 [.val T25 x] (.val .bool true) [] :=
  evF_ok (r := (.val .bool true, [])) l3_ok (kp := []) (n := 3) (by kernel_rfl) rfl rfl rfl 0 (f := Try.f3) ((e3 x).trans (by
    cases hd : decide (szEvent x 1048576 < 0) with
    | true => rfl
    | false =>
      have ok : okStr32 x.2.2.2.2.1.2.1 = true := by
        unfold okStr32 lim
        simp only [decide_eq_true_eq]
        rcases Nat.lt_or_ge 1048576 (ByteArray.size x.2.2.2.2.1.2.1) with hs | hs
        · rw [szEvent_big x h hs] at hd
          simp at hd
        · omega
      rw [ok]
      simp
      rfl))

end Go.Sx.Try
