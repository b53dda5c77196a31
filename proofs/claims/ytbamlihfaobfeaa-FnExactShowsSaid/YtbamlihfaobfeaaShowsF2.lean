/- The functions of the seat: what each comes to. -/
import Derived.Test.YtbamlihfaobfeaaTypes
import Derived.Test.YtbamlihfaobfeaaShowsF1
set_option linter.unusedVariables false
set_option linter.unusedSimpArgs false
set_option maxRecDepth 100000
namespace Go.Sx.Try
open Go Go.Sx Go.Proofs

noncomputable def l_g_IndexFunc_ICmd__i_BlockOk_1 : List (Nat × Con) := [(189, c_i_BlockOk_1)]
theorem l_g_IndexFunc_ICmd__i_BlockOk_1_ok : ∀ q ∈ l_g_IndexFunc_ICmd__i_BlockOk_1, ConOk Try.prog q.1 q.2 := Try.cons_cons c_i_BlockOk_1_ok (Try.cons_nil)
abbrev k_g_IndexFunc_ICmd__i_BlockOk_1_2 : List Keep × List BK := ([.ro tSlLCmd, .is (.fn 189 []), .drop, .drop, .drop, .drop, .drop, .ro tInt64, .ro tInt64, .drop, .drop, .drop, .drop, .drop, .drop, .drop, .drop, .drop, .drop], [])
def kp_g_IndexFunc_ICmd__i_BlockOk_1 : KP := [(2, k_g_IndexFunc_ICmd__i_BlockOk_1_2)]
noncomputable def q_g_IndexFunc_ICmd__i_BlockOk_1 (n : Nat) (x : AP.denL [.ro tSlICmd, .fn 189 []]) := evX (false, false, []) l_g_IndexFunc_ICmd__i_BlockOk_1 kp_g_IndexFunc_ICmd__i_BlockOk_1 [none] Try.f195 (shV tInt) n (AP.encL [.ro tSlICmd, .fn 189 []] x)
noncomputable def c_g_IndexFunc_ICmd__i_BlockOk_1 : Con := apS [.ro tSlICmd, .fn 189 []] true (shV tInt) (q_g_IndexFunc_ICmd__i_BlockOk_1 big)
theorem c_g_IndexFunc_ICmd__i_BlockOk_1_ok : ConOk Try.prog 195 c_g_IndexFunc_ICmd__i_BlockOk_1 := apS_ok ⟨Try.f195, by kernel_rfl, rfl, by decide⟩ fun _ _ h => evX_ok l_g_IndexFunc_ICmd__i_BlockOk_1_ok (f := Try.f195) (by kernel_rfl) rfl (by kernel_rfl) (by kernel_rfl) big h
noncomputable def Q_g_IndexFunc_ICmd__i_BlockOk_1 (n : Nat) (a0 : DSlICmd) (a1 : Unit) : Option Int := q_g_IndexFunc_ICmd__i_BlockOk_1 n (a0, a1, ())
noncomputable def r_g_IndexFunc_ICmd__i_BlockOk_1_2 (n : Nat) (x : KD k_g_IndexFunc_ICmd__i_BlockOk_1_2.1) (y : BD k_g_IndexFunc_ICmd__i_BlockOk_1_2.2) := rounds (env (false, false, []) l_g_IndexFunc_ICmd__i_BlockOk_1) kp_g_IndexFunc_ICmd__i_BlockOk_1 (body Try.f195) (finX (false, false, []) l_g_IndexFunc_ICmd__i_BlockOk_1 [none] Try.f195 (shV tInt) [AP.enc (.ro tSlICmd) (zeroD tSlICmd), AP.enc (.fn 189 []) ()]) n 2 k_g_IndexFunc_ICmd__i_BlockOk_1_2 x y
noncomputable def R_g_IndexFunc_ICmd__i_BlockOk_1_2 (n : Nat) (s0 : DSlLCmd) (s7 : Int) (s8 : Int) : Option Int := r_g_IndexFunc_ICmd__i_BlockOk_1_2 n (s0, s7, s8, ()) ()
theorem Q_g_IndexFunc_ICmd__i_BlockOk_1_eq (n : Nat) (a0 : DSlICmd) (a1 : Unit) : Q_g_IndexFunc_ICmd__i_BlockOk_1 n a0 a1 =
    R_g_IndexFunc_ICmd__i_BlockOk_1_2 n a0 (↑(List.length a0) : Int) (0 : Int) := by kernel_rfl
theorem R_g_IndexFunc_ICmd__i_BlockOk_1_2_eq (n : Nat) (s0 : DSlLCmd) (s7 : Int) (s8 : Int) : R_g_IndexFunc_ICmd__i_BlockOk_1_2 (n + 1) s0 s7 s8 =
    bif decide (s8 < s7) then
 if (0 : Int) ≤ s8 then
 (nth s0 s8.toNat).bind fun y =>
 (Q_i_BlockOk_1 big y).bind fun y =>
 bif y then some s8 else R_g_IndexFunc_ICmd__i_BlockOk_1_2 n s0 s7 (IntKind.i64.wrap (s8 + (1 : Int)))
 else none
 else some (-1 : Int) := by kernel_rfl

end Go.Sx.Try

set_option maxRecDepth 100000
namespace Go.Sx.Try
open Go Go.Sx Go.Proofs

noncomputable def l_g_ContainsFunc_ICmd__i_BlockOk_1 : List (Nat × Con) := [(195, c_g_IndexFunc_ICmd__i_BlockOk_1)]
theorem l_g_ContainsFunc_ICmd__i_BlockOk_1_ok : ∀ q ∈ l_g_ContainsFunc_ICmd__i_BlockOk_1, ConOk Try.prog q.1 q.2 := Try.cons_cons c_g_IndexFunc_ICmd__i_BlockOk_1_ok (Try.cons_nil)
def kp_g_ContainsFunc_ICmd__i_BlockOk_1 : KP := []
noncomputable def q_g_ContainsFunc_ICmd__i_BlockOk_1 (n : Nat) (x : AP.denL [.ro tSlICmd, .fn 189 []]) := evX (false, false, []) l_g_ContainsFunc_ICmd__i_BlockOk_1 kp_g_ContainsFunc_ICmd__i_BlockOk_1 [none] Try.f188 (shV tBool) n (AP.encL [.ro tSlICmd, .fn 189 []] x)
noncomputable def c_g_ContainsFunc_ICmd__i_BlockOk_1 : Con := apS [.ro tSlICmd, .fn 189 []] true (shV tBool) (q_g_ContainsFunc_ICmd__i_BlockOk_1 big)
theorem c_g_ContainsFunc_ICmd__i_BlockOk_1_ok : ConOk Try.prog 188 c_g_ContainsFunc_ICmd__i_BlockOk_1 := apS_ok ⟨Try.f188, by kernel_rfl, rfl, by decide⟩ fun _ _ h => evX_ok l_g_ContainsFunc_ICmd__i_BlockOk_1_ok (f := Try.f188) (by kernel_rfl) rfl (by kernel_rfl) (by kernel_rfl) big h
noncomputable def Q_g_ContainsFunc_ICmd__i_BlockOk_1 (n : Nat) (a0 : DSlICmd) (a1 : Unit) : Option Bool := q_g_ContainsFunc_ICmd__i_BlockOk_1 n (a0, a1, ())
theorem Q_g_ContainsFunc_ICmd__i_BlockOk_1_eq (n : Nat) (a0 : DSlICmd) (a1 : Unit) : Q_g_ContainsFunc_ICmd__i_BlockOk_1 n a0 a1 =
    (Q_g_IndexFunc_ICmd__i_BlockOk_1 big a0 ()).bind fun y => some (decide ((0 : Int) ≤ y)) := by kernel_rfl

end Go.Sx.Try

set_option maxRecDepth 100000
namespace Go.Sx.Try
open Go Go.Sx Go.Proofs

noncomputable def l_i_BlockOk : List (Nat × Con) := [(98, c_i_in), (188, c_g_ContainsFunc_ICmd__i_BlockOk_1)]
theorem l_i_BlockOk_ok : ∀ q ∈ l_i_BlockOk, ConOk Try.prog q.1 q.2 := Try.cons_cons c_i_in_ok (Try.cons_cons c_g_ContainsFunc_ICmd__i_BlockOk_1_ok (Try.cons_nil))
def kp_i_BlockOk : KP := []
noncomputable def q_i_BlockOk (n : Nat) (x : Args [tSlIBlock, tIBlock]) := evX (false, false, [3, 5, 13, 16, 24, 29, 34, 39, 40, 42, 47, 48, 51]) l_i_BlockOk kp_i_BlockOk [none] Try.f177 (shV tBool) n (encA [tSlIBlock, tIBlock] x)
noncomputable def c_i_BlockOk : Con := roS [tSlIBlock, tIBlock] true (shV tBool) (q_i_BlockOk big)
theorem c_i_BlockOk_ok : ConOk Try.prog 177 c_i_BlockOk := roS_ok ⟨Try.f177, by kernel_rfl, rfl, by decide⟩ fun _ _ h => evX_ok l_i_BlockOk_ok (f := Try.f177) (by kernel_rfl) rfl (by kernel_rfl) (by kernel_rfl) big h
noncomputable def Q_i_BlockOk (n : Nat) (a0 : DSlIBlock) (a1 : DIBlock) : Option Bool := q_i_BlockOk n (a0, a1, ())
theorem Q_i_BlockOk_eq (n : Nat) (a0 : DSlIBlock) (a1 : DIBlock) : Q_i_BlockOk n a0 a1 =
    (Q_i_in big a1.fst (0 : Int) (IntKind.i64.wrap ((↑(List.length a0) : Int) - (1 : Int)))).bind fun y =>
 bif !y then some false
 else
 if (0 : Int) ≤ a1.fst then
 (nth a0 (Int.toNat a1.fst)).bind fun y =>
 bif decide (a1.snd.fst ≤ y.snd.fst) then some false
 else
 bif decide ((900 : Int) < a1.snd.fst) then some false
 else
 bif decide ((4 : Int) < (↑(List.length a1.snd.snd.fst) : Int)) then some false
 else
 (Q_g_ContainsFunc_ICmd__i_BlockOk_1 big a1.snd.snd.fst ()).bind fun y =>
 bif !y then
 bif decide (a1.snd.snd.snd.fst.snd.snd.fst = a1.fst) then
 if (0 : Int) ≤ a1.fst then
 (nth a0 (Int.toNat a1.fst)).bind fun y => some (decide (a1.snd.snd.snd.fst.snd.fst = y.snd.fst))
 else none
 else some false
 else some false
 else none := by kernel_rfl

end Go.Sx.Try

set_option maxRecDepth 100000
namespace Go.Sx.Try
open Go Go.Sx Go.Proofs

noncomputable def l_i_PutBlock : List (Nat × Con) := [(163, c_i_cloneTree), (176, c_i_BlockAt), (177, c_i_BlockOk), (145, c_g_Clone_ICmd)]
theorem l_i_PutBlock_ok : ∀ q ∈ l_i_PutBlock, ConOk Try.prog q.1 q.2 := Try.cons_cons c_i_cloneTree_ok (Try.cons_cons c_i_BlockAt_ok (Try.cons_cons c_i_BlockOk_ok (Try.cons_cons c_g_Clone_ICmd_ok (Try.cons_nil))))
def kp_i_PutBlock : KP := []
noncomputable def q_i_PutBlock (n : Nat) (x : Args [tSlIBlock, tIBlock]) := evX (true, false, [3, 27]) l_i_PutBlock kp_i_PutBlock [some uSlIBlock, none] Try.f144 (shT [(true, uSlIBlock), (false, tInt)]) n (encA [tSlIBlock, tIBlock] x)
noncomputable def c_i_PutBlock : Con := roS [tSlIBlock, tIBlock] true (shT [(true, uSlIBlock), (false, tInt)]) (q_i_PutBlock big)
theorem c_i_PutBlock_ok : ConOk Try.prog 144 c_i_PutBlock := roS_ok ⟨Try.f144, by kernel_rfl, rfl, by decide⟩ fun _ _ h => evX_ok l_i_PutBlock_ok (f := Try.f144) (by kernel_rfl) rfl (by kernel_rfl) (by kernel_rfl) big h
noncomputable def Q_i_PutBlock (n : Nat) (a0 : DSlIBlock) (a1 : DIBlock) : Option (DSlIBlock × Int × Unit) := q_i_PutBlock n (a0, a1, ())
theorem Q_i_PutBlock_eq (n : Nat) (a0 : DSlIBlock) (a1 : DIBlock) : Q_i_PutBlock n a0 a1 =
    (Q_i_cloneTree big a0).bind fun y =>
 (Q_i_BlockAt big a0 a1).bind fun y_1 =>
 bif decide ((0 : Int) ≤ y_1) then some (y, y_1, PUnit.unit)
 else
 (Q_i_BlockOk big a0 a1).bind fun y_2 =>
 bif !y_2 then some (y, (-1 : Int), PUnit.unit)
 else
 bif decide ((60 : Int) ≤ (↑(List.length a0) : Int)) then some (y, (-1 : Int), PUnit.unit)
 else
 (Q_g_Clone_ICmd big a1.snd.snd.fst).bind fun y_3 =>
 if List.length y + [(a1.fst, a1.snd.fst, y_3, a1.snd.snd.snd)].length ≤ lim then
 some
 (List.append y [(a1.fst, a1.snd.fst, y_3, a1.snd.snd.snd)], (↑(List.length a0) : Int), PUnit.unit)
 else none := by kernel_rfl

end Go.Sx.Try

set_option maxRecDepth 100000
namespace Go.Sx.Try
open Go Go.Sx Go.Proofs

noncomputable def l_s_SameBlock : List (Nat × Con) := []
theorem l_s_SameBlock_ok : ∀ q ∈ l_s_SameBlock, ConOk Try.prog q.1 q.2 := Try.cons_nil
abbrev k_s_SameBlock_4 : List Keep × List BK := ([.drop, .drop, .is (.ptr 0 0), .is (.ptr 1 0), .drop, .ro tInt64, .drop, .drop, .drop, .drop, .drop, .drop, .drop, .drop, .drop, .drop, .drop, .drop, .drop, .drop, .drop, .drop, .drop, .drop, .drop, .drop, .drop, .drop, .drop, .drop, .drop, .drop, .drop, .drop, .drop, .drop, .drop, .drop, .drop, .drop, .drop, .drop, .drop, .drop, .drop, .drop, .drop, .drop, .drop, .drop, .drop, .drop], [.vars [.ro tInt64, .ro tInt64, .ro tSlLCmd, .ro tInt64, .ro tInt64, .ro tInt64, .ro tInt64], .vars [.ro tInt64, .ro tInt64, .ro tSlLCmd, .ro tInt64, .ro tInt64, .ro tInt64, .ro tInt64]])
def kp_s_SameBlock : KP := [(4, k_s_SameBlock_4)]
noncomputable def q_s_SameBlock (n : Nat) (x : Args [tIBlock, tIBlock]) := evX (false, false, [2, 3, 6, 8, 12, 14, 19, 21, 26, 29, 35, 41, 46]) l_s_SameBlock kp_s_SameBlock [none] Try.f184 (shV tBool) n (encA [tIBlock, tIBlock] x)
noncomputable def c_s_SameBlock : Con := roS [tIBlock, tIBlock] true (shV tBool) (q_s_SameBlock big)
theorem c_s_SameBlock_ok : ConOk Try.prog 184 c_s_SameBlock := roS_ok ⟨Try.f184, by kernel_rfl, rfl, by decide⟩ fun _ _ h => evX_ok l_s_SameBlock_ok (f := Try.f184) (by kernel_rfl) rfl (by kernel_rfl) (by kernel_rfl) big h
noncomputable def Q_s_SameBlock (n : Nat) (a0 : DIBlock) (a1 : DIBlock) : Option Bool := q_s_SameBlock n (a0, a1, ())
noncomputable def r_s_SameBlock_4 (n : Nat) (x : KD k_s_SameBlock_4.1) (y : BD k_s_SameBlock_4.2) := rounds (env (false, false, [2, 3, 6, 8, 12, 14, 19, 21, 26, 29, 35, 41, 46]) l_s_SameBlock) kp_s_SameBlock (body Try.f184) (finX (false, false, [2, 3, 6, 8, 12, 14, 19, 21, 26, 29, 35, 41, 46]) l_s_SameBlock [none] Try.f184 (shV tBool) [.val tIBlock (zeroD tIBlock), .val tIBlock (zeroD tIBlock)]) n 4 k_s_SameBlock_4 x y
noncomputable def R_s_SameBlock_4 (n : Nat) (s5 : Int) (b0_0 : Int) (b0_1 : Int) (b0_2 : DSlLCmd) (b0_3 : Int) (b0_4 : Int) (b0_5 : Int) (b0_6 : Int) (b1_0 : Int) (b1_1 : Int) (b1_2 : DSlLCmd) (b1_3 : Int) (b1_4 : Int) (b1_5 : Int) (b1_6 : Int) : Option Bool := r_s_SameBlock_4 n (s5, ()) ((b0_0, b0_1, b0_2, b0_3, b0_4, b0_5, b0_6, ()), (b1_0, b1_1, b1_2, b1_3, b1_4, b1_5, b1_6, ()), ())
theorem Q_s_SameBlock_eq (n : Nat) (a0 : DIBlock) (a1 : DIBlock) : Q_s_SameBlock n a0 a1 =
    bif !decide (a0.fst = a1.fst) then some false
 else
 bif !decide (a0.snd.fst = a1.snd.fst) then some false
 else
 bif !eqD tIQc a0.snd.snd.snd.fst a1.snd.snd.snd.fst then some false
 else
 bif !decide ((↑(List.length a0.snd.snd.fst) : Int) = (↑(List.length a1.snd.snd.fst) : Int)) then some false
 else
 R_s_SameBlock_4 n (0 : Int) a0.fst a0.snd.fst a0.snd.snd.fst a0.snd.snd.snd.fst.fst a0.snd.snd.snd.fst.snd.fst
 a0.snd.snd.snd.fst.snd.snd.fst a0.snd.snd.snd.fst.snd.snd.snd.fst a1.fst a1.snd.fst a1.snd.snd.fst
 a1.snd.snd.snd.fst.fst a1.snd.snd.snd.fst.snd.fst a1.snd.snd.snd.fst.snd.snd.fst
 a1.snd.snd.snd.fst.snd.snd.snd.fst := by kernel_rfl
theorem R_s_SameBlock_4_eq (n : Nat) (s5 : Int) (b0_0 : Int) (b0_1 : Int) (b0_2 : DSlLCmd) (b0_3 : Int) (b0_4 : Int) (b0_5 : Int) (b0_6 : Int) (b1_0 : Int) (b1_1 : Int) (b1_2 : DSlLCmd) (b1_3 : Int) (b1_4 : Int) (b1_5 : Int) (b1_6 : Int) : R_s_SameBlock_4 (n + 1) s5 b0_0 b0_1 b0_2 b0_3 b0_4 b0_5 b0_6 b1_0 b1_1 b1_2 b1_3 b1_4 b1_5 b1_6 =
    bif decide (s5 < (↑(List.length b0_2) : Int)) then
 if (0 : Int) ≤ s5 then
 (nth b0_2 s5.toNat).bind fun y =>
 if (0 : Int) ≤ s5 then
 (nth b1_2 s5.toNat).bind fun y_1 =>
 bif !eqD tICmd y y_1 then some false
 else
 R_s_SameBlock_4 n (IntKind.i64.wrap (s5 + (1 : Int))) b0_0 b0_1 b0_2 b0_3 b0_4 b0_5 b0_6 b1_0 b1_1 b1_2
 b1_3 b1_4 b1_5 b1_6
 else none
 else none
 else some true := by kernel_rfl

end Go.Sx.Try

set_option maxRecDepth 100000
namespace Go.Sx.Try
open Go Go.Sx Go.Proofs

noncomputable def l_s_BlockAt : List (Nat × Con) := [(184, c_s_SameBlock)]
theorem l_s_BlockAt_ok : ∀ q ∈ l_s_BlockAt, ConOk Try.prog q.1 q.2 := Try.cons_cons c_s_SameBlock_ok (Try.cons_nil)
abbrev k_s_BlockAt_2 : List Keep × List BK := ([.ro tSlLBlock, .drop, .drop, .is (.ptr 0 0), .drop, .ro tInt64, .drop, .drop, .drop, .drop, .drop, .drop, .drop, .drop, .drop, .drop, .drop, .drop, .drop], [.vars [.ro tInt64, .ro tInt64, .ro tSlLCmd, .ro tInt64, .ro tInt64, .ro tInt64, .ro tInt64]])
def kp_s_BlockAt : KP := [(2, k_s_BlockAt_2)]
noncomputable def q_s_BlockAt (n : Nat) (x : Args [tSlIBlock, tIBlock]) := evX (false, false, [3]) l_s_BlockAt kp_s_BlockAt [none] Try.f172 (shV tInt) n (encA [tSlIBlock, tIBlock] x)
noncomputable def c_s_BlockAt : Con := roS [tSlIBlock, tIBlock] true (shV tInt) (q_s_BlockAt big)
theorem c_s_BlockAt_ok : ConOk Try.prog 172 c_s_BlockAt := roS_ok ⟨Try.f172, by kernel_rfl, rfl, by decide⟩ fun _ _ h => evX_ok l_s_BlockAt_ok (f := Try.f172) (by kernel_rfl) rfl (by kernel_rfl) (by kernel_rfl) big h
noncomputable def Q_s_BlockAt (n : Nat) (a0 : DSlIBlock) (a1 : DIBlock) : Option Int := q_s_BlockAt n (a0, a1, ())
noncomputable def r_s_BlockAt_2 (n : Nat) (x : KD k_s_BlockAt_2.1) (y : BD k_s_BlockAt_2.2) := rounds (env (false, false, [3]) l_s_BlockAt) kp_s_BlockAt (body Try.f172) (finX (false, false, [3]) l_s_BlockAt [none] Try.f172 (shV tInt) [.val tSlIBlock (zeroD tSlIBlock), .val tIBlock (zeroD tIBlock)]) n 2 k_s_BlockAt_2 x y
noncomputable def R_s_BlockAt_2 (n : Nat) (s0 : DSlLBlock) (s5 : Int) (b0_0 : Int) (b0_1 : Int) (b0_2 : DSlLCmd) (b0_3 : Int) (b0_4 : Int) (b0_5 : Int) (b0_6 : Int) : Option Int := r_s_BlockAt_2 n (s0, s5, ()) ((b0_0, b0_1, b0_2, b0_3, b0_4, b0_5, b0_6, ()), ())
theorem Q_s_BlockAt_eq (n : Nat) (a0 : DSlIBlock) (a1 : DIBlock) : Q_s_BlockAt n a0 a1 =
    R_s_BlockAt_2 n a0 (0 : Int) a1.fst a1.snd.fst a1.snd.snd.fst a1.snd.snd.snd.fst.fst a1.snd.snd.snd.fst.snd.fst
 a1.snd.snd.snd.fst.snd.snd.fst a1.snd.snd.snd.fst.snd.snd.snd.fst := by kernel_rfl
theorem R_s_BlockAt_2_eq (n : Nat) (s0 : DSlLBlock) (s5 : Int) (b0_0 : Int) (b0_1 : Int) (b0_2 : DSlLCmd) (b0_3 : Int) (b0_4 : Int) (b0_5 : Int) (b0_6 : Int) : R_s_BlockAt_2 (n + 1) s0 s5 b0_0 b0_1 b0_2 b0_3 b0_4 b0_5 b0_6 =
    bif decide (s5 < (↑(List.length s0) : Int)) then
 if (0 : Int) ≤ s5 then
 (nth s0 s5.toNat).bind fun y =>
 (Q_s_SameBlock big y (b0_0, b0_1, b0_2, (b0_3, b0_4, b0_5, b0_6, ()), ())).bind fun y =>
 bif y then some s5
 else R_s_BlockAt_2 n s0 (IntKind.i64.wrap (s5 + (1 : Int))) b0_0 b0_1 b0_2 b0_3 b0_4 b0_5 b0_6
 else none
 else some (-1 : Int) := by kernel_rfl

end Go.Sx.Try

set_option maxRecDepth 100000
namespace Go.Sx.Try
open Go Go.Sx Go.Proofs

noncomputable def l_s_BlockOk : List (Nat × Con) := [(95, c_s_l01In), (113, c_s_CmdOk)]
theorem l_s_BlockOk_ok : ∀ q ∈ l_s_BlockOk, ConOk Try.prog q.1 q.2 := Try.cons_cons c_s_l01In_ok (Try.cons_cons c_s_CmdOk_ok (Try.cons_nil))
abbrev k_s_BlockOk_4 : List Keep × List BK := ([.ro tSlLBlock, .drop, .drop, .is (.ptr 0 0), .drop, .ro tInt64, .drop, .drop, .drop, .drop, .drop, .drop, .drop, .drop, .drop, .drop, .drop, .drop, .drop, .drop, .drop, .drop, .drop, .drop, .drop, .drop, .drop, .drop, .drop, .drop, .drop, .drop, .drop, .drop, .drop, .drop, .drop, .drop, .drop, .drop, .drop, .drop, .drop, .drop, .drop, .drop, .drop, .drop, .drop, .drop, .drop, .drop, .drop, .drop, .drop, .drop, .drop, .drop, .drop, .drop, .drop, .drop, .drop, .drop, .drop, .drop, .drop], [.vars [.ro tInt64, .ro tInt64, .ro tSlLCmd, .ro tInt64, .ro tInt64, .ro tInt64, .ro tInt64]])
def kp_s_BlockOk : KP := [(4, k_s_BlockOk_4)]
noncomputable def q_s_BlockOk (n : Nat) (x : Args [tSlIBlock, tIBlock]) := evX (false, false, [3, 6, 14, 17, 25, 30, 36, 42, 49, 50, 52, 56, 57, 60]) l_s_BlockOk kp_s_BlockOk [none] Try.f173 (shV tBool) n (encA [tSlIBlock, tIBlock] x)
noncomputable def c_s_BlockOk : Con := roS [tSlIBlock, tIBlock] true (shV tBool) (q_s_BlockOk big)
theorem c_s_BlockOk_ok : ConOk Try.prog 173 c_s_BlockOk := roS_ok ⟨Try.f173, by kernel_rfl, rfl, by decide⟩ fun _ _ h => evX_ok l_s_BlockOk_ok (f := Try.f173) (by kernel_rfl) rfl (by kernel_rfl) (by kernel_rfl) big h
noncomputable def Q_s_BlockOk (n : Nat) (a0 : DSlIBlock) (a1 : DIBlock) : Option Bool := q_s_BlockOk n (a0, a1, ())
noncomputable def r_s_BlockOk_4 (n : Nat) (x : KD k_s_BlockOk_4.1) (y : BD k_s_BlockOk_4.2) := rounds (env (false, false, [3, 6, 14, 17, 25, 30, 36, 42, 49, 50, 52, 56, 57, 60]) l_s_BlockOk) kp_s_BlockOk (body Try.f173) (finX (false, false, [3, 6, 14, 17, 25, 30, 36, 42, 49, 50, 52, 56, 57, 60]) l_s_BlockOk [none] Try.f173 (shV tBool) [.val tSlIBlock (zeroD tSlIBlock), .val tIBlock (zeroD tIBlock)]) n 4 k_s_BlockOk_4 x y
noncomputable def R_s_BlockOk_4 (n : Nat) (s0 : DSlLBlock) (s5 : Int) (b0_0 : Int) (b0_1 : Int) (b0_2 : DSlLCmd) (b0_3 : Int) (b0_4 : Int) (b0_5 : Int) (b0_6 : Int) : Option Bool := r_s_BlockOk_4 n (s0, s5, ()) ((b0_0, b0_1, b0_2, b0_3, b0_4, b0_5, b0_6, ()), ())
theorem Q_s_BlockOk_eq (n : Nat) (a0 : DSlIBlock) (a1 : DIBlock) : Q_s_BlockOk n a0 a1 =
    (Q_s_l01In big a1.fst (0 : Int) (IntKind.i64.wrap ((↑(List.length a0) : Int) - (1 : Int)))).bind fun y =>
 bif !y then some false
 else
 if (0 : Int) ≤ a1.fst then
 (nth a0 (Int.toNat a1.fst)).bind fun y =>
 bif decide (a1.snd.fst ≤ y.snd.fst) then some false
 else
 bif decide ((900 : Int) < a1.snd.fst) then some false
 else
 bif decide ((4 : Int) < (↑(List.length a1.snd.snd.fst) : Int)) then some false
 else
 R_s_BlockOk_4 n a0 (0 : Int) a1.fst a1.snd.fst a1.snd.snd.fst a1.snd.snd.snd.fst.fst
 a1.snd.snd.snd.fst.snd.fst a1.snd.snd.snd.fst.snd.snd.fst a1.snd.snd.snd.fst.snd.snd.snd.fst
 else none := by kernel_rfl
theorem R_s_BlockOk_4_eq (n : Nat) (s0 : DSlLBlock) (s5 : Int) (b0_0 : Int) (b0_1 : Int) (b0_2 : DSlLCmd) (b0_3 : Int) (b0_4 : Int) (b0_5 : Int) (b0_6 : Int) : R_s_BlockOk_4 (n + 1) s0 s5 b0_0 b0_1 b0_2 b0_3 b0_4 b0_5 b0_6 =
    bif decide (s5 < (↑(List.length b0_2) : Int)) then
 if (0 : Int) ≤ s5 then
 (nth b0_2 s5.toNat).bind fun y =>
 (Q_s_CmdOk big y).bind fun y =>
 bif !y then some false
 else R_s_BlockOk_4 n s0 (IntKind.i64.wrap (s5 + (1 : Int))) b0_0 b0_1 b0_2 b0_3 b0_4 b0_5 b0_6
 else none
 else
 bif decide (b0_5 = b0_0) then
 if (0 : Int) ≤ b0_0 then (nth s0 b0_0.toNat).bind fun y => some (decide (b0_4 = y.snd.fst)) else none
 else some false := by kernel_rfl

end Go.Sx.Try

set_option maxRecDepth 100000
namespace Go.Sx.Try
open Go Go.Sx Go.Proofs

noncomputable def l_s_PutBlock : List (Nat × Con) := [(161, c_s_l05Tree), (172, c_s_BlockAt), (173, c_s_BlockOk), (174, c_s_l05Block)]
theorem l_s_PutBlock_ok : ∀ q ∈ l_s_PutBlock, ConOk Try.prog q.1 q.2 := Try.cons_cons c_s_l05Tree_ok (Try.cons_cons c_s_BlockAt_ok (Try.cons_cons c_s_BlockOk_ok (Try.cons_cons c_s_l05Block_ok (Try.cons_nil))))
def kp_s_PutBlock : KP := []
noncomputable def q_s_PutBlock (n : Nat) (x : Args [tSlIBlock, tIBlock]) := evX (true, false, [3]) l_s_PutBlock kp_s_PutBlock [some uSlIBlock, none] Try.f142 (shT [(true, uSlIBlock), (false, tInt)]) n (encA [tSlIBlock, tIBlock] x)
noncomputable def c_s_PutBlock : Con := roS [tSlIBlock, tIBlock] true (shT [(true, uSlIBlock), (false, tInt)]) (q_s_PutBlock big)
theorem c_s_PutBlock_ok : ConOk Try.prog 142 c_s_PutBlock := roS_ok ⟨Try.f142, by kernel_rfl, rfl, by decide⟩ fun _ _ h => evX_ok l_s_PutBlock_ok (f := Try.f142) (by kernel_rfl) rfl (by kernel_rfl) (by kernel_rfl) big h
noncomputable def Q_s_PutBlock (n : Nat) (a0 : DSlIBlock) (a1 : DIBlock) : Option (DSlIBlock × Int × Unit) := q_s_PutBlock n (a0, a1, ())
theorem Q_s_PutBlock_eq (n : Nat) (a0 : DSlIBlock) (a1 : DIBlock) : Q_s_PutBlock n a0 a1 =
    (Q_s_l05Tree big a0).bind fun y =>
 (Q_s_BlockAt big a0 a1).bind fun y_1 =>
 bif decide ((0 : Int) ≤ y_1) then some (y, y_1, PUnit.unit)
 else
 (Q_s_BlockOk big a0 a1).bind fun y_2 =>
 bif !y_2 then some (y, (-1 : Int), PUnit.unit)
 else
 bif decide ((60 : Int) ≤ (↑(List.length a0) : Int)) then some (y, (-1 : Int), PUnit.unit)
 else
 (Q_s_l05Block big a1).bind fun y_3 =>
 if List.length y + [y_3].length ≤ lim then
 some (List.append y [y_3], (↑(List.length a0) : Int), PUnit.unit)
 else none := by kernel_rfl

end Go.Sx.Try

set_option maxRecDepth 100000
namespace Go.Sx.Try
open Go Go.Sx Go.Proofs

noncomputable def l_i_HigherQc : List (Nat × Con) := []
theorem l_i_HigherQc_ok : ∀ q ∈ l_i_HigherQc, ConOk Try.prog q.1 q.2 := Try.cons_nil
def kp_i_HigherQc : KP := []
noncomputable def q_i_HigherQc (n : Nat) (x : Args [tIQc, tIQc]) := evX (false, false, [2, 3, 5, 7]) l_i_HigherQc kp_i_HigherQc [none] Try.f175 (shV tIQc) n (encA [tIQc, tIQc] x)
noncomputable def c_i_HigherQc : Con := roS [tIQc, tIQc] true (shV tIQc) (q_i_HigherQc big)
theorem c_i_HigherQc_ok : ConOk Try.prog 175 c_i_HigherQc := roS_ok ⟨Try.f175, by kernel_rfl, rfl, by decide⟩ fun _ _ h => evX_ok l_i_HigherQc_ok (f := Try.f175) (by kernel_rfl) rfl (by kernel_rfl) (by kernel_rfl) big h
noncomputable def Q_i_HigherQc (n : Nat) (a0 : DIQc) (a1 : DIQc) : Option DIQc := q_i_HigherQc n (a0, a1, ())
theorem Q_i_HigherQc_eq (n : Nat) (a0 : DIQc) (a1 : DIQc) : Q_i_HigherQc n a0 a1 =
    bif decide (a0.snd.fst < a1.snd.fst) then some a1 else some a0 := by kernel_rfl

end Go.Sx.Try

set_option maxRecDepth 100000
namespace Go.Sx.Try
open Go Go.Sx Go.Proofs

noncomputable def l_i_BestQc : List (Nat × Con) := [(175, c_i_HigherQc)]
theorem l_i_BestQc_ok : ∀ q ∈ l_i_BestQc, ConOk Try.prog q.1 q.2 := Try.cons_cons c_i_HigherQc_ok (Try.cons_nil)
abbrev k_i_BestQc_3 : List Keep × List BK := ([.drop, .drop, .is (.ptr 1 0), .is (.ptr 2 0), .drop, .drop, .drop, .drop, .drop, .ro tSlILetter, .ro tInt64, .ro tInt64, .drop, .drop, .drop, .drop, .drop, .drop, .drop, .drop, .drop], [.drop, .vars [.ro tInt64, .ro tInt64, .ro tInt64, .ro tInt64], .vars [.ro tInt64, .ro tInt64, .ro tInt64, .ro tInt64]])
def kp_i_BestQc : KP := [(3, k_i_BestQc_3)]
noncomputable def q_i_BestQc (n : Nat) (x : Args [tIPeer]) := evX (false, false, [1, 3, 5, 6, 8, 16]) l_i_BestQc kp_i_BestQc [none] Try.f143 (shV tIQc) n (encA [tIPeer] x)
noncomputable def c_i_BestQc : Con := roS [tIPeer] true (shV tIQc) (q_i_BestQc big)
theorem c_i_BestQc_ok : ConOk Try.prog 143 c_i_BestQc := roS_ok ⟨Try.f143, by kernel_rfl, rfl, by decide⟩ fun _ _ h => evX_ok l_i_BestQc_ok (f := Try.f143) (by kernel_rfl) rfl (by kernel_rfl) (by kernel_rfl) big h
noncomputable def Q_i_BestQc (n : Nat) (a0 : DIPeer) : Option DIQc := q_i_BestQc n (a0, ())
noncomputable def r_i_BestQc_3 (n : Nat) (x : KD k_i_BestQc_3.1) (y : BD k_i_BestQc_3.2) := rounds (env (false, false, [1, 3, 5, 6, 8, 16]) l_i_BestQc) kp_i_BestQc (body Try.f143) (finX (false, false, [1, 3, 5, 6, 8, 16]) l_i_BestQc [none] Try.f143 (shV tIQc) [.val tIPeer (zeroD tIPeer)]) n 3 k_i_BestQc_3 x y
noncomputable def R_i_BestQc_3 (n : Nat) (s9 : DSlILetter) (s10 : Int) (s11 : Int) (b1_0 : Int) (b1_1 : Int) (b1_2 : Int) (b1_3 : Int) (b2_0 : Int) (b2_1 : Int) (b2_2 : Int) (b2_3 : Int) : Option DIQc := r_i_BestQc_3 n (s9, s10, s11, ()) ((b1_0, b1_1, b1_2, b1_3, ()), (b2_0, b2_1, b2_2, b2_3, ()), ())
theorem Q_i_BestQc_eq (n : Nat) (a0 : DIPeer) : Q_i_BestQc n a0 =
    R_i_BestQc_3 n a0.snd.snd.snd.snd.snd.snd.snd.snd.snd.snd.fst
 (↑(List.length a0.snd.snd.snd.snd.snd.snd.snd.snd.snd.snd.fst) : Int) (0 : Int) (0 : Int) (0 : Int) (0 : Int)
 (0 : Int) a0.snd.snd.fst.fst a0.snd.snd.fst.snd.fst a0.snd.snd.fst.snd.snd.fst
 a0.snd.snd.fst.snd.snd.snd.fst := by kernel_rfl
theorem R_i_BestQc_3_eq (n : Nat) (s9 : DSlILetter) (s10 : Int) (s11 : Int) (b1_0 : Int) (b1_1 : Int) (b1_2 : Int) (b1_3 : Int) (b2_0 : Int) (b2_1 : Int) (b2_2 : Int) (b2_3 : Int) : R_i_BestQc_3 (n + 1) s9 s10 s11 b1_0 b1_1 b1_2 b1_3 b2_0 b2_1 b2_2 b2_3 =
    bif decide (s11 < s10) then
 if (0 : Int) ≤ s11 then
 (nth s9 s11.toNat).bind fun y =>
 (Q_i_HigherQc big (b2_0, b2_1, b2_2, b2_3, ()) y.snd.snd.snd.snd.snd.fst).bind fun y =>
 R_i_BestQc_3 n s9 s10 (IntKind.i64.wrap (s11 + (1 : Int))) b1_0 b1_1 b1_2 b1_3 y.fst y.snd.fst y.snd.snd.fst
 y.snd.snd.snd.fst
 else none
 else some (b2_0, b2_1, b2_2, b2_3, PUnit.unit) := by kernel_rfl

end Go.Sx.Try

set_option maxRecDepth 100000
namespace Go.Sx.Try
open Go Go.Sx Go.Proofs

noncomputable def l_i_Shows : List (Nat × Con) := [(143, c_i_BestQc), (145, c_g_Clone_ICmd), (144, c_i_PutBlock), (94, c_i_clonePeer)]
theorem l_i_Shows_ok : ∀ q ∈ l_i_Shows, ConOk Try.prog q.1 q.2 := Try.cons_cons c_i_BestQc_ok (Try.cons_cons c_g_Clone_ICmd_ok (Try.cons_cons c_i_PutBlock_ok (Try.cons_cons c_i_clonePeer_ok (Try.cons_nil))))
def kp_i_Shows : KP := []
noncomputable def q_i_Shows (n : Nat) (x : Args [tSlIBlock, tIPeer, tSlICmd]) := evX (false, false, [4, 9, 12, 17, 19, 32]) l_i_Shows kp_i_Shows [some uSlIBlock, some uIPeer, none] Try.f71 (shT [(true, uSlIBlock), (true, uIPeer), (false, tInt)]) n (encA [tSlIBlock, tIPeer, tSlICmd] x)
noncomputable def c_i_Shows : Con := roS [tSlIBlock, tIPeer, tSlICmd] true (shT [(true, uSlIBlock), (true, uIPeer), (false, tInt)]) (q_i_Shows big)
theorem c_i_Shows_ok : ConOk Try.prog 71 c_i_Shows := roS_ok ⟨Try.f71, by kernel_rfl, rfl, by decide⟩ fun _ _ h => evX_ok l_i_Shows_ok (f := Try.f71) (by kernel_rfl) rfl (by kernel_rfl) (by kernel_rfl) big h
noncomputable def Q_i_Shows (n : Nat) (a0 : DSlIBlock) (a1 : DIPeer) (a2 : DSlICmd) : Option (DSlIBlock × DIPeer × Int × Unit) := q_i_Shows n (a0, a1, a2, ())
theorem Q_i_Shows_eq (n : Nat) (a0 : DSlIBlock) (a1 : DIPeer) (a2 : DSlICmd) : Q_i_Shows n a0 a1 a2 =
    (Q_i_BestQc big a1).bind fun y =>
 (Q_g_Clone_ICmd big a2).bind fun y_1 =>
 (Q_i_PutBlock big a0 (y.snd.snd.fst, a1.snd.fst, y_1, y, ())).bind fun y_2 =>
 (Q_i_clonePeer big a1).bind fun y_3 =>
 bif decide ((0 : Int) ≤ y_2.snd.fst) then
 some
 (y_2.fst,
 (y_3.fst, y_3.snd.fst, y, y_3.snd.snd.snd.fst, y_3.snd.snd.snd.snd.fst, y_3.snd.snd.snd.snd.snd.fst,
 y_3.snd.snd.snd.snd.snd.snd.fst, y_3.snd.snd.snd.snd.snd.snd.snd.fst,
 y_3.snd.snd.snd.snd.snd.snd.snd.snd.fst, y_3.snd.snd.snd.snd.snd.snd.snd.snd.snd.fst,
 y_3.snd.snd.snd.snd.snd.snd.snd.snd.snd.snd.fst, a1.snd.fst, PUnit.unit),
 y_2.snd)
 else some (y_2.fst, y_3, y_2.snd) := by kernel_rfl

end Go.Sx.Try

set_option maxRecDepth 100000
namespace Go.Sx.Try
open Go Go.Sx Go.Proofs

noncomputable def l_s_HigherQc : List (Nat × Con) := []
theorem l_s_HigherQc_ok : ∀ q ∈ l_s_HigherQc, ConOk Try.prog q.1 q.2 := Try.cons_nil
def kp_s_HigherQc : KP := []
noncomputable def q_s_HigherQc (n : Nat) (x : Args [tIQc, tIQc]) := evX (false, false, [2, 3, 5, 7]) l_s_HigherQc kp_s_HigherQc [none] Try.f171 (shV tIQc) n (encA [tIQc, tIQc] x)
noncomputable def c_s_HigherQc : Con := roS [tIQc, tIQc] true (shV tIQc) (q_s_HigherQc big)
theorem c_s_HigherQc_ok : ConOk Try.prog 171 c_s_HigherQc := roS_ok ⟨Try.f171, by kernel_rfl, rfl, by decide⟩ fun _ _ h => evX_ok l_s_HigherQc_ok (f := Try.f171) (by kernel_rfl) rfl (by kernel_rfl) (by kernel_rfl) big h
noncomputable def Q_s_HigherQc (n : Nat) (a0 : DIQc) (a1 : DIQc) : Option DIQc := q_s_HigherQc n (a0, a1, ())
theorem Q_s_HigherQc_eq (n : Nat) (a0 : DIQc) (a1 : DIQc) : Q_s_HigherQc n a0 a1 =
    bif decide (a0.snd.fst < a1.snd.fst) then some a1 else some a0 := by kernel_rfl

end Go.Sx.Try

set_option maxRecDepth 100000
namespace Go.Sx.Try
open Go Go.Sx Go.Proofs

noncomputable def l_s_BestQc : List (Nat × Con) := [(171, c_s_HigherQc)]
theorem l_s_BestQc_ok : ∀ q ∈ l_s_BestQc, ConOk Try.prog q.1 q.2 := Try.cons_cons c_s_HigherQc_ok (Try.cons_nil)
abbrev k_s_BestQc_3 : List Keep × List BK := ([.drop, .is (.ptr 0 0), .is (.ptr 1 0), .is (.ptr 2 0), .ro tInt64, .drop, .drop, .drop, .drop, .drop, .drop, .drop, .drop, .drop, .drop, .drop, .drop, .drop, .drop, .drop, .drop, .drop, .drop], [.vars [.ro tInt64, .ro tInt64, .ro tInt64, .ro tInt64, .ro tInt64, .ro tInt64, .ro tInt64, .ro tInt64, .ro tInt64, .ro tInt64, .ro tInt64, .ro tInt64, .ro tInt64, .ro tInt64, .ro tSlInt, .ro tSlICell, .ro tSlInt, .ro tSlIUndo, .ro tSlIVote, .ro tSlILetter, .ro tInt64], .vars [.ro tInt64, .ro tInt64, .ro tInt64, .ro tInt64], .vars [.ro tInt64, .ro tInt64, .ro tInt64, .ro tInt64]])
def kp_s_BestQc : KP := [(3, k_s_BestQc_3)]
noncomputable def q_s_BestQc (n : Nat) (x : Args [tIPeer]) := evX (false, false, [1, 3, 5, 8, 15]) l_s_BestQc kp_s_BestQc [none] Try.f141 (shV tIQc) n (encA [tIPeer] x)
noncomputable def c_s_BestQc : Con := roS [tIPeer] true (shV tIQc) (q_s_BestQc big)
theorem c_s_BestQc_ok : ConOk Try.prog 141 c_s_BestQc := roS_ok ⟨Try.f141, by kernel_rfl, rfl, by decide⟩ fun _ _ h => evX_ok l_s_BestQc_ok (f := Try.f141) (by kernel_rfl) rfl (by kernel_rfl) (by kernel_rfl) big h
noncomputable def Q_s_BestQc (n : Nat) (a0 : DIPeer) : Option DIQc := q_s_BestQc n (a0, ())
noncomputable def r_s_BestQc_3 (n : Nat) (x : KD k_s_BestQc_3.1) (y : BD k_s_BestQc_3.2) := rounds (env (false, false, [1, 3, 5, 8, 15]) l_s_BestQc) kp_s_BestQc (body Try.f141) (finX (false, false, [1, 3, 5, 8, 15]) l_s_BestQc [none] Try.f141 (shV tIQc) [.val tIPeer (zeroD tIPeer)]) n 3 k_s_BestQc_3 x y
noncomputable def R_s_BestQc_3 (n : Nat) (s4 : Int) (b0_0 : Int) (b0_1 : Int) (b0_2 : Int) (b0_3 : Int) (b0_4 : Int) (b0_5 : Int) (b0_6 : Int) (b0_7 : Int) (b0_8 : Int) (b0_9 : Int) (b0_10 : Int) (b0_11 : Int) (b0_12 : Int) (b0_13 : Int) (b0_14 : DSlInt) (b0_15 : DSlICell) (b0_16 : DSlInt) (b0_17 : DSlIUndo) (b0_18 : DSlIVote) (b0_19 : DSlILetter) (b0_20 : Int) (b1_0 : Int) (b1_1 : Int) (b1_2 : Int) (b1_3 : Int) (b2_0 : Int) (b2_1 : Int) (b2_2 : Int) (b2_3 : Int) : Option DIQc := r_s_BestQc_3 n (s4, ()) ((b0_0, b0_1, b0_2, b0_3, b0_4, b0_5, b0_6, b0_7, b0_8, b0_9, b0_10, b0_11, b0_12, b0_13, b0_14, b0_15, b0_16, b0_17, b0_18, b0_19, b0_20, ()), (b1_0, b1_1, b1_2, b1_3, ()), (b2_0, b2_1, b2_2, b2_3, ()), ())
theorem Q_s_BestQc_eq (n : Nat) (a0 : DIPeer) : Q_s_BestQc n a0 =
    R_s_BestQc_3 n (0 : Int) a0.fst a0.snd.fst a0.snd.snd.fst.fst a0.snd.snd.fst.snd.fst a0.snd.snd.fst.snd.snd.fst
 a0.snd.snd.fst.snd.snd.snd.fst a0.snd.snd.snd.fst.fst a0.snd.snd.snd.fst.snd.fst a0.snd.snd.snd.fst.snd.snd.fst
 a0.snd.snd.snd.fst.snd.snd.snd.fst a0.snd.snd.snd.snd.fst.fst a0.snd.snd.snd.snd.fst.snd.fst
 a0.snd.snd.snd.snd.fst.snd.snd.fst a0.snd.snd.snd.snd.fst.snd.snd.snd.fst a0.snd.snd.snd.snd.snd.fst
 a0.snd.snd.snd.snd.snd.snd.fst a0.snd.snd.snd.snd.snd.snd.snd.fst a0.snd.snd.snd.snd.snd.snd.snd.snd.fst
 a0.snd.snd.snd.snd.snd.snd.snd.snd.snd.fst a0.snd.snd.snd.snd.snd.snd.snd.snd.snd.snd.fst
 a0.snd.snd.snd.snd.snd.snd.snd.snd.snd.snd.snd.fst (0 : Int) (0 : Int) (0 : Int) (0 : Int) a0.snd.snd.fst.fst
 a0.snd.snd.fst.snd.fst a0.snd.snd.fst.snd.snd.fst a0.snd.snd.fst.snd.snd.snd.fst := by kernel_rfl
theorem R_s_BestQc_3_eq (n : Nat) (s4 : Int) (b0_0 : Int) (b0_1 : Int) (b0_2 : Int) (b0_3 : Int) (b0_4 : Int) (b0_5 : Int) (b0_6 : Int) (b0_7 : Int) (b0_8 : Int) (b0_9 : Int) (b0_10 : Int) (b0_11 : Int) (b0_12 : Int) (b0_13 : Int) (b0_14 : DSlInt) (b0_15 : DSlICell) (b0_16 : DSlInt) (b0_17 : DSlIUndo) (b0_18 : DSlIVote) (b0_19 : DSlILetter) (b0_20 : Int) (b1_0 : Int) (b1_1 : Int) (b1_2 : Int) (b1_3 : Int) (b2_0 : Int) (b2_1 : Int) (b2_2 : Int) (b2_3 : Int) : R_s_BestQc_3 (n + 1) s4 b0_0 b0_1 b0_2 b0_3 b0_4 b0_5 b0_6 b0_7 b0_8 b0_9 b0_10 b0_11 b0_12 b0_13 b0_14 b0_15 b0_16 b0_17 b0_18 b0_19 b0_20 b1_0 b1_1 b1_2 b1_3 b2_0 b2_1 b2_2 b2_3 =
    bif decide (s4 < (↑(List.length b0_19) : Int)) then
 if (0 : Int) ≤ s4 then
 (nth b0_19 s4.toNat).bind fun y =>
 (Q_s_HigherQc big (b2_0, b2_1, b2_2, b2_3, ()) y.snd.snd.snd.snd.snd.fst).bind fun y =>
 R_s_BestQc_3 n (IntKind.i64.wrap (s4 + (1 : Int))) b0_0 b0_1 b0_2 b0_3 b0_4 b0_5 b0_6 b0_7 b0_8 b0_9 b0_10
 b0_11 b0_12 b0_13 b0_14 b0_15 b0_16 b0_17 b0_18 b0_19 b0_20 b1_0 b1_1 b1_2 b1_3 y.fst y.snd.fst
 y.snd.snd.fst y.snd.snd.snd.fst
 else none
 else some (b2_0, b2_1, b2_2, b2_3, PUnit.unit) := by kernel_rfl

end Go.Sx.Try

set_option maxRecDepth 100000
namespace Go.Sx.Try
open Go Go.Sx Go.Proofs

noncomputable def l_s_Shows : List (Nat × Con) := [(141, c_s_BestQc), (142, c_s_PutBlock), (88, c_s_l09Copy)]
theorem l_s_Shows_ok : ∀ q ∈ l_s_Shows, ConOk Try.prog q.1 q.2 := Try.cons_cons c_s_BestQc_ok (Try.cons_cons c_s_PutBlock_ok (Try.cons_cons c_s_l09Copy_ok (Try.cons_nil)))
def kp_s_Shows : KP := []
noncomputable def q_s_Shows (n : Nat) (x : Args [tSlIBlock, tIPeer, tSlICmd]) := evX (false, false, [4, 9, 12, 17, 19, 33]) l_s_Shows kp_s_Shows [some uSlIBlock, some uIPeer, none] Try.f69 (shT [(true, uSlIBlock), (true, uIPeer), (false, tInt)]) n (encA [tSlIBlock, tIPeer, tSlICmd] x)
noncomputable def c_s_Shows : Con := roS [tSlIBlock, tIPeer, tSlICmd] true (shT [(true, uSlIBlock), (true, uIPeer), (false, tInt)]) (q_s_Shows big)
theorem c_s_Shows_ok : ConOk Try.prog 69 c_s_Shows := roS_ok ⟨Try.f69, by kernel_rfl, rfl, by decide⟩ fun _ _ h => evX_ok l_s_Shows_ok (f := Try.f69) (by kernel_rfl) rfl (by kernel_rfl) (by kernel_rfl) big h
noncomputable def Q_s_Shows (n : Nat) (a0 : DSlIBlock) (a1 : DIPeer) (a2 : DSlICmd) : Option (DSlIBlock × DIPeer × Int × Unit) := q_s_Shows n (a0, a1, a2, ())
theorem Q_s_Shows_eq (n : Nat) (a0 : DSlIBlock) (a1 : DIPeer) (a2 : DSlICmd) : Q_s_Shows n a0 a1 a2 =
    (Q_s_BestQc big a1).bind fun y =>
 (Q_s_PutBlock big a0 (y.snd.snd.fst, a1.snd.fst, a2, y, ())).bind fun y_1 =>
 (Q_s_l09Copy big a1).bind fun y_2 =>
 bif decide (y_1.snd.fst < (0 : Int)) then some (y_1.fst, y_2, (-1 : Int), PUnit.unit)
 else
 some
 (y_1.fst,
 (y_2.fst, y_2.snd.fst, y, y_2.snd.snd.snd.fst, y_2.snd.snd.snd.snd.fst, y_2.snd.snd.snd.snd.snd.fst,
 y_2.snd.snd.snd.snd.snd.snd.fst, y_2.snd.snd.snd.snd.snd.snd.snd.fst,
 y_2.snd.snd.snd.snd.snd.snd.snd.snd.fst, y_2.snd.snd.snd.snd.snd.snd.snd.snd.snd.fst,
 y_2.snd.snd.snd.snd.snd.snd.snd.snd.snd.snd.fst, a1.snd.fst, PUnit.unit),
 y_1.snd) := by kernel_rfl

end Go.Sx.Try

set_option maxRecDepth 100000
namespace Go.Sx.Try
open Go Go.Sx Go.Proofs

noncomputable def l_l_FnExactShows : List (Nat × Con) := [(56, c_l_szBlockS), (21, c_l_szPeer), (68, c_l_szCmdS), (58, c_l_toBlockS), (23, c_l_toPeer), (70, c_l_toCmdS), (69, c_s_Shows), (71, c_i_Shows), (62, c_l_eqBlockS), (18, c_l_eqPeer), (72, c_l_eqCmdS), (64, c_l_markBlockS), (19, c_l_markPeer), (73, c_l_markCmdS), (74, c_l_heldBlockS), (20, c_l_heldPeer)]
theorem l_l_FnExactShows_ok : ∀ q ∈ l_l_FnExactShows, ConOk Try.prog q.1 q.2 := Try.cons_cons c_l_szBlockS_ok (Try.cons_cons c_l_szPeer_ok (Try.cons_cons c_l_szCmdS_ok (Try.cons_cons c_l_toBlockS_ok (Try.cons_cons c_l_toPeer_ok (Try.cons_cons c_l_toCmdS_ok (Try.cons_cons c_s_Shows_ok (Try.cons_cons c_i_Shows_ok (Try.cons_cons c_l_eqBlockS_ok (Try.cons_cons c_l_eqPeer_ok (Try.cons_cons c_l_eqCmdS_ok (Try.cons_cons c_l_markBlockS_ok (Try.cons_cons c_l_markPeer_ok (Try.cons_cons c_l_markCmdS_ok (Try.cons_cons c_l_heldBlockS_ok (Try.cons_cons c_l_heldPeer_ok (Try.cons_nil))))))))))))))))
def kp_l_FnExactShows : KP := []
noncomputable def q_l_FnExactShows (n : Nat) (x : Args [tSlLBlock, tLPeer, tSlLCmd]) := evX (false, false, [4, 9, 12, 15, 21, 999999]) l_l_FnExactShows kp_l_FnExactShows [none] Try.f15 (shV tBool) n (encA [tSlLBlock, tLPeer, tSlLCmd] x)
noncomputable def c_l_FnExactShows : Con := roS [tSlLBlock, tLPeer, tSlLCmd] true (shV tBool) (q_l_FnExactShows big)
theorem c_l_FnExactShows_ok : ConOk Try.prog 15 c_l_FnExactShows := roS_ok ⟨Try.f15, by kernel_rfl, rfl, by decide⟩ fun _ _ h => evX_ok l_l_FnExactShows_ok (f := Try.f15) (by kernel_rfl) rfl (by kernel_rfl) (by kernel_rfl) big h
noncomputable def Q_l_FnExactShows (n : Nat) (a0 : DSlLBlock) (a1 : DLPeer) (a2 : DSlLCmd) : Option Bool := q_l_FnExactShows n (a0, a1, a2, ())
theorem Q_l_FnExactShows_eq (n : Nat) (a0 : DSlLBlock) (a1 : DLPeer) (a2 : DSlLCmd) : Q_l_FnExactShows n a0 a1 a2 =
    (Q_l_szBlockS big a0 (1048576 : Int)).bind fun y =>
 bif decide (y < (0 : Int)) then some true
 else
 (Q_l_szPeer big a1 y).bind fun y =>
 bif decide (y < (0 : Int)) then some true
 else
 (Q_l_szCmdS big a2 y).bind fun y =>
 bif decide (y < (0 : Int)) then some true
 else
 (Q_l_toBlockS big a0).bind fun y =>
 (Q_l_toPeer big a1).bind fun y_1 =>
 (Q_l_toCmdS big a2).bind fun y_2 =>
 (Q_s_Shows big y y_1 y_2).bind fun y =>
 (Q_l_toBlockS big a0).bind fun y_3 =>
 (Q_l_toPeer big a1).bind fun y_4 =>
 (Q_l_toCmdS big a2).bind fun y_5 =>
 (Q_i_Shows big y_3 y_4 y_5).bind fun y_6 =>
 (Q_l_eqBlockS big y_6.fst y.fst).bind fun y_7 =>
 bif !y_7 then some false
 else
 (Q_l_eqPeer big y_6.snd.fst y.snd.fst).bind fun y_8 =>
 bif !y_8 then some false
 else
 bif !decide (y_6.snd.snd.fst = y.snd.snd.fst) then some false
 else
 (Q_l_toBlockS big a0).bind fun y_9 =>
 (Q_l_eqBlockS big y_3 y_9).bind fun y_10 =>
 bif !y_10 then some false
 else
 (Q_l_toPeer big a1).bind fun y_11 =>
 (Q_l_eqPeer big y_4 y_11).bind fun y_12 =>
 bif !y_12 then some false
 else
 (Q_l_toCmdS big a2).bind fun y_13 =>
 (Q_l_eqCmdS big y_5 y_13).bind fun y_14 =>
 bif !y_14 then some false
 else
 (Q_l_markBlockS big y_3 (1 : Int)).bind fun y_15 =>
 (Q_l_markPeer big y_4 y_15.fst).bind fun y_16 =>
 (Q_l_markCmdS big y_5 y_16.fst).bind fun y_17 =>
 bif decide (y_17.fst < (0 : Int)) then some false
 else
 (Q_l_eqBlockS big y_6.fst y.fst).bind fun y_18 =>
 bif !y_18 then some false
 else
 (Q_l_eqPeer big y_6.snd.fst y.snd.fst).bind
 fun y_19 =>
 bif !y_19 then some false
 else
 bif
 !decide
 (y_6.snd.snd.fst = y.snd.snd.fst) then
 some false
 else
 (Q_l_markBlockS big y_6.fst (1 : Int)).bind
 fun y_20 =>
 (Q_l_markPeer big y_6.snd.fst
 y_20.fst).bind
 fun y_21 =>
 (Q_l_heldBlockS big y_20.snd.fst
 (1 : Int)).bind
 fun y_22 =>
 bif decide (y_22 < (0 : Int)) then
 some false
 else
 (Q_l_heldPeer big
 (y_6.snd.fst.fst,
 y_6.snd.fst.snd.fst,
 y_6.snd.fst.snd.snd.fst,
 y_6.snd.fst.snd.snd.snd.fst,
 y_6.snd.fst.snd.snd.snd.snd.fst,
 y_21.snd.fst.snd.snd.snd.snd.snd.fst,
 y_21.snd.fst.snd.snd.snd.snd.snd.snd.fst,
 y_21.snd.fst.snd.snd.snd.snd.snd.snd.snd.fst,
 y_21.snd.fst.snd.snd.snd.snd.snd.snd.snd.snd.fst,
 y_21.snd.fst.snd.snd.snd.snd.snd.snd.snd.snd.snd.fst,
 y_21.snd.fst.snd.snd.snd.snd.snd.snd.snd.snd.snd.snd.fst,
 y_6.snd.fst.snd.snd.snd.snd.snd.snd.snd.snd.snd.snd.snd)
 y_22).bind
 fun y_23 =>
 bif decide (y_23 < (0 : Int)) then
 some false
 else
 bif
 !decide
 (y_23 = y_21.fst) then
 some false
 else
 (Q_l_toBlockS big a0).bind
 fun y_24 =>
 (Q_l_toPeer big a1).bind
 fun y_25 =>
 (Q_l_toCmdS big a2).bind
 fun y_26 =>
 (Q_i_Shows big y_24 y_25
 y_26).bind
 fun y_27 =>
 (Q_l_eqBlockS big
 y_27.fst
 y.fst).bind
 fun y_28 =>
 bif !y_28 then
 some false
 else
 (Q_l_eqPeer big
 y_27.snd.fst
 y.snd.fst).bind
 fun y_29 =>
 bif !y_29 then
 some false
 else
 bif
 !decide
 (y_27.snd.snd.fst =
 y.snd.snd.fst) then
 some false
 else
 (Q_l_heldBlockS
 big
 y_20.snd.fst
 (1 :
 Int)).bind
 fun y =>
 bif
 decide
 (y <
 (0 :
 Int)) then
 some
 false
 else
 (Q_l_heldPeer
 big
 (y_6.snd.fst.fst,
 y_6.snd.fst.snd.fst,
 y_6.snd.fst.snd.snd.fst,
 y_6.snd.fst.snd.snd.snd.fst,
 y_6.snd.fst.snd.snd.snd.snd.fst,
 y_21.snd.fst.snd.snd.snd.snd.snd.fst,
 y_21.snd.fst.snd.snd.snd.snd.snd.snd.fst,
 y_21.snd.fst.snd.snd.snd.snd.snd.snd.snd.fst,
 y_21.snd.fst.snd.snd.snd.snd.snd.snd.snd.snd.fst,
 y_21.snd.fst.snd.snd.snd.snd.snd.snd.snd.snd.snd.fst,
 y_21.snd.fst.snd.snd.snd.snd.snd.snd.snd.snd.snd.snd.fst,
 y_6.snd.fst.snd.snd.snd.snd.snd.snd.snd.snd.snd.snd.snd)
 y).bind
 fun
 y =>
 bif
 decide
 (y <
 (0 :
 Int)) then
 some
 false
 else
 bif
 !decide
 (y =
 y_21.fst) then
 some
 false
 else
 some
 true := by kernel_rfl

end Go.Sx.Try
