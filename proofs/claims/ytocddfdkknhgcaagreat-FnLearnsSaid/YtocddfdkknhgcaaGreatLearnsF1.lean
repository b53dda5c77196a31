/- The functions of the seat: what each comes to. -/
import Derived.Test.YtocddfdkknhgcaaGreatTypes
set_option linter.unusedVariables false
set_option linter.unusedSimpArgs false
set_option maxRecDepth 100000
namespace Go.Sx.Tryz
open Go Go.Sx Go.Proofs
noncomputable section
def Ff : Yq := []
theorem Zhc : Yr Ff := Zh
abbrev J3 : Vz := (.ro Yv :: dp 2 (.ro Zb :: .ro Zb :: dp 27 []), [])
def R8 : KP := [(3, J3)]
def Zfg (n : Nat) (x : YG [Yv]) := evX (false, false, []) Ff R8 [none] Tryz.f57 (shP Zz) n (YP [Yv] x)
def Zfh : Con := roS [Yv] false (shP Zz) (Zfg big)
theorem Zhd : ZJ Tryz.prog 57 Zfh := ZD ⟨Tryz.f57, by kernel_rfl, rfl, by decide⟩ fun _ _ h => Zw Zhc (f := Tryz.f57) (by kernel_rfl) rfl (by kernel_rfl) (by kernel_rfl) big h
def Mq (n : Nat) (a0 : XP) : Option ZM := Zfg n (a0, ())
def Zkd (n : Nat) (x : KD J3.1) (y : BD J3.2) := Z6 (env (false, false, []) Ff) R8 (body Tryz.f57) (Vn (false, false, []) Ff [none] Tryz.f57 (shP Zz) [.val Yv (ZR Yv)]) n 3 J3 x y
def J4 (n : Nat) (s0 : XP) (s3 s4 : Int) : Option ZM := Zkd n (s0, s3, s4, ()) ()
theorem Zhe (n : Nat) (a0 : XP) : Mq n a0 = J4 n a0 (IntKind.i64.wrap (78001 + (↑(List.length a0) : Int))) 0 := by kernel_rfl
theorem R9 (n : Nat) (s0 : XP) (s3 s4 : Int) : J4 (n + 1) s0 s3 s4 = bif decide (s4 < (↑(List.length s0) : Int)) then bif decide (s4 < 4000) then if 0 ≤ s4 then (nth s0 s4.toNat).bind fun y => J4 n s0 (IntKind.i64.wrap (↑(BitVec.ofInt IntKind.i64.bits (IntKind.i64.wrap (IntKind.i64.wrap (IntKind.i64.wrap (s3 * 131) + IntKind.i64.wrap y) + 7)) &&& BitVec.ofInt IntKind.i64.bits 1073741823).toNat : Int)) (IntKind.i64.wrap (s4 + 1)) else none else some (s0, 0, s3, ()) else some (s0, 0, s3, ()) := by kernel_rfl
def Sc : Yq := []
theorem ZcL : Yr Sc := Zh
def Zke : KP := []
def Sd (n : Nat) (x : AP.denL [.mr Zz]) := evX (false, false, [4, 5, 6, 7, 11, 13, 14, 15, 18, 19, 20, 25, 26, 27, 29, 30, 31, 36, 37, 38, 40, 41, 42, 49, 50, 51, 52, 55]) Sc Zke [none] Tryz.f58 (shO (shV Zk) [.mr Zz]) n (AP.encL [.mr Zz] x)
def Se : Con := apS [.mr Zz] false (shO (shV Zk) [.mr Zz]) (Sd big)
theorem ZcM : ZJ Tryz.prog 58 Se := YU ⟨Tryz.f58, by kernel_rfl, rfl, by decide⟩ fun _ _ h => Zw ZcL (f := Tryz.f58) (by kernel_rfl) rfl (by kernel_rfl) (by kernel_rfl) big h
def VM (n : Nat) (a0 : ZM) : Option (Int × ZM × Unit) := Sd n (a0, ())
theorem ZcN (n : Nat) (a0 : ZM) : VM n a0 = (fun zC1 => (fun zC0 => bif decide (a0.2.1 < (↑(List.length a0.1) : Int)) then if 0 ≤ a0.2.1 then (nth a0.1 (Int.toNat a0.2.1)).bind fun y => some (IntKind.i64.wrap (↑(BitVec.ofInt IntKind.i64.bits (IntKind.i64.wrap (IntKind.i64.wrap zC0 + IntKind.i64.wrap y)) &&& BitVec.ofInt IntKind.i64.bits 255).toNat : Int), (a0.1, IntKind.i64.wrap (a0.2.1 + 1), IntKind.i64.wrap zC1, ()), ()) else none else some (IntKind.i64.wrap zC0, (a0.1, a0.2.1, IntKind.i64.wrap zC1, ()), ())) (↑(BitVec.ofInt IntKind.i64.bits (IntKind.i64.wrap (↑(BitVec.ofInt IntKind.i64.bits ((IntKind.i64.wrap zC1).fdiv (2 ^ min (Int.toNat 33) IntKind.i64.bits)) ^^^ BitVec.ofInt IntKind.i64.bits ((IntKind.i64.wrap zC1).fdiv (2 ^ min (Int.toNat 45) IntKind.i64.bits))).toNat : Int)) &&& BitVec.ofInt IntKind.i64.bits 255).toNat : Int)) (IntKind.i64.wrap (a0.2.2.1 * 6364136223846793005) + 1442695040888963407) := by kernel_rfl
def Nn : Yq := [(58, Se)]
theorem Sf : Yr Nn := cons_cons ZcM (Zh)
def Zhf : KP := []
def No (n : Nat) (x : AP.denL [.mr Zz, .ro Zk]) := evX (false, false, []) Nn Zhf [none] Tryz.f59 (shO (shV Zk) [.mr Zz]) n (AP.encL [.mr Zz, .ro Zk] x)
def YY : Con := apS [.mr Zz, .ro Zk] false (shO (shV Zk) [.mr Zz]) (No big)
theorem Yw : ZJ Tryz.prog 59 YY := YU ⟨Tryz.f59, by kernel_rfl, rfl, by decide⟩ fun _ _ h => Zw Sf (f := Tryz.f59) (by kernel_rfl) rfl (by kernel_rfl) (by kernel_rfl) big h
def ZA (n : Nat) (a0 : ZM) (a1 : Int) : Option (Int × ZM × Unit) := No n (a0, a1, ())
theorem Sg (n : Nat) (a0 : ZM) (a1 : Int) : ZA n a0 a1 = bif decide (a1 ≤ 0) then some (0, a0, ()) else bif decide (a1 ≤ 256) then (VM big a0).bind fun y => if a1 = 0 then none else some (Int.tmod y.1 a1, y.2) else (VM big a0).bind fun y => (VM big y.2.1).bind fun y_1 => (VM big y_1.2.1).bind fun y_2 => (VM big y_2.2.1).bind fun y_3 => if a1 = 0 then none else some ((IntKind.i64.wrap (IntKind.i64.wrap (IntKind.i64.wrap (IntKind.i64.wrap (y.1 * 16777216) + IntKind.i64.wrap (y_1.1 * 65536)) + IntKind.i64.wrap (y_2.1 * 256)) + y_3.1)).tmod a1, y_3.2) := by kernel_rfl
def Si : Yq := [(59, YY)]
theorem ZcO : Yr Si := cons_cons Yw (Zh)
def Zkf : KP := []
def Sj (n : Nat) (x : AP.denL [.mr Zz, .ro Zk]) := evX (false, false, []) Si Zkf [none] Tryz.f63 (shO (shV ZC) [.mr Zz]) n (AP.encL [.mr Zz, .ro Zk] x)
def Cc : Con := apS [.mr Zz, .ro Zk] false (shO (shV ZC) [.mr Zz]) (Sj big)
theorem A4 : ZJ Tryz.prog 63 Cc := YU ⟨Tryz.f63, by kernel_rfl, rfl, by decide⟩ fun _ _ h => Zw ZcO (f := Tryz.f63) (by kernel_rfl) rfl (by kernel_rfl) (by kernel_rfl) big h
def Jv (n : Nat) (a0 : ZM) (a1 : Int) : Option (Bool × ZM × Unit) := Sj n (a0, a1, ())
theorem ZcP (n : Nat) (a0 : ZM) (a1 : Int) : Jv n a0 a1 = (ZA big a0 a1).bind fun y => some (decide (y.1 = 0), y.2) := by kernel_rfl
def FV : Yq := [(59, YY)]
theorem Mr : Yr FV := cons_cons Yw (Zh)
def Sk : KP := []
def FW (n : Nat) (x : AP.denL [.mr Zz, .ro Yu]) := evX (false, false, []) FV Sk [none] Tryz.f62 (shO (shV Zk) [.mr Zz]) n (AP.encL [.mr Zz, .ro Yu] x)
def Vr : Con := apS [.mr Zz, .ro Yu] false (shO (shV Zk) [.mr Zz]) (FW big)
theorem W7 : ZJ Tryz.prog 62 Vr := YU ⟨Tryz.f62, by kernel_rfl, rfl, by decide⟩ fun _ _ h => Zw Mr (f := Tryz.f62) (by kernel_rfl) rfl (by kernel_rfl) (by kernel_rfl) big h
def XT (n : Nat) (a0 : ZM) (a1 : Yp) : Option (Int × ZM × Unit) := FW n (a0, a1, ())
theorem Ms (n : Nat) (a0 : ZM) (a1 : Yp) : XT n a0 a1 = (ZA big a0 (↑(List.length a1) : Int)).bind fun y => if 0 ≤ y.1 then (nth a1 (Int.toNat y.1)).bind fun y_1 => some (y_1, y.2) else none := by kernel_rfl
def Sl : Yq := [(59, YY)]
theorem ZcQ : Yr Sl := cons_cons Yw (Zh)
def Zkg : KP := []
def Sm (n : Nat) (x : AP.denL [.mr Zz, .ro DL]) := evX (false, false, []) Sl Zkg [none] Tryz.f199 (shO (shV Zu) [.mr Zz]) n (AP.encL [.mr Zz, .ro DL] x)
def Sn : Con := apS [.mr Zz, .ro DL] false (shO (shV Zu) [.mr Zz]) (Sm big)
theorem ZcR : ZJ Tryz.prog 199 Sn := YU ⟨Tryz.f199, by kernel_rfl, rfl, by decide⟩ fun _ _ h => Zw ZcQ (f := Tryz.f199) (by kernel_rfl) rfl (by kernel_rfl) (by kernel_rfl) big h
def G3 (n : Nat) (a0 : ZM) (a1 : Zkc) : Option (ByteArray × ZM × Unit) := Sm n (a0, a1, ())
theorem ZcS (n : Nat) (a0 : ZM) (a1 : Zkc) : G3 n a0 a1 = (ZA big a0 (↑(List.length a1) : Int)).bind fun y => if 0 ≤ y.1 then (nth a1 (Int.toNat y.1)).bind fun y_1 => some (y_1, y.2) else none := by kernel_rfl
def Zkh : Yq := []
theorem Zki : Yr Zkh := Zh
def Zql : KP := []
def Zkj (n : Nat) (x : YG [Zk, Zk, Zk]) := evX (false, false, []) Zkh Zql [none] Tryz.f67 (shV ZC) n (YP [Zk, Zk, Zk] x)
def Yx : Con := roS [Zk, Zk, Zk] true (shV ZC) (Zkj big)
theorem Z5 : ZJ Tryz.prog 67 Yx := ZD ⟨Tryz.f67, by kernel_rfl, rfl, by decide⟩ fun _ _ h => Zw Zki (f := Tryz.f67) (by kernel_rfl) rfl (by kernel_rfl) (by kernel_rfl) big h
def ZT (n : Nat) (a0 a1 a2 : Int) : Option Bool := Zkj n (a0, a1, a2, ())
theorem Np (n : Nat) (a0 a1 a2 : Int) : ZT n a0 a1 a2 = bif decide (a1 ≤ a0) then some (decide (a0 ≤ a2)) else some false := by kernel_rfl
def Zfi : Yq := [(199, Sn)]
theorem Zhg : Yr Zfi := cons_cons ZcR (Zh)
def Znu : KP := []
def Zfj (n : Nat) (x : AP.denL [.mr Zz]) := evX (false, false, []) Zfi Znu [none] Tryz.f226 (shO (shV Zu) [.mr Zz]) n (AP.encL [.mr Zz] x)
def Zfk : Con := apS [.mr Zz] false (shO (shV Zu) [.mr Zz]) (Zfj big)
theorem Zhh : ZJ Tryz.prog 226 Zfk := YU ⟨Tryz.f226, by kernel_rfl, rfl, by decide⟩ fun _ _ h => Zw Zhg (f := Tryz.f226) (by kernel_rfl) rfl (by kernel_rfl) (by kernel_rfl) big h
def Zfl (n : Nat) (a0 : ZM) : Option (ByteArray × ZM × Unit) := Zfj n (a0, ())
theorem Zhi (n : Nat) (a0 : ZM) : Zfl n a0 = (G3 big a0 [ByteArray.mk #[(97 : UInt8)], ByteArray.mk #[(98 : UInt8)], ByteArray.mk #[(99 : UInt8)], ByteArray.mk #[(97 : UInt8), (98 : UInt8), (99 : UInt8)]]).bind fun y => some y := by kernel_rfl
def Zfm : Yq := [(59, YY), (226, Zfk), (62, Vr)]
theorem Zhj : Yr Zfm := cons_cons Yw (cons_cons Zhh (cons_cons W7 (Zh)))
def Znv : KP := []
def Zfn (n : Nat) (x : AP.denL [.mr Zz]) := evX (false, false, []) Zfm Znv [none] Tryz.f187 (shO (shV W6) [.mr Zz]) n (AP.encL [.mr Zz] x)
def Zfo : Con := apS [.mr Zz] false (shO (shV W6) [.mr Zz]) (Zfn big)
theorem Zhk : ZJ Tryz.prog 187 Zfo := YU ⟨Tryz.f187, by kernel_rfl, rfl, by decide⟩ fun _ _ h => Zw Zhj (f := Tryz.f187) (by kernel_rfl) rfl (by kernel_rfl) (by kernel_rfl) big h
def Fg (n : Nat) (a0 : ZM) : Option (Xd × ZM × Unit) := Zfn n (a0, ())
theorem Zhl (n : Nat) (a0 : ZM) : Fg n a0 = (ZA big a0 3).bind fun y => (Zfl big y.2.1).bind fun y_1 => (XT big y_1.2.1 [(0 : Int), 1, 7, 500, 999999999]).bind fun y_2 => some ((IntKind.i64.wrap (1 + y.1), y_1.1, y_2.1, ()), y_2.2) := by kernel_rfl
def Cd : Yq := []
theorem ZcT : Yr Cd := Zh
abbrev Kw : Vz := (.ro Zb :: dp 2 (.ro Zb :: .ro Zb :: dp 16 []), [])
def Nq : KP := [(3, Kw)]
def So (n : Nat) (x : YG [Zk]) := evX (false, false, []) Cd Nq [none] Tryz.f174 (shV Zk) n (YP [Zk] x)
def Jw : Con := roS [Zk] true (shV Zk) (So big)
theorem Qv : ZJ Tryz.prog 174 Jw := ZD ⟨Tryz.f174, by kernel_rfl, rfl, by decide⟩ fun _ _ h => Zw ZcT (f := Tryz.f174) (by kernel_rfl) rfl (by kernel_rfl) (by kernel_rfl) big h
def XC (n : Nat) (a0 : Int) : Option Int := So n (a0, ())
def Zhm (n : Nat) (x : KD Kw.1) (y : BD Kw.2) := Z6 (env (false, false, []) Cd) Nq (body Tryz.f174) (Vn (false, false, []) Cd [none] Tryz.f174 (shV Zk) [.val Zk (ZR Zk)]) n 3 Kw x y
def Kx (n : Nat) (s0 s3 s4 : Int) : Option Int := Zhm n (s0, s3, s4, ()) ()
theorem Vs (n : Nat) (a0 : Int) : XC n a0 = Kx n a0 0 0 := by kernel_rfl
theorem XI (n : Nat) (s0 s3 s4 : Int) : Kx (n + 1) s0 s3 s4 = bif decide (s4 < 7) then bif decide (0 ≤ s0) then if IntKind.u64.wrap s4 < 0 then none else Kx n s0 (IntKind.i64.wrap (s3 + (s0.fdiv (2 ^ min (IntKind.u64.wrap s4).toNat IntKind.i64.bits)).tmod 2)) (IntKind.i64.wrap (s4 + 1)) else some s3 else some s3 := by kernel_rfl
def Zfp : Yq := []
theorem Zhn : Yr Zfp := Zh
def Znw : KP := []
def Zfq (n : Nat) (x : YG [Zk]) := evX (false, false, []) Zfp Znw [none] Tryz.f177 (shV Zk) n (YP [Zk] x)
def Mt : Con := roS [Zk] true (shV Zk) (Zfq big)
theorem Io : ZJ Tryz.prog 177 Mt := ZD ⟨Tryz.f177, by kernel_rfl, rfl, by decide⟩ fun _ _ h => Zw Zhn (f := Tryz.f177) (by kernel_rfl) rfl (by kernel_rfl) (by kernel_rfl) big h
def By (n : Nat) (a0 : Int) : Option Int := Zfq n (a0, ())
theorem Ip (n : Nat) (a0 : Int) : By n a0 = bif decide (a0 < 1) then some 0 else some (IntKind.i64.wrap ((IntKind.i64.wrap (a0 - 1)).tdiv 3)) := by kernel_rfl
def Zfr : Yq := [(177, Mt)]
theorem Zho : Yr Zfr := cons_cons Io (Zh)
def Znx : KP := []
def Zfs (n : Nat) (x : YG [Zk]) := evX (false, false, []) Zfr Znx [none] Tryz.f175 (shV Zk) n (YP [Zk] x)
def Bz : Con := roS [Zk] true (shV Zk) (Zfs big)
theorem Ky : ZJ Tryz.prog 175 Bz := ZD ⟨Tryz.f175, by kernel_rfl, rfl, by decide⟩ fun _ _ h => Zw Zho (f := Tryz.f175) (by kernel_rfl) rfl (by kernel_rfl) (by kernel_rfl) big h
def Ji (n : Nat) (a0 : Int) : Option Int := Zfs n (a0, ())
theorem Zhp (n : Nat) (a0 : Int) : Ji n a0 = (By big a0).bind fun y => some (IntKind.i64.wrap (a0 - y)) := by kernel_rfl
def Nr : Yq := []
theorem Sp : Yr Nr := Zh
def Zhq : KP := []
def Ns (n : Nat) (x : YG [Zk, Zk]) := evX (false, false, []) Nr Zhq [none] Tryz.f22 (shV Zk) n (YP [Zk, Zk] x)
def Wd : Con := roS [Zk, Zk] true (shV Zk) (Ns big)
theorem XE : ZJ Tryz.prog 22 Wd := ZD ⟨Tryz.f22, by kernel_rfl, rfl, by decide⟩ fun _ _ h => Zw Sp (f := Tryz.f22) (by kernel_rfl) rfl (by kernel_rfl) (by kernel_rfl) big h
def Xj (n : Nat) (a0 a1 : Int) : Option Int := Ns n (a0, a1, ())
theorem Sq (n : Nat) (a0 a1 : Int) : Xj n a0 a1 = bif decide (a1 < 1) then some 0 else bif decide (a0 < 0) then some 0 else if a1 = 0 then none else some ((IntKind.i64.wrap (a0.tdiv 4)).tmod a1) := by kernel_rfl
def ZoU : Yq := [(67, Yx)]
theorem Zny : Yr ZoU := cons_cons Z5 (Zh)
def Zse : KP := []
def ZoV (n : Nat) (x : YG [YN, Zk]) := evX (false, false, [2, 5, 10, 20]) ZoU Zse [none] Tryz.f114 (shV ZC) n (YP [YN, Zk] x)
def Ce : Con := roS [YN, Zk] true (shV ZC) (ZoV big)
theorem Qj : ZJ Tryz.prog 114 Ce := ZD ⟨Tryz.f114, by kernel_rfl, rfl, by decide⟩ fun _ _ h => Zw Zny (f := Tryz.f114) (by kernel_rfl) rfl (by kernel_rfl) (by kernel_rfl) big h
def W8 (n : Nat) (a0 : Zp) (a1 : Int) : Option Bool := ZoV n (a0, a1, ())
theorem Znz (n : Nat) (a0 : Zp) (a1 : Int) : W8 n a0 a1 = bif decide (0 < a0.1) then (ZT big a1 0 (IntKind.i64.wrap (a0.1 - 1))).bind fun y => bif y then bif decide (a1 < 7) then if IntKind.u64.wrap a1 < 0 then none else some !decide ((Int.fdiv a0.2.2.1 (2 ^ min (IntKind.u64.wrap a1).toNat IntKind.i64.bits)).tmod 2 = 0) else some false else some false else some false := by kernel_rfl
def Iq : Yq := [(67, Yx), (114, Ce)]
theorem Pd : Yr Iq := cons_cons Z5 (cons_cons Qj (Zh))
def ZcU : KP := []
def Ir (n : Nat) (x : YG [YN, Zk]) := evX (false, false, [2, 6, 13]) Iq ZcU [none] Tryz.f106 (shV ZC) n (YP [YN, Zk] x)
def W9 : Con := roS [YN, Zk] true (shV ZC) (Ir big)
theorem Wt : ZJ Tryz.prog 106 W9 := ZD ⟨Tryz.f106, by kernel_rfl, rfl, by decide⟩ fun _ _ h => Zw Pd (f := Tryz.f106) (by kernel_rfl) rfl (by kernel_rfl) (by kernel_rfl) big h
def Wn (n : Nat) (a0 : Zp) (a1 : Int) : Option Bool := Ir n (a0, a1, ())
theorem Pe (n : Nat) (a0 : Zp) (a1 : Int) : Wn n a0 a1 = (ZT big a1 0 (IntKind.i64.wrap ((↑(List.length a0.2.2.2.2.1) : Int) - 1))).bind fun y => bif y then (ZT big a1 0 (IntKind.i64.wrap (a0.1 - 1))).bind fun y => bif y then (W8 big a0 a1).bind fun y => some !y else some false else some false := by kernel_rfl
def Nt : Yq := []
theorem Sr : Yr Nt := Zh
def Zhr : KP := []
def Nu (n : Nat) (x : YG [Wl, Wl]) := evX (false, false, [2, 3, 5, 7]) Nt Zhr [none] Tryz.f96 (shV Wl) n (YP [Wl, Wl] x)
def V0 : Con := roS [Wl, Wl] true (shV Wl) (Nu big)
theorem WO : ZJ Tryz.prog 96 V0 := ZD ⟨Tryz.f96, by kernel_rfl, rfl, by decide⟩ fun _ _ h => Zw Sr (f := Tryz.f96) (by kernel_rfl) rfl (by kernel_rfl) (by kernel_rfl) big h
def Xx (n : Nat) (a0 a1 : Bw) : Option Bw := Nu n (a0, a1, ())
theorem Ss (n : Nat) (a0 a1 : Bw) : Xx n a0 a1 = bif decide (a0.2.1 < a1.2.1) then some a1 else some a0 := by kernel_rfl
def Fh : Yq := [(96, V0)]
theorem Zhs : Yr Fh := cons_cons WO (Zh)
abbrev J5 : Vz := (.drop :: .is (.ptr 0 0) :: .is (.ptr 1 0) :: .is (.ptr 2 0) :: .ro Zb :: dp 18 [], [.vars [.ro Zb, .ro Zb, .ro Zb, .ro Zb, .ro Zb, .ro Zb, .ro Zb, .ro Zb, .ro Zb, .ro Zb, .ro Zb, .ro Zb, .ro Zb, .ro Zb, .ro Yu, .ro Zm, .ro Yu, .ro Yi, .ro ZS, .ro ZN, .ro Zb], .vars [.ro Zb, .ro Zb, .ro Zb, .ro Zb], .vars [.ro Zb, .ro Zb, .ro Zb, .ro Zb]])
def Su : KP := [(3, J5)]
def Zft (n : Nat) (x : YG [ZQ]) := evX (false, false, [1, 3, 5, 8, 15]) Fh Su [none] Tryz.f233 (shV Wl) n (YP [ZQ] x)
def Zfu : Con := roS [ZQ] true (shV Wl) (Zft big)
theorem Zht : ZJ Tryz.prog 233 Zfu := ZD ⟨Tryz.f233, by kernel_rfl, rfl, by decide⟩ fun _ _ h => Zw Zhs (f := Tryz.f233) (by kernel_rfl) rfl (by kernel_rfl) (by kernel_rfl) big h
def Mu (n : Nat) (a0 : Zn) : Option Bw := Zft n (a0, ())
def Zkk (n : Nat) (x : KD J5.1) (y : BD J5.2) := Z6 (env (false, false, [1, 3, 5, 8, 15]) Fh) Su (body Tryz.f233) (Vn (false, false, [1, 3, 5, 8, 15]) Fh [none] Tryz.f233 (shV Wl) [.val ZQ (ZR ZQ)]) n 3 J5 x y
def J6 (n : Nat) (s4 b0_0 : Int) (b0_1 b0_2 : Int) (b0_3 b0_4 : Int) (b0_5 b0_6 : Int) (b0_7 b0_8 : Int) (b0_9 b0_10 : Int) (b0_11 b0_12 b0_13 : Int) (b0_14 : Yp) (b0_15 : Zq) (b0_16 : Yp) (b0_17 : YA) (b0_18 : Yn) (b0_19 : ZX) (b0_20 b1_0 : Int) (b1_1 b1_2 : Int) (b1_3 b2_0 : Int) (b2_1 b2_2 b2_3 : Int) : Option Bw := Zkk n (s4, ()) ((b0_0, b0_1, b0_2, b0_3, b0_4, b0_5, b0_6, b0_7, b0_8, b0_9, b0_10, b0_11, b0_12, b0_13, b0_14, b0_15, b0_16, b0_17, b0_18, b0_19, b0_20, ()), (b1_0, b1_1, b1_2, b1_3, ()), (b2_0, b2_1, b2_2, b2_3, ()), ())
theorem Zhu (n : Nat) (a0 : Zn) : Mu n a0 = J6 n 0 a0.1 a0.2.1 a0.2.2.1.1 a0.2.2.1.2.1 a0.2.2.1.2.2.1 a0.2.2.1.2.2.2.1 a0.2.2.2.1.1 a0.2.2.2.1.2.1 a0.2.2.2.1.2.2.1 a0.2.2.2.1.2.2.2.1 a0.2.2.2.2.1.1 a0.2.2.2.2.1.2.1 a0.2.2.2.2.1.2.2.1 a0.2.2.2.2.1.2.2.2.1 a0.2.2.2.2.2.1 a0.2.2.2.2.2.2.1 a0.2.2.2.2.2.2.2.1 a0.2.2.2.2.2.2.2.2.1 a0.2.2.2.2.2.2.2.2.2.1 a0.2.2.2.2.2.2.2.2.2.2.1 a0.2.2.2.2.2.2.2.2.2.2.2.1 0 0 0 0 a0.2.2.1.1 a0.2.2.1.2.1 a0.2.2.1.2.2.1 a0.2.2.1.2.2.2.1 := by kernel_rfl
theorem DM (n : Nat) (s4 b0_0 : Int) (b0_1 b0_2 : Int) (b0_3 b0_4 : Int) (b0_5 b0_6 : Int) (b0_7 b0_8 : Int) (b0_9 b0_10 : Int) (b0_11 b0_12 b0_13 : Int) (b0_14 : Yp) (b0_15 : Zq) (b0_16 : Yp) (b0_17 : YA) (b0_18 : Yn) (b0_19 : ZX) (b0_20 b1_0 : Int) (b1_1 b1_2 : Int) (b1_3 b2_0 : Int) (b2_1 b2_2 b2_3 : Int) : J6 (n + 1) s4 b0_0 b0_1 b0_2 b0_3 b0_4 b0_5 b0_6 b0_7 b0_8 b0_9 b0_10 b0_11 b0_12 b0_13 b0_14 b0_15 b0_16 b0_17 b0_18 b0_19 b0_20 b1_0 b1_1 b1_2 b1_3 b2_0 b2_1 b2_2 b2_3 = bif decide (s4 < (↑(List.length b0_19) : Int)) then if 0 ≤ s4 then (nth b0_19 s4.toNat).bind fun y => (Xx big (b2_0, b2_1, b2_2, b2_3, ()) y.2.2.2.2.2.1).bind fun y => J6 n (IntKind.i64.wrap (s4 + 1)) b0_0 b0_1 b0_2 b0_3 b0_4 b0_5 b0_6 b0_7 b0_8 b0_9 b0_10 b0_11 b0_12 b0_13 b0_14 b0_15 b0_16 b0_17 b0_18 b0_19 b0_20 b1_0 b1_1 b1_2 b1_3 y.1 y.2.1 y.2.2.1 y.2.2.2.1 else none else some (b2_0, b2_1, b2_2, b2_3, ()) := by kernel_rfl
def Nv : Yq := []
theorem Sv : Yr Nv := Zh
def Zhv : KP := []
def Nw (n : Nat) (x : YG [YV]) := evX (false, false, [1, 3, 6]) Nv Zhv [some Xb] Tryz.f149 (shF Xb) n (YP [YV] x)
def DN : Con := roS [YV] true (shF Xb) (Nw big)
theorem DO : ZJ Tryz.prog 149 DN := ZD ⟨Tryz.f149, by kernel_rfl, rfl, by decide⟩ fun _ _ h => Zw Sv (f := Tryz.f149) (by kernel_rfl) rfl (by kernel_rfl) (by kernel_rfl) big h
def J7 (n : Nat) (a0 : Zv) : Option Zv := Nw n (a0, ())
theorem Sw (n : Nat) (a0 : Zv) : J7 n a0 = if (0 : Nat) + List.length a0.2.2.1 ≤ lim then some a0 else none := by kernel_rfl
def Cf : Yq := [(149, DN)]
theorem ZcV : Yr Cf := cons_cons DO (Zh)
abbrev Kz : Vz := (.ro Ze :: dp 2 (.own ZO :: .ro Zb :: dp 16 []), [])
def Nx : KP := [(3, Kz)]
def Sz (n : Nat) (x : YG [Ze]) := evX (true, false, []) Cf Nx [some Yt] Tryz.f146 (shF Yt) n (YP [Ze] x)
def SA : Con := roS [Ze] true (shF Yt) (Sz big)
theorem ZcW : ZJ Tryz.prog 146 SA := ZD ⟨Tryz.f146, by kernel_rfl, rfl, by decide⟩ fun _ _ h => Zw ZcV (f := Tryz.f146) (by kernel_rfl) rfl (by kernel_rfl) (by kernel_rfl) big h
def G4 (n : Nat) (a0 : Zi) : Option Zi := Sz n (a0, ())
def Zhw (n : Nat) (x : KD Kz.1) (y : BD Kz.2) := Z6 (env (true, false, []) Cf) Nx (body Tryz.f146) (Vn (true, false, []) Cf [some Yt] Tryz.f146 (shF Yt) [.val Ze (ZR Ze)]) n 3 Kz x y
def KA (n : Nat) (s0 : Zi) (s3 : (List Zr)) (s4 : Int) : Option Zi := Zhw n (s0, s3, s4, ()) ()
theorem ZcX (n : Nat) (a0 : Zi) : G4 n a0 = KA n a0 [] 0 := by kernel_rfl
theorem Q9 (n : Nat) (s0 : Zi) (s3 : (List Zr)) (s4 : Int) : KA (n + 1) s0 s3 s4 = bif decide (s4 < (↑(List.length s0) : Int)) then if 0 ≤ s4 then (nth s0 s4.toNat).bind fun y => (J7 big y).bind fun y_1 => if s3.length + [y_1].length ≤ lim then KA n s0 (s3.append [y_1]) (IntKind.i64.wrap (s4 + 1)) else none else none else some s3 := by kernel_rfl
def KB : Yq := []
theorem Pf : Yr KB := Zh
abbrev Uo : Vz := (dp 2 (.is (.ptr 0 0) :: .is (.ptr 1 0) :: .drop :: .ro Zb :: dp 46 []), [.vars [.ro Zb, .ro Zb, .ro Yg, .ro Zb, .ro Zb, .ro Zb, .ro Zb], .vars [.ro Zb, .ro Zb, .ro Yg, .ro Zb, .ro Zb, .ro Zb, .ro Zb]])
def FX : KP := [(4, Uo)]
def Is (n : Nat) (x : YG [YV, YV]) := evX (false, false, [2, 3, 6, 8, 12, 14, 19, 21, 26, 29, 35, 41, 46]) KB FX [none] Tryz.f159 (shV ZC) n (YP [YV, YV] x)
def It : Con := roS [YV, YV] true (shV ZC) (Is big)
theorem Pg : ZJ Tryz.prog 159 It := ZD ⟨Tryz.f159, by kernel_rfl, rfl, by decide⟩ fun _ _ h => Zw Pf (f := Tryz.f159) (by kernel_rfl) rfl (by kernel_rfl) (by kernel_rfl) big h
def Cg (n : Nat) (a0 a1 : Zv) : Option Bool := Is n (a0, a1, ())
def SB (n : Nat) (x : KD Uo.1) (y : BD Uo.2) := Z6 (env (false, false, [2, 3, 6, 8, 12, 14, 19, 21, 26, 29, 35, 41, 46]) KB) FX (body Tryz.f159) (Vn (false, false, [2, 3, 6, 8, 12, 14, 19, 21, 26, 29, 35, 41, 46]) KB [none] Tryz.f159 (shV ZC) [.val YV (ZR YV), .val YV (ZR YV)]) n 4 Uo x y
def Uq (n : Nat) (s5 b0_0 b0_1 : Int) (b0_2 : YS) (b0_3 b0_4 : Int) (b0_5 b0_6 : Int) (b1_0 b1_1 : Int) (b1_2 : YS) (b1_3 b1_4 : Int) (b1_5 b1_6 : Int) : Option Bool := SB n (s5, ()) ((b0_0, b0_1, b0_2, b0_3, b0_4, b0_5, b0_6, ()), (b1_0, b1_1, b1_2, b1_3, b1_4, b1_5, b1_6, ()), ())
theorem Ph (n : Nat) (a0 a1 : Zv) : Cg n a0 a1 = bif !decide (a0.1 = a1.1) then some false else bif !decide (a0.2.1 = a1.2.1) then some false else bif !eqD Wl a0.2.2.2.1 a1.2.2.2.1 then some false else bif !decide ((↑(List.length a0.2.2.1) : Int) = (↑(List.length a1.2.2.1) : Int)) then some false else Uq n 0 a0.1 a0.2.1 a0.2.2.1 a0.2.2.2.1.1 a0.2.2.2.1.2.1 a0.2.2.2.1.2.2.1 a0.2.2.2.1.2.2.2.1 a1.1 a1.2.1 a1.2.2.1 a1.2.2.2.1.1 a1.2.2.2.1.2.1 a1.2.2.2.1.2.2.1 a1.2.2.2.1.2.2.2.1 := by kernel_rfl
theorem J8 (n : Nat) (s5 b0_0 b0_1 : Int) (b0_2 : YS) (b0_3 b0_4 : Int) (b0_5 b0_6 : Int) (b1_0 b1_1 : Int) (b1_2 : YS) (b1_3 b1_4 : Int) (b1_5 b1_6 : Int) : Uq (n + 1) s5 b0_0 b0_1 b0_2 b0_3 b0_4 b0_5 b0_6 b1_0 b1_1 b1_2 b1_3 b1_4 b1_5 b1_6 = bif decide (s5 < (↑(List.length b0_2) : Int)) then if 0 ≤ s5 then (nth b0_2 s5.toNat).bind fun y => if 0 ≤ s5 then (nth b1_2 s5.toNat).bind fun y_1 => bif !eqD W6 y y_1 then some false else Uq n (IntKind.i64.wrap (s5 + 1)) b0_0 b0_1 b0_2 b0_3 b0_4 b0_5 b0_6 b1_0 b1_1 b1_2 b1_3 b1_4 b1_5 b1_6 else none else none else some true := by kernel_rfl
def Ch : Yq := [(159, It)]
theorem ZcY : Yr Ch := cons_cons Pg (Zh)
abbrev KC : Vz := (.ro Ze :: dp 2 (.is (.ptr 0 0) :: .drop :: .ro Zb :: dp 13 []), [.vars [.ro Zb, .ro Zb, .ro Yg, .ro Zb, .ro Zb, .ro Zb, .ro Zb]])
def Ny : KP := [(2, KC)]
def SC (n : Nat) (x : YG [Ze, YV]) := evX (false, false, [3]) Ch Ny [none] Tryz.f162 (shV Zk) n (YP [Ze, YV] x)
def SD : Con := roS [Ze, YV] true (shV Zk) (SC big)
theorem ZcZ : ZJ Tryz.prog 162 SD := ZD ⟨Tryz.f162, by kernel_rfl, rfl, by decide⟩ fun _ _ h => Zw ZcY (f := Tryz.f162) (by kernel_rfl) rfl (by kernel_rfl) (by kernel_rfl) big h
def G5 (n : Nat) (a0 : Zi) (a1 : Zv) : Option Int := SC n (a0, a1, ())
def Zhx (n : Nat) (x : KD KC.1) (y : BD KC.2) := Z6 (env (false, false, [3]) Ch) Ny (body Tryz.f162) (Vn (false, false, [3]) Ch [none] Tryz.f162 (shV Zk) [.val Ze (ZR Ze), .val YV (ZR YV)]) n 2 KC x y
def KE (n : Nat) (s0 : Zi) (s5 b0_0 b0_1 : Int) (b0_2 : YS) (b0_3 b0_4 : Int) (b0_5 b0_6 : Int) : Option Int := Zhx n (s0, s5, ()) ((b0_0, b0_1, b0_2, b0_3, b0_4, b0_5, b0_6, ()), ())
theorem Zc0 (n : Nat) (a0 : Zi) (a1 : Zv) : G5 n a0 a1 = KE n a0 0 a1.1 a1.2.1 a1.2.2.1 a1.2.2.2.1.1 a1.2.2.2.1.2.1 a1.2.2.2.1.2.2.1 a1.2.2.2.1.2.2.2.1 := by kernel_rfl
theorem CZ (n : Nat) (s0 : Zi) (s5 b0_0 b0_1 : Int) (b0_2 : YS) (b0_3 b0_4 : Int) (b0_5 b0_6 : Int) : KE (n + 1) s0 s5 b0_0 b0_1 b0_2 b0_3 b0_4 b0_5 b0_6 = bif decide (s5 < (↑(List.length s0) : Int)) then if 0 ≤ s5 then (nth s0 s5.toNat).bind fun y => (Cg big y (b0_0, b0_1, b0_2, (b0_3, b0_4, b0_5, b0_6, ()), ())).bind fun y => bif y then some s5 else KE n s0 (IntKind.i64.wrap (s5 + 1)) b0_0 b0_1 b0_2 b0_3 b0_4 b0_5 b0_6 else none else some (-1) := by kernel_rfl
def Iu : Yq := [(67, Yx)]
theorem Zkl : Yr Iu := cons_cons Z5 (Zh)
abbrev Ci : Vz := (.ro Zu :: dp 2 (.ro Zb :: dp 19 []), [])
def Zfv : KP := [(2, Ci)]
def Zkm (n : Nat) (x : YG [Zu]) := evX (false, false, []) Iu Zfv [none] Tryz.f143 (shV ZC) n (YP [Zu] x)
def Iv : Con := roS [Zu] true (shV ZC) (Zkm big)
theorem DP : ZJ Tryz.prog 143 Iv := ZD ⟨Tryz.f143, by kernel_rfl, rfl, by decide⟩ fun _ _ h => Zw Zkl (f := Tryz.f143) (by kernel_rfl) rfl (by kernel_rfl) (by kernel_rfl) big h
def BA (n : Nat) (a0 : ByteArray) : Option Bool := Zkm n (a0, ())
def ZnA (n : Nat) (x : KD Ci.1) (y : BD Ci.2) := Z6 (env (false, false, []) Iu) Zfv (body Tryz.f143) (Vn (false, false, []) Iu [none] Tryz.f143 (shV ZC) [.val Zu (ZR Zu)]) n 2 Ci x y
def Jx (n : Nat) (s0 : ByteArray) (s3 : Int) : Option Bool := ZnA n (s0, s3, ()) ()
theorem Nz (n : Nat) (a0 : ByteArray) : BA n a0 = Jx n a0 0 := by kernel_rfl
theorem Qw (n : Nat) (s0 : ByteArray) (s3 : Int) : Jx (n + 1) s0 s3 = bif decide (s3 < (↑s0.size : Int)) then if 0 ≤ s3 then (nth s0.data.toList s3.toNat).bind fun y => bif decide ((↑y.toNat : Int) < 97) then some false else if 0 ≤ s3 then (nth s0.data.toList s3.toNat).bind fun y => bif decide (122 < (↑y.toNat : Int)) then some false else Jx n s0 (IntKind.i64.wrap (s3 + 1)) else none else none else (ZT big (↑s0.size : Int) 1 3).bind fun y => some y := by kernel_rfl
def Zkn : Yq := [(67, Yx), (143, Iv)]
theorem Zko : Yr Zkn := cons_cons Z5 (cons_cons DP (Zh))
def Zqm : KP := []
def Zkp (n : Nat) (x : YG [W6]) := evX (false, false, [1, 3, 7, 12]) Zkn Zqm [none] Tryz.f194 (shV ZC) n (YP [W6] x)
def SE : Con := roS [W6] true (shV ZC) (Zkp big)
theorem NA : ZJ Tryz.prog 194 SE := ZD ⟨Tryz.f194, by kernel_rfl, rfl, by decide⟩ fun _ _ h => Zw Zko (f := Tryz.f194) (by kernel_rfl) rfl (by kernel_rfl) (by kernel_rfl) big h
def DQ (n : Nat) (a0 : Xd) : Option Bool := Zkp n (a0, ())
theorem NB (n : Nat) (a0 : Xd) : DQ n a0 = (ZT big a0.1 1 3).bind fun y => bif y then (BA big a0.2.1).bind fun y => bif y then (ZT big a0.2.2.1 0 1000000000).bind fun y => some y else some false else some false := by kernel_rfl
def Cj : Yq := [(67, Yx), (194, SE)]
theorem Zc1 : Yr Cj := cons_cons Z5 (cons_cons NA (Zh))
abbrev KF : Vz := (.ro Ze :: dp 2 (.is (.ptr 0 0) :: .drop :: .ro Zb :: dp 61 []), [.vars [.ro Zb, .ro Zb, .ro Yg, .ro Zb, .ro Zb, .ro Zb, .ro Zb]])
def NC : KP := [(4, KF)]
def SF (n : Nat) (x : YG [Ze, YV]) := evX (false, false, [3, 6, 14, 17, 25, 30, 36, 42, 49, 50, 52, 56, 57, 60]) Cj NC [none] Tryz.f161 (shV ZC) n (YP [Ze, YV] x)
def SG : Con := roS [Ze, YV] true (shV ZC) (SF big)
theorem Zc2 : ZJ Tryz.prog 161 SG := ZD ⟨Tryz.f161, by kernel_rfl, rfl, by decide⟩ fun _ _ h => Zw Zc1 (f := Tryz.f161) (by kernel_rfl) rfl (by kernel_rfl) (by kernel_rfl) big h
def G6 (n : Nat) (a0 : Zi) (a1 : Zv) : Option Bool := SF n (a0, a1, ())
def Zhy (n : Nat) (x : KD KF.1) (y : BD KF.2) := Z6 (env (false, false, [3, 6, 14, 17, 25, 30, 36, 42, 49, 50, 52, 56, 57, 60]) Cj) NC (body Tryz.f161) (Vn (false, false, [3, 6, 14, 17, 25, 30, 36, 42, 49, 50, 52, 56, 57, 60]) Cj [none] Tryz.f161 (shV ZC) [.val Ze (ZR Ze), .val YV (ZR YV)]) n 4 KF x y
def KG (n : Nat) (s0 : Zi) (s5 b0_0 b0_1 : Int) (b0_2 : YS) (b0_3 b0_4 : Int) (b0_5 b0_6 : Int) : Option Bool := Zhy n (s0, s5, ()) ((b0_0, b0_1, b0_2, b0_3, b0_4, b0_5, b0_6, ()), ())
theorem Zc3 (n : Nat) (a0 : Zi) (a1 : Zv) : G6 n a0 a1 = (ZT big a1.1 0 (IntKind.i64.wrap ((↑(List.length a0) : Int) - 1))).bind fun y => bif !y then some false else if 0 ≤ a1.1 then (nth a0 (Int.toNat a1.1)).bind fun y => bif decide (a1.2.1 ≤ y.2.1) then some false else bif decide (900 < a1.2.1) then some false else bif decide (4 < (↑(List.length a1.2.2.1) : Int)) then some false else KG n a0 0 a1.1 a1.2.1 a1.2.2.1 a1.2.2.2.1.1 a1.2.2.2.1.2.1 a1.2.2.2.1.2.2.1 a1.2.2.2.1.2.2.2.1 else none := by kernel_rfl
theorem C0 (n : Nat) (s0 : Zi) (s5 b0_0 b0_1 : Int) (b0_2 : YS) (b0_3 b0_4 : Int) (b0_5 b0_6 : Int) : KG (n + 1) s0 s5 b0_0 b0_1 b0_2 b0_3 b0_4 b0_5 b0_6 = bif decide (s5 < (↑(List.length b0_2) : Int)) then if 0 ≤ s5 then (nth b0_2 s5.toNat).bind fun y => (DQ big y).bind fun y => bif !y then some false else KG n s0 (IntKind.i64.wrap (s5 + 1)) b0_0 b0_1 b0_2 b0_3 b0_4 b0_5 b0_6 else none else bif decide (b0_5 = b0_0) then if 0 ≤ b0_0 then (nth s0 b0_0.toNat).bind fun y => some (decide (b0_4 = y.2.1)) else none else some false := by kernel_rfl
def ND : Yq := [(146, SA), (162, SD), (161, SG), (149, DN)]
theorem SH : Yr ND := cons_cons ZcW (cons_cons ZcZ (cons_cons Zc2 (cons_cons DO (Zh))))
def Zhz : KP := []
def NE (n : Nat) (x : YG [Ze, YV]) := evX (true, false, [3]) ND Zhz [some Yt, none] Tryz.f197 (shT [(true, Yt), (false, Zk)]) n (YP [Ze, YV] x)
def DR : Con := roS [Ze, YV] true (shT [(true, Yt), (false, Zk)]) (NE big)
theorem DS : ZJ Tryz.prog 197 DR := ZD ⟨Tryz.f197, by kernel_rfl, rfl, by decide⟩ fun _ _ h => Zw SH (f := Tryz.f197) (by kernel_rfl) rfl (by kernel_rfl) (by kernel_rfl) big h
def We (n : Nat) (a0 : Zi) (a1 : Zv) : Option (Zi × Int × Unit) := NE n (a0, a1, ())
theorem SI (n : Nat) (a0 : Zi) (a1 : Zv) : We n a0 a1 = (G4 big a0).bind fun y => (G5 big a0 a1).bind fun y_1 => bif decide (0 ≤ y_1) then some (y, y_1, ()) else (G6 big a0 a1).bind fun y_2 => bif !y_2 then some (y, (-1), ()) else bif decide (60 ≤ (↑(List.length a0) : Int)) then some (y, (-1), ()) else (J7 big a1).bind fun y_3 => if List.length y + [y_3].length ≤ lim then some (List.append y [y_3], (↑(List.length a0) : Int), ()) else none := by kernel_rfl
def SJ : Yq := []
theorem Zc4 : Yr SJ := Zh
def Zkq : KP := []
def SK (n : Nat) (x : YG [ZQ]) := evX (false, false, [1, 3, 6, 11, 16, 21, 26, 31]) SJ Zkq [some ZI] Tryz.f68 (shF ZI) n (YP [ZQ] x)
def Xr : Con := roS [ZQ] true (shF ZI) (SK big)
theorem YT : ZJ Tryz.prog 68 Xr := ZD ⟨Tryz.f68, by kernel_rfl, rfl, by decide⟩ fun _ _ h => Zw Zc4 (f := Tryz.f68) (by kernel_rfl) rfl (by kernel_rfl) (by kernel_rfl) big h
def YW (n : Nat) (a0 : Zn) : Option Zn := SK n (a0, ())
theorem FY (n : Nat) (a0 : Zn) : YW n a0 = if (0 : Nat) + List.length a0.2.2.2.2.2.1 ≤ lim then if (0 : Nat) + List.length a0.2.2.2.2.2.2.1 ≤ lim then if (0 : Nat) + List.length a0.2.2.2.2.2.2.2.1 ≤ lim then if (0 : Nat) + List.length a0.2.2.2.2.2.2.2.2.1 ≤ lim then if (0 : Nat) + List.length a0.2.2.2.2.2.2.2.2.2.1 ≤ lim then if (0 : Nat) + List.length a0.2.2.2.2.2.2.2.2.2.2.1 ≤ lim then some a0 else none else none else none else none else none else none := by kernel_rfl
def Zfw : Yq := [(67, Yx)]
theorem ZhA : Yr Zfw := cons_cons Z5 (Zh)
def ZnB : KP := []
def Zfx (n : Nat) (x : YG [Ze, Zk, Z4]) := evX (false, false, [5, 10, 15, 20, 29, 34, 39]) Zfw ZnB [none] Tryz.f113 (shV ZC) n (YP [Ze, Zk, Z4] x)
def Mv : Con := roS [Ze, Zk, Z4] true (shV ZC) (Zfx big)
theorem Iw : ZJ Tryz.prog 113 Mv := ZD ⟨Tryz.f113, by kernel_rfl, rfl, by decide⟩ fun _ _ h => Zw ZhA (f := Tryz.f113) (by kernel_rfl) rfl (by kernel_rfl) (by kernel_rfl) big h
def Fi (n : Nat) (a0 : Zi) (a1 : Int) (a2 : Z3) : Option Bool := Zfx n (a0, a1, a2, ())
theorem ZhB (n : Nat) (a0 : Zi) (a1 : Int) (a2 : Z3) : Fi n a0 a1 a2 = (ZT big a1 1 7).bind fun y => bif y then (ZT big a2.1 1 4).bind fun y => bif y then (ZT big a2.2.1 1 900).bind fun y => bif y then (ZT big a2.2.2.1 1 (IntKind.i64.wrap ((↑(List.length a0) : Int) - 1))).bind fun y => bif y then if 0 ≤ a2.2.2.1 then (nth a0 (Int.toNat a2.2.2.1)).bind fun y => bif decide (y.2.1 = a2.2.1) then (ZT big a2.2.2.2.1 0 (IntKind.i64.wrap (a1 - 1))).bind fun y => some y else some false else none else some false else some false else some false else some false := by kernel_rfl
def SL : Yq := [(113, Mv), (67, Yx), (174, Jw), (175, Bz)]
theorem Zc5 : Yr SL := cons_cons Iw (cons_cons Z5 (cons_cons Qv (cons_cons Ky (Zh))))
def Zkr : KP := []
def SM (n : Nat) (x : YG [Ze, Zk, Wl]) := evX (false, false, [5, 12, 14, 16, 21, 29]) SL Zkr [none] Tryz.f125 (shV ZC) n (YP [Ze, Zk, Wl] x)
def G7 : Con := roS [Ze, Zk, Wl] true (shV ZC) (SM big)
theorem FZ : ZJ Tryz.prog 125 G7 := ZD ⟨Tryz.f125, by kernel_rfl, rfl, by decide⟩ fun _ _ h => Zw Zc5 (f := Tryz.f125) (by kernel_rfl) rfl (by kernel_rfl) (by kernel_rfl) big h
def XU (n : Nat) (a0 : Zi) (a1 : Int) (a2 : Bw) : Option Bool := SM n (a0, a1, a2, ())
theorem Zc6 (n : Nat) (a0 : Zi) (a1 : Int) (a2 : Bw) : XU n a0 a1 a2 = bif eqD Wl a2 (0, 0, 0, 0, ()) then some true else (Fi big a0 a1 (a2.1, a2.2.1, a2.2.2.1, 0, ())).bind fun y => bif !y then some false else if IntKind.u64.wrap a1 < 0 then none else (ZT big a2.2.2.2.1 0 (IntKind.i64.wrap (IntKind.i64.wrap (1 * 2 ^ min (IntKind.u64.wrap a1).toNat IntKind.i64.bits) - 1))).bind fun y => bif y then (XC big a2.2.2.2.1).bind fun y => (Ji big a1).bind fun y_1 => some (decide (y_1 ≤ y)) else some false := by kernel_rfl
def SN : Yq := [(68, Xr)]
theorem Zc7 : Yr SN := cons_cons YT (Zh)
def Zks : KP := []
def SO (n : Nat) (x : YG [ZQ, Zk]) := evX (false, false, [2, 5, 9]) SN Zks [some ZI] Tryz.f39 (shF ZI) n (YP [ZQ, Zk] x)
def VN : Con := roS [ZQ, Zk] true (shF ZI) (SO big)
theorem Ww : ZJ Tryz.prog 39 VN := ZD ⟨Tryz.f39, by kernel_rfl, rfl, by decide⟩ fun _ _ h => Zw Zc7 (f := Tryz.f39) (by kernel_rfl) rfl (by kernel_rfl) (by kernel_rfl) big h
def Wo (n : Nat) (a0 : Zn) (a1 : Int) : Option Zn := SO n (a0, a1, ())
theorem Zc8 (n : Nat) (a0 : Zn) (a1 : Int) : Wo n a0 a1 = (YW big a0).bind fun y => bif decide (a0.2.1 < a1) then bif decide (a1 ≤ 900) then some (y.1, a1, y.2.2.1, y.2.2.2.1, y.2.2.2.2.1, y.2.2.2.2.2.1, y.2.2.2.2.2.2.1, y.2.2.2.2.2.2.2.1, y.2.2.2.2.2.2.2.2.1, [], [], y.2.2.2.2.2.2.2.2.2.2.2) else some y else some y := by kernel_rfl
def Fj : Yq := []
theorem ZhC : Yr Fj := Zh
abbrev J9 : Vz := (.ro ZS :: dp 2 (.is (.ptr 0 0) :: .drop :: .ro Zb :: dp 34 []), [.vars [.ro Zb, .ro Zb, .ro Zb, .ro Zb]])
def SP : KP := [(2, J9)]
def Zfy (n : Nat) (x : YG [ZS, Z4]) := evX (false, false, [3, 17, 26, 36]) Fj SP [none] Tryz.f261 (shV ZC) n (YP [ZS, Z4] x)
def Zfz : Con := roS [ZS, Z4] true (shV ZC) (Zfy big)
theorem ZhD : ZJ Tryz.prog 261 Zfz := ZD ⟨Tryz.f261, by kernel_rfl, rfl, by decide⟩ fun _ _ h => Zw ZhC (f := Tryz.f261) (by kernel_rfl) rfl (by kernel_rfl) (by kernel_rfl) big h
def Mw (n : Nat) (a0 : Yn) (a1 : Z3) : Option Bool := Zfy n (a0, a1, ())
def Zkt (n : Nat) (x : KD J9.1) (y : BD J9.2) := Z6 (env (false, false, [3, 17, 26, 36]) Fj) SP (body Tryz.f261) (Vn (false, false, [3, 17, 26, 36]) Fj [none] Tryz.f261 (shV ZC) [.val ZS (ZR ZS), .val Z4 (ZR Z4)]) n 2 J9 x y
def V3 (n : Nat) (s0 : Yn) (s5 b0_0 : Int) (b0_1 b0_2 b0_3 : Int) : Option Bool := Zkt n (s0, s5, ()) ((b0_0, b0_1, b0_2, b0_3, ()), ())
theorem ZhE (n : Nat) (a0 : Yn) (a1 : Z3) : Mw n a0 a1 = V3 n a0 0 a1.1 a1.2.1 a1.2.2.1 a1.2.2.2.1 := by kernel_rfl
theorem DT (n : Nat) (s0 : Yn) (s5 b0_0 : Int) (b0_1 b0_2 b0_3 : Int) : V3 (n + 1) s0 s5 b0_0 b0_1 b0_2 b0_3 = bif decide (s5 < (↑(List.length s0) : Int)) then if 0 ≤ s5 then (nth s0 s5.toNat).bind fun y => bif decide (y.2.2.2.1 = b0_3) then if 0 ≤ s5 then (nth s0 s5.toNat).bind fun y => bif decide (y.1 = b0_0) then if 0 ≤ s5 then (nth s0 s5.toNat).bind fun y => bif decide (y.2.1 = b0_1) then some true else V3 n s0 (IntKind.i64.wrap (s5 + 1)) b0_0 b0_1 b0_2 b0_3 else none else V3 n s0 (IntKind.i64.wrap (s5 + 1)) b0_0 b0_1 b0_2 b0_3 else none else V3 n s0 (IntKind.i64.wrap (s5 + 1)) b0_0 b0_1 b0_2 b0_3 else none else some false := by kernel_rfl
def Va : Yq := []
theorem Pi : Yr Va := Zh
abbrev Ur : Vz := (.ro ZS :: .ro Zb :: .ro Zb :: .ro Zb :: dp 5 (.ro Zb :: .ro Zb :: dp 44 []), [])
abbrev Us : Vz := (.ro ZS :: .ro Zb :: .ro Zb :: .ro Zb :: dp 5 (.ro Zb :: .ro Zb :: .ro Zb :: dp 43 []), [])
def A5 : KP := [(3, Ur), (6, Us)]
def Ix (n : Nat) (x : YG [ZS, Zk, Zk, Zk]) := evX (false, false, [12, 27, 32, 38, 44]) Va A5 [none] Tryz.f176 (shV Zk) n (YP [ZS, Zk, Zk, Zk] x)
def KH : Con := roS [ZS, Zk, Zk, Zk] true (shV Zk) (Ix big)
theorem Ka : ZJ Tryz.prog 176 KH := ZD ⟨Tryz.f176, by kernel_rfl, rfl, by decide⟩ fun _ _ h => Zw Pi (f := Tryz.f176) (by kernel_rfl) rfl (by kernel_rfl) (by kernel_rfl) big h
def Ut (n : Nat) (a0 : Yn) (a1 a2 a3 : Int) : Option Int := Ix n (a0, a1, a2, a3, ())
def SQ (n : Nat) (x : KD Ur.1) (y : BD Ur.2) := Z6 (env (false, false, [12, 27, 32, 38, 44]) Va) A5 (body Tryz.f176) (Vn (false, false, [12, 27, 32, 38, 44]) Va [none] Tryz.f176 (shV Zk) [.val ZS (ZR ZS), .val Zk (ZR Zk), .val Zk (ZR Zk), .val Zk (ZR Zk)]) n 3 Ur x y
def WP (n : Nat) (s0 : Yn) (s1 s2 : Int) (s3 s9 s10 : Int) : Option Int := SQ n (s0, s1, s2, s3, s9, s10, ()) ()
def SR (n : Nat) (x : KD Us.1) (y : BD Us.2) := Z6 (env (false, false, [12, 27, 32, 38, 44]) Va) A5 (body Tryz.f176) (Vn (false, false, [12, 27, 32, 38, 44]) Va [none] Tryz.f176 (shV Zk) [.val ZS (ZR ZS), .val Zk (ZR Zk), .val Zk (ZR Zk), .val Zk (ZR Zk)]) n 6 Us x y
def WQ (n : Nat) (s0 : Yn) (s1 s2 : Int) (s3 s9 : Int) (s10 s11 : Int) : Option Int := SR n (s0, s1, s2, s3, s9, s10, s11, ()) ()
theorem Pj (n : Nat) (a0 : Yn) (a1 a2 a3 : Int) : Ut n a0 a1 a2 a3 = WP n a0 a1 a2 a3 0 0 := by kernel_rfl
theorem Aa (n : Nat) (s0 : Yn) (s1 s2 : Int) (s3 s9 s10 : Int) : WP (n + 1) s0 s1 s2 s3 s9 s10 = bif decide (s10 < 7) then WQ n s0 s1 s2 s3 s9 s10 0 else some s9 := by kernel_rfl
theorem Ab (n : Nat) (s0 : Yn) (s1 s2 : Int) (s3 s9 : Int) (s10 s11 : Int) : WQ (n + 1) s0 s1 s2 s3 s9 s10 s11 = bif decide (s11 < (↑(List.length s0) : Int)) then if 0 ≤ s11 then (nth s0 s11.toNat).bind fun y => (fun zC0 => bif decide (y.2.2.2.1 = s10) then bif decide (y.1 = s1) then bif decide (y.2.1 = s2) then bif decide (y.2.2.1 = s3) then if IntKind.u64.wrap s10 < 0 then none else WP n s0 s1 s2 s3 (IntKind.i64.wrap (s9 + IntKind.i64.wrap (1 * 2 ^ min (IntKind.u64.wrap s10).toNat IntKind.i64.bits))) (IntKind.i64.wrap (s10 + 1)) else zC0 else zC0 else zC0 else zC0) (WQ n s0 s1 s2 s3 s9 s10 (IntKind.i64.wrap (s11 + 1))) else none else WP n s0 s1 s2 s3 s9 (IntKind.i64.wrap (s10 + 1)) := by kernel_rfl
def ZoW : Yq := [(176, KH), (174, Jw), (175, Bz)]
theorem ZnC : Yr ZoW := cons_cons Ka (cons_cons Qv (cons_cons Ky (Zh)))
def Zsf : KP := []
def ZoX (n : Nat) (x : YG [ZS, Zk, Zk, Zk, Zk]) := evX (false, false, [12, 22]) ZoW Zsf [none, none] Tryz.f248 (shT [(false, Wl), (false, ZC)]) n (YP [ZS, Zk, Zk, Zk, Zk] x)
def ZhF : Con := roS [ZS, Zk, Zk, Zk, Zk] true (shT [(false, Wl), (false, ZC)]) (ZoX big)
theorem SS : ZJ Tryz.prog 248 ZhF := ZD ⟨Tryz.f248, by kernel_rfl, rfl, by decide⟩ fun _ _ h => Zw ZnC (f := Tryz.f248) (by kernel_rfl) rfl (by kernel_rfl) (by kernel_rfl) big h
def Iy (n : Nat) (a0 : Yn) (a1 a2 : Int) (a3 a4 : Int) : Option (Bw × Bool × Unit) := ZoX n (a0, a1, a2, a3, a4, ())
theorem ZnD (n : Nat) (a0 : Yn) (a1 a2 : Int) (a3 a4 : Int) : Iy n a0 a1 a2 a3 a4 = (Ut big a0 a1 a2 a3).bind fun y => (XC big y).bind fun y_1 => (Ji big a4).bind fun y_2 => bif decide (y_1 < y_2) then some ((0, 0, 0, 0, ()), false, ()) else some ((a1, a2, a3, y, ()), true, ()) := by kernel_rfl
def NF : Yq := []
theorem ST : Yr NF := Zh
def ZhG : KP := []
def Zku (n : Nat) (x : YG [ZQ, Zk, Zk, Wl, Z4]) := evX (false, false, [5, 8, 9, 11, 13, 16, 23]) NF ZhG [none] Tryz.f69 (shV ZP) n (YP [ZQ, Zk, Zk, Wl, Z4] x)
def QW : Con := roS [ZQ, Zk, Zk, Wl, Z4] true (shV ZP) (Zku big)
theorem Uu : ZJ Tryz.prog 69 QW := ZD ⟨Tryz.f69, by kernel_rfl, rfl, by decide⟩ fun _ _ h => Zw ST (f := Tryz.f69) (by kernel_rfl) rfl (by kernel_rfl) (by kernel_rfl) big h
def SU : Yq := []
theorem Zc9 : Yr SU := Zh
def Zkv : KP := []
def SW (n : Nat) (x : YG [ZQ, Zk, Zk]) := evX (false, false, [3, 7, 8, 13, 14, 19, 20]) SU Zkv [none] Tryz.f15 (shV ZC) n (YP [ZQ, Zk, Zk] x)
def Ck : Con := roS [ZQ, Zk, Zk] true (shV ZC) (SW big)
theorem A6 : ZJ Tryz.prog 15 Ck := ZD ⟨Tryz.f15, by kernel_rfl, rfl, by decide⟩ fun _ _ h => Zw Zc9 (f := Tryz.f15) (by kernel_rfl) rfl (by kernel_rfl) (by kernel_rfl) big h
def Qk (n : Nat) (a0 : Zn) (a1 a2 : Int) : Option Bool := SW n (a0, a1, a2, ())
theorem Zda (n : Nat) (a0 : Zn) (a1 a2 : Int) : Qk n a0 a1 a2 = bif decide (a0.2.2.2.2.1.2.1 < a2) then some true else bif decide (a0.2.2.2.2.1.2.1 = a2) then some (decide (a0.2.2.2.2.1.1 < a1)) else some false := by kernel_rfl
def Ac : Yq := [(67, Yx)]
theorem SX : Yr Ac := cons_cons Z5 (Zh)
abbrev Qx : Vz := (.ro Ze :: .ro Zb :: dp 3 (.ro Zb :: dp 30 []), [])
def Iz : KP := [(2, Qx)]
def NG (n : Nat) (x : YG [Ze, Zk]) := evX (false, false, []) Ac Iz [none] Tryz.f84 (shV Zk) n (YP [Ze, Zk] x)
def Ad : Con := roS [Ze, Zk] true (shV Zk) (NG big)
theorem Jy : ZJ Tryz.prog 84 Ad := ZD ⟨Tryz.f84, by kernel_rfl, rfl, by decide⟩ fun _ _ h => Zw SX (f := Tryz.f84) (by kernel_rfl) rfl (by kernel_rfl) (by kernel_rfl) big h
def Wf (n : Nat) (a0 : Zi) (a1 : Int) : Option Int := NG n (a0, a1, ())
def Zdb (n : Nat) (x : KD Qx.1) (y : BD Qx.2) := Z6 (env (false, false, []) Ac) Iz (body Tryz.f84) (Vn (false, false, []) Ac [none] Tryz.f84 (shV Zk) [.val Ze (ZR Ze), .val Zk (ZR Zk)]) n 2 Qx x y
def Vt (n : Nat) (s0 : Zi) (s1 s5 : Int) : Option Int := Zdb n (s0, s1, s5, ()) ()
theorem DU (n : Nat) (a0 : Zi) (a1 : Int) : Wf n a0 a1 = Vt n a0 a1 0 := by kernel_rfl
theorem XA (n : Nat) (s0 : Zi) (s1 s5 : Int) : Vt (n + 1) s0 s1 s5 = bif !decide (s1 = 0) then (ZT big s1 0 (IntKind.i64.wrap ((↑(List.length s0) : Int) - 1))).bind fun y => bif !y then some (-1) else if 0 ≤ s1 then (nth s0 s1.toNat).bind fun y => (ZT big y.1 0 (IntKind.i64.wrap (s1 - 1))).bind fun y => bif !y then some (-1) else if 0 ≤ s1 then (nth s0 s1.toNat).bind fun y => Vt n s0 y.1 (IntKind.i64.wrap (s5 + 1)) else none else none else bif decide ((↑(List.length s0) : Int) = 0) then some (-1) else some s5 := by kernel_rfl
def Cl : Yq := [(84, Ad)]
theorem Zdc : Yr Cl := cons_cons Jy (Zh)
abbrev KI : Vz := (.ro Ze :: .ro Zb :: .ro Zb :: dp 23 [], [])
def NH : KP := [(3, KI)]
def SY (n : Nat) (x : YG [Ze, Zk, Zk]) := evX (false, false, []) Cl NH [none] Tryz.f31 (shV ZC) n (YP [Ze, Zk, Zk] x)
def Cm : Con := roS [Ze, Zk, Zk] true (shV ZC) (SY big)
theorem A7 : ZJ Tryz.prog 31 Cm := ZD ⟨Tryz.f31, by kernel_rfl, rfl, by decide⟩ fun _ _ h => Zw Zdc (f := Tryz.f31) (by kernel_rfl) rfl (by kernel_rfl) (by kernel_rfl) big h
def Ql (n : Nat) (a0 : Zi) (a1 a2 : Int) : Option Bool := SY n (a0, a1, a2, ())
def ZhH (n : Nat) (x : KD KI.1) (y : BD KI.2) := Z6 (env (false, false, []) Cl) NH (body Tryz.f31) (Vn (false, false, []) Cl [none] Tryz.f31 (shV ZC) [.val Ze (ZR Ze), .val Zk (ZR Zk), .val Zk (ZR Zk)]) n 3 KI x y
def Uv (n : Nat) (s0 : Zi) (s1 s2 : Int) : Option Bool := ZhH n (s0, s1, s2, ()) ()
theorem F0 (n : Nat) (a0 : Zi) (a1 a2 : Int) : Ql n a0 a1 a2 = (Wf big a0 a1).bind fun y => bif decide (y < 0) then some false else Uv n a0 a1 a2 := by kernel_rfl
theorem Kb (n : Nat) (s0 : Zi) (s1 s2 : Int) : Uv (n + 1) s0 s1 s2 = bif decide (0 < s1) then bif !decide (s1 = s2) then if 0 ≤ s1 then (nth s0 s1.toNat).bind fun y => Uv n s0 y.1 s2 else none else some (decide (s1 = s2)) else some (decide (s1 = s2)) := by kernel_rfl
def IA : Yq := [(67, Yx), (31, Cm)]
theorem Pk : Yr IA := cons_cons Z5 (cons_cons A7 (Zh))
def Zdd : KP := []
def IB (n : Nat) (x : YG [Ze, Wl, Zk]) := evX (false, false, [4, 15, 25]) IA Zdd [none] Tryz.f38 (shV ZC) n (YP [Ze, Wl, Zk] x)
def Cn : Con := roS [Ze, Wl, Zk] true (shV ZC) (IB big)
theorem C1 : ZJ Tryz.prog 38 Cn := ZD ⟨Tryz.f38, by kernel_rfl, rfl, by decide⟩ fun _ _ h => Zw Pk (f := Tryz.f38) (by kernel_rfl) rfl (by kernel_rfl) (by kernel_rfl) big h
def KJ (n : Nat) (a0 : Zi) (a1 : Bw) (a2 : Int) : Option Bool := IB n (a0, a1, a2, ())
theorem Pl (n : Nat) (a0 : Zi) (a1 : Bw) (a2 : Int) : KJ n a0 a1 a2 = (ZT big a2 0 (IntKind.i64.wrap ((↑(List.length a0) : Int) - 1))).bind fun y => bif !y then some false else (Ql big a0 a2 a1.2.2.1).bind fun y => bif y then some true else if 0 ≤ a2 then (nth a0 a2.toNat).bind fun y => some (decide (a1.2.1 < y.2.2.2.1.2.1)) else none := by kernel_rfl
def NI : Yq := [(84, Ad), (67, Yx)]
theorem SZ : Yr NI := cons_cons Jy (cons_cons Z5 (Zh))
def ZhI : KP := []
def NJ (n : Nat) (x : YG [Ze, Zk]) := evX (false, false, []) NI ZhI [none, none, none, none] Tryz.f95 (shT [(false, Zk), (false, Zk), (false, Zk), (false, ZC)]) n (YP [Ze, Zk] x)
def DV : Con := roS [Ze, Zk] true (shT [(false, Zk), (false, Zk), (false, Zk), (false, ZC)]) (NJ big)
theorem DW : ZJ Tryz.prog 95 DV := ZD ⟨Tryz.f95, by kernel_rfl, rfl, by decide⟩ fun _ _ h => Zw SZ (f := Tryz.f95) (by kernel_rfl) rfl (by kernel_rfl) (by kernel_rfl) big h
def V4 (n : Nat) (a0 : Zi) (a1 : Int) : Option (Int × Int × Int × Bool × Unit) := NJ n (a0, a1, ())
theorem Jz (n : Nat) (a0 : Zi) (a1 : Int) : V4 n a0 a1 = (Wf big a0 a1).bind fun y => bif decide (y < 1) then some (0, 0, 0, false, ()) else if 0 ≤ a1 then (nth a0 a1.toNat).bind fun y => (ZT big y.2.2.2.1.2.2.1 0 (IntKind.i64.wrap (a1 - 1))).bind fun y_1 => bif !y_1 then some (0, 0, 0, false, ()) else if 0 ≤ y.2.2.2.1.2.2.1 then (nth a0 (Int.toNat y.2.2.2.1.2.2.1)).bind fun y_2 => (ZT big y_2.2.2.2.1.2.2.1 0 (IntKind.i64.wrap ((↑(List.length a0) : Int) - 1))).bind fun y_3 => bif !y_3 then some (0, 0, 0, false, ()) else if 0 ≤ y_2.2.2.2.1.2.2.1 then (nth a0 (Int.toNat y_2.2.2.2.1.2.2.1)).bind fun y_4 => (ZT big y_4.2.2.2.1.2.2.1 0 (IntKind.i64.wrap ((↑(List.length a0) : Int) - 1))).bind fun y_5 => bif !y_5 then some (0, 0, 0, false, ()) else some (y.2.2.2.1.2.2.1, y_2.2.2.2.1.2.2.1, y_4.2.2.2.1.2.2.1, true, ()) else none else none else none := by kernel_rfl
def S8 : Yq := []
theorem Zde : Yr S8 := Zh
def Zkw : KP := []
def Ta (n : Nat) (x : YG [Ze, Zk, Zk]) := evX (false, false, []) S8 Zkw [none] Tryz.f98 (shV ZC) n (YP [Ze, Zk, Zk] x)
def G8 : Con := roS [Ze, Zk, Zk] true (shV ZC) (Ta big)
theorem F1 : ZJ Tryz.prog 98 G8 := ZD ⟨Tryz.f98, by kernel_rfl, rfl, by decide⟩ fun _ _ h => Zw Zde (f := Tryz.f98) (by kernel_rfl) rfl (by kernel_rfl) (by kernel_rfl) big h
def Qm (n : Nat) (a0 : Zi) (a1 a2 : Int) : Option Bool := Ta n (a0, a1, a2, ())
theorem F2 (n : Nat) (a0 : Zi) (a1 a2 : Int) : Qm n a0 a1 a2 = bif !decide (a1 = 0) then bif !decide (a2 = 0) then if 0 ≤ a1 then (nth a0 a1.toNat).bind fun y => if 0 ≤ a2 then (nth a0 a2.toNat).bind fun y_1 => some (decide (y.2.1 = IntKind.i64.wrap (y_1.2.1 + 1))) else none else none else some false else some false := by kernel_rfl
def NK : Yq := [(95, DV), (98, G8)]
theorem Tb : Yr NK := cons_cons DW (cons_cons F1 (Zh))
def ZhJ : KP := []
def NL (n : Nat) (x : YG [Ze, Zk]) := evX (false, false, []) NK ZhJ [none, none] Tryz.f97 (shT [(false, Zk), (false, ZC)]) n (YP [Ze, Zk] x)
def NM : Con := roS [Ze, Zk] true (shT [(false, Zk), (false, ZC)]) (NL big)
theorem Tc : ZJ Tryz.prog 97 NM := ZD ⟨Tryz.f97, by kernel_rfl, rfl, by decide⟩ fun _ _ h => Zw Tb (f := Tryz.f97) (by kernel_rfl) rfl (by kernel_rfl) (by kernel_rfl) big h
def Ae (n : Nat) (a0 : Zi) (a1 : Int) : Option (Int × Bool × Unit) := NL n (a0, a1, ())
theorem DX (n : Nat) (a0 : Zi) (a1 : Int) : Ae n a0 a1 = (V4 big a0 a1).bind fun y => bif !y.2.2.2.1 then some (0, false, ()) else (Qm big a0 y.1 y.2.1).bind fun y_1 => bif !y_1 then some (0, false, ()) else if 0 ≤ y.2.1 then (nth a0 (Int.toNat y.2.1)).bind fun y_2 => if 0 ≤ y.2.2.1 then (nth a0 (Int.toNat y.2.2.1)).bind fun y_3 => bif !decide (y_2.2.1 = IntKind.i64.wrap (y_3.2.1 + 1)) then some (0, false, ()) else some (y.2.2.1, true, ()) else none else none := by kernel_rfl
def Zkx : Yq := [(22, Wd), (175, Bz)]
theorem Zky : Yr Zkx := cons_cons XE (cons_cons Ky (Zh))
def Zqn : KP := []
def Zkz (n : Nat) (x : YG [ZQ, Zk, ZC]) := evX (false, false, [3, 7, 11, 15, 17, 21, 28, 35, 36, 38]) Zkx Zqn [none] Tryz.f188 (shV ZC) n (YP [ZQ, Zk, ZC] x)
def Td : Con := roS [ZQ, Zk, ZC] true (shV ZC) (Zkz big)
theorem NN : ZJ Tryz.prog 188 Td := ZD ⟨Tryz.f188, by kernel_rfl, rfl, by decide⟩ fun _ _ h => Zw Zky (f := Tryz.f188) (by kernel_rfl) rfl (by kernel_rfl) (by kernel_rfl) big h
def IC (n : Nat) (a0 : Zn) (a1 : Int) (a2 : Bool) : Option Bool := Zkz n (a0, a1, a2, ())
theorem ZkA (n : Nat) (a0 : Zn) (a1 : Int) (a2 : Bool) : IC n a0 a1 a2 = (Xj big a0.2.1 a1).bind fun y => bif !decide (y = a0.1) then some false else bif decide (a0.2.1 ≤ a0.2.2.2.2.2.2.2.2.2.2.2.1) then some false else (Ji big a1).bind fun y => bif decide (y ≤ (↑(List.length a0.2.2.2.2.2.2.2.2.2.2.1) : Int)) then some true else bif decide (a0.2.1 = 1) then some true else bif a2 then some (decide (a0.2.2.1.2.1 = IntKind.i64.wrap (a0.2.1 - 1))) else some false := by kernel_rfl
def F3 : Yq := []
theorem Mx : Yr F3 := Zh
def Te : KP := []
def Zdf (n : Nat) (x : YG []) := evX (false, false, []) F3 Te [some Xb] Tryz.f160 (shF Xb) n (YP [] x)
def F4 : Con := roS [] true (shF Xb) (Zdf big)
theorem My : ZJ Tryz.prog 160 F4 := ZD ⟨Tryz.f160, by kernel_rfl, rfl, by decide⟩ fun _ _ h => Zw Mx (f := Tryz.f160) (by kernel_rfl) rfl (by kernel_rfl) (by kernel_rfl) big h
def Tf : Yq := [(160, F4)]
theorem Zdg : Yr Tf := cons_cons My (Zh)
def ZkB : KP := []
def ZnE (n : Nat) (x : YG []) := evX (true, false, []) Tf ZkB [some Yt] Tryz.f178 (shF Yt) n (YP [] x)
def Tg : Con := roS [] true (shF Yt) (ZnE big)
theorem Zdh : ZJ Tryz.prog 178 Tg := ZD ⟨Tryz.f178, by kernel_rfl, rfl, by decide⟩ fun _ _ h => Zw Zdg (f := Tryz.f178) (by kernel_rfl) rfl (by kernel_rfl) (by kernel_rfl) big h
def Th : Yq := []
theorem Zdi : Yr Th := Zh
def ZkC : KP := []
def ZnF (n : Nat) (x : YG [Zk]) := evX (false, false, []) Th ZkC [some ZI] Tryz.f179 (shF ZI) n (YP [Zk] x)
def G9 : Con := roS [Zk] true (shF ZI) (ZnF big)
theorem F5 : ZJ Tryz.prog 179 G9 := ZD ⟨Tryz.f179, by kernel_rfl, rfl, by decide⟩ fun _ _ h => Zw Zdi (f := Tryz.f179) (by kernel_rfl) rfl (by kernel_rfl) (by kernel_rfl) big h
def Qy : Yq := [(67, Yx), (174, Jw), (177, Mt), (178, Tg), (179, G9)]
theorem Mz : Yr Qy := cons_cons Z5 (cons_cons Qv (cons_cons Io (cons_cons Zdh (cons_cons F5 (Zh)))))
abbrev VA : Vz := (.ro Zb :: dp 5 (.is (.ptr 0 0) :: .drop :: .is (.ptr 2 0) :: .ro Zb :: dp 38 []), [.vars [.ro Zb, .ro ZC, .ro Zb, .own Xb, .own ZI, .own ZP, .own Z4, .own W6], .drop, .vars [.ro Zb, .ro ZC, .ro Zb, .own ZO, .own ZI, .own ZP, .own Z4, .own W6]])
def DY : KP := [(5, VA)]
def F6 (n : Nat) (x : YG [Zk, ZC, Zk]) := evX (true, false, [8, 40]) Qy DY [some Zx, none] Tryz.f133 (shT [(true, Zx), (false, ZC)]) n (YP [Zk, ZC, Zk] x)
def F7 : Con := roS [Zk, ZC, Zk] true (shT [(true, Zx), (false, ZC)]) (F6 big)
theorem MA : ZJ Tryz.prog 133 F7 := ZD ⟨Tryz.f133, by kernel_rfl, rfl, by decide⟩ fun _ _ h => Zw Mz (f := Tryz.f133) (by kernel_rfl) rfl (by kernel_rfl) (by kernel_rfl) big h
def A8 (n : Nat) (a0 : Int) (a1 : Bool) (a2 : Int) : Option (Zp × Bool × Unit) := F6 n (a0, a1, a2, ())
def Pm (n : Nat) (x : KD VA.1) (y : BD VA.2) := Z6 (env (true, false, [8, 40]) Qy) DY (body Tryz.f133) (Vn (true, false, [8, 40]) Qy [some Zx, none] Tryz.f133 (shT [(true, Zx), (false, ZC)]) [.val Zk (ZR Zk), .val ZC (ZR ZC), .val Zk (ZR Zk)]) n 5 VA x y
def VB (n : Nat) (s0 s9 b0_0 : Int) (b0_1 : Bool) (b0_2 : Int) (b0_3 : (List Zv)) (b0_4 : (List Zn)) (b0_5 : (List Zy)) (b0_6 : (List Z3)) (b0_7 : (List Xd)) (b2_0 : Int) (b2_1 : Bool) (b2_2 : Int) (b2_3 : (List Zr)) (b2_4 : (List Zn)) (b2_5 : (List Zy)) (b2_6 : (List Z3)) (b2_7 : (List Xd)) : Option (Zp × Bool × Unit) := Pm n (s0, s9, ()) ((b0_0, b0_1, b0_2, b0_3, b0_4, b0_5, b0_6, b0_7, ()), (b2_0, b2_1, b2_2, b2_3, b2_4, b2_5, b2_6, b2_7, ()), ())
theorem MB (n : Nat) (a0 : Int) (a1 : Bool) (a2 : Int) : A8 n a0 a1 a2 = (ZT big a0 1 7).bind fun y => bif !y then some ((0, false, 0, [], [], [], [], [], ()), false, ()) else if IntKind.u64.wrap a0 < 0 then none else (ZT big a2 0 (IntKind.i64.wrap (IntKind.i64.wrap (1 * 2 ^ min (IntKind.u64.wrap a0).toNat IntKind.i64.bits) - 1))).bind fun y => bif !y then some ((0, false, 0, [], [], [], [], [], ()), false, ()) else (XC big a2).bind fun y => (By big a0).bind fun y_1 => bif decide (y_1 < y) then some ((0, false, 0, [], [], [], [], [], ()), false, ()) else VB n a0 0 0 false 0 [] [] [] [] [] a0 a1 a2 [((-1), 0, [], (0, 0, 0, 0, ()), ())] [] [] [] [] := by kernel_rfl
theorem JA (n : Nat) (s0 s9 b0_0 : Int) (b0_1 : Bool) (b0_2 : Int) (b0_3 : (List Zv)) (b0_4 : (List Zn)) (b0_5 : (List Zy)) (b0_6 : (List Z3)) (b0_7 : (List Xd)) (b2_0 : Int) (b2_1 : Bool) (b2_2 : Int) (b2_3 : (List Zr)) (b2_4 : (List Zn)) (b2_5 : (List Zy)) (b2_6 : (List Z3)) (b2_7 : (List Xd)) : VB (n + 1) s0 s9 b0_0 b0_1 b0_2 b0_3 b0_4 b0_5 b0_6 b0_7 b2_0 b2_1 b2_2 b2_3 b2_4 b2_5 b2_6 b2_7 = bif decide (s9 < s0) then if b2_4.length + (1 : Nat) ≤ lim then VB n s0 (IntKind.i64.wrap (s9 + 1)) b0_0 b0_1 b0_2 b0_3 b0_4 b0_5 b0_6 b0_7 b2_0 b2_1 b2_2 b2_3 (b2_4.append [(s9, 1, (0, 0, 0, 0, ()), (0, 0, 0, 0, ()), (0, 0, 0, 0, ()), [], [], [], [], [], [], 0, ())]) b2_5 b2_6 b2_7 else none else some ((b2_0, b2_1, b2_2, b2_3, b2_4, b2_5, b2_6, b2_7, ()), true, ()) := by kernel_rfl
def ID : Yq := [(84, Ad)]
theorem ZkD : Yr ID := cons_cons Jy (Zh)
abbrev Co : Vz := (.ro Ze :: .ro Zb :: dp 3 (.own Zb :: dp 18 []), [])
def ZfA : KP := [(4, Co)]
def ZkE (n : Nat) (x : YG [Ze, Zk]) := evX (false, false, []) ID ZfA [some Y6] Tryz.f83 (shF Y6) n (YP [Ze, Zk] x)
def ZkF : Con := roS [Ze, Zk] true (shF Y6) (ZkE big)
theorem ZkG : ZJ Tryz.prog 83 ZkF := ZD ⟨Tryz.f83, by kernel_rfl, rfl, by decide⟩ fun _ _ h => Zw ZkD (f := Tryz.f83) (by kernel_rfl) rfl (by kernel_rfl) (by kernel_rfl) big h
def IE (n : Nat) (a0 : Zi) (a1 : Int) : Option Yp := ZkE n (a0, a1, ())
def ZnG (n : Nat) (x : KD Co.1) (y : BD Co.2) := Z6 (env (false, false, []) ID) ZfA (body Tryz.f83) (Vn (false, false, []) ID [some Y6] Tryz.f83 (shF Y6) [.val Ze (ZR Ze), .val Zk (ZR Zk)]) n 4 Co x y
def JB (n : Nat) (s0 : Zi) (s1 : Int) (s5 : (List Int)) : Option Yp := ZnG n (s0, s1, s5, ()) ()
theorem NO (n : Nat) (a0 : Zi) (a1 : Int) : IE n a0 a1 = (Wf big a0 a1).bind fun y => bif decide (y < 0) then some [] else JB n a0 a1 [] := by kernel_rfl
theorem A9 (n : Nat) (s0 : Zi) (s1 : Int) (s5 : (List Int)) : JB (n + 1) s0 s1 s5 = bif decide (0 < s1) then if [s1].length + s5.length ≤ lim then if 0 ≤ s1 then (nth s0 s1.toNat).bind fun y => JB n s0 y.1 (s1 :: s5) else none else none else some s5 := by kernel_rfl
def Af : Yq := [(31, Cm), (83, ZkF)]
theorem Ti : Yr Af := cons_cons A7 (cons_cons ZkG (Zh))
abbrev Qz : Vz := (dp 2 (.ro Zb :: dp 4 (.is (.own 0 0) :: .own Zb :: .ro Zb :: dp 30 [])), [.arr Zb])
def IF : KP := [(6, Qz)]
def NP (n : Nat) (x : YG [Ze, Zk, Zk]) := evX (false, false, []) Af IF [some Y6] Tryz.f30 (shF Y6) n (YP [Ze, Zk, Zk] x)
def DZ : Con := roS [Ze, Zk, Zk] true (shF Y6) (NP big)
theorem D0 : ZJ Tryz.prog 30 DZ := ZD ⟨Tryz.f30, by kernel_rfl, rfl, by decide⟩ fun _ _ h => Zw Ti (f := Tryz.f30) (by kernel_rfl) rfl (by kernel_rfl) (by kernel_rfl) big h
def QX (n : Nat) (a0 : Zi) (a1 a2 : Int) : Option Yp := NP n (a0, a1, a2, ())
def Zdj (n : Nat) (x : KD Qz.1) (y : BD Qz.2) := Z6 (env (false, false, []) Af) IF (body Tryz.f30) (Vn (false, false, []) Af [some Y6] Tryz.f30 (shF Y6) [.val Ze (ZR Ze), .val Zk (ZR Zk), .val Zk (ZR Zk)]) n 6 Qz x y
def Wx (n : Nat) (s2 : Int) (s8 : (List Int)) (s9 : Int) (b0 : (List Int)) : Option Yp := Zdj n (s2, s8, s9, ()) (b0, ())
theorem D4 (n : Nat) (a0 : Zi) (a1 a2 : Int) : QX n a0 a1 a2 = (Ql big a0 a1 a2).bind fun y => bif !y then some [] else (IE big a0 a1).bind fun y => Wx n a2 [] 0 y := by kernel_rfl
theorem Vb (n : Nat) (s2 : Int) (s8 : (List Int)) (s9 : Int) (b0 : (List Int)) : Wx (n + 1) s2 s8 s9 b0 = bif decide (s9 < (↑b0.length : Int)) then if 0 ≤ s9 then if s9 < (↑b0.length : Int) then (nth b0 s9.toNat).bind fun y => bif decide (s2 < y) then if 0 ≤ s9 then if s9 < (↑b0.length : Int) then (nth b0 s9.toNat).bind fun y => if s8.length + [y].length ≤ lim then Wx n s2 (s8.append [y]) (IntKind.i64.wrap (s9 + 1)) b0 else none else none else none else Wx n s2 s8 (IntKind.i64.wrap (s9 + 1)) b0 else none else none else some s8 := by kernel_rfl
def Tj : Yq := []
theorem Zdk : Yr Tj := Zh
def ZkH : KP := []
def Tk (n : Nat) (x : YG [ZQ]) := evX (false, false, [1, 3, 7, 9]) Tj ZkH [none] Tryz.f88 (shV Zk) n (YP [ZQ] x)
def Ha : Con := roS [ZQ] true (shV Zk) (Tk big)
theorem F8 : ZJ Tryz.prog 88 Ha := ZD ⟨Tryz.f88, by kernel_rfl, rfl, by decide⟩ fun _ _ h => Zw Zdk (f := Tryz.f88) (by kernel_rfl) rfl (by kernel_rfl) (by kernel_rfl) big h
def Qn (n : Nat) (a0 : Zn) : Option Int := Tk n (a0, ())
theorem F9 (n : Nat) (a0 : Zn) : Qn n a0 = bif decide ((↑(List.length a0.2.2.2.2.2.1) : Int) = 0) then some 0 else if 0 ≤ IntKind.i64.wrap ((↑(List.length a0.2.2.2.2.2.1) : Int) - 1) then (nth a0.2.2.2.2.2.1 (IntKind.i64.wrap ((↑(List.length a0.2.2.2.2.2.1) : Int) - 1)).toNat).bind fun y => some y else none := by kernel_rfl
def Fk : Yq := [(176, KH)]
theorem ZhK : Yr Fk := cons_cons Ka (Zh)
abbrev Ag : Vz := (dp 2 (.ro Zb :: .drop :: .is (.ptr 0 0) :: dp 2 (.ro Zb :: .ro Zb :: dp 46 [])), [.vars [.ro Zb, .ro Zb, .ro Zb, .ro Zb]])
def Tl : KP := [(5, Ag)]
def ZfB (n : Nat) (x : YG [ZS, Wl, Zk]) := evX (false, false, [4, 9, 13, 15, 17, 24, 47, 51]) Fk Tl [none] Tryz.f126 (shV ZC) n (YP [ZS, Wl, Zk] x)
def MC : Con := roS [ZS, Wl, Zk] true (shV ZC) (ZfB big)
theorem IG : ZJ Tryz.prog 126 MC := ZD ⟨Tryz.f126, by kernel_rfl, rfl, by decide⟩ fun _ _ h => Zw ZhK (f := Tryz.f126) (by kernel_rfl) rfl (by kernel_rfl) (by kernel_rfl) big h
def V5 (n : Nat) (a0 : Yn) (a1 : Bw) (a2 : Int) : Option Bool := ZfB n (a0, a1, a2, ())
def ZkI (n : Nat) (x : KD Ag.1) (y : BD Ag.2) := Z6 (env (false, false, [4, 9, 13, 15, 17, 24, 47, 51]) Fk) Tl (body Tryz.f126) (Vn (false, false, [4, 9, 13, 15, 17, 24, 47, 51]) Fk [none] Tryz.f126 (shV ZC) [.val ZS (ZR ZS), .val Wl (ZR Wl), .val Zk (ZR Zk)]) n 5 Ag x y
def V6 (n : Nat) (s2 s7 : Int) (s8 b0_0 : Int) (b0_1 b0_2 b0_3 : Int) : Option Bool := ZkI n (s2, s7, s8, ()) ((b0_0, b0_1, b0_2, b0_3, ()), ())
theorem ZhL (n : Nat) (a0 : Yn) (a1 : Bw) (a2 : Int) : V5 n a0 a1 a2 = bif decide (a1.2.1 = 0) then some true else (Ut big a0 a1.1 a1.2.1 a1.2.2.1).bind fun y => V6 n a2 y 0 a1.1 a1.2.1 a1.2.2.1 a1.2.2.2.1 := by kernel_rfl
theorem D5 (n : Nat) (s2 s7 : Int) (s8 b0_0 : Int) (b0_1 b0_2 b0_3 : Int) : V6 (n + 1) s2 s7 s8 b0_0 b0_1 b0_2 b0_3 = bif decide (s8 < 7) then if IntKind.u64.wrap s8 < 0 then none else bif !decide ((b0_3.fdiv (2 ^ min (IntKind.u64.wrap s8).toNat IntKind.i64.bits)).tmod 2 = 0) then if IntKind.u64.wrap s8 < 0 then none else bif decide ((s2.fdiv (2 ^ min (IntKind.u64.wrap s8).toNat IntKind.i64.bits)).tmod 2 = 0) then if IntKind.u64.wrap s8 < 0 then none else bif decide ((s7.fdiv (2 ^ min (IntKind.u64.wrap s8).toNat IntKind.i64.bits)).tmod 2 = 0) then some false else V6 n s2 s7 (IntKind.i64.wrap (s8 + 1)) b0_0 b0_1 b0_2 b0_3 else V6 n s2 s7 (IntKind.i64.wrap (s8 + 1)) b0_0 b0_1 b0_2 b0_3 else V6 n s2 s7 (IntKind.i64.wrap (s8 + 1)) b0_0 b0_1 b0_2 b0_3 else bif decide (0 ≤ b0_3) then some (decide (b0_3 < 128)) else some false := by kernel_rfl
def ZkJ : Yq := [(68, Xr)]
theorem ZkK : Yr ZkJ := cons_cons YT (Zh)
def Zqo : KP := []
def ZkL (n : Nat) (x : YG [ZQ, Zk, Zk, Zk]) := evX (false, false, [4, 10, 11, 17]) ZkJ Zqo [some ZI, none] Tryz.f253 (shT [(true, ZI), (false, Z4)]) n (YP [ZQ, Zk, Zk, Zk] x)
def ZkM : Con := roS [ZQ, Zk, Zk, Zk] true (shT [(true, ZI), (false, Z4)]) (ZkL big)
theorem ZkN : ZJ Tryz.prog 253 ZkM := ZD ⟨Tryz.f253, by kernel_rfl, rfl, by decide⟩ fun _ _ h => Zw ZkK (f := Tryz.f253) (by kernel_rfl) rfl (by kernel_rfl) (by kernel_rfl) big h
def Tm (n : Nat) (a0 : Zn) (a1 a2 a3 : Int) : Option (Zn × Z3 × Unit) := ZkL n (a0, a1, a2, a3, ())
theorem ZkO (n : Nat) (a0 : Zn) (a1 a2 a3 : Int) : Tm n a0 a1 a2 a3 = (YW big a0).bind fun y => (fun zB => X4 zB zB) (some ((y.1, y.2.1, y.2.2.1, y.2.2.2.1, (a1, a2, a3, a0.1, ()), y.2.2.2.2.2), (a1, a2, a3, a0.1, ()), ())) := by kernel_rfl
def Tn : Yq := [(253, ZkM), (69, QW)]
theorem Zdl : Yr Tn := cons_cons ZkN (cons_cons Uu (Zh))
def ZkP : KP := []
def To (n : Nat) (x : AP.denL [.mu ZI, .ro Zk, .ro Zk, .ro Zk, .ro Zk]) := evX (false, false, [11, 12, 14, 15, 23, 26, 27]) Tn ZkP [some ZW] Tryz.f236 (shO (shF ZW) [.mu ZI]) n (AP.encL [.mu ZI, .ro Zk, .ro Zk, .ro Zk, .ro Zk] x)
def Cp : Con := apS [.mu ZI, .ro Zk, .ro Zk, .ro Zk, .ro Zk] true (shO (shF ZW) [.mu ZI]) (To big)
theorem Bc : ZJ Tryz.prog 236 Cp := YU ⟨Tryz.f236, by kernel_rfl, rfl, by decide⟩ fun _ _ h => Zw Zdl (f := Tryz.f236) (by kernel_rfl) rfl (by kernel_rfl) (by kernel_rfl) big h
def Qo (n : Nat) (a0 : Zn) (a1 a2 : Int) (a3 a4 : Int) : Option (ZX × Zn × Unit) := To n (a0, a1, a2, a3, a4, ())
theorem Zdm (n : Nat) (a0 : Zn) (a1 a2 : Int) (a3 a4 : Int) : Qo n a0 a1 a2 a3 a4 = (Tm big a0 a1 a2 a3).bind fun y => some ([(2, y.1.1, a4, y.2.1.2.1, 0, (0, 0, 0, 0, ()), y.2)], y.1, ()) := by kernel_rfl
def NQ : Yq := [(67, Yx), (68, Xr), (39, VN), (22, Wd), (69, QW)]
theorem Tp : Yr NQ := cons_cons Z5 (cons_cons YT (cons_cons Ww (cons_cons XE (cons_cons Uu (Zh)))))
def ZhM : KP := []
def NR (n : Nat) (x : YG [ZQ, Zk]) := evX (false, false, [2, 7, 8, 20, 26, 30]) NQ ZhM [some ZI, none, none] Tryz.f18 (shT [(true, ZI), (false, ZP), (false, ZC)]) n (YP [ZQ, Zk] x)
def NS : Con := roS [ZQ, Zk] true (shT [(true, ZI), (false, ZP), (false, ZC)]) (NR big)
theorem Tq : ZJ Tryz.prog 18 NS := ZD ⟨Tryz.f18, by kernel_rfl, rfl, by decide⟩ fun _ _ h => Zw Tp (f := Tryz.f18) (by kernel_rfl) rfl (by kernel_rfl) (by kernel_rfl) big h
def D6 (n : Nat) (a0 : Zn) (a1 : Int) : Option (Zn × Zy × Bool × Unit) := NR n (a0, a1, ())
theorem Tr (n : Nat) (a0 : Zn) (a1 : Int) : D6 n a0 a1 = bif decide (900 ≤ a0.2.1) then (YW big a0).bind fun y => some (y, (0, 0, 0, 0, 0, (0, 0, 0, 0, ()), (0, 0, 0, 0, ()), ()), false, ()) else (ZT big a1 1 7).bind fun y => bif !y then (YW big a0).bind fun y => some (y, (0, 0, 0, 0, 0, (0, 0, 0, 0, ()), (0, 0, 0, 0, ()), ()), false, ()) else (Wo big a0 (IntKind.i64.wrap (a0.2.1 + 1))).bind fun y => (Xj big y.2.1 a1).bind fun y_1 => some (y, (4, y.1, y_1, y.2.1, 0, y.2.2.1, (0, 0, 0, 0, ()), ()), true, ()) := by kernel_rfl
def ZkQ : Yq := [(233, Zfu), (197, DR), (68, Xr)]
theorem ZkR : Yr ZkQ := cons_cons Zht (cons_cons DS (cons_cons YT (Zh)))
def Zqp : KP := []
def ZkS (n : Nat) (x : YG [Ze, ZQ, Yg]) := evX (false, false, [4, 9, 12, 17, 19, 33]) ZkQ Zqp [some Yt, some ZI, none] Tryz.f213 (shT [(true, Yt), (true, ZI), (false, Zk)]) n (YP [Ze, ZQ, Yg] x)
def ZkT : Con := roS [Ze, ZQ, Yg] true (shT [(true, Yt), (true, ZI), (false, Zk)]) (ZkS big)
theorem ZkU : ZJ Tryz.prog 213 ZkT := ZD ⟨Tryz.f213, by kernel_rfl, rfl, by decide⟩ fun _ _ h => Zw ZkR (f := Tryz.f213) (by kernel_rfl) rfl (by kernel_rfl) (by kernel_rfl) big h
def WR (n : Nat) (a0 : Zi) (a1 : Zn) (a2 : YS) : Option (Zi × Zn × Int × Unit) := ZkS n (a0, a1, a2, ())
theorem ZkV (n : Nat) (a0 : Zi) (a1 : Zn) (a2 : YS) : WR n a0 a1 a2 = (Mu big a1).bind fun y => (We big a0 (y.2.2.1, a1.2.1, a2, y, ())).bind fun y_1 => (YW big a1).bind fun y_2 => bif decide (y_1.2.1 < 0) then some (y_1.1, y_2, (-1), ()) else some (y_1.1, (y_2.1, y_2.2.1, y, y_2.2.2.2.1, y_2.2.2.2.2.1, y_2.2.2.2.2.2.1, y_2.2.2.2.2.2.2.1, y_2.2.2.2.2.2.2.2.1, y_2.2.2.2.2.2.2.2.2.1, y_2.2.2.2.2.2.2.2.2.2.1, y_2.2.2.2.2.2.2.2.2.2.2.1, a1.2.1, ()), y_1.2) := by kernel_rfl
def Cq : Yq := [(67, Yx)]
theorem Zdn : Yr Cq := cons_cons Z5 (Zh)
abbrev KK : Vz := (dp 2 (.ro Zb :: .ro Zb :: .drop :: .is (.ptr 0 0) :: dp 3 (.own Zj :: .is (.ptr 2 0) :: .ro Zb :: dp 33 [])), [.vars [.ro Zb, .ro Zb, .ro Zb, .ro Zb, .ro Zb, .ro Zb, .ro Zb, .ro Zb, .ro Zb, .ro Zb, .ro Zb, .ro Zb, .ro Zb, .ro Zb, .ro Yu, .ro Zm, .ro Yu, .ro Yi, .ro ZS, .ro ZN, .ro Zb], .drop, .vars [.ro Zb, .ro Zb, .ro Zb, .ro Zb]])
def NT : KP := [(6, KK)]
def Ts (n : Nat) (x : YG [Ze, ZQ, Zk, Zk]) := evX (false, false, [5, 10, 34, 37]) Cq NT [some ZW] Tryz.f215 (shF ZW) n (YP [Ze, ZQ, Zk, Zk] x)
def Tt : Con := roS [Ze, ZQ, Zk, Zk] true (shF ZW) (Ts big)
theorem Zdo : ZJ Tryz.prog 215 Tt := ZD ⟨Tryz.f215, by kernel_rfl, rfl, by decide⟩ fun _ _ h => Zw Zdn (f := Tryz.f215) (by kernel_rfl) rfl (by kernel_rfl) (by kernel_rfl) big h
def Hb (n : Nat) (a0 : Zi) (a1 : Zn) (a2 a3 : Int) : Option ZX := Ts n (a0, a1, a2, a3, ())
def ZhN (n : Nat) (x : KD KK.1) (y : BD KK.2) := Z6 (env (false, false, [5, 10, 34, 37]) Cq) NT (body Tryz.f215) (Vn (false, false, [5, 10, 34, 37]) Cq [some ZW] Tryz.f215 (shF ZW) [.val Ze (ZR Ze), .val ZQ (ZR ZQ), .val Zk (ZR Zk), .val Zk (ZR Zk)]) n 6 KK x y
def Uw (n : Nat) (s2 s3 : Int) (s9 : (List Zc)) (s11 b0_0 : Int) (b0_1 b0_2 : Int) (b0_3 b0_4 : Int) (b0_5 b0_6 : Int) (b0_7 b0_8 : Int) (b0_9 b0_10 : Int) (b0_11 b0_12 b0_13 : Int) (b0_14 : Yp) (b0_15 : Zq) (b0_16 : Yp) (b0_17 : YA) (b0_18 : Yn) (b0_19 : ZX) (b0_20 b2_0 : Int) (b2_1 b2_2 b2_3 : Int) : Option ZX := ZhN n (s2, s3, s9, s11, ()) ((b0_0, b0_1, b0_2, b0_3, b0_4, b0_5, b0_6, b0_7, b0_8, b0_9, b0_10, b0_11, b0_12, b0_13, b0_14, b0_15, b0_16, b0_17, b0_18, b0_19, b0_20, ()), (b2_0, b2_1, b2_2, b2_3, ()), ())
theorem Zdp (n : Nat) (a0 : Zi) (a1 : Zn) (a2 a3 : Int) : Hb n a0 a1 a2 a3 = (ZT big a2 0 (IntKind.i64.wrap ((↑(List.length a0) : Int) - 1))).bind fun y => bif y then if 0 ≤ a2 then (nth a0 a2.toNat).bind fun y => Uw n a2 a3 [] 0 a1.1 a1.2.1 a1.2.2.1.1 a1.2.2.1.2.1 a1.2.2.1.2.2.1 a1.2.2.1.2.2.2.1 a1.2.2.2.1.1 a1.2.2.2.1.2.1 a1.2.2.2.1.2.2.1 a1.2.2.2.1.2.2.2.1 a1.2.2.2.2.1.1 a1.2.2.2.2.1.2.1 a1.2.2.2.2.1.2.2.1 a1.2.2.2.2.1.2.2.2.1 a1.2.2.2.2.2.1 a1.2.2.2.2.2.2.1 a1.2.2.2.2.2.2.2.1 a1.2.2.2.2.2.2.2.2.1 a1.2.2.2.2.2.2.2.2.2.1 a1.2.2.2.2.2.2.2.2.2.2.1 a1.2.2.2.2.2.2.2.2.2.2.2.1 y.2.2.2.1.1 y.2.2.2.1.2.1 y.2.2.2.1.2.2.1 y.2.2.2.1.2.2.2.1 else none else Uw n a2 a3 [] 0 a1.1 a1.2.1 a1.2.2.1.1 a1.2.2.1.2.1 a1.2.2.1.2.2.1 a1.2.2.1.2.2.2.1 a1.2.2.2.1.1 a1.2.2.2.1.2.1 a1.2.2.2.1.2.2.1 a1.2.2.2.1.2.2.2.1 a1.2.2.2.2.1.1 a1.2.2.2.2.1.2.1 a1.2.2.2.2.1.2.2.1 a1.2.2.2.2.1.2.2.2.1 a1.2.2.2.2.2.1 a1.2.2.2.2.2.2.1 a1.2.2.2.2.2.2.2.1 a1.2.2.2.2.2.2.2.2.1 a1.2.2.2.2.2.2.2.2.2.1 a1.2.2.2.2.2.2.2.2.2.2.1 a1.2.2.2.2.2.2.2.2.2.2.2.1 0 0 0 0 := by kernel_rfl
theorem C2 (n : Nat) (s2 s3 : Int) (s9 : (List Zc)) (s11 b0_0 : Int) (b0_1 b0_2 : Int) (b0_3 b0_4 : Int) (b0_5 b0_6 : Int) (b0_7 b0_8 : Int) (b0_9 b0_10 : Int) (b0_11 b0_12 b0_13 : Int) (b0_14 : Yp) (b0_15 : Zq) (b0_16 : Yp) (b0_17 : YA) (b0_18 : Yn) (b0_19 : ZX) (b0_20 b2_0 : Int) (b2_1 b2_2 b2_3 : Int) : Uw (n + 1) s2 s3 s9 s11 b0_0 b0_1 b0_2 b0_3 b0_4 b0_5 b0_6 b0_7 b0_8 b0_9 b0_10 b0_11 b0_12 b0_13 b0_14 b0_15 b0_16 b0_17 b0_18 b0_19 b0_20 b2_0 b2_1 b2_2 b2_3 = bif decide (s11 < s3) then bif decide (s11 < 7) then if s9.length + [(1, b0_0, s11, b0_1, s2, (b2_0, b2_1, b2_2, b2_3, ()), (0, 0, 0, 0, ()), ())].length ≤ lim then Uw n s2 s3 (s9.append [(1, b0_0, s11, b0_1, s2, (b2_0, b2_1, b2_2, b2_3, ()), (0, 0, 0, 0, ()), ())]) (IntKind.i64.wrap (s11 + 1)) b0_0 b0_1 b0_2 b0_3 b0_4 b0_5 b0_6 b0_7 b0_8 b0_9 b0_10 b0_11 b0_12 b0_13 b0_14 b0_15 b0_16 b0_17 b0_18 b0_19 b0_20 b2_0 b2_1 b2_2 b2_3 else none else some s9 else some s9 := by kernel_rfl
def Tu : Yq := [(67, Yx)]
theorem Zdq : Yr Tu := cons_cons Z5 (Zh)
def ZkW : KP := []
def Tv (n : Nat) (x : YG [YN, Zk, Zk, Zk, Zk]) := evX (false, false, [5, 12, 14, 19]) Tu ZkW [none] Tryz.f222 (shV ZP) n (YP [YN, Zk, Zk, Zk, Zk] x)
def Tw : Con := roS [YN, Zk, Zk, Zk, Zk] true (shV ZP) (Tv big)
theorem Zdr : ZJ Tryz.prog 222 Tw := ZD ⟨Tryz.f222, by kernel_rfl, rfl, by decide⟩ fun _ _ h => Zw Zdq (f := Tryz.f222) (by kernel_rfl) rfl (by kernel_rfl) (by kernel_rfl) big h
def Hc (n : Nat) (a0 : Zp) (a1 a2 : Int) (a3 a4 : Int) : Option Zy := Tv n (a0, a1, a2, a3, a4, ())
theorem Zds (n : Nat) (a0 : Zp) (a1 a2 : Int) (a3 a4 : Int) : Hc n a0 a1 a2 a3 a4 = (ZT big a4 0 (IntKind.i64.wrap ((↑(List.length a0.2.2.2.1) : Int) - 1))).bind fun y => bif y then if 0 ≤ a4 then (nth a0.2.2.2.1 a4.toNat).bind fun y => some (2, a1, a2, y.2.1, 0, (0, 0, 0, 0, ()), (a3, y.2.1, a4, a1, ()), ()) else none else some (2, a1, a2, 0, 0, (0, 0, 0, 0, ()), (a3, 0, a4, a1, ()), ()) := by kernel_rfl
def Cr : Yq := [(143, Iv), (67, Yx)]
theorem Zdt : Yr Cr := cons_cons DP (cons_cons Z5 (Zh))
abbrev KL : Vz := (.ro Zm :: dp 2 (.ro Zb :: dp 43 []), [])
def NU : KP := [(2, KL)]
def Tx (n : Nat) (x : YG [Zm]) := evX (false, false, []) Cr NU [none] Tryz.f142 (shV ZC) n (YP [Zm] x)
def Hd : Con := roS [Zm] true (shV ZC) (Tx big)
theorem Ga : ZJ Tryz.prog 142 Hd := ZD ⟨Tryz.f142, by kernel_rfl, rfl, by decide⟩ fun _ _ h => Zw Zdt (f := Tryz.f142) (by kernel_rfl) rfl (by kernel_rfl) (by kernel_rfl) big h
def JC (n : Nat) (a0 : Zq) : Option Bool := Tx n (a0, ())
def ZhO (n : Nat) (x : KD KL.1) (y : BD KL.2) := Z6 (env (false, false, []) Cr) NU (body Tryz.f142) (Vn (false, false, []) Cr [none] Tryz.f142 (shV ZC) [.val Zm (ZR Zm)]) n 2 KL x y
def Vc (n : Nat) (s0 : Zq) (s3 : Int) : Option Bool := ZhO n (s0, s3, ()) ()
theorem Gb (n : Nat) (a0 : Zq) : JC n a0 = Vc n a0 0 := by kernel_rfl
theorem VC (n : Nat) (s0 : Zq) (s3 : Int) : Vc (n + 1) s0 s3 = bif decide (s3 < (↑(List.length s0) : Int)) then if 0 ≤ s3 then (nth s0 s3.toNat).bind fun y => (BA big y.1).bind fun y => bif !y then some false else if 0 ≤ s3 then (nth s0 s3.toNat).bind fun y => (ZT big y.2.1 0 1000000000).bind fun y => bif !y then some false else bif decide (0 < s3) then if 0 ≤ IntKind.i64.wrap (s3 - 1) then (nth s0 (IntKind.i64.wrap (s3 - 1)).toNat).bind fun y => if 0 ≤ s3 then (nth s0 s3.toNat).bind fun y_1 => bif !Op.bytesLess (ByteArray.toList y.1) (ByteArray.toList y_1.1) then some false else Vc n s0 (IntKind.i64.wrap (s3 + 1)) else none else none else Vc n s0 (IntKind.i64.wrap (s3 + 1)) else none else none else some (decide ((↑(List.length s0) : Int) ≤ 12)) := by kernel_rfl
def Jj : Yq := []
theorem ZhP : Yr Jj := Zh
abbrev Ah : Vz := (.ro Zm :: dp 2 (.is (.ptr 0 0) :: .drop :: .own Zo :: .ro Zb :: dp 49 []), [.vars [.ro Zu, .ro Zb]])
abbrev Ai : Vz := (.ro Zm :: dp 2 (.is (.ptr 0 0) :: .drop :: .own Zo :: .drop :: .ro Zb :: dp 48 []), [.vars [.ro Zu, .ro Zb]])
def He : KP := [(3, Ah), (9, Ai)]
def ZfC (n : Nat) (x : YG [Zm, Z9]) := evX (false, false, [3, 20, 45]) Jj He [some ZE] Tryz.f144 (shF ZE) n (YP [Zm, Z9] x)
def MD : Con := roS [Zm, Z9] true (shF ZE) (ZfC big)
theorem IH : ZJ Tryz.prog 144 MD := ZD ⟨Tryz.f144, by kernel_rfl, rfl, by decide⟩ fun _ _ h => Zw ZhP (f := Tryz.f144) (by kernel_rfl) rfl (by kernel_rfl) (by kernel_rfl) big h
def Xe (n : Nat) (a0 : Zq) (a1 : ZL) : Option Zq := ZfC n (a0, a1, ())
def ZkX (n : Nat) (x : KD Ah.1) (y : BD Ah.2) := Z6 (env (false, false, [3, 20, 45]) Jj) He (body Tryz.f144) (Vn (false, false, [3, 20, 45]) Jj [some ZE] Tryz.f144 (shF ZE) [.val Zm (ZR Zm), .val Z9 (ZR Z9)]) n 3 Ah x y
def V7 (n : Nat) (s0 : Zq) (s5 : (List Zf)) (s6 : Int) (b0_0 : ByteArray) (b0_1 : Int) : Option Zq := ZkX n (s0, s5, s6, ()) ((b0_0, b0_1, ()), ())
def ZkY (n : Nat) (x : KD Ai.1) (y : BD Ai.2) := Z6 (env (false, false, [3, 20, 45]) Jj) He (body Tryz.f144) (Vn (false, false, [3, 20, 45]) Jj [some ZE] Tryz.f144 (shF ZE) [.val Zm (ZR Zm), .val Z9 (ZR Z9)]) n 9 Ai x y
def V8 (n : Nat) (s0 : Zq) (s5 : (List Zf)) (s7 : Int) (b0_0 : ByteArray) (b0_1 : Int) : Option Zq := ZkY n (s0, s5, s7, ()) ((b0_0, b0_1, ()), ())
theorem II (n : Nat) (a0 : Zq) (a1 : ZL) : Xe n a0 a1 = V7 n a0 [] 0 a1.1 a1.2.1 := by kernel_rfl
theorem Ux (n : Nat) (s0 : Zq) (s5 : (List Zf)) (s6 : Int) (b0_0 : ByteArray) (b0_1 : Int) : V7 (n + 1) s0 s5 s6 b0_0 b0_1 = bif decide (s6 < (↑(List.length s0) : Int)) then if 0 ≤ s6 then (nth s0 s6.toNat).bind fun y => bif Op.bytesLess (ByteArray.toList y.1) b0_0.toList then if 0 ≤ s6 then (nth s0 s6.toNat).bind fun y => if s5.length + [y].length ≤ lim then V7 n s0 (s5.append [y]) (IntKind.i64.wrap (s6 + 1)) b0_0 b0_1 else none else none else V7 n s0 s5 (IntKind.i64.wrap (s6 + 1)) b0_0 b0_1 else none else if s5.length + [(b0_0, b0_1, ())].length ≤ lim then V8 n s0 (s5.append [(b0_0, b0_1, ())]) 0 b0_0 b0_1 else none := by kernel_rfl
theorem Uy (n : Nat) (s0 : Zq) (s5 : (List Zf)) (s7 : Int) (b0_0 : ByteArray) (b0_1 : Int) : V8 (n + 1) s0 s5 s7 b0_0 b0_1 = bif decide (s7 < (↑(List.length s0) : Int)) then if 0 ≤ s7 then (nth s0 s7.toNat).bind fun y => bif !(Op.bytesLess (ByteArray.toList y.1) b0_0.toList || decide (y.1 = b0_0)) then if 0 ≤ s7 then (nth s0 s7.toNat).bind fun y => if s5.length + [y].length ≤ lim then V8 n s0 (s5.append [y]) (IntKind.i64.wrap (s7 + 1)) b0_0 b0_1 else none else none else V8 n s0 s5 (IntKind.i64.wrap (s7 + 1)) b0_0 b0_1 else none else some s5 := by kernel_rfl
def Fm : Yq := []
theorem ZhQ : Yr Fm := Zh
abbrev Aj : Vz := (.ro Zm :: .ro Zu :: dp 3 (.ro Zb :: dp 14 []), [])
def Tz : KP := [(2, Aj)]
def ZfD (n : Nat) (x : YG [Zm, Zu]) := evX (false, false, []) Fm Tz [none] Tryz.f195 (shV Zk) n (YP [Zm, Zu] x)
def ME : Con := roS [Zm, Zu] true (shV Zk) (ZfD big)
theorem IJ : ZJ Tryz.prog 195 ME := ZD ⟨Tryz.f195, by kernel_rfl, rfl, by decide⟩ fun _ _ h => Zw ZhQ (f := Tryz.f195) (by kernel_rfl) rfl (by kernel_rfl) (by kernel_rfl) big h
def BB (n : Nat) (a0 : Zq) (a1 : ByteArray) : Option Int := ZfD n (a0, a1, ())
def ZkZ (n : Nat) (x : KD Aj.1) (y : BD Aj.2) := Z6 (env (false, false, []) Fm) Tz (body Tryz.f195) (Vn (false, false, []) Fm [none] Tryz.f195 (shV Zk) [.val Zm (ZR Zm), .val Zu (ZR Zu)]) n 2 Aj x y
def QY (n : Nat) (s0 : Zq) (s1 : ByteArray) (s5 : Int) : Option Int := ZkZ n (s0, s1, s5, ()) ()
theorem IK (n : Nat) (a0 : Zq) (a1 : ByteArray) : BB n a0 a1 = QY n a0 a1 0 := by kernel_rfl
theorem Uz (n : Nat) (s0 : Zq) (s1 : ByteArray) (s5 : Int) : QY (n + 1) s0 s1 s5 = bif decide (s5 < (↑(List.length s0) : Int)) then if 0 ≤ s5 then (nth s0 s5.toNat).bind fun y => bif decide (y.1 = s1) then some s5 else QY n s0 s1 (IntKind.i64.wrap (s5 + 1)) else none else some (-1) := by kernel_rfl
def ZoY : Yq := [(142, Hd), (194, SE), (195, ME), (67, Yx), (144, MD)]
theorem ZnH : Yr ZoY := cons_cons Ga (cons_cons NA (cons_cons IJ (cons_cons Z5 (cons_cons IH (Zh)))))
def Zsg : KP := []
def ZoZ (n : Nat) (x : YG [Zm, W6]) := evX (false, false, [3, 22, 25, 27, 38, 41, 49, 66]) ZoY Zsg [some ZE, none] Tryz.f145 (shT [(true, ZE), (false, Zk)]) n (YP [Zm, W6] x)
def ZhR : Con := roS [Zm, W6] true (shT [(true, ZE), (false, Zk)]) (ZoZ big)
theorem TA : ZJ Tryz.prog 145 ZhR := ZD ⟨Tryz.f145, by kernel_rfl, rfl, by decide⟩ fun _ _ h => Zw ZnH (f := Tryz.f145) (by kernel_rfl) rfl (by kernel_rfl) (by kernel_rfl) big h
def IL (n : Nat) (a0 : Zq) (a1 : Xd) : Option (Zq × Int × Unit) := ZoZ n (a0, a1, ())
theorem TB (n : Nat) (a0 : Zq) (a1 : Xd) : IL n a0 a1 = if (0 : Nat) + List.length a0 ≤ lim then (JC big a0).bind fun y => bif !y then some (a0, 2, ()) else (DQ big a1).bind fun y => bif !y then some (a0, 2, ()) else (BB big a0 a1.2.1).bind fun y => bif !decide (a1.1 = 1) then bif decide (y < 0) then some (a0, 1, ()) else if 0 ≤ y then (nth a0 (Int.toNat y)).bind fun y_1 => bif decide (a1.1 = 3) then if 0 ≤ y then (nth a0 (Int.toNat y)).bind fun y_2 => (ZT big (IntKind.i64.wrap (y_2.2.1 - a1.2.2.1)) 0 1000000000).bind fun y_3 => bif !y_3 then some (a0, 2, ()) else bif decide (y < 0) then bif decide (12 ≤ (↑(List.length a0) : Int)) then some (a0, 2, ()) else (Xe big a0 (a1.2.1, IntKind.i64.wrap (y_2.2.1 - a1.2.2.1), ())).bind fun y => some (y, 0, ()) else (Xe big a0 (a1.2.1, IntKind.i64.wrap (y_2.2.1 - a1.2.2.1), ())).bind fun y => some (y, 0, ()) else none else (ZT big (IntKind.i64.wrap (y_1.2.1 + a1.2.2.1)) 0 1000000000).bind fun y_2 => bif !y_2 then some (a0, 2, ()) else bif decide (y < 0) then bif decide (12 ≤ (↑(List.length a0) : Int)) then some (a0, 2, ()) else (Xe big a0 (a1.2.1, IntKind.i64.wrap (y_1.2.1 + a1.2.2.1), ())).bind fun y => some (y, 0, ()) else (Xe big a0 (a1.2.1, IntKind.i64.wrap (y_1.2.1 + a1.2.2.1), ())).bind fun y => some (y, 0, ()) else none else (ZT big a1.2.2.1 0 1000000000).bind fun y_1 => bif !y_1 then some (a0, 2, ()) else bif decide (y < 0) then bif decide (12 ≤ (↑(List.length a0) : Int)) then some (a0, 2, ()) else (Xe big a0 a1.2).bind fun y => some (y, 0, ()) else (Xe big a0 a1.2).bind fun y => some (y, 0, ()) else none := by kernel_rfl
def Cs : Yq := [(145, ZhR)]
theorem Zdu : Yr Cs := cons_cons TA (Zh)
abbrev KM : Vz := (.drop :: .ro Yg :: dp 4 (.own Zo :: .own Zb :: .ro Zb :: dp 28 []), [])
def NV : KP := [(4, KM)]
def TC (n : Nat) (x : YG [Zm, Yg]) := evX (false, false, []) Cs NV [some ZE, some Y6] Tryz.f82 (shT [(true, ZE), (true, Y6)]) n (YP [Zm, Yg] x)
def Hf : Con := roS [Zm, Yg] true (shT [(true, ZE), (true, Y6)]) (TC big)
theorem Gc : ZJ Tryz.prog 82 Hf := ZD ⟨Tryz.f82, by kernel_rfl, rfl, by decide⟩ fun _ _ h => Zw Zdu (f := Tryz.f82) (by kernel_rfl) rfl (by kernel_rfl) (by kernel_rfl) big h
def JD (n : Nat) (a0 : Zq) (a1 : YS) : Option (Zq × Yp × Unit) := TC n (a0, a1, ())
def ZhS (n : Nat) (x : KD KM.1) (y : BD KM.2) := Z6 (env (false, false, []) Cs) NV (body Tryz.f82) (Vn (false, false, []) Cs [some ZE, some Y6] Tryz.f82 (shT [(true, ZE), (true, Y6)]) [.val Zm (ZR Zm), .val Yg (ZR Yg)]) n 4 KM x y
def UA (n : Nat) (s1 : YS) (s6 : (List Zf)) (s7 : (List Int)) (s8 : Int) : Option (Zq × Yp × Unit) := ZhS n (s1, s6, s7, s8, ()) ()
theorem Gd (n : Nat) (a0 : Zq) (a1 : YS) : JD n a0 a1 = if (0 : Nat) + List.length a0 ≤ lim then UA n a1 a0 [] 0 else none := by kernel_rfl
theorem VD (n : Nat) (s1 : YS) (s6 : (List Zf)) (s7 : (List Int)) (s8 : Int) : UA (n + 1) s1 s6 s7 s8 = bif decide (s8 < (↑(List.length s1) : Int)) then if 0 ≤ s8 then (nth s1 s8.toNat).bind fun y => (IL big s6 y).bind fun y => if s7.length + (1 : Nat) ≤ lim then UA n s1 y.1 (s7.append [y.2.1]) (IntKind.i64.wrap (s8 + 1)) else none else none else some (s6, s7, ()) := by kernel_rfl
def ZfE : Yq := [(195, ME)]
theorem ZhT : Yr ZfE := cons_cons IJ (Zh)
def ZnI : KP := []
def ZfF (n : Nat) (x : YG [Zm, Zu]) := evX (false, false, []) ZfE ZnI [none] Tryz.f151 (shV YJ) n (YP [Zm, Zu] x)
def ZfG : Con := roS [Zm, Zu] true (shV YJ) (ZfF big)
theorem ZhU : ZJ Tryz.prog 151 ZfG := ZD ⟨Tryz.f151, by kernel_rfl, rfl, by decide⟩ fun _ _ h => Zw ZhT (f := Tryz.f151) (by kernel_rfl) rfl (by kernel_rfl) (by kernel_rfl) big h
def Fn (n : Nat) (a0 : Zq) (a1 : ByteArray) : Option Yd := ZfF n (a0, a1, ())
theorem IM (n : Nat) (a0 : Zq) (a1 : ByteArray) : Fn n a0 a1 = (BB big a0 a1).bind fun y => bif decide (y < 0) then some (a1, false, 0, ()) else if 0 ≤ y then (nth a0 (Int.toNat y)).bind fun y => some (a1, true, y.2) else none := by kernel_rfl
def Fo : Yq := [(142, Hd), (143, Iv), (67, Yx), (144, MD)]
theorem ZhV : Yr Fo := cons_cons Ga (cons_cons DP (cons_cons Z5 (cons_cons IH (Zh))))
abbrev Ak : Vz := (.ro Zm :: dp 2 (.is (.ptr 0 0) :: .drop :: .own Zo :: .ro Zb :: dp 50 []), [.vars [.ro Zu, .ro ZC, .ro Zb]])
def TD : KP := [(7, Ak)]
def ZfH (n : Nat) (x : YG [Zm, YJ]) := evX (false, false, [3, 11, 17, 25, 28, 30, 46]) Fo TD [some ZE] Tryz.f81 (shF ZE) n (YP [Zm, YJ] x)
def ZfI : Con := roS [Zm, YJ] true (shF ZE) (ZfH big)
theorem ZhW : ZJ Tryz.prog 81 ZfI := ZD ⟨Tryz.f81, by kernel_rfl, rfl, by decide⟩ fun _ _ h => Zw ZhV (f := Tryz.f81) (by kernel_rfl) rfl (by kernel_rfl) (by kernel_rfl) big h
def Fp (n : Nat) (a0 : Zq) (a1 : Yd) : Option Zq := ZfH n (a0, a1, ())
def Zk0 (n : Nat) (x : KD Ak.1) (y : BD Ak.2) := Z6 (env (false, false, [3, 11, 17, 25, 28, 30, 46]) Fo) TD (body Tryz.f81) (Vn (false, false, [3, 11, 17, 25, 28, 30, 46]) Fo [some ZE] Tryz.f81 (shF ZE) [.val Zm (ZR Zm), .val YJ (ZR YJ)]) n 7 Ak x y
def V9 (n : Nat) (s0 : Zq) (s5 : (List Zf)) (s6 : Int) (b0_0 : ByteArray) (b0_1 : Bool) (b0_2 : Int) : Option Zq := Zk0 n (s0, s5, s6, ()) ((b0_0, b0_1, b0_2, ()), ())
theorem IN (n : Nat) (a0 : Zq) (a1 : Yd) : Fp n a0 a1 = (JC big a0).bind fun y => bif !y then if (0 : Nat) + List.length a0 ≤ lim then some a0 else none else (BA big a1.1).bind fun y => bif !y then if (0 : Nat) + List.length a0 ≤ lim then some a0 else none else (ZT big a1.2.2.1 0 1000000000).bind fun y => bif !y then if (0 : Nat) + List.length a0 ≤ lim then some a0 else none else bif a1.2.1 then (Xe big a0 (a1.1, a1.2.2)).bind fun y => some y else V9 n a0 [] 0 a1.1 a1.2.1 a1.2.2.1 := by kernel_rfl
theorem UB (n : Nat) (s0 : Zq) (s5 : (List Zf)) (s6 : Int) (b0_0 : ByteArray) (b0_1 : Bool) (b0_2 : Int) : V9 (n + 1) s0 s5 s6 b0_0 b0_1 b0_2 = bif decide (s6 < (↑(List.length s0) : Int)) then if 0 ≤ s6 then (nth s0 s6.toNat).bind fun y => bif !decide (y.1 = b0_0) then if 0 ≤ s6 then (nth s0 s6.toNat).bind fun y => if s5.length + [y].length ≤ lim then V9 n s0 (s5.append [y]) (IntKind.i64.wrap (s6 + 1)) b0_0 b0_1 b0_2 else none else none else V9 n s0 s5 (IntKind.i64.wrap (s6 + 1)) b0_0 b0_1 b0_2 else none else some s5 := by kernel_rfl
def KN : Yq := [(81, ZfI)]
theorem Pn : Yr KN := cons_cons ZhW (Zh)
abbrev UC : Vz := (.drop :: .ro Yi :: dp 3 (.own Zo :: .ro Zb :: dp 17 []), [])
def Ge : KP := [(3, UC)]
def IP (n : Nat) (x : YG [Zm, Yi]) := evX (false, false, []) KN Ge [some ZE] Tryz.f27 (shF ZE) n (YP [Zm, Yi] x)
def IQ : Con := roS [Zm, Yi] true (shF ZE) (IP big)
theorem Po : ZJ Tryz.prog 27 IQ := ZD ⟨Tryz.f27, by kernel_rfl, rfl, by decide⟩ fun _ _ h => Zw Pn (f := Tryz.f27) (by kernel_rfl) rfl (by kernel_rfl) (by kernel_rfl) big h
def KO (n : Nat) (a0 : Zq) (a1 : YA) : Option Zq := IP n (a0, a1, ())
def TE (n : Nat) (x : KD UC.1) (y : BD UC.2) := Z6 (env (false, false, []) KN) Ge (body Tryz.f27) (Vn (false, false, []) KN [some ZE] Tryz.f27 (shF ZE) [.val Zm (ZR Zm), .val Yi (ZR Yi)]) n 3 UC x y
def WS (n : Nat) (s1 : YA) (s5 : (List Zf)) (s6 : Int) : Option Zq := TE n (s1, s5, s6, ()) ()
theorem C3 (n : Nat) (a0 : Zq) (a1 : YA) : KO n a0 a1 = if (0 : Nat) + List.length a0 ≤ lim then WS n a1 a0 (IntKind.i64.wrap ((↑(List.length a1) : Int) - 1)) else none := by kernel_rfl
theorem WE (n : Nat) (s1 : YA) (s5 : (List Zf)) (s6 : Int) : WS (n + 1) s1 s5 s6 = bif decide (0 ≤ s6) then if 0 ≤ s6 then (nth s1 s6.toNat).bind fun y => (Fp big s5 y).bind fun y => WS n s1 y (IntKind.i64.wrap (s6 - 1)) else none else some s5 := by kernel_rfl
end
end Go.Sx.Tryz
