/- The functions of the seat: what each comes to. -/
import Derived.Test.YtocddfdkknhgcaaGreatTypes
import Derived.Shelf.RegionOpenPlain
import Derived.WalkKit
import Derived.Lib.Walk
import Derived.Lib.SliceRun
import Derived.Lib.JoinLaws
import Derived.Lib.AppendZeros
import Derived.Lib.AppendZerosOnto
import Derived.Lib.Overlaps
import Derived.Laws.Externs
import Derived.Laws.IdiomCopy
import Derived.Laws.NewBlocks
import Derived.Shelf.Spec.SlicesInsert
set_option linter.unusedVariables false
set_option linter.unusedSimpArgs false
set_option maxRecDepth 100000
namespace Go.Sx.Tryz
open Go Go.Sx Go.Proofs
open Go.IntKind renaming i64 → K6
noncomputable section
def ZBx := FX.mk (false, false, []) L_ [] [some Y0] Tryz.f127 (shF Y0)
def Lm : Con := cR ZBx [Yx] true
theorem Rg : CO 127 Lm := ZyS ZDt
def K8 (n : Nat) (a0 : Yq) : Option Yq := qR ZBx [Yx] n (a0, ())
theorem Rh (n : Nat) (a0) : K8 n a0 = ZnO a0 fun b => bif b then some [] else if (0 : Nat) + List.length a0 ≤ lim then some a0 else none := by kernel_rfl
def Zzo : Yy := (127, Lm) :: L_
theorem ZzE : YA Zzo := cons_cons Rg ZDt
def ZzQ := FX.mk (false, false, []) Zzo [] [some ZF] Tryz.f128 (shF ZF)
def Xt : Con := cR ZzQ [Zn] true
theorem Y9 : CO 128 Xt := ZyS ZzE
def Xa (n : Nat) (a0 : Zu) : Option Zu := qR ZzQ [Zn] n (a0, ())
theorem Lq (n : Nat) (a0) : Xa n a0 = ZnO a0 fun b => bif b then some [] else if (0 : Nat) + List.length a0 ≤ lim then some a0 else none := by kernel_rfl
def Zy8 : Yy := (128, Xt) :: Zzo
theorem Zzf : YA Zy8 := cons_cons Y9 ZzE
def ZzR := FX.mk (false, false, []) Zy8 [] [some WF] Tryz.f129 (shF WF)
def EK : Con := cR ZzR [Yo] true
theorem Lw : CO 129 EK := ZyS Zzf
def J5 (n : Nat) (a0 : YG) : Option YG := qR ZzR [Yo] n (a0, ())
theorem Lx (n : Nat) (a0) : J5 n a0 = ZnO a0 fun b => bif b then some [] else if (0 : Nat) + List.length a0 ≤ lim then some a0 else none := by kernel_rfl
def Zy9 : Yy := (129, EK) :: Zy8
theorem Zzg : YA Zy9 := cons_cons Lw Zzf
def ZzS := FX.mk (false, false, []) Zy9 [] [some F9] Tryz.f130 (shF F9)
def EN : Con := cR ZzS [ZV] true
theorem Lz : CO 130 EN := ZyS Zzg
def J6 (n : Nat) (a0 : Yt) : Option Yt := qR ZzS [ZV] n (a0, ())
theorem LA (n : Nat) (a0) : J6 n a0 = ZnO a0 fun b => bif b then some [] else if (0 : Nat) + List.length a0 ≤ lim then some a0 else none := by kernel_rfl
def Zza : Yy := (130, EN) :: Zy9
theorem Zzh : YA Zza := cons_cons Lz Zzg
def Zzk := FX.mk (false, false, []) Zza [] [some Z1] Tryz.f131 (shF Z1)
def Ck : Con := cR Zzk [ZO] true
theorem GG : CO 131 Ck := ZyS Zzh
def QQ (n : Nat) (a0 : Z3) : Option Z3 := qR Zzk [ZO] n (a0, ())
theorem GH (n : Nat) (a0) : QQ n a0 = ZnO a0 fun b => bif b then some [] else if (0 : Nat) + List.length a0 ≤ lim then some a0 else none := by kernel_rfl
def Zy2 : Yy := (131, Ck) :: Zza
theorem Zy5 : YA Zy2 := cons_cons GG Zzh
def ZBy := FX.mk (false, false, [1, 3, 6, 9, 12, 15, 18]) Zy2 [] [some ZL] Tryz.f60 (shF ZL)
def CU : Con := cR ZBy [ZW] true
theorem DL : CO 60 CU := ZyS Zy5
def K9 (n : Nat) (a0 : Zj) : Option Zj := qR ZBy [ZW] n (a0, ())
theorem Rm (n : Nat) (a0) : K9 n a0 = (K8 big a0.2.2.2.2.2.1).bind fun y => (Xa big a0.2.2.2.2.2.2.1).bind fun b => (K8 big a0.2.2.2.2.2.2.2.1).bind fun a => (J5 big a0.2.2.2.2.2.2.2.2.1).bind fun e => (J6 big a0.2.2.2.2.2.2.2.2.2.1).bind fun d => (QQ big a0.2.2.2.2.2.2.2.2.2.2.1).bind fun c => some (a0.1, a0.2.1, a0.2.2.1, a0.2.2.2.1, a0.2.2.2.2.1, y, b, a, e, d, c, a0.2.2.2.2.2.2.2.2.2.2.2) := by kernel_rfl
def Zzp : Yy := (60, CU) :: Zy2
theorem ZzF : YA Zzp := cons_cons DL Zy5
def ZCu := FX.mk (false, false, [1, 3, 6, 11, 16, 21, 26, 31]) Zzp [] [some ZL] Tryz.f68 (shF ZL)
def XS : Con := cR ZCu [ZW] true
theorem Y7 : CO 68 XS := ZyS ZzF
def YX (n : Nat) (a0 : Zj) : Option Zj := qR ZCu [ZW] n (a0, ())
theorem BN (n : Nat) (a0) : YX n a0 = if (0 : Nat) + List.length a0.2.2.2.2.2.1 ≤ lim then if (0 : Nat) + List.length a0.2.2.2.2.2.2.1 ≤ lim then if (0 : Nat) + List.length a0.2.2.2.2.2.2.2.1 ≤ lim then if (0 : Nat) + List.length a0.2.2.2.2.2.2.2.2.1 ≤ lim then if (0 : Nat) + List.length a0.2.2.2.2.2.2.2.2.2.1 ≤ lim then if (0 : Nat) + List.length a0.2.2.2.2.2.2.2.2.2.2.1 ≤ lim then some a0 else none else none else none else none else none else none := by kernel_rfl
def ZAY : Yy := (68, XS) :: Zzp
theorem ZAz : YA ZAY := cons_cons Y7 ZzF
def ZDs := FX.mk (false, false, []) ZAY [] [none] Tryz.f64 (shV ZG)
def Zfx : Con := cR ZDs [Zp, Zp, Zp] true
theorem EO : CO 64 Zfx := ZyS ZAz
def Ov (n : Nat) (a0 a1 a2 : Int) : Option Bool := qR ZDs [Zp, Zp, Zp] n (a0, a1, a2, ())
theorem ZrI (n : Nat) (a0 a1 a2) : Ov n a0 a1 a2 = bif decide (a1 ≤ a0) then some (decide (a0 ≤ a2)) else some false := by kernel_rfl
def ZDr : Yy := (64, Zfx) :: ZAY
theorem ZDd : YA ZDr := cons_cons EO ZAz
abbrev CW : VS := (.ro Zy :: dp 4 (.ro Za :: .ro Za :: dp 16 []), [])
def ZCv := FX.mk (false, false, []) ZDr [(2, CW)] [none] Tryz.f207 (shV ZG)
def LH : Con := cR ZCv [Zy] true
theorem EP : CO 207 LH := ZyS ZDd
def EQ (n : Nat) (a0 : ByteArray) : Option Bool := qR ZCv [Zy] n (a0, ())
def CX (n : Nat) (s0 : ByteArray) (s5 s6 : Int) : Option Bool := rR ZCv (zs [Zy]) 2 CW n (s0, s5, s6, ()) ()
theorem Zj7 (n : Nat) (a0) : EQ n a0 = CX n a0 (↑a0.size : Int) 0 := by kernel_rfl
theorem GR (n : Nat) (s0 s5 s6) : CX (n + 1) s0 s5 s6 = bif decide (s6 < s5) then if 0 ≤ s6 then (nth s0.data.toList s6.toNat).bind fun y => bif decide ((↑y.toNat : Int) < 97) then some false else if 0 ≤ s6 then (nth s0.data.toList s6.toNat).bind fun y => bif decide (122 < (↑y.toNat : Int)) then some false else CX n s0 s5 (K6.wrap (s6 + 1)) else none else none else (Ov big (↑s0.size : Int) 1 3).bind fun y => some y := by kernel_rfl
def ZCw : Yy := (207, LH) :: ZDr
theorem ZCc : YA ZCw := cons_cons EP ZDd
def ZDe := FX.mk (false, false, []) ZCw [] [none] Tryz.f208 (shV ZG)
def LJ : Con := cR ZDe [Zp] true
theorem ER : CO 208 LJ := ZyS ZCc
def ES (n : Nat) (a0 : Int) : Option Bool := qR ZDe [Zp] n (a0, ())
theorem Zkb (n : Nat) (a0) : ES n a0 = (Ov big a0 0 1000000000).bind fun y => some y := by kernel_rfl
def ZCx : Yy := (208, LJ) :: ZCw
theorem ZCd : YA ZCx := cons_cons ER ZCc
abbrev UO : VS := (.ro Zn :: dp 4 (.ro Zn :: .ro Za :: .ro Za :: dp 30 []), [])
def Zzq := FX.mk (false, false, [4, 12, 17, 32]) ZCx [(2, UO)] [none] Tryz.f229 (shV ZG)
def LL : Con := cR Zzq [Zn] true
theorem Ro : CO 229 LL := ZyS ZCd
def LM (n : Nat) (a0 : Zu) : Option Bool := qR Zzq [Zn] n (a0, ())
def Vi (n : Nat) (s0 s5 : Zu) (s6 s7 : Int) : Option Bool := rR Zzq (zs [Zn]) 2 UO n (s0, s5, s6, s7, ()) ()
theorem Rp (n : Nat) (a0) : LM n a0 = Vi n a0 a0 (↑(List.length a0) : Int) 0 := by kernel_rfl
theorem AL (n : Nat) (s0 s5 s6 s7) : Vi (n + 1) s0 s5 s6 s7 = bif decide (s7 < s6) then if 0 ≤ s7 then (nth s5 s7.toNat).bind fun y => (EQ big y.1).bind fun a => bif !a then some false else (ES big y.2.1).bind fun c => bif !c then some false else bif decide (0 < s7) then if 0 ≤ K6.wrap (s7 - 1) then (nth s0 (K6.wrap (s7 - 1)).toNat).bind fun b => bif !Op.bytesLess (ByteArray.toList b.1) (ByteArray.toList y.1) then some false else Vi n s0 s5 s6 (K6.wrap (s7 + 1)) else none else Vi n s0 s5 s6 (K6.wrap (s7 + 1)) else none else some true := by kernel_rfl
def Zzr : Yy := (229, LL) :: ZCx
theorem ZzG : YA Zzr := cons_cons Ro ZCd
def ZCy := FX.mk (false, false, []) Zzr [] [none] Tryz.f191 (shV ZG)
def H4 : Con := cR ZCy [Zn] true
theorem GT : CO 191 H4 := ZyS ZzG
def Vj (n : Nat) (a0 : Zu) : Option Bool := qR ZCy [Zn] n (a0, ())
theorem Zdn (n : Nat) (a0) : Vj n a0 = bif decide ((↑(List.length a0) : Int) ≤ 12) then (LM big a0).bind fun y => some y else some false := by kernel_rfl
def ZAZ : Yy := (191, H4) :: Zzr
theorem ZAA : YA ZAZ := cons_cons GT ZzG
def ZDf := FX.mk (false, false, [1, 3, 7, 12]) ZAZ [] [none] Tryz.f192 (shV ZG)
def Zkg : Con := cR ZDf [Vv] true
theorem Zkh : CO 192 Zkg := ZyS ZAA
def Tl (n : Nat) (a0 : Y3) : Option Bool := qR ZDf [Vv] n (a0, ())
theorem Zki (n : Nat) (a0) : Tl n a0 = (Ov big a0.1 1 3).bind fun y => bif y then (EQ big a0.2.1).bind fun y => bif y then (ES big a0.2.2.1).bind fun y => some y else some false else some false := by kernel_rfl
def ZCz : Yy := (192, Zkg) :: ZAZ
theorem ZCe : YA ZCz := cons_cons Zkh ZAA
def ZDg := FX.mk (false, false, [1, 2, 4]) ZCz [] [none] Tryz.f228 (shO (shV ZG) [.mr Zy])
def Ox : Con := cA ZDg [.ro Yf, .mr Zy] true
theorem Tn : CO 228 Ox := ZBw ZCe
def ZzT : Yy := (228, Ox) :: ZCz
theorem ZzU : YA ZzT := cons_cons Tn ZCe
abbrev YH : VS := (.ro Zn :: .is (.fn 228 [.ptr 0 0]) :: dp 5 (.ro Za :: .ro Za :: dp 10 []), [.vars [.ro Zy]])
def ZyV := FX.mk (false, false, []) ZzT [(2, YH)] [none] Tryz.f227 (shO (shV Zp) [.fn 228 [Zy]])
def Wq : Con := cA ZyV [.ro Zn, .fn 228 [Zy]] true
theorem UE : CO 227 Wq := ZBw ZzU
def Wr (n : Nat) (a0 : Zu) (a1 : (ByteArray × Unit)) : Option (Int × (ByteArray × Unit) × Unit) := qA ZyV [.ro Zn, .fn 228 [Zy]] n (a0, a1, ())
def YI (n : Nat) (s0 : Zu) (s7 s8 : Int) (aa : ByteArray) : Option (Int × (ByteArray × Unit) × Unit) := rR ZyV [AP.enc (.ro Zn) (ZS Zn), AP.enc (.fn 228 [Zy]) (ZS Zy, ())] 2 YH n (s0, s7, s8, ()) ((aa, ()), ())
theorem UF (n : Nat) (a0 a1) : Wr n a0 a1 = YI n a0 (↑(List.length a0) : Int) 0 a1.1 := by kernel_rfl
theorem XM (n : Nat) (s0 s7 s8 aa) : YI (n + 1) s0 s7 s8 aa = bif decide (s8 < s7) then if 0 ≤ s8 then (nth s0 s8.toNat).bind fun y => bif decide (y.1 = aa) then some (s8, (aa, ()), ()) else YI n s0 s7 (K6.wrap (s8 + 1)) aa else none else some ((-1), (aa, ()), ()) := by kernel_rfl
def ZyW : Yy := (227, Wq) :: ZzT
theorem Zy0 : YA ZyW := cons_cons UE ZzU
def ZCY := FX.mk (false, false, []) ZyW [] [none] Tryz.f190 (shV Zp)
def Ga : Con := cR ZCY [Zn, Zy] true
theorem CY : CO 190 Ga := ZyS Zy0
def Cl (n : Nat) (a0 : Zu) (a1 : ByteArray) : Option Int := qR ZCY [Zn, Zy] n (a0, a1, ())
theorem Zho (n : Nat) (a0 a1) : Cl n a0 a1 = (Wr big a0 (a1, ())).bind fun y => some y.1 := by kernel_rfl
def ZCZ : Yy := (190, Ga) :: ZyW
theorem ZC8 : YA ZCZ := cons_cons CY Zy0
end
end Go.Sx.Tryz
set_option maxRecDepth 100000
namespace Go.Sx.Tryz
section
open Go Go.Proofs Go.Shelf Go.RowKit Go.Lib
theorem R3 {P : Program} {t t' e ty : TypeId} {inf : TypeInfo} (ht : P.underlying t = some (.slice e)) (hi : P.info? e = some inf) {A : Addr} {dl dc : Nat} {src : Value} {m k : Nat} {cells : List Value} {w w' : World}
  (hl : (Builtin.lenOf src).run P w = .ok m w) (hk : Nat.min m dl = k) (hc : (Builtin.firstCells inf.size k src).run P w = .ok cells.toArray w) (hs : (storeCells A cells).run P w = .ok () w') :
  (Builtin.copy_ #[t, t'] ty #[.slice (some A) dl dc, src]).run P w = .ok (goInt k) w' := by
 unfold Builtin.copy_
 simp only [List.getElem?_toArray, List.getElem?_cons_zero, List.getElem?_cons_succ]
 rw [Sx.run_bind_ok (Sx.run_underlying ht)]
 dsimp only
 rw [Sx.run_bind_ok hl, hk, Sx.run_bind_ok (Sx.run_sizeOf hi), Sx.run_bind_ok hc]
 dsimp only
 rw [Sx.run_bind_ok hs]
 rfl
theorem t27 : Tryz.prog.underlying 30 = some (.slice 94) := by kernel_rfl
theorem t3 : Tryz.prog.underlying 3 = some (.int .i64) := by kernel_rfl
theorem t4 : Tryz.prog.underlying 4 = some .bool := by kernel_rfl
theorem Zyr : (Tryz.prog.info? 94).map (fun i => (i.size, i.bytes)) = some (2, 24) := by kernel_rfl
theorem ZwJ : Tryz.prog.funcs[230]? = some Tryz.f230 := by kernel_rfl
theorem Zys : Tryz.f230.ntmps = 95 := by kernel_rfl
theorem ZyJ : Tryz.prog.funcs[249]? = some Tryz.f249 := by kernel_rfl
set_option maxHeartbeats 4000000 in
theorem ZrJ (b off n c i vb voff vc : Nat) (w W1 W2 : World) (hi : i < n) (hlim : n + 1 ≤ 4294967296) (hroom : n + 1 ≤ c)
  (hov : ∀ lb cb, (callFunc 249 #[.slice (some ⟨vb, voff, none⟩) 1 vc, .slice (some ⟨b, off + (i + 1) * 2, none⟩) lb cb]).run Tryz.prog w = .ok (.value (.bool false)) w)
  (hcp1 : ∀ ty dc sc, (Builtin.copy_ #[30, 30] ty #[.slice (some ⟨b, off + (i + 1) * 2, none⟩) (n - i) dc, .slice (some ⟨b, off + i * 2, none⟩) (n + 1 - i) sc]).run Tryz.prog w.drew = .ok (goInt ((n - i : Nat) : Int)) W1)
  (hcp2 : ∀ ty dc, (Builtin.copy_ #[30, 30] ty #[.slice (some ⟨b, off + i * 2, none⟩) (n + 1 - i) dc, .slice (some ⟨vb, voff, none⟩) 1 vc]).run Tryz.prog W1 = .ok (goInt 1) W2) :
  Calls Tryz.prog 230 #[.slice (some ⟨b, off, none⟩) n c, .int .i64 i, .slice (some ⟨vb, voff, none⟩) 1 vc] w fun e w' =>
   e = .returned (.slice (some ⟨b, off, none⟩) (n + 1) c) ∧ w' = W2 := by
 have u27 : ∀ w, (underlying 30).run Tryz.prog w = .ok (.slice 94) w := fun w => Sx.run_underlying t27
 have u3 : ∀ w, (underlying 3).run Tryz.prog w = .ok (.int .i64) w := fun w => Sx.run_underlying t3
 have u4 : ∀ w, (underlying 4).run Tryz.prog w = .ok .bool w := fun w => Sx.run_underlying t4
 have z161 : ∀ w, (Go.sizeOf 94).run Tryz.prog w = .ok 2 w := by
  intro w
  obtain ⟨inf, h1, h2⟩ : ∃ inf, Tryz.prog.info? 94 = some inf ∧ inf.size = 2 := by
   have := Zyr
   cases h : Tryz.prog.info? 94 with
   | none => rw [h] at this; cases this
   | some x => rw [h] at this; simp at this; exact ⟨x, rfl, this.1⟩
  rw [Sx.run_sizeOf h1, h2]
 have t27' := t27
 have mixed : Tryz.prog.follows .mixedOrders = true := by kernel_rfl
 have hz2 : ¬ ((i : Int) = (n : Int)) := by omega
 have hw1 : IntKind.i64.wrap ((i : Int) + 1) = (i : Int) + 1 := by rw [IntKind.wrap_i64]; omega
 have hb1 : (0 : Int) ≤ (i : Int) + 1 := by omega
 have hin : i ≤ n := by omega
 have htn : ((i : Int) + 1).toNat = i + 1 := by omega
 have hb2 : ¬ (c = i + 1) := by omega
 have hb3 : (i : Int) ≤ (n : Int) + 1 := by omega
 have hb4 : ¬ (c = i) := by omega
 go_enter ZwJ, Zys
 go_wp2_with (simp only [hov])
 go_region_law_o (refine step_copy_runI rfl _ _ 30 30 rfl _ _ (by simp [Act.eval, Act.put]) (by simp [Act.eval, Act.put]) (hcp1 _ _ _) ?_)
 go_wp2_with (at_builtin; refine wpList_copy_runI _ rfl _ _ 30 30 rfl _ _ rfl rfl (hcp2 _ _) ?_)
 go_ret
 exact ⟨rfl, rfl⟩
set_option maxHeartbeats 4000000 in
theorem ZtE (b off n c i vb voff vc nb G : Nat) (w W1 W2 W3 : World) (hi : i < n) (hlim : n + 1 ≤ 4294967296) (hnc : n ≤ c) (hroom : c < n + 1) (hG : n + 1 ≤ G)
  (hap : ∀ ty, (Builtin.append_ #[30, 3] ty #[.slice (some ⟨b, off, none⟩) i c, .int .i64 ((n : Int) + 1 - (i : Int))]).run Tryz.prog w = .ok (.slice (some ⟨nb, 0, none⟩) (n + 1) G) W1)
  (hcA : ∀ ty dc, (Builtin.copy_ #[30, 30] ty #[.slice (some ⟨nb, i * 2, none⟩) (n + 1 - i) dc, .slice (some ⟨vb, voff, none⟩) 1 vc]).run Tryz.prog W1 = .ok (goInt 1) W2)
  (hcB : ∀ ty dc sc, (Builtin.copy_ #[30, 30] ty #[.slice (some ⟨nb, (i + 1) * 2, none⟩) (n - i) dc, .slice (some ⟨b, off + i * 2, none⟩) (n - i) sc]).run Tryz.prog W2.drew = .ok (goInt ((n - i : Nat) : Int)) W3) :
  Calls Tryz.prog 230 #[.slice (some ⟨b, off, none⟩) n c, .int .i64 i, .slice (some ⟨vb, voff, none⟩) 1 vc] w fun e w' =>
   e = .returned (.slice (some ⟨nb, 0, none⟩) (n + 1) G) ∧ w' = W3 := by
 have u27 : ∀ w, (underlying 30).run Tryz.prog w = .ok (.slice 94) w := fun w => Sx.run_underlying t27
 have u3 : ∀ w, (underlying 3).run Tryz.prog w = .ok (.int .i64) w := fun w => Sx.run_underlying t3
 have u4 : ∀ w, (underlying 4).run Tryz.prog w = .ok .bool w := fun w => Sx.run_underlying t4
 have z161 : ∀ w, (Go.sizeOf 94).run Tryz.prog w = .ok 2 w := by
  intro w
  obtain ⟨inf, h1, h2⟩ : ∃ inf, Tryz.prog.info? 94 = some inf ∧ inf.size = 2 := by
   have := Zyr
   cases h : Tryz.prog.info? 94 with
   | none => rw [h] at this; cases this
   | some x => rw [h] at this; simp at this; exact ⟨x, rfl, this.1⟩
  rw [Sx.run_sizeOf h1, h2]
 have t27' := t27
 have mixed : Tryz.prog.follows .mixedOrders = true := by kernel_rfl
 have hz2 : ¬ ((i : Int) = (n : Int)) := by omega
 have hz3 : (c : Int) < (n : Int) + 1 := by omega
 have hw1 : IntKind.i64.wrap ((i : Int) + 1) = (i : Int) + 1 := by rw [IntKind.wrap_i64]; omega
 have hb1 : (0 : Int) ≤ (i : Int) + 1 := by omega
 have hin : i ≤ n := by omega
 have htn : ((i : Int) + 1).toNat = i + 1 := by omega
 have hGi : ¬ (G = i) := by omega
 have hGim : ¬ (G = i + 1) := by omega
 have hci : ¬ (c = i) := by omega
 have hb3 : (i : Int) ≤ (n : Int) := by omega
 go_enter ZwJ, Zys
 go_wp2_with (first
  | (at_builtin; refine Lib.wpList_append_run _ rfl _ _ _ _ rfl _ _ rfl rfl _ _ (hap _) ?_)
  | (at_builtin; refine wpList_copy_runI _ rfl _ _ 30 30 rfl _ _ rfl rfl (hcA _ _) ?_))
 go_region_law_o (refine step_copy_runI rfl _ _ 30 30 rfl _ _ (by simp [Act.eval, Act.put]) (by simp [Act.eval, Act.put]) (hcB _ _ _) ?_)
 go_wp2
 go_ret
 exact ⟨rfl, rfl⟩
theorem _root_.Go.Sx.BlockAt.pre {w : World} {A : Addr} {n : Nat} {cs : List Value} (h : Sx.BlockAt w A n cs) (k : Nat) : Sx.BlockAt w A n (cs.take k) := by
 obtain ⟨all, e, h1, h2, h3⟩ := h
 refine ⟨all, e, h1, h2, fun j c hj => ?_⟩
 rw [List.getElem?_take] at hj
 split at hj
 ·exact h3 j c hj
 ·cases hj
theorem _root_.Go.Sx.BlockAt.heap {w w' : World} {A : Addr} {n : Nat} {cs : List Value} (h : Sx.BlockAt w A n cs) (he : w'.heap[A.block]? = w.heap[A.block]?) : Sx.BlockAt w' A n cs := h.mono he
structure ZrK (w w' : World) (b : Nat) : Prop where
 same : ∀ k, k ≠ b → w'.heap[k]? = w.heap[k]?
 size : w'.heap.size = w.heap.size
 frz : Sx.Frz w w'
theorem Zoo {P : Program} {w : World} {ad : Addr} {N p : Nat} {cs ds : List Value} (all : List Value) (e : TypeId) (h1 : w.heap[ad.block]? = some (.cells all.toArray e (0, 0))) (h2 : ad.off + p + ds.length ≤ all.length)
  (h3 : Sx.BlockAt (Sx.setBlock w ad.block (.cells (Sx.put1 all (ad.off + p) ds).toArray e (0, 0))) ad N cs) (hone : ∀ c ∈ ds, Sx.one c = true) (hne : ds ≠ []) :
  ∃ w', (storeCells ⟨ad.block, ad.off + p, none⟩ ds).run P w = .ok () w' ∧ Sx.BlockAt w' ad N cs ∧ ZrK w w' ad.block := by
 have hst := Sx.run_storeCells (P := P) (A := ⟨ad.block, ad.off + p, none⟩) rfl rfl ds 0 w all h1 (by simpa using h2) hone
 simp only [Nat.add_zero, if_neg hne] at hst
 exact ⟨_, hst, h3, fun k hk => Sx.setBlock_ne hk, Sx.setBlock_size, Sx.frz_set⟩
theorem Nw {P : Program} {w : World} {ad : Addr} {N : Nat} {cs ds : List Value} (h : Sx.BlockAt w ad N cs) (hf : cs.length + ds.length ≤ N) (hone : ∀ c ∈ ds, Sx.one c = true) (hne : ds ≠ []) :
  ∃ w', (storeCells ⟨ad.block, ad.off + cs.length, none⟩ ds).run P w = .ok () w' ∧ Sx.BlockAt w' ad N (cs ++ ds) ∧ ZrK w w' ad.block := by
 obtain ⟨all, e, h1, h2, h3⟩ := h.more hf
 exact Zoo all e h1 h2 h3 hone hne
theorem ZrL {P : Program} {w : World} {ad : Addr} {N o : Nat} {cs ds : List Value} (h : Sx.BlockAt w ad N cs) (ho : o + ds.length ≤ cs.length) (hn : cs.length ≤ N) (hone : ∀ c ∈ ds, Sx.one c = true) (hne : ds ≠ []) :
  ∃ w', (storeCells ⟨ad.block, ad.off + o, none⟩ ds).run P w = .ok () w' ∧ Sx.BlockAt w' ad N (Sx.put1 cs o ds) ∧ ZrK w w' ad.block := by
 obtain ⟨all, e, h1, h2, h3⟩ := h.put ho hn
 exact Zoo all e h1 h2 h3 hone hne
theorem J7 {P : Program} {w : World} {ad : Addr} {N len cap sz k : Nat} {cs ds : List Value} (h : Sx.BlockAt w ad N cs) (o : Nat) (hd : ds = (cs.drop o).take (k * sz)) (hl : ds.length = k * sz) :
  (Builtin.firstCells sz k (.slice (some ⟨ad.block, ad.off + o, none⟩) len cap)).run P w = .ok ds.toArray w := by
 have hr := (Sx.Reads.of_block h).part o (k * sz)
 rw [← hd] at hr
 exact Sx.run_loadCells (P := P) rfl hl hr
theorem ZwK : ∃ inf, Tryz.prog.info? 94 = some inf ∧ inf.size = 2 ∧ inf.bytes = 24 ∧ inf.zero = some (Sx.mkV Yf (Sx.zeroVals Yf)) := by
 have h1 : (Tryz.prog.info? 94).map (fun i => (i.size, i.bytes, i.zero)) = some (2, 24, some (Sx.mkV Yf (Sx.zeroVals Yf))) := by kernel_rfl
 cases h : Tryz.prog.info? 94 with
 | none => rw [h] at h1; cases h1
 | some x =>
  rw [h] at h1
  simp only [Option.map_some, Option.some.injEq, Prod.mk.injEq] at h1
  exact ⟨x, rfl, h1.1, h1.2.1, h1.2.2⟩
theorem Zu5 {a d v : List Value} {i : Nat} (ha : a.length = (i + 1) * 2) (hv : v.length = 2) : Sx.put1 (a ++ d) (i * 2) v = a.take (i * 2) ++ (v ++ d) := by
 unfold Sx.put1
 rw [List.take_append_of_le_length (by omega), hv, show i * 2 + 2 = a.length by omega, List.drop_left, List.append_assoc]
set_option maxHeartbeats 4000000 in
/-- a cell put among others: in place, or in a new row -/
theorem Zu6 (w : World) (ad vad : Addr) (cap vcap n i : Nat) (inner V : List Value) (hs : ad.spot = none) (hvs : vad.spot = none) (hne : vad.block ≠ ad.block) (hb : Sx.BlockAt w ad (cap * 2) inner) (hv : Sx.BlockAt w vad (vcap * 2) V)
  (hil : inner.length = n * 2) (hvl : V.length = 2) (hi1 : ∀ c ∈ inner, Sx.one c = true) (hv1 : ∀ c ∈ V, Sx.one c = true) (hi : i < n) (hnc : n ≤ cap) (hlim : n + 1 ≤ 4294967296) :
  Calls Tryz.prog 230 #[.slice (some ad) n cap, .int .i64 i, .slice (some vad) 1 vcap] w fun e w' => ∃ (ad' : Addr) (cap' : Nat), e = .returned (.slice (some ad') (n + 1) cap') ∧ ad'.spot = none ∧ n + 1 ≤ cap' ∧
   (ad'.block = ad.block ∨ w.heap.size ≤ ad'.block) ∧ ad'.block < w'.heap.size ∧ Sx.BlockAt w' ad' (cap' * 2) (inner.take (i * 2) ++ (V ++ inner.drop (i * 2))) ∧ Sx.Kept w w' [ad.block] := by
 obtain ⟨b, off, sp⟩ := ad
 obtain ⟨vb, voff, vsp⟩ := vad
 dsimp only at hs hvs hne
 subst hs; subst hvs
 obtain ⟨inf, hinf, hsz, hby, hzero⟩ := ZwK
 have hblt : b < w.heap.size := by
  obtain ⟨all, e, h1, _⟩ := hb
  exact (Array.getElem?_eq_some_iff.1 h1).1
 have hvne : V ≠ [] := fun e => by rw [e] at hvl; cases hvl
 have hDl : (inner.drop (i * 2)).length = (n - i) * 2 := by rw [List.length_drop, hil, Nat.sub_mul]
 have hDne : inner.drop (i * 2) ≠ [] := fun e => by rw [e] at hDl; simp at hDl; omega
 have hD1 : ∀ c ∈ inner.drop (i * 2), Sx.one c = true := fun c hc => hi1 c (List.mem_of_mem_drop hc)
 have hlen : ∀ (d : Nat), (Builtin.lenOf (.slice (some ⟨vb, voff, none⟩) 1 vcap)).run Tryz.prog w = .ok 1 w := fun _ => rfl
 have hDt : inner.drop (i * 2) = (inner.drop (i * 2)).take ((n - i) * 2) := by rw [List.take_of_length_le (Nat.le_of_eq hDl)]
 have hVt : V = (V.drop 0).take (1 * 2) := by rw [List.drop_zero, List.take_of_length_le (by omega)]
 have hTl : (inner.take ((i + 1) * 2)).length = (i + 1) * 2 := by rw [List.length_take, hil]; omega
 have hTl2 : (inner.take (i * 2)).length = i * 2 := by rw [List.length_take, hil]; omega
 by_cases hroom : n + 1 ≤ cap
 ·-- there is room
  have hb0 : Sx.BlockAt w.drew ⟨b, off, none⟩ (cap * 2) inner := hb.heap rfl
  obtain ⟨W1, s1, s2, s3⟩ := Nw (P := Tryz.prog) (hb0.pre ((i + 1) * 2)) (ds := inner.drop (i * 2)) (by rw [hTl, hDl]; omega) hD1 hDne
  obtain ⟨W2, r1, r2, r3⟩ := ZrL (P := Tryz.prog) (o := i * 2) (ds := V) s2 (by rw [List.length_append, hTl, hDl, hvl]; omega) (by rw [List.length_append, hTl, hDl]; omega) hv1 hvne
  rw [Zu5 hTl hvl, List.take_take, Nat.min_eq_left (by omega)] at r2
  rw [hTl] at s1
  have hv2 : Sx.BlockAt W1 ⟨vb, voff, none⟩ (vcap * 2) V := hv.heap (s3.same vb hne)
  have hw := ZrJ b off n cap i vb voff vcap w W1 W2 hi hlim hroom (fun lb cb => ?_) (fun ty dc sc => ?_) (fun ty dc => ?_)
  ·refine hw.mono ?_
   rintro e w' ⟨rfl, rfl⟩
   refine ⟨⟨b, off, none⟩, cap, rfl, rfl, hroom, .inl rfl, ?_, r2, ?_⟩
   ·rw [r3.size, s3.size]; exact hblt
   ·have k1 : Sx.Kept w w.drew [b] := ⟨Nat.le_refl _, fun _ _ _ => rfl, ⟨fun _ _ => .inl rfl, rfl, rfl, Nat.le_refl _⟩⟩
    have k2 : Sx.Kept w.drew W1 [b] := ⟨Nat.le_of_eq s3.size.symm, fun k _ hk => s3.same k (by simpa using hk), s3.frz⟩
    have k3 : Sx.Kept W1 w' [b] := ⟨Nat.le_of_eq r3.size.symm, fun k _ hk => r3.same k (by simpa using hk), r3.frz⟩
    exact (k1.trans k2 (fun k hk => .inl hk)).trans k3 (fun k hk => .inl hk)
  ·rw [run_callFunc_extern ZyJ (by kernel_rfl) (by kernel_rfl) (by kernel_rfl) (e := Extern.SlicesOverlaps.overlaps #[30, 30] #[4]) (by kernel_rfl)]
   obtain ⟨all, e, h1, h2, _⟩ := hb
   obtain ⟨vall, ve, g1, g2, _⟩ := hv
   have hz : ∀ w, (Go.sizeOf 94).run Tryz.prog w = .ok 2 w := fun w => by rw [Sx.run_sizeOf hinf, hsz]
   dsimp only at h1 h2 g1 g2
   rw [Lib.run_overlaps_apart w 30 4 94 t27 2 hz ⟨vb, voff, none⟩ ⟨b, off + (i + 1) * 2, none⟩ 1 vcap lb cb hne ve e vall.size all.size (by simp only [World.shape?, g1]) (by simp only [World.shape?, h1]) (by omega)
    (by simp only [World.frozen?, g1]; simp) (by simp only [World.frozen?, g1]; simp)]
   rfl
  ·refine R3 (P := Tryz.prog) (m := n + 1 - i) (k := n - i) t27 hinf rfl (by simp only [Nat.min_def]; split <;> omega) ?_ s1
   rw [hsz]
   exact J7 hb0 (i * 2) hDt hDl
  ·have h0 := R3 (P := Tryz.prog) (t := 30) (t' := 30) (ty := ty) (dl := n + 1 - i) (dc := dc) (src := .slice (some ⟨vb, voff, none⟩) 1 vcap) (m := 1) (k := 1) (w := W1) t27 hinf rfl (by simp only [Nat.min_def]; split <;> omega) (by
    rw [hsz]
    have := J7 (P := Tryz.prog) (len := 1) (cap := vcap) (sz := 2) (k := 1) hv2 0 hVt (by omega)
    simpa using this) r1
   exact h0
 ·-- there is none
  have hroom' : cap < n + 1 := by omega
  have hk : i + (n + 1 - i) = n + 1 := by omega
  have hbn := Sx.nextcap_le hroom' hlim
  have hold : (Builtin.firstCells inf.size i (.slice (some ⟨b, off, none⟩) i cap)).run Tryz.prog w.drew = .ok (inner.take (i * 2)).toArray w.drew := by
   rw [hsz]
   have := J7 (P := Tryz.prog) (w := w.drew) (len := i) (cap := cap) (sz := 2) (k := i) (ds := inner.take (i * 2)) (hb.heap rfl) 0 (by rw [List.drop_zero]) hTl2
   simpa using this
  have hap := Lib.run_append_grow_zeros w 30 3 30 94 inf _ .i64 .i64 t27 t3 hinf hzero (some ⟨b, off, none⟩) i cap (inner.take (i * 2)) hold (n + 1 - i) (by omega) (by omega) (by omega) (by omega) (by rw [hby]; omega) (by rw [hby, hk]; omega)
  obtain ⟨G, hGe⟩ : ∃ G, G = grownCap w (i + (n + 1 - i)) cap 94 := ⟨_, rfl⟩
  have hGn : n + 1 ≤ G := by rw [hGe, hk]; exact grownCap_ge w _ _ _
  rw [← hGe, hk] at hap
  obtain ⟨W1, hW1⟩ : ∃ W1, W1 = w.drew.alloc (.cells ((inner.take (i * 2)).toArray ++ Builtin.zeroCells (Sx.mkV Yf (Sx.zeroVals Yf)).cells (n + 1 - i) ++ Builtin.zeroCells (Sx.mkV Yf (Sx.zeroVals Yf)).cells (G - (n + 1))) 94) := ⟨_, rfl⟩
  rw [← hW1] at hap
  have hnb : Sx.BlockAt W1 ⟨w.heap.size, 0, none⟩ (G * 2) (inner.take (i * 2)) := by
   refine ⟨_, 94, by rw [hW1]; exact Sx.push_new (w := w.drew), ?_, fun j c hj => ?_⟩
   ·have hzs : (Sx.mkV Yf (Sx.zeroVals Yf)).cells.size = 2 := by kernel_rfl
    simp only [Array.size_append, Builtin.zeroCells, Array.size_map, Array.size_range, List.size_toArray, hTl2, hzs]
    omega
   ·have hjl : j < (inner.take (i * 2)).length := (List.getElem?_eq_some_iff.1 hj).1
    rw [Nat.zero_add, Array.append_assoc, Array.getElem?_append_left (by simpa using hjl)]
    simpa using hj
  have hold1 : ∀ k, k < w.heap.size → W1.heap[k]? = w.heap[k]? := fun k hk => by rw [hW1]; exact Sx.push_get (w := w.drew) hk
  have hsz1 : W1.heap.size = w.heap.size + 1 := by rw [hW1]; exact Array.size_push _
  have hvlt : vb < w.heap.size := by
   obtain ⟨all, e, h1, _⟩ := hv
   exact (Array.getElem?_eq_some_iff.1 h1).1
  have hvn : vb ≠ w.heap.size := by omega
  have hbn2 : b ≠ w.heap.size := by omega
  obtain ⟨W2, s1, s2, s3⟩ := Nw (P := Tryz.prog) hnb (ds := V) (by rw [hTl2, hvl]; omega) hv1 hvne
  have s2d : Sx.BlockAt W2.drew ⟨w.heap.size, 0, none⟩ (G * 2) (inner.take (i * 2) ++ V) := s2.heap rfl
  obtain ⟨W3, r1, r2, r3⟩ := Nw (P := Tryz.prog) s2d (ds := inner.drop (i * 2)) (by rw [List.length_append, hTl2, hvl, hDl]; omega) hD1 hDne
  rw [List.append_assoc] at r2
  have hv1' : Sx.BlockAt W1 ⟨vb, voff, none⟩ (vcap * 2) V := hv.heap (hold1 vb hvlt)
  have hb2 : Sx.BlockAt W2.drew ⟨b, off, none⟩ (cap * 2) inner := hb.heap (((show W2.drew.heap[b]? = W2.heap[b]? from rfl).trans (s3.same b hbn2)).trans (hold1 b hblt))
  have hw := ZtE b off n cap i vb voff vcap w.heap.size G w W1 W2 W3 hi hlim hnc hroom' hGn (fun ty => ?_) (fun ty dc => ?_) (fun ty dc sc => ?_)
  ·refine hw.mono ?_
   rintro e w' ⟨rfl, rfl⟩
   refine ⟨⟨w.heap.size, 0, none⟩, G, rfl, rfl, hGn, .inr (Nat.le_refl _), ?_, r2, ?_⟩
   ·have h1 := r3.size
    have h2 := s3.size
    have h3 : W2.drew.heap.size = W2.heap.size := rfl
    show w.heap.size < w'.heap.size
    omega
   ·refine ⟨?_, fun k hk hnk => ?_, ?_⟩
    ·have h1 := r3.size
     have h2 := s3.size
     have h3 : W2.drew.heap.size = W2.heap.size := rfl
     omega
    ·have hkn : k ≠ w.heap.size := by omega
     exact (((r3.same k hkn).trans (show W2.drew.heap[k]? = W2.heap[k]? from rfl)).trans (s3.same k hkn)).trans (hold1 k hk)
    ·have f1 : Sx.Frz w W1 := by rw [hW1]; exact (show Sx.Frz w w.drew from ⟨fun _ _ => .inl rfl, rfl, rfl, Nat.le_refl _⟩).trans (Sx.frz_push w.drew _ rfl)
     exact ((f1.trans s3.frz).trans (show Sx.Frz W2 W2.drew from ⟨fun _ _ => .inl rfl, rfl, rfl, Nat.le_refl _⟩)).trans r3.frz
  ·have := hap
   rw [show ((n + 1 - i : Nat) : Int) = (n : Int) + 1 - (i : Int) by omega] at this
   exact this
  ·refine R3 (P := Tryz.prog) (m := 1) (k := 1) (cells := V) t27 hinf rfl (by simp only [Nat.min_def]; split <;> omega) ?_ ?_
   ·rw [hsz]
    have := J7 (P := Tryz.prog) (len := 1) (cap := vcap) (sz := 2) (k := 1) hv1' 0 hVt (by omega)
    simpa using this
   ·rw [hTl2] at s1
    simpa using s1
  ·refine R3 (P := Tryz.prog) (m := n - i) (k := n - i) (cells := inner.drop (i * 2)) t27 hinf rfl (by simp only [Nat.min_def]; split <;> omega) ?_ ?_
   ·rw [hsz]
    exact J7 hb2 (i * 2) hDt hDl
   ·rw [List.length_append, hTl2, hvl, show i * 2 + 2 = (i + 1) * 2 by omega] at r1
    simpa using r1
theorem LN : Yf.hasSl = false := by kernel_rfl
theorem ET : Yf.size = 2 := by kernel_rfl
theorem Zop {p : Nat → Prop} {w : World} {xs : List Yf.den} {c : Value} {S : List Nat} (h : Sx.TR p w true (.sl true Yf) xs [c] S) :
  ∃ A cap, c = .slice A xs.length cap ∧ xs.length ≤ cap ∧ (A = none → xs = []) ∧ ∀ ad, A = some ad → ad.spot = none ∧ S = [ad.block] ∧ ∃ inner, Sx.BlockAt w ad (cap * 2) inner ∧ Sx.Reps (Sx.TR (fun _ => False) w false Yf) xs inner [] := by
 obtain ⟨A, cap, h1, h2, h3⟩ := h
 simp only [List.cons.injEq, and_true] at h1
 simp only [Bool.and_self, if_true] at h3
 refine ⟨A, cap, h1, h2, fun e => ?_, fun ad e => ?_⟩
 ·subst e; exact h3.1
 ·subst e
  obtain ⟨k1, inner, S', k2, k3, k4⟩ := h3
  obtain ⟨k5, k6⟩ := k4.noUq (Sx.Ty.flat_noUq LN)
  subst k5
  rw [ET] at k3
  exact ⟨k1, k2, inner, k3, k6.noSl LN⟩
theorem ZwL (xs : List Yf.den) (i : Nat) (x : Yf.den) (hi : i < xs.length) (hlim : xs.length + 1 ≤ 4294967296) :
  Sx.CallOk Tryz.prog 230 (Sx.AP.encL [.gv Yf, .ro Zp, .gv Yf] (xs, (i : Int), [x], ())) (.fv (.sl true Yf) (xs.take i ++ ([x] ++ xs.drop i))) [] := by
 intro p w cargs S B hc hn hS hp
 simp only [Sx.AP.encL, Sx.AP.enc, Sx.CVL, Sx.CV] at hc
 obtain ⟨c1, r1, S1, T1, B1, D1, rfl, rfl, rfl, ⟨hB1, _, h1⟩, c2, r2, S2, T2, B2, D2, rfl, rfl, rfl, ⟨rfl, hB2, cs2, h2, rfl⟩, c3, r3, S3, T3, B3, D3, rfl, rfl, rfl, ⟨hB3, _, h3⟩, rfl, rfl, rfl⟩ := hc
 obtain ⟨A, cap, rfl, hl1, hA0, hA⟩ := Zop h1
 obtain ⟨A3, cap3, rfl, hl3, hA30, hA3⟩ := Zop h3
 have hc2 : Sx.mkV Zp cs2 = .int .i64 (i : Int) := by
  obtain ⟨e, _⟩ := (h2 : cs2 = [.int .i64 (i : Int)] ∧ _)
  rw [e]; rfl
 rw [hc2]
 cases A with
 | none => rw [hA0 rfl] at hi; simp at hi
 | some ad =>
 cases A3 with
 | none => cases hA30 rfl
 | some vad =>
 obtain ⟨a1, rfl, inner, a2, a3⟩ := hA ad rfl
 obtain ⟨b1, rfl, V, b2, b3⟩ := hA3 vad rfl
 have hil : inner.length = xs.length * 2 := by rw [← ET]; exact Sx.Reps.len (fun _ _ _ hr => hr.len) a3
 have hvl : V.length = 2 := by
  have := Sx.Reps.len (n := Yf.size) (fun _ _ _ hr => hr.len) b3
  rw [ET] at this
  simpa using this
 have hne : vad.block ≠ ad.block := by
  have := hn
  simp only [List.nil_append, List.append_nil, List.cons_append, List.nodup_cons, List.mem_singleton] at this
  exact fun e => this.1 e.symm
 have hw := Zu6 w ad vad cap cap3 xs.length i inner V a1 b1 hne a2 b2 hil hvl (Sx.Reps.one (fun _ _ _ hr => hr.ones) a3) (Sx.Reps.one (fun _ _ _ hr => hr.ones) b3) hi hl1 hlim
 refine fun _ => hw.mono ?_
 rintro e w' ⟨ad', cap', rfl, q1, q2, q3, q4, q5, q6⟩
 have hmem : ∀ k, k ∈ [ad'.block] ++ ([] : List Nat) → k = ad'.block := fun k hk => by simpa using hk
 refine ⟨_, [ad'.block], [], rfl, by simp, fun k hk => ?_, ?_, ?_, ?_⟩
 ·rw [hmem k hk]
  refine ⟨q3.imp (fun e => ?_) id, q4⟩
  rw [e]; simp
 ·exact ⟨q6.1, fun k hk hnk => q6.2 k hk (fun hm => hnk (by simp only [List.mem_singleton] at hm; subst hm; simp)), q6.3⟩
 ·simp only [Sx.CV]
  have hlen : (xs.take i ++ ([x] ++ xs.drop i)).length = xs.length + 1 := by simp only [List.length_append, List.length_take, List.length_drop, List.length_singleton]; omega
  refine ⟨trivial, by kernel_rfl, [.slice (some ad') (xs.length + 1) cap'], ⟨some ad', cap', by rw [hlen], by rw [hlen]; exact q2, ?_⟩, rfl⟩
  simp only [Bool.and_self, if_true]
  refine ⟨q1, inner.take (i * 2) ++ (V ++ inner.drop (i * 2)), [], rfl, by rw [ET]; exact q5, ?_⟩
  have k1 := Sx.Reps.take (n := Yf.size) (fun _ _ _ hr => hr.len) i a3
  have k2 := Sx.Reps.drop (n := Yf.size) (fun _ _ _ hr => hr.len) i a3
  rw [ET] at k1 k2
  exact Sx.Reps.ofRo (Sx.Ty.flat_noUq LN) ((k1.append (b3.append k2)).noSl LN)
 ·simp only [List.append_nil, List.nil_append, hB1, hB2, hB3, Sx.Outs]
end
open Go Go.Sx Go.Proofs
open Go.IntKind renaming i64 → K6
noncomputable section
def DM : Yy := []
theorem H5 : YA DM := Zh
def Nx : KP := []
def DN (n : Nat) (x : AP.denL [.gv Yf, .ro Zp, .gv Yf]) := evX (false, false, []) DM Nx [some ZF] Tryz.f230 (shF ZF) n (AP.encL [.gv Yf, .ro Zp, .gv Yf] x)
def KJ (n : Nat) (a0 : Zu) (a1 : Int) (a2 : Zu) : Option Zu := DN n (a0, a1, a2, ())
theorem H6 (n : Nat) (a0 : Zu) (a1 : Int) (a2 : Zu) : KJ n a0 a1 a2 =
  if (0 : Int) ≤ a1 then
 if a1 ≤ (↑(List.length a0) : Int) then
 bif decide ((↑(List.length a2) : Int) = (0 : Int)) then some a0
 else
 bif decide (a1 = (↑(List.length a0) : Int)) then
 if List.length a0 + List.length a2 ≤ lim then some (List.append a0 a2) else none
 else none
 else none
 else none := by kernel_rfl
def KK (_n : Nat) (x : AP.denL [.gv Yf, .ro Zp, .gv Yf]) : Option Zu :=
 if (0 : Int) ≤ x.2.1 then (if x.2.1 ≤ (List.length x.1 : Int) then (if List.length x.2.2.1 = 1 then (if List.length x.1 + 1 ≤ lim then some (List.take (Int.toNat x.2.1) x.1 ++ (x.2.2.1 ++ List.drop (Int.toNat x.2.1) x.1)) else none) else none) else none) else none
def DO : Con := apS [.gv Yf, .ro Zp, .gv Yf] true (shF ZF) (KK big)
theorem H7 : ZM Tryz.prog 230 DO := Xl ⟨Tryz.f230, by kernel_rfl, rfl, by decide⟩ fun xs v h => by
 obtain ⟨a0, a1, a2, u⟩ := xs
 cases u
 unfold KK at h
 dsimp only at h
 split at h
 ·rename_i h0
  split at h
  ·rename_i h1
   split at h
   ·rename_i h2
    split at h
    ·rename_i h3
     simp only [Option.some.injEq] at h
     subst h
     obtain ⟨x, rfl⟩ := List.length_eq_one_iff.1 h2
     by_cases he : a1 = (List.length a0 : Int)
     ·have hm : KJ big a0 a1 [x] = some (List.append a0 [x]) := by
       rw [H6, if_pos h0, if_pos h1, decide_eq_false (show ¬ ((List.length [x] : Nat) : Int) = 0 by simp), cond_false, decide_eq_true he, cond_true, if_pos (show List.length a0 + List.length [x] ≤ lim from h3)]
      unfold KJ DN at hm
      have hk := ZA H5 (f := Tryz.f230) (n := 230) (by kernel_rfl) rfl (by kernel_rfl) (by kernel_rfl) big hm
      have hr : List.take (Int.toNat a1) a0 ++ ([x] ++ List.drop (Int.toNat a1) a0) = List.append a0 [x] := by
       rw [he, Int.toNat_natCast, List.take_length, List.drop_length, List.append_nil]; rfl
      rw [hr]
      exact hk
     ·obtain ⟨i, rfl⟩ : ∃ i : Nat, a1 = i := ⟨Int.toNat a1, (Int.toNat_of_nonneg h0).symm⟩
      rw [Int.toNat_natCast]
      refine ZwL a0 i x ?_ h3
      have k1 : (i : Int) ≤ ((List.length (α := Ty.den Yf) a0 : Nat) : Int) := h1
      have k2 : ¬ (i : Int) = ((List.length (α := Ty.den Yf) a0 : Nat) : Int) := he
      show i < List.length (α := Ty.den Yf) a0
      omega
    ·cases h
   ·cases h
  ·cases h
 ·cases h
def V3 (n : Nat) (a0 : Zu) (a1 : Int) (a2 : Zu) : Option Zu := KK n (a0, a1, a2, ())
theorem H8 (n : Nat) (a0 : Zu) (a1 : Int) (a2 : Zu) : V3 n a0 a1 a2 =
  if (0 : Int) ≤ a1 then (if a1 ≤ (List.length a0 : Int) then (if List.length a2 = 1 then (if List.length a0 + 1 ≤ lim then some (List.take (Int.toNat a1) a0 ++ (a2 ++ List.drop (Int.toNat a1) a0)) else none) else none) else none) else none := rfl
def Zy3 : Yy := (230, DO) :: ZCZ
theorem Zzb : YA Zy3 := cons_cons H7 ZC8
abbrev Q3 : VS := (.ro Zn :: .ro Zy :: .ro Za :: dp 4 (.is (.own 0 0) :: .drop :: .ro Za :: dp 35 []), [.arr Zq])
def ZzV := FX.mk (false, false, []) Zy3 [(7, Q3)] [some ZF] Tryz.f193 (shF ZF)
def EU : Con := cR ZzV [Zn, Zy, Zp] true
theorem EV : CO 193 EU := ZyS Zzb
def Vk (n : Nat) (a0 : Zu) (a1 : ByteArray) (a2 : Int) : Option Zu := qR ZzV [Zn, Zy, Zp] n (a0, a1, a2, ())
def Q4 (n : Nat) (s0 : Zu) (s1 : ByteArray) (s2 s9 : Int) (b0 : List Ze) : Option Zu := rR ZzV (zs [Zn, Zy, Zp]) 7 Q3 n (s0, s1, s2, s9, ()) (b0, ())
theorem Tp (n : Nat) (a0 a1 a2) : Vk n a0 a1 a2 = (Xa big a0).bind fun y => (Cl big a0 a1).bind fun a => bif decide (0 ≤ a) then if 0 ≤ a then if a < (↑(List.length y) : Int) then (nth y (Int.toNat a)).bind fun b => (BU y (Int.toNat a) (b.1, a2, ())).bind fun y => some y else none else none else Q4 n a0 a1 a2 0 y := by kernel_rfl
theorem Cm (n : Nat) (s0 s1 s2 s9 b0) : Q4 (n + 1) s0 s1 s2 s9 b0 = bif decide (s9 < (↑(List.length s0) : Int)) then if 0 ≤ s9 then (nth s0 s9.toNat).bind fun y => bif Op.bytesLess (ByteArray.toList y.1) s1.toList then Q4 n s0 s1 s2 (K6.wrap (s9 + 1)) b0 else (V3 big b0 s9 [(s1, s2, ())]).bind fun y => some y else none else (V3 big b0 s9 [(s1, s2, ())]).bind fun y => some y := by kernel_rfl
def ZzW : Yy := (193, EU) :: Zy3
theorem ZzX : YA ZzW := cons_cons EV Zzb
def ZDn := FX.mk (false, false, [3, 21, 23, 27, 33, 46]) ZzW [] [some ZF, none] Tryz.f139 (shT [(true, ZF), (false, Zp)])
def Zhp : Con := cR ZDn [Zn, Vv] true
theorem Tq : CO 139 Zhp := ZyS ZzX
def R4 (n : Nat) (a0 : Zu) (a1 : Y3) : Option (Zu × Int × Unit) := qR ZDn [Zn, Vv] n (a0, a1, ())
theorem Zm7 (n : Nat) (a0 a1) : R4 n a0 a1 = (Xa big a0).bind fun y => (Vj big a0).bind fun f => bif !f then some (y, 2, ()) else (Tl big a1).bind fun e => bif !e then some (y, 2, ()) else bif !decide (a1.1 = 1) then (Cl big a0 a1.2.1).bind fun a => bif decide (a < 0) then some (y, 1, ()) else bif decide (a1.1 = 3) then if 0 ≤ a then (nth a0 (Int.toNat a)).bind fun c => (Vk big a0 a1.2.1 (K6.wrap (K6.wrap (0 - a1.2.2.1) + c.2.1))).bind fun b => (Vj big b).bind fun d => bif !d then some (y, 2, ()) else some (b, 0, ()) else none else if 0 ≤ a then (nth a0 (Int.toNat a)).bind fun c => (Vk big a0 a1.2.1 (K6.wrap (a1.2.2.1 + c.2.1))).bind fun b => (Vj big b).bind fun d => bif !d then some (y, 2, ()) else some (b, 0, ()) else none else (Vk big a0 a1.2.1 a1.2.2.1).bind fun a => (Vj big a).bind fun c => bif !c then some (y, 2, ()) else some (a, 0, ()) := by kernel_rfl
def ZC9 : Yy := (139, Zhp) :: ZzW
theorem ZCA : YA ZC9 := cons_cons Tq ZzX
def ZDh := FX.mk (false, false, []) ZC9 [] [none] Tryz.f67 (shV ZG)
def YB : Con := cR ZDh [Zp, Zp, Zp] true
theorem Yb : CO 67 YB := ZyS ZCA
def ZT (n : Nat) (a0 a1 a2 : Int) : Option Bool := qR ZDh [Zp, Zp, Zp] n (a0, a1, a2, ())
theorem Oz (n : Nat) (a0 a1 a2) : ZT n a0 a1 a2 = bif decide (a1 ≤ a0) then some (decide (a0 ≤ a2)) else some false := by kernel_rfl
def ZCB : Yy := (67, YB) :: ZC9
theorem ZCf : YA ZCB := cons_cons Yb ZCA
abbrev CZ : VS := (.ro Zy :: dp 2 (.ro Za :: dp 19 []), [])
def ZCC := FX.mk (false, false, []) ZCB [(2, CZ)] [none] Tryz.f143 (shV ZG)
def LQ : Con := cR ZCC [Zy] true
theorem EW : CO 143 LQ := ZyS ZCf
def Cn (n : Nat) (a0 : ByteArray) : Option Bool := qR ZCC [Zy] n (a0, ())
def J8 (n : Nat) (s0 : ByteArray) (s3 : Int) : Option Bool := rR ZCC (zs [Zy]) 2 CZ n (s0, s3, ()) ()
theorem OA (n : Nat) (a0) : Cn n a0 = J8 n a0 0 := by kernel_rfl
theorem Q5 (n : Nat) (s0 s3) : J8 (n + 1) s0 s3 = bif decide (s3 < (↑s0.size : Int)) then if 0 ≤ s3 then (nth s0.data.toList s3.toNat).bind fun y => bif decide ((↑y.toNat : Int) < 97) then some false else if 0 ≤ s3 then (nth s0.data.toList s3.toNat).bind fun y => bif decide (122 < (↑y.toNat : Int)) then some false else J8 n s0 (K6.wrap (s3 + 1)) else none else none else (ZT big (↑s0.size : Int) 1 3).bind fun y => some y := by kernel_rfl
def ZCD : Yy := (143, LQ) :: ZCB
theorem ZCg : YA ZCD := cons_cons EW ZCf
abbrev Jb : VS := (.ro Zn :: dp 2 (.ro Za :: dp 43 []), [])
def ZA0 := FX.mk (false, false, []) ZCD [(2, Jb)] [none] Tryz.f142 (shV ZG)
def H9 : Con := cR ZA0 [Zn] true
theorem GU : CO 142 H9 := ZyS ZCg
def J9 (n : Nat) (a0 : Zu) : Option Bool := qR ZA0 [Zn] n (a0, ())
def Vw (n : Nat) (s0 : Zu) (s3 : Int) : Option Bool := rR ZA0 (zs [Zn]) 2 Jb n (s0, s3, ()) ()
theorem GV (n : Nat) (a0) : J9 n a0 = Vw n a0 0 := by kernel_rfl
theorem V4 (n : Nat) (s0 s3) : Vw (n + 1) s0 s3 = bif decide (s3 < (↑(List.length s0) : Int)) then if 0 ≤ s3 then (nth s0 s3.toNat).bind fun y => (Cn big y.1).bind fun y => bif !y then some false else if 0 ≤ s3 then (nth s0 s3.toNat).bind fun y => (ZT big y.2.1 0 1000000000).bind fun y => bif !y then some false else bif decide (0 < s3) then if 0 ≤ K6.wrap (s3 - 1) then (nth s0 (K6.wrap (s3 - 1)).toNat).bind fun y => if 0 ≤ s3 then (nth s0 s3.toNat).bind fun a => bif !Op.bytesLess (ByteArray.toList y.1) (ByteArray.toList a.1) then some false else Vw n s0 (K6.wrap (s3 + 1)) else none else none else Vw n s0 (K6.wrap (s3 + 1)) else none else none else some (decide ((↑(List.length s0) : Int) ≤ 12)) := by kernel_rfl
def ZA1 : Yy := (142, H9) :: ZCD
theorem ZAB : YA ZA1 := cons_cons GU ZCg
def ZDi := FX.mk (false, false, [1, 3, 7, 12]) ZA1 [] [none] Tryz.f194 (shV ZG)
def Ts : Con := cR ZDi [Vv] true
theorem OC : CO 194 Ts := ZyS ZAB
def EX (n : Nat) (a0 : Y3) : Option Bool := qR ZDi [Vv] n (a0, ())
theorem OD (n : Nat) (a0) : EX n a0 = (ZT big a0.1 1 3).bind fun y => bif y then (Cn big a0.2.1).bind fun y => bif y then (ZT big a0.2.2.1 0 1000000000).bind fun y => some y else some false else some false := by kernel_rfl
def ZCE : Yy := (194, Ts) :: ZA1
theorem ZCh : YA ZCE := cons_cons OC ZAB
abbrev AN : VS := (.ro Zn :: .ro Zy :: dp 3 (.ro Za :: dp 14 []), [])
def ZBR := FX.mk (false, false, []) ZCE [(2, AN)] [none] Tryz.f195 (shV Zp)
def Ny : Con := cR ZBR [Zn, Zy] true
theorem LR : CO 195 Ny := ZyS ZCh
def Co (n : Nat) (a0 : Zu) (a1 : ByteArray) : Option Int := qR ZBR [Zn, Zy] n (a0, a1, ())
def Kw (n : Nat) (s0 : Zu) (s1 : ByteArray) (s5 : Int) : Option Int := rR ZBR (zs [Zn, Zy]) 2 AN n (s0, s1, s5, ()) ()
theorem LS (n : Nat) (a0 a1) : Co n a0 a1 = Kw n a0 a1 0 := by kernel_rfl
theorem UQ (n : Nat) (s0 s1 s5) : Kw (n + 1) s0 s1 s5 = bif decide (s5 < (↑(List.length s0) : Int)) then if 0 ≤ s5 then (nth s0 s5.toNat).bind fun y => bif decide (y.1 = s1) then some s5 else Kw n s0 s1 (K6.wrap (s5 + 1)) else none else some (-1) := by kernel_rfl
def ZBS : Yy := (195, Ny) :: ZCE
theorem ZBz : YA ZBS := cons_cons LR ZCh
abbrev AO : VS := (.ro Zn :: dp 2 (.is (.ptr 0 0) :: .drop :: .own Zq :: .ro Za :: dp 49 []), [.vars [.ro Zy, .ro Za]])
abbrev AQ : VS := (.ro Zn :: dp 2 (.is (.ptr 0 0) :: .drop :: .own Zq :: .drop :: .ro Za :: dp 48 []), [.vars [.ro Zy, .ro Za]])
def ZAy := FX.mk (false, false, [3, 20, 45]) ZBS [(3, AO), (9, AQ)] [some ZF] Tryz.f144 (shF ZF)
def Nz : Con := cR ZAy [Zn, Yf] true
theorem LT : CO 144 Nz := ZyS ZBz
def Xo (n : Nat) (a0 : Zu) (a1 : ZB) : Option Zu := qR ZAy [Zn, Yf] n (a0, a1, ())
def Us (n : Nat) (s0 : Zu) (s5 : List Ze) (s6 : Int) (aa : ByteArray) (ab : Int) : Option Zu := rR ZAy (zs [Zn, Yf]) 3 AO n (s0, s5, s6, ()) ((aa, ab, ()), ())
def Ut (n : Nat) (s0 : Zu) (s5 : List Ze) (s7 : Int) (aa : ByteArray) (ab : Int) : Option Zu := rR ZAy (zs [Zn, Yf]) 9 AQ n (s0, s5, s7, ()) ((aa, ab, ()), ())
theorem LU (n : Nat) (a0 a1) : Xo n a0 a1 = Us n a0 [] 0 a1.1 a1.2.1 := by kernel_rfl
theorem UR (n : Nat) (s0 s5 s6 aa ab) : Us (n + 1) s0 s5 s6 aa ab = bif decide (s6 < (↑(List.length s0) : Int)) then if 0 ≤ s6 then (nth s0 s6.toNat).bind fun y => bif Op.bytesLess (ByteArray.toList y.1) aa.toList then if 0 ≤ s6 then (nth s0 s6.toNat).bind fun y => if s5.length + [y].length ≤ lim then Us n s0 (s5.append [y]) (K6.wrap (s6 + 1)) aa ab else none else none else Us n s0 s5 (K6.wrap (s6 + 1)) aa ab else none else if s5.length + [(aa, ab, ())].length ≤ lim then Ut n s0 (s5.append [(aa, ab, ())]) 0 aa ab else none := by kernel_rfl
theorem US (n : Nat) (s0 s5 s7 aa ab) : Ut (n + 1) s0 s5 s7 aa ab = bif decide (s7 < (↑(List.length s0) : Int)) then if 0 ≤ s7 then (nth s0 s7.toNat).bind fun y => bif !(Op.bytesLess (ByteArray.toList y.1) aa.toList || decide (y.1 = aa)) then if 0 ≤ s7 then (nth s0 s7.toNat).bind fun y => if s5.length + [y].length ≤ lim then Ut n s0 (s5.append [y]) (K6.wrap (s7 + 1)) aa ab else none else none else Ut n s0 s5 (K6.wrap (s7 + 1)) aa ab else none else some s5 := by kernel_rfl
def ZBT : Yy := (144, Nz) :: ZBS
theorem ZBA : YA ZBT := cons_cons LT ZBz
def ZDo := FX.mk (false, false, [3, 22, 25, 27, 38, 41, 49, 66]) ZBT [] [some ZF, none] Tryz.f145 (shT [(true, ZF), (false, Zp)])
def Zht : Con := cR ZDo [Zn, Vv] true
theorem Tu : CO 145 Zht := ZyS ZBA
def LV (n : Nat) (a0 : Zu) (a1 : Y3) : Option (Zu × Int × Unit) := qR ZDo [Zn, Vv] n (a0, a1, ())
theorem Tv (n : Nat) (a0 a1) : LV n a0 a1 = if (0 : Nat) + List.length a0 ≤ lim then (J9 big a0).bind fun y => bif !y then some (a0, 2, ()) else (EX big a1).bind fun y => bif !y then some (a0, 2, ()) else (Co big a0 a1.2.1).bind fun y => bif !decide (a1.1 = 1) then bif decide (y < 0) then some (a0, 1, ()) else if 0 ≤ y then (nth a0 (Int.toNat y)).bind fun a => bif decide (a1.1 = 3) then if 0 ≤ y then (nth a0 (Int.toNat y)).bind fun b => (ZT big (K6.wrap (b.2.1 - a1.2.2.1)) 0 1000000000).bind fun c => bif !c then some (a0, 2, ()) else bif decide (y < 0) then bif decide (12 ≤ (↑(List.length a0) : Int)) then some (a0, 2, ()) else (Xo big a0 (a1.2.1, K6.wrap (b.2.1 - a1.2.2.1), ())).bind fun y => some (y, 0, ()) else (Xo big a0 (a1.2.1, K6.wrap (b.2.1 - a1.2.2.1), ())).bind fun y => some (y, 0, ()) else none else (ZT big (K6.wrap (a.2.1 + a1.2.2.1)) 0 1000000000).bind fun b => bif !b then some (a0, 2, ()) else bif decide (y < 0) then bif decide (12 ≤ (↑(List.length a0) : Int)) then some (a0, 2, ()) else (Xo big a0 (a1.2.1, K6.wrap (a.2.1 + a1.2.2.1), ())).bind fun y => some (y, 0, ()) else (Xo big a0 (a1.2.1, K6.wrap (a.2.1 + a1.2.2.1), ())).bind fun y => some (y, 0, ()) else none else (ZT big a1.2.2.1 0 1000000000).bind fun a => bif !a then some (a0, 2, ()) else bif decide (y < 0) then bif decide (12 ≤ (↑(List.length a0) : Int)) then some (a0, 2, ()) else (Xo big a0 a1.2).bind fun y => some (y, 0, ()) else (Xo big a0 a1.2).bind fun y => some (y, 0, ()) else none := by kernel_rfl
def ZDa : Yy := (145, Zht) :: ZBT
theorem ZCF : YA ZDa := cons_cons Tu ZBA
abbrev Jc : VS := (dp 6 (.own Zq :: .own Za :: dp 7 (.ro Yl :: .ro Za :: .ro Za :: dp 17 [])), [])
def ZA2 := FX.mk (false, false, [9, 999997]) ZDa [(4, Jc)] [some ZF, some Y0] Tryz.f80 (shT [(true, ZF), (true, Y0)])
def Tx : Con := cR ZA2 [Zn, Yl] true
theorem Zdr : CO 80 Tx := ZyS ZCF
def Ib (n : Nat) (a0 : Zu) (a1 : YW) : Option (Zu × Yq × Unit) := qR ZA2 [Zn, Yl] n (a0, a1, ())
def Jd (n : Nat) (s6 : List Ze) (s7 : List Int) (s15 : YW) (s16 s17 : Int) : Option (Zu × Yq × Unit) := rR ZA2 (zs [Zn, Yl]) 4 Jc n (s6, s7, s15, s16, s17, ()) ()
theorem Zds (n : Nat) (a0 a1) : Ib n a0 a1 = (Xa big a0).bind fun y => Jd n y [] a1 (↑(List.length a1) : Int) 0 := by kernel_rfl
theorem DP (n : Nat) (s6 s7 s15 s16 s17) : Jd (n + 1) s6 s7 s15 s16 s17 = bif decide (s17 < s16) then if 0 ≤ s17 then (nth s15 s17.toNat).bind fun y => (R4 big s6 y).bind fun y => if s7.length + (1 : Nat) ≤ ZsR then Jd n y.1 (s7.append [y.2.1]) s15 s16 (K6.wrap (s17 + 1)) else none else none else some (s6, s7, ()) := by kernel_rfl
def ZA3 : Yy := (80, Tx) :: ZDa
theorem ZAC : YA ZA3 := cons_cons Zdr ZCF
abbrev Je : VS := (.drop :: .ro Yl :: dp 4 (.own Zq :: .own Za :: .ro Za :: dp 28 []), [])
def ZA4 := FX.mk (false, false, []) ZA3 [(4, Je)] [some ZF, some Y0] Tryz.f82 (shT [(true, ZF), (true, Y0)])
def Ic : Con := cR ZA4 [Zn, Yl] true
theorem GW : CO 82 Ic := ZyS ZAC
def Aa (n : Nat) (a0 : Zu) (a1 : YW) : Option (Zu × Yq × Unit) := qR ZA4 [Zn, Yl] n (a0, a1, ())
def UT (n : Nat) (s1 : YW) (s6 : List Ze) (s7 : List Int) (s8 : Int) : Option (Zu × Yq × Unit) := rR ZA4 (zs [Zn, Yl]) 4 Je n (s1, s6, s7, s8, ()) ()
theorem GX (n : Nat) (a0 a1) : Aa n a0 a1 = if (0 : Nat) + List.length a0 ≤ lim then UT n a1 a0 [] 0 else none := by kernel_rfl
theorem V5 (n : Nat) (s1 s6 s7 s8) : UT (n + 1) s1 s6 s7 s8 = bif decide (s8 < (↑(List.length s1) : Int)) then if 0 ≤ s8 then (nth s1 s8.toNat).bind fun y => (LV big s6 y).bind fun y => if s7.length + (1 : Nat) ≤ lim then UT n s1 y.1 (s7.append [y.2.1]) (K6.wrap (s8 + 1)) else none else none else some (s6, s7, ()) := by kernel_rfl
def ZA5 : Yy := (82, Ic) :: ZA3
theorem ZAD : YA ZA5 := cons_cons GW ZAC
def ZDj := FX.mk (false, false, [1, 2, 4, 6]) ZA5 [] [none] Tryz.f210 (shO (shV ZG) [.mr YO])
def EY : Con := cA ZDj [.ro Yf, .mr YO] true
theorem EZ : CO 210 EY := ZBw ZAD
def ZzY : Yy := (210, EY) :: ZA5
theorem ZzZ : YA ZzY := cons_cons EZ ZAD
abbrev YJ : VS := (.ro Zn :: .is (.fn 210 [.ptr 0 0]) :: dp 5 (.ro Za :: .ro Za :: dp 10 []), [.vars [.ro Zy, .ro ZG, .ro Za]])
def ZyX := FX.mk (false, false, []) ZzY [(2, YJ)] [none] Tryz.f227 (shO (shV Zp) [.fn 210 [YO]])
def Wt : Con := cA ZyX [.ro Zn, .fn 210 [YO]] true
theorem UH : CO 227 Wt := ZBw ZzZ
def Xp (n : Nat) (a0 : Zu) (a1 : (Ya × Unit)) : Option (Int × (Ya × Unit) × Unit) := qA ZyX [.ro Zn, .fn 210 [YO]] n (a0, a1, ())
def YK (n : Nat) (s0 : Zu) (s7 s8 : Int) (aa : ByteArray) (ab : Bool) (ac : Int) : Option (Int × (Ya × Unit) × Unit) := rR ZyX [AP.enc (.ro Zn) (ZS Zn), AP.enc (.fn 210 [YO]) (ZS YO, ())] 2 YJ n (s0, s7, s8, ()) ((aa, ab, ac, ()), ())
theorem UI (n : Nat) (a0 a1) : Xp n a0 a1 = YK n a0 (↑(List.length a0) : Int) 0 a1.1.1 a1.1.2.1 a1.1.2.2.1 := by kernel_rfl
theorem XN (n : Nat) (s0 s7 s8 aa ab ac) : YK (n + 1) s0 s7 s8 aa ab ac = bif decide (s8 < s7) then if 0 ≤ s8 then (nth s0 s8.toNat).bind fun y => bif decide (y.1 = aa) then some (s8, ((aa, ab, ac, ()), ()), ()) else YK n s0 s7 (K6.wrap (s8 + 1)) aa ab ac else none else some ((-1), ((aa, ab, ac, ()), ()), ()) := by kernel_rfl
def ZyY : Yy := (227, Wt) :: ZzY
theorem Zy1 : YA ZyY := cons_cons UH ZzZ
abbrev YC : VS := (.is (.own 0 0) :: .is (.fn 210 [.ptr 1 0]) :: dp 3 (.ro Za :: .ro Za :: dp 35 []), [.arr Zq, .vars [.ro Zy, .ro ZG, .ro Za]])
def ZyT := FX.mk (false, false, [7, 999998]) ZyY [(5, YC)] [some ZF] Tryz.f209 (shO (shF ZF) [.fn 210 [YO]])
def Wj : Con := cA ZyT [.gv Yf, .fn 210 [YO]] true
theorem Ue : CO 209 Wj := ZBw Zy1
def Xk (n : Nat) (a0 : Zu) (a1 : (Ya × Unit)) : Option (Zu × (Ya × Unit) × Unit) := qA ZyT [.gv Yf, .fn 210 [YO]] n (a0, a1, ())
def Yn (n : Nat) (s5 s6 : Int) (b0 : List Ze) (aa : ByteArray) (ab : Bool) (ac : Int) : Option (Zu × (Ya × Unit) × Unit) := rR ZyT [AP.enc (.gv Yf) [], AP.enc (.fn 210 [YO]) (ZS YO, ())] 5 YC n (s5, s6, ()) (b0, (aa, ab, ac, ()), ())
theorem Uf (n : Nat) (a0 a1) : Xk n a0 a1 = (Xp big a0 a1).bind fun y => bif decide (y.1 = (-1)) then some (a0, y.2) else Yn n y.1 (K6.wrap (y.1 + 1)) a0 y.2.1.1.1 y.2.1.1.2.1 y.2.1.1.2.2.1 := by kernel_rfl
theorem XH (n : Nat) (s5 s6 b0 aa ab ac) : Yn (n + 1) s5 s6 b0 aa ab ac = bif decide (s6 < (↑b0.length : Int)) then if 0 ≤ s6 then if s6 < (↑b0.length : Int) then (nth b0 s6.toNat).bind fun y => bif !decide (y.1 = aa) then if 0 ≤ s5 then if s5 < (↑b0.length : Int) then (nth b0 s5.toNat).bind fun a => (BU b0 s5.toNat y).bind fun y => Yn n (K6.wrap (s5 + 1)) (K6.wrap (s6 + 1)) y aa ab ac else none else none else Yn n s5 (K6.wrap (s6 + 1)) b0 aa ab ac else none else none else if 0 ≤ s5 then if s5 ≤ (↑b0.length : Int) then if s5.toNat + (b0.length - s5.toNat) ≤ b0.length then if 0 ≤ s5 then if s5 ≤ (↑((List.take s5.toNat b0).append ((List.replicate (b0.length - s5.toNat) (ZS Zq)).append (List.drop (s5.toNat + (b0.length - s5.toNat)) b0))).length : Int) then some (List.take (s5.toNat - (0 : Nat)) (List.drop (0 : Nat) ((List.take s5.toNat b0).append ((List.replicate (b0.length - s5.toNat) (ZS Zq)).append (List.drop (s5.toNat + (b0.length - s5.toNat)) b0)))), ((aa, ab, ac, ()), ()), ()) else none else none else none else none else none := by kernel_rfl
def ZyU : Yy := (209, Wj) :: ZyY
theorem ZyZ : YA ZyU := cons_cons Ue Zy1
def ZC0 := FX.mk (false, false, [3, 12, 18, 24, 27, 29]) ZyU [] [some ZF] Tryz.f170 (shF ZF)
def ZfG : Con := cR ZC0 [Zn, YO] true
theorem Zhy : CO 170 ZfG := ZyS ZyZ
def NA (n : Nat) (a0 : Zu) (a1 : Ya) : Option Zu := qR ZC0 [Zn, YO] n (a0, a1, ())
theorem Zhz (n : Nat) (a0 a1) : NA n a0 a1 = (Xa big a0).bind fun y => (Vj big a0).bind fun a => bif !a then some y else (EQ big a1.1).bind fun c => bif !c then some y else (ES big a1.2.2.1).bind fun b => bif !b then some y else bif a1.2.1 then (Vk big a0 a1.1 a1.2.2.1).bind fun y => some y else (Xk big y (a1, ())).bind fun y => some y.1 := by kernel_rfl
def ZBU : Yy := (170, ZfG) :: ZyU
theorem ZBB : YA ZBU := cons_cons Zhy ZyZ
abbrev UV : VS := (.drop :: .ro Yo :: dp 3 (.own Zq :: .ro Za :: dp 16 []), [])
def Zzs := FX.mk (false, false, []) ZBU [(3, UV)] [some ZF] Tryz.f118 (shF ZF)
def LX : Con := cR Zzs [Zn, Yo] true
theorem Rr : CO 118 LX := ZyS ZBB
def C3 (n : Nat) (a0 : Zu) (a1 : YG) : Option Zu := qR Zzs [Zn, Yo] n (a0, a1, ())
def UW (n : Nat) (s1 : YG) (s5 : List Ze) (s6 : Int) : Option Zu := rR Zzs (zs [Zn, Yo]) 3 UV n (s1, s5, s6, ()) ()
theorem Rs (n : Nat) (a0 a1) : C3 n a0 a1 = (Xa big a0).bind fun y => UW n a1 y (K6.wrap ((↑(List.length a1) : Int) - 1)) := by kernel_rfl
theorem AR (n : Nat) (s1 s5 s6) : UW (n + 1) s1 s5 s6 = bif decide (0 ≤ s6) then if 0 ≤ s6 then (nth s1 s6.toNat).bind fun y => (NA big s5 y).bind fun y => UW n s1 y (K6.wrap (s6 - 1)) else none else some s5 := by kernel_rfl
def Zzt : Yy := (118, LX) :: ZBU
theorem ZzH : YA Zzt := cons_cons Rr ZBB
abbrev AS : VS := (.ro Zn :: dp 2 (.is (.ptr 0 0) :: .drop :: .own Zq :: .ro Za :: dp 50 []), [.vars [.ro Zy, .ro ZG, .ro Za]])
def ZBV := FX.mk (false, false, [3, 11, 17, 25, 28, 30, 46]) Zzt [(7, AS)] [some ZF] Tryz.f81 (shF ZF)
def ZfI : Con := cR ZBV [Zn, YO] true
theorem ZhB : CO 81 ZfI := ZyS ZzH
def Gd (n : Nat) (a0 : Zu) (a1 : Ya) : Option Zu := qR ZBV [Zn, YO] n (a0, a1, ())
def Uu (n : Nat) (s0 : Zu) (s5 : List Ze) (s6 : Int) (aa : ByteArray) (ab : Bool) (ac : Int) : Option Zu := rR ZBV (zs [Zn, YO]) 7 AS n (s0, s5, s6, ()) ((aa, ab, ac, ()), ())
theorem LY (n : Nat) (a0 a1) : Gd n a0 a1 = (J9 big a0).bind fun y => bif !y then if (0 : Nat) + List.length a0 ≤ lim then some a0 else none else (Cn big a1.1).bind fun y => bif !y then if (0 : Nat) + List.length a0 ≤ lim then some a0 else none else (ZT big a1.2.2.1 0 1000000000).bind fun y => bif !y then if (0 : Nat) + List.length a0 ≤ lim then some a0 else none else bif a1.2.1 then (Xo big a0 (a1.1, a1.2.2)).bind fun y => some y else Uu n a0 [] 0 a1.1 a1.2.1 a1.2.2.1 := by kernel_rfl
theorem UX (n : Nat) (s0 s5 s6 aa ab ac) : Uu (n + 1) s0 s5 s6 aa ab ac = bif decide (s6 < (↑(List.length s0) : Int)) then if 0 ≤ s6 then (nth s0 s6.toNat).bind fun y => bif !decide (y.1 = aa) then if 0 ≤ s6 then (nth s0 s6.toNat).bind fun y => if s5.length + [y].length ≤ lim then Uu n s0 (s5.append [y]) (K6.wrap (s6 + 1)) aa ab ac else none else none else Uu n s0 s5 (K6.wrap (s6 + 1)) aa ab ac else none else some s5 := by kernel_rfl
def ZBW : Yy := (81, ZfI) :: Zzt
theorem ZBC : YA ZBW := cons_cons ZhB ZzH
abbrev UY : VS := (.drop :: .ro Yo :: dp 3 (.own Zq :: .ro Za :: dp 17 []), [])
def Zzu := FX.mk (false, false, []) ZBW [(3, UY)] [some ZF] Tryz.f27 (shF ZF)
def C4 : Con := cR Zzu [Zn, Yo] true
theorem DQ : CO 27 C4 := ZyS ZBC
def X6 (n : Nat) (a0 : Zu) (a1 : YG) : Option Zu := qR Zzu [Zn, Yo] n (a0, a1, ())
def Vl (n : Nat) (s1 : YG) (s5 : List Ze) (s6 : Int) : Option Zu := rR Zzu (zs [Zn, Yo]) 3 UY n (s1, s5, s6, ()) ()
theorem DR (n : Nat) (a0 a1) : X6 n a0 a1 = if (0 : Nat) + List.length a0 ≤ lim then Vl n a1 a0 (K6.wrap ((↑(List.length a1) : Int) - 1)) else none := by kernel_rfl
theorem W6 (n : Nat) (s1 s5 s6) : Vl (n + 1) s1 s5 s6 = bif decide (0 ≤ s6) then if 0 ≤ s6 then (nth s1 s6.toNat).bind fun y => (Gd big s5 y).bind fun y => Vl n s1 y (K6.wrap (s6 - 1)) else none else some s5 := by kernel_rfl
def Zzv : Yy := (27, C4) :: ZBW
theorem ZzI : YA Zzv := cons_cons DQ ZBC
def ZC1 := FX.mk (false, false, []) Zzv [] [none] Tryz.f138 (shV YO)
def ZfL : Con := cR ZC1 [Zn, Zy] true
theorem ZhD : CO 138 ZfL := ZyS ZzI
def NB (n : Nat) (a0 : Zu) (a1 : ByteArray) : Option Ya := qR ZC1 [Zn, Zy] n (a0, a1, ())
theorem ZhE (n : Nat) (a0 a1) : NB n a0 a1 = (Cl big a0 a1).bind fun y => bif decide (y < 0) then some (a1, false, 0, ()) else if 0 ≤ y then (nth a0 (Int.toNat y)).bind fun y => some (a1, true, y.2) else none := by kernel_rfl
def ZBX : Yy := (138, ZfL) :: Zzv
theorem ZBD : YA ZBX := cons_cons ZhD ZzI
abbrev Q6 : VS := (dp 6 (.own Zq :: .own ZH :: dp 5 (.ro Yl :: .ro Za :: .ro Za :: dp 19 [])), [])
def Zz0 := FX.mk (false, false, [9, 21, 999997]) ZBX [(4, Q6)] [some ZF, some WF] Tryz.f77 (shT [(true, ZF), (true, WF)])
def OI : Con := cR Zz0 [Zn, Yl] true
theorem TF : CO 77 OI := ZyS ZBD
def E0 (n : Nat) (a0 : Zu) (a1 : YW) : Option (Zu × YG × Unit) := qR Zz0 [Zn, Yl] n (a0, a1, ())
def Q7 (n : Nat) (s6 : List Ze) (s7 : List Zw) (s13 : YW) (s14 s15 : Int) : Option (Zu × YG × Unit) := rR Zz0 (zs [Zn, Yl]) 4 Q6 n (s6, s7, s13, s14, s15, ()) ()
theorem TG (n : Nat) (a0 a1) : E0 n a0 a1 = (Xa big a0).bind fun y => Q7 n y [] a1 (↑(List.length a1) : Int) 0 := by kernel_rfl
theorem Cp (n : Nat) (s6 s7 s13 s14 s15) : Q7 (n + 1) s6 s7 s13 s14 s15 = bif decide (s15 < s14) then if 0 ≤ s15 then (nth s13 s15.toNat).bind fun y => (NB big s6 y.2.1).bind fun a => if s7.length + [a].length ≤ ZsR then (R4 big s6 y).bind fun y => Q7 n y.1 (s7.append [a]) s13 s14 (K6.wrap (s15 + 1)) else none else none else some (s6, s7, ()) := by kernel_rfl
def Zz1 : Yy := (77, OI) :: ZBX
theorem Zz2 : YA Zz1 := cons_cons TF ZBD
def ZC2 := FX.mk (false, false, []) Zz1 [] [none] Tryz.f151 (shV YO)
def ZfO : Con := cR ZC2 [Zn, Zy] true
theorem ZhG : CO 151 ZfO := ZyS Zz2
def Ge (n : Nat) (a0 : Zu) (a1 : ByteArray) : Option Ya := qR ZC2 [Zn, Zy] n (a0, a1, ())
theorem L3 (n : Nat) (a0 a1) : Ge n a0 a1 = (Co big a0 a1).bind fun y => bif decide (y < 0) then some (a1, false, 0, ()) else if 0 ≤ y then (nth a0 (Int.toNat y)).bind fun y => some (a1, true, y.2) else none := by kernel_rfl
def ZBY : Yy := (151, ZfO) :: Zz1
theorem ZBE : YA ZBY := cons_cons ZhG Zz2
abbrev Q8 : VS := (.drop :: .ro Yl :: dp 4 (.own Zq :: .own ZH :: .ro Za :: dp 31 []), [])
def Zz3 := FX.mk (false, false, []) ZBY [(4, Q8)] [some ZF, some WF] Tryz.f90 (shT [(true, ZF), (true, WF)])
def OK : Con := cR Zz3 [Zn, Yl] true
theorem TJ : CO 90 OK := ZyS ZBE
def AV (n : Nat) (a0 : Zu) (a1 : YW) : Option (Zu × YG × Unit) := qR Zz3 [Zn, Yl] n (a0, a1, ())
def VT (n : Nat) (s1 : YW) (s6 : List Ze) (s7 : List Zw) (s8 : Int) : Option (Zu × YG × Unit) := rR Zz3 (zs [Zn, Yl]) 4 Q8 n (s1, s6, s7, s8, ()) ()
theorem E1 (n : Nat) (a0 a1) : AV n a0 a1 = if (0 : Nat) + List.length a0 ≤ lim then VT n a1 a0 [] 0 else none := by kernel_rfl
theorem Vx (n : Nat) (s1 s6 s7 s8) : VT (n + 1) s1 s6 s7 s8 = bif decide (s8 < (↑(List.length s1) : Int)) then if 0 ≤ s8 then (nth s1 s8.toNat).bind fun y => (Ge big s6 y.2.1).bind fun y => if s7.length + [y].length ≤ lim then if 0 ≤ s8 then (nth s1 s8.toNat).bind fun a => (LV big s6 a).bind fun b => VT n s1 b.1 (s7.append [y]) (K6.wrap (s8 + 1)) else none else none else none else some (s6, s7, ()) := by kernel_rfl
def Zz4 : Yy := (90, OK) :: ZBY
theorem Zz5 : YA Zz4 := cons_cons TJ ZBE
abbrev AW : VS := (.ro Zg :: dp 4 (.own ZZ :: dp 3 (.ro Yx :: .ro Za :: .ro Za :: dp 17 [])), [])
def ZBZ := FX.mk (false, false, [999997]) Zz4 [(3, AW)] [some EE] Tryz.f78 (shF EE)
def NC : Con := cR ZBZ [Zg, Yx] true
theorem L5 : CO 78 NC := ZyS Zz5
def Gg (n : Nat) (a0 : Zt) (a1 : Yq) : Option YW := qR ZBZ [Zg, Yx] n (a0, a1, ())
def Kx (n : Nat) (s0 : Zt) (s5 : List ZI) (s9 : Yq) (s10 s11 : Int) : Option YW := rR ZBZ (zs [Zg, Yx]) 3 AW n (s0, s5, s9, s10, s11, ()) ()
theorem ZhI (n : Nat) (a0 a1) : Gg n a0 a1 = Kx n a0 [] a1 (↑(List.length a1) : Int) 0 := by kernel_rfl
theorem E2 (n : Nat) (s0 s5 s9 s10 s11) : Kx (n + 1) s0 s5 s9 s10 s11 = bif decide (s11 < s10) then if 0 ≤ s11 then (nth s9 s11.toNat).bind fun y => (Ov big y 0 (K6.wrap ((↑(List.length s0) : Int) - 1))).bind fun a => bif a then if 0 ≤ y then (nth s0 (Int.toNat y)).bind fun y => if s5.length + List.length y.2.2.1 ≤ ZsR then Kx n s0 (s5.append y.2.2.1) s9 s10 (K6.wrap (s11 + 1)) else none else none else Kx n s0 s5 s9 s10 (K6.wrap (s11 + 1)) else none else some s5 := by kernel_rfl
def ZB0 : Yy := (78, NC) :: Zz4
theorem ZBF : YA ZB0 := cons_cons L5 Zz5
abbrev Jh : VS := (.ro Zg :: .ro Za :: dp 4 (.own Za :: dp 29 []), [])
def ZA6 := FX.mk (false, false, []) ZB0 [(4, Jh)] [some Y0, none] Tryz.f140 (shT [(true, Y0), (false, ZG)])
def Id : Con := cR ZA6 [Zg, Zp] true
theorem G0 : CO 140 Id := ZyS ZBF
def C6 (n : Nat) (a0 : Zt) (a1 : Int) : Option (Yq × Bool × Unit) := qR ZA6 [Zg, Zp] n (a0, a1, ())
def Ji (n : Nat) (s0 : Zt) (s1 : Int) (s6 : List Int) : Option (Yq × Bool × Unit) := rR ZA6 (zs [Zg, Zp]) 4 Jh n (s0, s1, s6, ()) ()
theorem Zdx (n : Nat) (a0 a1) : C6 n a0 a1 = (Ov big a1 0 (K6.wrap ((↑(List.length a0) : Int) - 1))).bind fun y => bif !y then some ([], false, ()) else Ji n a0 a1 [a1] := by kernel_rfl
theorem DS (n : Nat) (s0 s1 s6) : Ji (n + 1) s0 s1 s6 = bif decide (0 < s1) then if 0 ≤ s1 then (nth s0 s1.toNat).bind fun y => (Ov big y.1 0 (K6.wrap (s1 - 1))).bind fun y => bif !y then some ([], false, ()) else if 0 ≤ s1 then (nth s0 s1.toNat).bind fun y => if s6.length + [y.1].length ≤ lim then Ji n s0 y.1 (s6.append [y.1]) else none else none else none else some (s6, true, ()) := by kernel_rfl
def ZA7 : Yy := (140, Id) :: ZB0
theorem ZAE : YA ZA7 := cons_cons G0 ZBF
abbrev UZ : VS := (.ro Yx :: .ro Za :: dp 5 (.ro Za :: .ro Za :: dp 10 []), [])
def Zzw := FX.mk (false, false, []) ZA7 [(2, UZ)] [none] Tryz.f137 (shV Zp)
def C7 : Con := cR Zzw [Yx, Zp] true
theorem DT : CO 137 C7 := ZyS ZAE
def Jk (n : Nat) (a0 : Yq) (a1 : Int) : Option Int := qR Zzw [Yx, Zp] n (a0, a1, ())
def U8 (n : Nat) (s0 : Yq) (s1 s7 s8 : Int) : Option Int := rR Zzw (zs [Yx, Zp]) 2 UZ n (s0, s1, s7, s8, ()) ()
theorem Rv (n : Nat) (a0 a1) : Jk n a0 a1 = U8 n a0 a1 (↑(List.length a0) : Int) 0 := by kernel_rfl
theorem AX (n : Nat) (s0 s1 s7 s8) : U8 (n + 1) s0 s1 s7 s8 = bif decide (s8 < s7) then if 0 ≤ s8 then (nth s0 s8.toNat).bind fun y => bif decide (s1 = y) then some s8 else U8 n s0 s1 s7 (K6.wrap (s8 + 1)) else none else some (-1) := by kernel_rfl
def Zzx : Yy := (137, C7) :: ZA7
theorem ZzJ : YA Zzx := cons_cons DT ZAE
def ZzK := FX.mk (false, false, []) Zzx [] [none] Tryz.f141 (shV ZG)
def DW : Con := cR ZzK [Yx, Zp] true
theorem If : CO 141 DW := ZyS ZzJ
def DX (n : Nat) (a0 : Yq) (a1 : Int) : Option Bool := qR ZzK [Yx, Zp] n (a0, a1, ())
theorem Ig (n : Nat) (a0 a1) : DX n a0 a1 = (Jk big a0 a1).bind fun y => some (decide (0 ≤ y)) := by kernel_rfl
def Zy4 : Yy := (141, DW) :: Zzx
theorem Zzc : YA Zy4 := cons_cons If ZzJ
def ZCG := FX.mk (false, false, []) Zy4 [] [none] Tryz.f79 (shV ZG)
def Ih : Con := cR ZCG [Zg, Zp, Zp] true
theorem G2 : CO 79 Ih := ZyS Zzc
def C8 (n : Nat) (a0 : Zt) (a1 a2 : Int) : Option Bool := qR ZCG [Zg, Zp, Zp] n (a0, a1, a2, ())
theorem Zdz (n : Nat) (a0 a1 a2) : C8 n a0 a1 a2 = (C6 big a0 a1).bind fun y => bif y.2.1 then (DX big y.1 a2).bind fun y => some y else some false := by kernel_rfl
def ZA8 : Yy := (79, Ih) :: Zy4
theorem ZAF : YA ZA8 := cons_cons G2 Zzc
abbrev Vy : VS := (.is (.own 0 0) :: .drop :: .ro Za :: .ro Za :: dp 24 [], [.arr Zp])
def Zzd := FX.mk (false, false, []) ZA8 [(1, Vy)] [] Tryz.f189 (shO shN [.io Zp])
def E4 : Con := cA Zzd [.io Zp] true
theorem L8 : CO 189 E4 := ZBw ZAF
def Ab (n : Nat) (a0 : Yq) : Option (Unit × Yq × Unit) := qA Zzd [.io Zp] n (a0, ())
def Vz (n : Nat) (s2 s3 : Int) (b0 : List Int) : Option (Unit × Yq × Unit) := rR Zzd [AP.enc (.io Zp) []] 1 Vy n (s2, s3, ()) (b0, ())
theorem L9 (n : Nat) (a0) : Ab n a0 = Vz n 0 (K6.wrap ((↑(List.length a0) : Int) - 1)) a0 := by kernel_rfl
theorem KU (n : Nat) (s2 s3 b0) : Vz (n + 1) s2 s3 b0 = bif decide (s2 < s3) then if 0 ≤ s3 then if s3 < (↑b0.length : Int) then (nth b0 s3.toNat).bind fun y => if 0 ≤ s2 then if s2 < (↑b0.length : Int) then (nth b0 s2.toNat).bind fun a => if 0 ≤ s2 then if s2 < (↑b0.length : Int) then (nth b0 s2.toNat).bind fun c => (BU b0 s2.toNat y).bind fun y => if 0 ≤ s3 then if s3 < (↑y.length : Int) then (nth y s3.toNat).bind fun b => (BU y s3.toNat a).bind fun y => Vz n (K6.wrap (s2 + 1)) (K6.wrap (s3 - 1)) y else none else none else none else none else none else none else none else none else some ((), b0, ()) := by kernel_rfl
def Zze : Yy := (189, E4) :: ZA8
theorem Zzi : YA Zze := cons_cons L8 ZAF
def ZDk := FX.mk (false, false, []) Zze [] [some Y0] Tryz.f136 (shF Y0)
def ZkC : Con := cR ZDk [Zg, Zp] true
theorem ZkD : CO 136 ZkC := ZyS Zzi
def TQ (n : Nat) (a0 : Zt) (a1 : Int) : Option Yq := qR ZDk [Zg, Zp] n (a0, a1, ())
theorem ZkE (n : Nat) (a0 a1) : TQ n a0 a1 = (C6 big a0 a1).bind fun y => bif !y.2.1 then some [] else (Ab big y.1).bind fun y => if 1 ≤ (↑(List.length y.2.1) : Int) then some (List.take (List.length y.2.1 - Int.toNat 1) (List.drop (Int.toNat 1) y.2.1)) else none := by kernel_rfl
def ZCH : Yy := (136, ZkC) :: Zze
theorem ZCi : YA ZCH := cons_cons ZkD Zzi
def ZCj := FX.mk (false, false, []) ZCH [] [some Y0] Tryz.f75 (shF Y0)
def E5 : Con := cR ZCj [Zg, Zp, Zp] true
theorem E6 : CO 75 E5 := ZyS ZCi
def AY (n : Nat) (a0 : Zt) (a1 a2 : Int) : Option Yq := qR ZCj [Zg, Zp, Zp] n (a0, a1, a2, ())
theorem TT (n : Nat) (a0 a1 a2) : AY n a0 a1 a2 = (C8 big a0 a1 a2).bind fun y => bif !y then some [] else (TQ big a0 a1).bind fun y => (Jk big y a2).bind fun a => if 0 ≤ K6.wrap (a + 1) then if K6.wrap (a + 1) ≤ (↑(List.length y) : Int) then some (List.take (List.length y - (K6.wrap (a + 1)).toNat) (List.drop (K6.wrap (a + 1)).toNat y)) else none else none := by kernel_rfl
def Zz6 : Yy := (75, E5) :: ZCH
theorem Zz7 : YA Zz6 := cons_cons E6 ZCi
abbrev Q9 : VS := (.ro Zg :: .ro Za :: dp 3 (.ro Za :: dp 30 []), [])
def Zz8 := FX.mk (false, false, []) Zz6 [(2, Q9)] [none] Tryz.f84 (shV Zp)
def A4 : Con := cR Zz8 [Zg, Zp] true
theorem Ac : CO 84 A4 := ZyS Zz7
def Uv (n : Nat) (a0 : Zt) (a1 : Int) : Option Int := qR Zz8 [Zg, Zp] n (a0, a1, ())
def VU (n : Nat) (s0 : Zt) (s1 s5 : Int) : Option Int := rR Zz8 (zs [Zg, Zp]) 2 Q9 n (s0, s1, s5, ()) ()
theorem E7 (n : Nat) (a0 a1) : Uv n a0 a1 = VU n a0 a1 0 := by kernel_rfl
theorem XR (n : Nat) (s0 s1 s5) : VU (n + 1) s0 s1 s5 = bif !decide (s1 = 0) then (ZT big s1 0 (K6.wrap ((↑(List.length s0) : Int) - 1))).bind fun y => bif !y then some (-1) else if 0 ≤ s1 then (nth s0 s1.toNat).bind fun y => (ZT big y.1 0 (K6.wrap (s1 - 1))).bind fun y => bif !y then some (-1) else if 0 ≤ s1 then (nth s0 s1.toNat).bind fun y => VU n s0 y.1 (K6.wrap (s5 + 1)) else none else none else bif decide ((↑(List.length s0) : Int) = 0) then some (-1) else some s5 := by kernel_rfl
def Zz9 : Yy := (84, A4) :: Zz6
theorem ZAa : YA Zz9 := cons_cons Ac Zz7
abbrev Jl : VS := (.ro Zg :: .ro Za :: .ro Za :: dp 23 [], [])
def ZA9 := FX.mk (false, false, []) Zz9 [(3, Jl)] [none] Tryz.f31 (shV ZG)
def Ad : Con := cR ZA9 [Zg, Zp, Zp] true
theorem Ka : CO 31 Ad := ZyS ZAa
def WH (n : Nat) (a0 : Zt) (a1 a2 : Int) : Option Bool := qR ZA9 [Zg, Zp, Zp] n (a0, a1, a2, ())
def Qa (n : Nat) (s0 : Zt) (s1 s2 : Int) : Option Bool := rR ZA9 (zs [Zg, Zp, Zp]) 3 Jl n (s0, s1, s2, ()) ()
theorem G3 (n : Nat) (a0 a1 a2) : WH n a0 a1 a2 = (Uv big a0 a1).bind fun y => bif decide (y < 0) then some false else Qa n a0 a1 a2 := by kernel_rfl
theorem KL (n : Nat) (s0 s1 s2) : Qa (n + 1) s0 s1 s2 = bif decide (0 < s1) then bif !decide (s1 = s2) then if 0 ≤ s1 then (nth s0 s1.toNat).bind fun y => Qa n s0 y.1 s2 else none else some (decide (s1 = s2)) else some (decide (s1 = s2)) := by kernel_rfl
def ZBa : Yy := (31, Ad) :: Zz9
theorem ZAG : YA ZBa := cons_cons Ka ZAa
end
end Go.Sx.Tryz
