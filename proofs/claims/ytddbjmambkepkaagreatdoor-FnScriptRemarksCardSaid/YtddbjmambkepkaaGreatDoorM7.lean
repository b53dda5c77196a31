/- A region whose order is drawn: any order comes to the same. -/
import Derived.Test.YtddbjmambkepkaaGreatDoorM6
set_option linter.unusedVariables false
set_option linter.unusedSimpArgs false
namespace Go.Sx
open Go
noncomputable section
variable {R : Type} {E : Env}
def Zpt (sl : List SV) : Operand → SV := (⟨sl, []⟩ : St).get
theorem Zd9 (s : St) : s.get = Zpt s.slots := by funext x; cases x <;> rfl
theorem PY (sl : List SV) : Gt (Zpt sl) := ⟨fun _ => rfl, fun _ => rfl⟩
def Zaz (sl : List SV) (d : Option Tmp) (v : SV) : List SV := match d with
 | some t => upd sl t v
 | none => sl
theorem HV (sl : List SV) (h : List Blk) (d : Option Tmp) (v : SV) : St.put ⟨sl, h⟩ d v = ⟨Zaz sl d v, h⟩ := by cases d <;> rfl
theorem ZiL {α : Type} : ∀ (l : List α) {n m : Nat} (x y : α), n ≠ m → upd (upd l n x) m y = upd (upd l m y) n x
 | [], _, _, _, _, _ => rfl
 | z :: l, 0, 0, _, _, h => absurd rfl h
 | z :: l, 0, m + 1, _, _, _ => rfl
 | z :: l, n + 1, 0, _, _, _ => rfl
 | z :: l, n + 1, m + 1, x, y, h => by simp only [upd]; rw [ZiL l x y (by omega)]
theorem Zlh (sl : List SV) {a b : Option Tmp} (x y : SV) (h : ∀ d, a = some d → b ≠ some d) : Zaz (Zaz sl a x) b y = Zaz (Zaz sl b y) a x := by
 cases a with
 | none => rfl
 | some d =>
  cases b with
  | none => rfl
  | some e => exact ZiL sl x y (fun q => h d rfl (by rw [q]))
theorem ZiM {sl : List SV} {d : Option Tmp} {v : SV} {t : Nat} (h : d ≠ some t) : nth (Zaz sl d v) t = nth sl t := by
 cases d with
 | none => rfl
 | some e => exact ZM (fun q => h (by rw [q]))
def Zmx (ops : Array Oper) (o : Oper) (sl : List SV) : Option Bool :=
 match o.guard with
 | none => some true
 | some (j, want) => match WG ops.toList j with
  | none => none
  | some d => match nth sl d with
   | some (.val .bool b) => some ((b : Bool) == want)
   | some (.tup []) => some false
   | _ => none
def WM (E : Env) (ops : Array Oper) (o : Oper) (sl : List SV) (h : List Blk) (K : SV → List Blk → Option R) : Option R :=
 match Zmx ops o sl with
 | none => none
 | some true => ZY E o (Zpt sl) h K
 | some false => K (.tup []) h
theorem Pe (ops : Array Oper) (o : Oper) (s : St) (K : St → Option R) : LF E ops.toList o s K = WM E ops o s.slots s.heap fun v h => K ⟨Zaz s.slots o.dst v, h⟩ := by
 unfold LF WM Zmx;cases hg : o.guard with
 | none => simp only [Zkx, Zd9, HV]
 | some q =>
  obtain ⟨j, want⟩ := q;dsimp only;cases hd : WG ops.toList j with
  | none => rfl
  | some d =>
   dsimp only;cases hn : nth s.slots d with
   | none => rfl
   | some v =>
    cases v with
    | val t b =>
     cases t with
     | bool =>
      have hp : ∀ c : Bool, b = c → s.put (some d) (.val .bool c) = s := by
       intro c hc;show (⟨upd s.slots d (.val .bool c), s.heap⟩ : St) = s;rw [HP (by rw [← hc]; exact hn)]
      have hq : ∀ v, s.put o.dst v = ⟨Zaz s.slots o.dst v, s.heap⟩ := fun v => HV s.slots s.heap _ _;have b0 : Bool := b;rcases Bool.eq_false_or_eq_true (b : Bool) with hb | hb
      ·rw [hp true hb, hb]
       cases want <;> simp only [cond_true, cond_false, Zkx, Zd9, HV, hq] <;> rfl
      ·rw [hp false hb, hb]
       cases want <;> simp only [cond_true, cond_false, Zkx, Zd9, HV, hq] <;> rfl
     | _ => rfl
    | tup l =>
     cases l with
     | nil => exact congrArg K (HV s.slots s.heap _ _)
     | cons _ _ => rfl
    | _ => rfl
theorem Vb {α : Type} (a : Array α) (i : Nat) : nth a.toList i = a[i]? := by
 have : ∀ (l : List α) (i : Nat), nth l i = l[i]? := by
  intro l
  induction l with
  | nil => intro i; cases i <;> rfl
  | cons x l ih => intro i; cases i with
   | zero => rfl
   | succ i => simp only [nth]; rw [ih]; simp
 rw [this, Array.getElem?_toList]
theorem FZ {ops : Array Oper} {o : Oper} {sl sl' : List SV} (hs : ∀ t ∈ o.looksAt ops, nth sl t = nth sl' t) (h : List Blk) (K : SV → List Blk → Option R) : WM E ops o sl h K = WM E ops o sl' h K := by
 have hg : Zmx ops o sl = Zmx ops o sl' := by
  unfold Zmx;cases hg : o.guard with
  | none => rfl
  | some q =>
   obtain ⟨j, want⟩ := q;dsimp only;cases hd : WG ops.toList j with
   | none => rfl
   | some d =>
    dsimp only;rw [hs d];unfold Oper.looksAt;rw [hg];refine List.mem_append_right _ ?_;unfold WG at hd;rw [Vb] at hd;simp [hd]
 have he : ZY E o (Zpt sl) h K = ZY E o (Zpt sl') h K := ZhM (fun x hx => by
  cases x with
  | tmp t =>
   show (nth sl t).getD .dead = (nth sl' t).getD .dead;rw [hs t];unfold Oper.looksAt;exact List.mem_append_left _ (List.mem_filterMap.2 ⟨.tmp t, Array.mem_toList_iff.2 hx, rfl⟩)
  | _ => rfl) h K
 unfold WM;rw [hg, he]
theorem D6 (hE : ZfP E) {ops : Array Oper} {o : Oper} {sl : List SV} {h : List Blk} {K K' : SV → List Blk → Option R} {r : R} (hk : ∀ v h, K v h = some r → K' v h = some r) (he : WM E ops o sl h K = some r) : WM E ops o sl h K' = some r := by
 unfold WM at he ⊢
 split at he
 ·cases he
 ·exact ZjR hE hk he
 ·exact hk _ _ he
theorem ZjW (hE : ZfP E) {ops : Array Oper} {o : Oper} {sl : List SV} {h : List Blk} {K : SV → List Blk → Option R} {r : R} (he : WM E ops o sl h K = some r) : ∃ v h, K v h = some r := by
 unfold WM at he
 split at he
 ·cases he
 ·exact ZjS hE he
 ·exact ⟨_, _, he⟩
def ZiN (E : Env) (ops : Array Oper) (o : Oper) (sl : List SV) (h : List Blk) : Option SV :=
 match Zmx ops o sl with
 | none => none
 | some true => ZY E o (Zpt sl) h fun v _ => some v
 | some false => some (.tup [])
theorem Yy {ops : Array Oper} {o : Oper} (hl : X4 E o.op = true) (sl : List SV) (h : List Blk) (K : SV → List Blk → Option R) : WM E ops o sl h K = (ZiN E ops o sl h).bind fun v => K v h := by
 unfold WM ZiN
 split
 ·rfl
 ·exact Zk8 (PY sl) hl h K
 ·rfl
theorem Zli {ops : Array Oper} {o : Oper} (hl : X4 E o.op = true) {sl : List SV} {h t : List Blk} {v : SV} (he : ZiN E ops o sl h = some v) : ZiN E ops o sl (h ++ t) = some v := by
 unfold ZiN at he ⊢
 split at he
 ·cases he
 ·exact ZjU (PY sl) hl he
 ·exact he
theorem PZ {ops : Array Oper} {o : Oper} (hl : UW o.op = true) (sl : List SV) (h h' : List Blk) : ZiN E ops o sl h = ZiN E ops o sl h' := by
 unfold ZiN
 split
 ·rfl
 ·exact Zm1 hl h h'
 ·rfl
theorem Zoz {ops : Array Oper} {o : Oper} (hv : vOp E o.op = true) {sl : List SV} {h h' : List Blk} (hk : VK h h') {v : SV} (he : ZiN E ops o sl h = some v) : ZiN E ops o sl h' = some v := by
 unfold ZiN at he ⊢
 split at he
 ·cases he
 ·exact ZpH hv hk he
 ·exact he
theorem ZoA {ops : Array Oper} {o : Oper} (hv : Zmw E o.op = true) {sl : List SV} {h h' : List Blk} (hk : VP E h h') {v : SV} (he : ZiN E ops o sl h = some v) : ZiN E ops o sl h' = some v := by
 unfold ZiN at he ⊢
 split at he
 ·cases he
 ·exact Zoy hv hk he
 ·exact he
theorem ZjX (hE : ZfP E) {ops : Array Oper} {a b : Oper} {sl : List SV} {h : List Blk} {K : SV → SV → List Blk → Option R} {r : R} (hh : ZkC E a.op b.op = true)
  (he : (WM E ops a sl h fun v h1 => WM E ops b sl h1 fun u h2 => K v u h2) = some r) : (WM E ops b sl h fun u h1 => WM E ops a sl h1 fun v h2 => K v u h2) = some r := by
 simp only [ZkC, Bool.or_eq_true, Bool.and_eq_true] at hh;have first : UW a.op = true → (WM E ops b sl h fun u h1 => WM E ops a sl h1 fun v h2 => K v u h2) = some r := fun ha => by
  rw [Yy (LS ha)] at he;obtain ⟨v, h1, h2⟩ := Option.bind_eq_some_iff.1 he;refine D6 hE (fun u h' hk => ?_) h2;rw [Yy (LS ha), PZ ha sl h' h, h1];exact hk
 rcases hh with (((ha | hb) | ⟨ha, hb⟩) | ⟨ha, hb⟩) | ⟨ha, hb⟩
 rotate_left 4
 ·have ha' := Jv (ZiK ha)
  rw [Yy ha'] at he;obtain ⟨v, h1, h2⟩ := Option.bind_eq_some_iff.1 he;unfold WM at h2 ⊢;cases hgb : Zmx ops b sl with
  | none => rw [hgb] at h2; cases h2
  | some q =>
   rw [hgb] at h2;cases q with
   | false =>
    show WM E ops a sl h _ = some r;rw [Yy ha', h1];exact h2
   | true =>
    refine Zlg hE (PY sl) hb (fun u h' hvk hk => ?_) h2;show WM E ops a sl h' _ = some r;rw [Yy ha', ZoA ha hvk h1];exact hk
 rotate_left 3
 ·rw [Yy (Jv ha)] at he
  obtain ⟨v, h1, h2⟩ := Option.bind_eq_some_iff.1 he;unfold WM at h2 ⊢;cases hgb : Zmx ops b sl with
  | none => rw [hgb] at h2; cases h2
  | some q =>
   rw [hgb] at h2;cases q with
   | false =>
    show WM E ops a sl h _ = some r;rw [Yy (Jv ha), h1];exact h2
   | true =>
    refine Zle hE (PY sl) hb (fun u h' hvk hk => ?_) h2;show WM E ops a sl h' _ = some r;rw [Yy (Jv ha), Zoz ha hvk h1];exact hk
 ·exact first ha
 ·simp only [Yy (o := b) (LS hb)] at he ⊢
  obtain ⟨v, h1, hx⟩ := ZjW hE he;obtain ⟨u, hu, _⟩ := Option.bind_eq_some_iff.1 hx;rw [PZ hb sl h1 h] at hu;rw [hu];refine D6 hE (fun v' h' hk => ?_) he;rw [PZ hb sl h' h, hu] at hk;exact hk
 ·rw [Yy ha] at he
  obtain ⟨v, h1, h2⟩ := Option.bind_eq_some_iff.1 he;rcases hb with hb | hb
  ·rw [Yy hb] at h2 ⊢
   obtain ⟨u, h3, h4⟩ := Option.bind_eq_some_iff.1 h2;rw [h3];simp only [Option.bind_some];rw [Yy ha, h1];exact h4
  ·unfold WM at h2 ⊢
   cases hgb : Zmx ops b sl with
   | none => rw [hgb] at h2; cases h2
   | some q =>
    rw [hgb] at h2;cases q with
    | false =>
     show WM E ops a sl h _ = some r;rw [Yy ha, h1];exact h2
    | true =>
     refine Zla hE (PY sl) hb (fun u t hk => ?_) h2;show WM E ops a sl (h ++ t) _ = some r;rw [Yy ha, Zli ha h1];exact hk
def Vc (E : Env) (ops : Array Oper) : List Nat → St → (St → Option R) → Option R
 | [], s, K => K s
 | i :: l, s, K => match nth ops.toList i with
  | some o => LF E ops.toList o s fun s' => Vc E ops l s' K
  | none => none
theorem ZcH (hE : ZfP E) {ops : Array Oper} {o : Oper} {s : St} {K K' : St → Option R} {r : R} (hk : ∀ s, K s = some r → K' s = some r) (he : LF E ops.toList o s K = some r) : LF E ops.toList o s K' = some r := by
 rw [Pe] at he ⊢;exact D6 hE (fun _ _ => hk _) he
theorem Zm7 (hE : ZfP E) {ops : Array Oper} {c q : Nat} {l : List Nat} {s : St} {K : St → Option R} {r : R} (hh : ZkD E ops c q = true) (he : Vc E ops (c :: q :: l) s K = some r) : Vc E ops (q :: c :: l) s K = some r := by
 unfold ZkD at hh;simp only [Vc] at he ⊢
 split at hh
 ·rename_i a b ha hb
  rw [ha, hb] at he;rw [ha, hb];simp only [Bool.and_eq_true] at hh;obtain ⟨h1, h2, h3⟩ := Oper.apart_spec hh.1;dsimp only at he ⊢;simp only [Pe] at he ⊢;have ea : ∀ (u : SV) (h : List Blk) (J : SV → List Blk → Option R), WM E ops a (Zaz s.slots b.dst u) h J = WM E ops a s.slots h J := fun u h J =>
   FZ (fun t ht => ZiM (fun e => h3 t e ht)) h J
  have eb : ∀ (u : SV) (h : List Blk) (J : SV → List Blk → Option R), WM E ops b (Zaz s.slots a.dst u) h J = WM E ops b s.slots h J := fun u h J =>
   FZ (fun t ht => ZiM (fun e => h1 t e ht)) h J
  simp only [eb] at he;simp only [ea];have := ZjX hE (K := fun v u h2 => Vc E ops l ⟨Zaz (Zaz s.slots a.dst v) b.dst u, h2⟩ K) hh.2 he;simp only [Zlh s.slots _ _ h2] at this;exact this
 ·cases hh
theorem ZfT (hE : ZfP E) {ops : Array Oper} {c : Nat} {l2 : List Nat} {K : St → Option R} {r : R} : ∀ (l1 : List Nat) {s : St}, (∀ q ∈ l1, ZkD E ops c q = true) → Vc E ops (c :: (l1 ++ l2)) s K = some r → Vc E ops (l1 ++ c :: l2) s K = some r
 | [], s, _, he => he
 | q :: l1, s, hh, he => by
  have := Zm7 hE (hh q (by simp)) he;show Vc E ops (q :: (l1 ++ c :: l2)) s K = some r;have this : Vc E ops (q :: c :: (l1 ++ l2)) s K = some r := this;simp only [Vc] at this ⊢
  split at this
  ·exact ZcH hE (fun s' hs => ZfT hE l1 (fun q hq => hh q (by simp [hq])) hs) this
  ·cases this
theorem Qb {l : List Nat} {x : Nat} : ZdM l x = true ↔ x ∈ l := by
 unfold ZdM;rw [List.any_eq_true];constructor
 ·rintro ⟨y, h1, h2⟩; rw [Nat.eq_of_beq_eq_true h2]; exact h1
 ·intro h; exact ⟨x, h, Nat.beq_refl x⟩
theorem Zm8 {l : List Nat} {x y : Nat} : y ∈ Zq8 l x ↔ y ∈ l ∧ y ≠ x := by
 unfold Zq8;rw [List.mem_filter];constructor
 ·rintro ⟨h1, h2⟩
  refine ⟨h1, fun e => ?_⟩;subst e;rw [Nat.beq_refl] at h2; cases h2
 ·rintro ⟨h1, h2⟩
  refine ⟨h1, ?_⟩;cases hb : Nat.beq x y with
  | false => rfl
  | true => exact absurd (Nat.eq_of_beq_eq_true hb).symm h2
theorem P0 {α : Type} {f : α → Option R} {r : R} : ∀ {l : List α}, ZdN f l = some r → ∀ x ∈ l, f x = some r
 | [], h, _, _ => by cases h
 | [x], h, y, hy => by simp only [List.mem_singleton] at hy; subst hy; exact h
 | x :: z :: l, h, y, hy => by
  obtain ⟨h1, h2⟩ := HA h;rcases List.mem_cons.1 hy with e | hy
  ·subst e; exact h1
  ·exact P0 (l := z :: l) h2 y hy
theorem ZjY {α : Type} {f : α → Option R} {r : R} {l : List α} (h : ZdN f l = some r) : ∃ x, x ∈ l := by
 cases l with
 | nil => cases h
 | cons x l => exact ⟨x, by simp⟩
theorem Zea {p : Nat → Prop} [DecidablePred p] : ∀ {l : List Nat}, (∃ x ∈ l, p x) → ∃ l1 c l2, l = l1 ++ c :: l2 ∧ p c ∧ ∀ q ∈ l1, ¬ p q
 | [], h => by obtain ⟨x, hx, _⟩ := h; cases hx
 | x :: l, h => by
  by_cases hp : p x
  ·exact ⟨[], x, l, rfl, hp, by simp⟩
  ·obtain ⟨l1, c, l2, e, h1, h2⟩ := Zea (l := l) (by
    obtain ⟨y, hy, hpy⟩ := h;rcases List.mem_cons.1 hy with e | hy
    ·subst e; exact absurd hpy hp
    ·exact ⟨y, hy, hpy⟩)
   refine ⟨x :: l1, c, l2, by rw [e]; rfl, h1, fun q hq => ?_⟩;rcases List.mem_cons.1 hq with e | hq
   ·subst e; exact hp
   ·exact h2 q hq
theorem Zlj (hE : ZfP E) {ops : Array Oper} {tab : List (List Nat)} {K : St → Option R} {r : R} : ∀ (n : Nat) (rem : List Nat) (s : St), Zoi E ops tab n rem s K = some r →
  ∀ (ord : List Nat), ord.Nodup → (∀ x, x ∈ ord ↔ x ∈ rem) → ord.Pairwise (fun a b => b ∉ YD tab a) → Vc E ops ord s K = some r := by
 intro n
 induction n with
 | zero =>
  intro rem s he ord hn hp hw;cases rem with
  | cons _ _ => simp [Zoi] at he
  | nil =>
   have : ord = [] := List.eq_nil_iff_forall_not_mem.2 fun x hx => by have := (hp x).1 hx; cases this
   subst this;simpa [Zoi, Vc] using he
 | succ n ih =>
  intro rem s he ord hn hp hw;cases rem with
  | nil =>
   have : ord = [] := List.eq_nil_iff_forall_not_mem.2 fun x hx => by have := (hp x).1 hx; cases this
   subst this;simpa [Zoi, Vc] using he
  | cons f rest =>
   simp only [Zoi] at he;cases hc : HF E ops tab (ZmB E ops tab (f :: rest)) (f :: rest) with
   | false => rw [hc] at he; cases he
   | true =>
    rw [hc] at he;simp only [cond_true] at he;generalize ZmB E ops tab (f :: rest) = cs at he hc;generalize f :: rest = rem at *;simp only [HF, Bool.and_eq_true, List.all_eq_true, Bool.or_eq_true, List.any_eq_true, Qb] at hc;obtain ⟨hc1, hc2⟩ := hc;obtain ⟨x0, hx0⟩ := ZjY he;obtain ⟨l1, c, l2, e, k1, k2⟩ := Zea (p := fun x => x ∈ cs) (l := ord) ⟨x0, (hp x0).2 (hc1 x0 hx0), hx0⟩;subst e;have hcc := P0 he c k1;have hnd := List.nodup_append.1 hn;obtain ⟨n1, n2⟩ := List.nodup_cons.1 hnd.2.1;refine ZfT hE l1 (fun q hq => ?_) ?_
    ·rcases hc2 q ((hp q).1 (by simp [hq])) with (h | ⟨c', h1, h2⟩) | h
     ·exact absurd h (k2 q hq)
     ·exfalso
      have hm : c' ∈ l1 ++ c :: l2 := (hp c').2 (hc1 c' h1);rcases List.mem_append.1 hm with hm | hm
      ·exact k2 c' hm h1
      ·exact (List.pairwise_append.1 hw).2.2 q hq c' hm h2
     ·exact h c k1
    ·simp only [Vc]
     split at hcc
     ·rename_i o ho
      rw [ho];refine ZcH hE (fun s' hs => ?_) hcc;refine ih _ s' hs _ ?_ (fun x => ?_) ?_
      ·exact List.nodup_append.2 ⟨hnd.1, n2, fun a ha b hb => hnd.2.2 a ha b (by simp [hb])⟩
      ·rw [Zm8, ← hp x]
       simp only [List.mem_append, List.mem_cons];constructor
       ·rintro (h | h)
        ·exact ⟨.inl h, fun e => hnd.2.2 x h c (by simp) e⟩
        ·exact ⟨.inr (.inr h), fun e => n1 (e ▸ h)⟩
       ·rintro ⟨h | h | h, h2⟩
        ·exact .inl h
        ·exact absurd h h2
        ·exact .inr h
      ·exact hw.sublist (List.Sublist.append (List.Sublist.refl _) (List.sublist_cons_self ..))
     ·cases hcc
end
end Go.Sx
namespace Go.Sx
open Go
noncomputable section
variable {R : Type} {E : Env}
theorem Qv : ∀ {n k x : Nat}, x ∈ Kf k n ↔ k ≤ x ∧ x < k + n
 | 0, k, x => by simp only [Kf, List.not_mem_nil, false_iff]; omega
 | n + 1, k, x => by
  simp only [Kf, List.mem_cons, Qv (n := n) (k := k + 1)];omega
theorem ZhN {m : Region.Mode} {ops : List Oper} : ∀ {T1 : List Nat} {acc : List Nat} {c : Nat} {T2 : List Nat}, Zps m ops acc (T1 ++ c :: T2) = true → ∃ o, nth ops c = some o ∧ ∀ p ∈ FL m o, p ∈ acc ∨ p ∈ T1
 | [], acc, c, T2, h => by
  simp only [List.nil_append, Zps, Bool.and_eq_true] at h;obtain ⟨h, _⟩ := h
  split at h
  ·rename_i o ho
   refine ⟨o, ho, fun p hp => .inl ?_⟩;exact Qb.1 (List.all_eq_true.1 h p hp)
  ·cases h
 | x :: T1, acc, c, T2, h => by
  simp only [List.cons_append, Zps, Bool.and_eq_true] at h;obtain ⟨o, h1, h2⟩ := ZhN (T1 := T1) (acc := x :: acc) h.2;refine ⟨o, h1, fun p hp => ?_⟩;rcases h2 p hp with q | q
  ·rcases List.mem_cons.1 q with e | q
   ·subst e; exact .inr (by simp)
   ·exact .inl q
  ·exact .inr (by simp [q])
theorem HW {m : Region.Mode} {o : Oper} {p : Nat} : p ∈ FL m o ↔ ∃ e ∈ o.after, Region.binds m e = true ∧ e.on = p := by
 unfold FL;simp only [List.mem_map, List.mem_filter];constructor
 ·rintro ⟨e, ⟨h1, h2⟩, h3⟩; exact ⟨e, Array.mem_toList_iff.1 h1, h2, h3⟩
 ·rintro ⟨e, h1, h2, h3⟩; exact ⟨e, ⟨Array.mem_toList_iff.2 h1, h2⟩, h3⟩
structure Zrb (m : Region.Mode) (ops : Array Oper) (T : List Nat) : Prop where
 chk : Zps m ops.toList [] T = true
 all : ∀ i, i < ops.size → i ∈ T
theorem ZjZ {m : Region.Mode} {ops : Array Oper} (h : HG m ops.toList = true) : ∃ T, Zrb m ops T := by
 simp only [HG, Bool.and_eq_true] at h;refine ⟨_, h.1, fun i hi => ?_⟩;exact Qb.1 (List.all_eq_true.1 h.2 i (Qv.2 ⟨Nat.zero_le _, by simpa using hi⟩))
def Dir (m : Region.Mode) (ops : Array Oper) (a b : Nat) : Prop := ∀ o, nth ops.toList a = some o → b ∉ FL m o
theorem ZpI {m : Region.Mode} {ops : Array Oper} {T : List Nat} (hT : Zrb m ops T) : ∀ (fuel t : Nat) (listed : Array Bool) (U : List Nat), listed.size = ops.size → U.Nodup → U.length = fuel → (∀ x, x ∈ U ↔ listed.getD x true = false) →
  ∃ L, Region.linearise.go m ops fuel t listed [] = L ∧ L.Nodup ∧ (∀ x, x ∈ L ↔ x ∈ U) ∧ L.Pairwise (Dir m ops) := by
 intro fuel
 induction fuel with
 | zero =>
  intro t listed U hs hn hl hu;refine ⟨[], rfl, by simp, fun x => ?_, .nil⟩;have : U = [] := List.length_eq_zero_iff.1 hl;simp [this]
 | succ fuel ih =>
  intro t listed U hs hn hl hu;have hlt : ∀ x, listed.getD x true = false → x < ops.size := by
   intro x hx;rw [← hs];rcases Nat.lt_or_ge x listed.size with h | h
   ·exact h
   ·simp [h] at hx
  -- someone is ready
  have hready : ∃ c, c ∈ Region.ready m ops listed := by
   obtain ⟨u, hu1⟩ : ∃ u, u ∈ U := by
    cases U with
    | nil => simp at hl
    | cons u _ => exact ⟨u, by simp⟩
   have hu2 := (hu u).1 hu1;obtain ⟨T1, c, T2, e, k1, k2⟩ := Zea (p := fun x => listed.getD x true = false) (l := T) ⟨u, hT.all u (hlt u hu2), hu2⟩;have hc := hT.chk;rw [e] at hc;obtain ⟨o, o1, o2⟩ := ZhN hc;refine ⟨c, mem_ready.2 ⟨k1, o, by rw [← Vb]; exact o1, fun ed he hb => ?_⟩⟩;have hp := o2 ed.on (HW.2 ⟨ed, he, hb, rfl⟩);rcases hp with hp | hp
   ·cases hp
   ·have hnot := k2 _ hp
    have hlt2 : ed.on < listed.size := by
     rw [hs];obtain ⟨X1, X2, eX⟩ := List.append_of_mem hp;rw [eX, List.append_assoc, List.cons_append] at hc;obtain ⟨o', o1', _⟩ := ZhN hc;rw [Vb] at o1';exact (Array.getElem?_eq_some_iff.1 o1').1
    have : listed.getD ed.on true = true := by
     cases h : listed.getD ed.on true with
     | true => rfl
     | false => exact absurd h hnot
    simpa [hlt2] using this
  obtain ⟨c0, hc0⟩ := hready;have hpos : 0 < (Region.ready m ops listed).length := List.length_pos_of_mem hc0;have hmod : t % (Region.ready m ops listed).length < (Region.ready m ops listed).length := Nat.mod_lt _ hpos;simp only [Region.linearise.go]
  change ∃ L, (match (Region.ready m ops listed)[t % (Region.ready m ops listed).length]? with
   | some i => Region.linearise.go m ops fuel (t / (Region.ready m ops listed).length) (listed.setIfInBounds i true) [i]
   | none => [].reverse) = L ∧ _
  rw [List.getElem?_eq_getElem hmod];generalize hi : (Region.ready m ops listed)[t % (Region.ready m ops listed).length] = i;have hmem : i ∈ Region.ready m ops listed := hi ▸ List.getElem_mem hmod;obtain ⟨i1, o, i2, i3⟩ := mem_ready.1 hmem;have hilt := hlt i i1;have hiU := (hu i).2 i1;dsimp only;rw [linearise_go_acc];obtain ⟨L, l1, l2, l3, l4⟩ := ih (t / (Region.ready m ops listed).length) (listed.setIfInBounds i true) (U.erase i) (by simpa using hs) (hn.erase i) (by rw [List.length_erase_of_mem hiU, hl]; rfl) (fun x => by
   rw [List.Nodup.mem_erase_iff hn, hu x]
   by_cases e : i = x
   ·subst e
    have hsz : i < listed.size := by rw [hs]; exact hilt
    simp [hsz]
   ·rw [getD_set_ne true e]
    constructor
    ·exact fun h => h.2
    ·exact fun h => ⟨Ne.symm e, h⟩)
  refine ⟨i :: L, by rw [l1]; rfl, ?_, fun x => ?_, ?_⟩
  ·refine List.nodup_cons.2 ⟨fun h => ?_, l2⟩
   have := (l3 i).1 h;rw [List.Nodup.mem_erase_iff hn] at this;exact this.1 rfl
  ·rw [List.mem_cons, l3 x, List.Nodup.mem_erase_iff hn]
   constructor
   ·rintro (e | h)
    ·subst e; exact hiU
    ·exact h.2
   ·intro h
    by_cases e : x = i
    ·exact .inl e
    ·exact .inr ⟨e, h⟩
  ·refine List.pairwise_cons.2 ⟨fun b hb o' ho' hp => ?_, l4⟩
   rw [Vb] at ho';rw [i2] at ho';cases ho';obtain ⟨ed, e1, e2, e3⟩ := HW.1 hp;have h1 := i3 ed e1 e2;have h2 := (l3 b).1 hb;rw [List.Nodup.mem_erase_iff hn, hu b] at h2;rw [e3] at h1;have hbs : b < listed.size := by rw [hs]; exact hlt b h2.2
   simp [hbs] at h1 h2;rw [h1] at h2;cases h2.2
theorem ZfU {m : Region.Mode} {ops : Array Oper} {T : List Nat} (hT : Zrb m ops T) (t : Nat) : (Region.linearise m ops t).Nodup ∧ (∀ x, x ∈ Region.linearise m ops t ↔ x < ops.size) ∧ (Region.linearise m ops t).Pairwise (Dir m ops) := by
 obtain ⟨L, h1, h2, h3, h4⟩ := ZpI hT ops.size t (Array.replicate ops.size false) (List.range ops.size) (by simp) List.nodup_range (by simp) (fun x => by
  rw [List.mem_range];rcases Nat.lt_or_ge x ops.size with h | h
  ·simp [h]
  ·simp [h])
 unfold Region.linearise;rw [h1];exact ⟨h2, fun x => by rw [h3 x, List.mem_range], h4⟩
theorem ZcI {l r : List Nat} {b : Nat} (h : b ∈ HE l r) : b ∈ l ∨ b ∈ r := by
 unfold HE at h;rcases List.mem_append.1 h with h | h
 ·exact .inl h
 ·exact .inr (List.mem_filter.1 h).1
theorem ZfV {X : Nat → List Nat} {b : Nat} : ∀ {ps s : List Nat}, b ∈ ps.foldl (fun s e => HE s (e :: X e)) s → b ∈ s ∨ ∃ e ∈ ps, b = e ∨ b ∈ X e
 | [], s, h => .inl h
 | e :: ps, s, h => by
  rcases ZfV (ps := ps) h with h | ⟨e', h1, h2⟩
  ·rcases ZcI h with h | h
   ·exact .inl h
   ·rcases List.mem_cons.1 h with h | h
    ·exact .inr ⟨e, by simp, .inl h⟩
    ·exact .inr ⟨e, by simp, .inr h⟩
  ·exact .inr ⟨e', by simp [h1], h2⟩
def ZoB (ops : List Oper) (acc : List (List Nat)) : Prop :=
 ∀ a b, b ∈ YD acc a → ∃ o, nth ops a = some o ∧ (b ∈ FL .any o ∨ ∃ e ∈ FL .any o, e < a ∧ b ∈ YD acc e)
theorem ZfW {ops : List Oper} : ∀ (l pre : List Oper) (acc : List (List Nat)), ops = pre ++ l → acc.length = pre.length → ZoB ops acc → ZoB ops (ZnH l acc)
 | [], pre, acc, _, _, hg => hg
 | o :: l, pre, acc, he, hl, hg => by
  refine ZfW l (pre ++ [o]) _ (by rw [he]; simp) (by simp [hl]) ?_;intro a b hb;have hat : ∀ e, e < acc.length → ∀ x, YD (acc ++ [x]) e = YD acc e := fun e h x => by unfold YD; rw [Wv h]
  rcases Nat.lt_trichotomy a acc.length with h | h | h
  ·rw [hat a h] at hb
   obtain ⟨o', h1, h2⟩ := hg a b hb;refine ⟨o', h1, h2.imp id fun ⟨e, k1, k2, k3⟩ => ⟨e, k1, k2, ?_⟩⟩;rw [hat e (by omega)]; exact k3
  ·subst h
   have hx : YD (acc ++ [(FL .any o).foldl (fun s e => HE s (e :: (nth acc e).getD [])) []]) acc.length = (FL .any o).foldl (fun s e => HE s (e :: YD acc e)) [] := by
    unfold YD;have := Um acc [(FL .any o).foldl (fun s e => HE s (e :: (nth acc e).getD [])) []] 0;rw [Nat.add_zero] at this;rw [this];rfl
   rw [hx] at hb;refine ⟨o, ?_, ?_⟩
   ·rw [he, hl]
    have := Um pre (o :: l) 0;rw [Nat.add_zero] at this;exact this
   ·rcases ZfV hb with h | ⟨e, h1, h2⟩
    ·cases h
    ·rcases h2 with h2 | h2
     ·subst h2; exact .inl h1
     ·refine .inr ⟨e, h1, ?_, ?_⟩
      ·rcases Nat.lt_or_ge e acc.length with k | k
       ·exact k
       ·unfold YD at h2
        rw [Y6.2 k] at h2;cases h2
      ·have : e < acc.length := by
        rcases Nat.lt_or_ge e acc.length with k | k
        ·exact k
        ·unfold YD at h2
         rw [Y6.2 k] at h2;cases h2
       rw [hat e this]; exact h2
  ·exfalso
   unfold YD at hb;rw [Y6.2 (by simp; omega)] at hb;cases hb
theorem Zlk {m : Region.Mode} {e : Edge} (h : Region.binds .any e = true) : Region.binds m e = true := by
 unfold Region.binds at h ⊢;cases hg : e.ground <;> rw [hg] at h <;> first | rfl | cases h
theorem ZpJ {m : Region.Mode} {ops : Array Oper} {L : List Nat} (hall : ∀ x, x ∈ L ↔ x < ops.size) (hd : L.Pairwise (Dir m ops)) : L.Pairwise (fun a b => b ∉ YD (ZnH ops.toList []) a) := by
 have hg : ZoB ops.toList (ZnH ops.toList []) := ZfW ops.toList [] [] rfl rfl (fun a b hb => by unfold YD nth at hb; cases a <;> cases hb);rw [List.pairwise_iff_getElem] at hd ⊢;have key : ∀ a, ∀ i j (hi : i < L.length) (hj : j < L.length), i < j → L[i] = a → L[j] ∉ YD (ZnH ops.toList []) a := by
  intro a
  induction a using Nat.strongRecOn with
  | _ a ih =>
   intro i j hi hj hij hia hm;obtain ⟨o, h1, h2⟩ := hg a _ hm;have sub : ∀ p, p ∈ FL .any o → p ∈ FL m o := fun p hp => by
    obtain ⟨e, e1, e2, e3⟩ := HW.1 hp;exact HW.2 ⟨e, e1, Zlk e2, e3⟩
   have dir : ∀ k (hk : k < L.length), i < k → L[k] ∉ FL .any o := fun k hk hik hp => hd i k hi hk hik o (by rw [hia]; exact h1) (sub _ hp);rcases h2 with h2 | ⟨e, k1, k2, k3⟩
   ·exact dir j hj hij h2
   ·have hasz : a < ops.size := by rw [← hia]; exact (hall _).1 (List.getElem_mem hi)
    obtain ⟨k, hk, hke⟩ := List.mem_iff_getElem.1 ((hall e).2 (by omega));rcases Nat.lt_trichotomy k i with h | h | h
    ·exact ih e k2 k j hk hj (by omega) hke k3
    ·subst h; omega
    ·exact dir k hk h (by rw [hke]; exact k1)
 exact fun i j hi hj hij => key _ i j hi hj hij rfl
theorem ZpK {ops : Array Oper} : ∀ {is : List Nat}, (∀ i ∈ is, i < ops.size) → ∃ os, At ops is os
 | [], _ => ⟨[], .nil⟩
 | i :: is, h => by
  obtain ⟨os, ho⟩ := ZpK (is := is) (fun j hj => h j (by simp [hj]));exact ⟨ops[i]'(h i (by simp)) :: os, .cons (Array.getElem?_eq_getElem (h i (by simp))) ho⟩
theorem Zj0 {ops : Array Oper} {is : List Nat} {os : List Oper} (ha : At ops is os) : ∀ {s : St} {K : St → Option R}, Vc E ops is s K = Pz E ops.toList os s K := by
 induction ha with
 | nil => intro s K; rfl
 | cons h1 _ ih =>
  intro s K;simp only [Vc, Pz, Vb, h1];congr 1;funext s';exact ih
theorem HK.tblM {P : Program} (hE : HK P E) : ZfP E where
 one := fun f c hc R args K r h => by
  obtain ⟨sv, outs, _, h2⟩ := (hE.tbl f c hc).ok R args K r h;exact ⟨sv, outs, h2⟩
 mono := fun f c hc => (hE.tbl f c hc).mono
theorem Sim.drew {g : G} {rho : Rho} {s : St} {a : Act} {w : World} (hs : Sim g rho s a w) (n : Nat) : Sim g rho s a { w with drawn := n } := by
 have he : Ext (zOf g rho s.heap w) (zOf g rho s.heap { w with drawn := n }) := ⟨fun k hk => ⟨hk, rfl⟩, fun _ => ZX.refl _ _⟩
 exact ⟨⟨fun b d hd => (hs.inv.sim b d hd).ext he (fun _ _ _ => rfl), hs.inv.disj, hs.inv.nodup, hs.inv.range, ⟨hs.inv.kept.1, hs.inv.kept.2, ⟨hs.inv.kept.3.obj, hs.inv.kept.3.os, hs.inv.kept.3.out, hs.inv.kept.3.le⟩⟩, hs.inv.tab⟩, VL.ext he _ _ hs.slots, hs.defers, hs.bx, hs.ax⟩
end
end Go.Sx
namespace Go.Sx
open Go
noncomputable section
variable {R : Type} {E : Env}
def ZpL (X : List Nat) (p : Nat) : List Nat → List Nat
 | [] => [p]
 | y :: l => if (y :: l).any (ZdM X) = true then y :: ZpL X p l else p :: y :: l
def P1 (f : Nat → Option (List Nat)) : List Nat → List Nat
 | [] => []
 | i :: l => match f i with
  | some X => ZpL X i (P1 f l)
  | none => i :: P1 f l
theorem ZcJ (X : List Nat) (p : Nat) : ∀ l : List Nat, ∃ l1 l2, l = l1 ++ l2 ∧ ZpL X p l = l1 ++ p :: l2 ∧ (∀ x ∈ l2, x ∉ X) ∧ (l1 = [] ∨ ∃ l0 x, l1 = l0 ++ [x] ∧ x ∈ X)
 | [] => ⟨[], [], rfl, rfl, by simp, .inl rfl⟩
 | y :: l => by
  obtain ⟨l1, l2, h1, h2, h3, h4⟩ := ZcJ X p l
  by_cases ha : (y :: l).any (ZdM X) = true
  ·refine ⟨y :: l1, l2, by rw [h1]; rfl, by simp only [ZpL]; rw [if_pos ha, h2]; rfl, h3, .inr ?_⟩
   rcases h4 with h4 | ⟨l0, x, h4, h5⟩
   ·subst h4
    obtain ⟨z, hz1, hz2⟩ := List.any_eq_true.1 ha;have hz2 := Qb.1 hz2;rcases List.mem_cons.1 hz1 with e | e
    ·subst e; exact ⟨[], z, rfl, hz2⟩
    ·rw [h1] at e
     exact absurd hz2 (h3 z (by simpa using e))
   ·exact ⟨y :: l0, x, by rw [h4]; rfl, h5⟩
  ·refine ⟨[], y :: l, rfl, by simp only [ZpL]; rw [if_neg ha]; rfl, fun x hx hX => ha ?_, .inl rfl⟩
   exact List.any_eq_true.2 ⟨x, hx, Qb.2 hX⟩
structure ZpM (n : Nat) (ap : Nat → Nat → Prop) (f : Nat → Option (List Nat)) (T T' : Nat → List Nat) : Prop where
 old : ∀ a b, b ∈ T a → b ∈ T' a
 new : ∀ a b, b ∈ T' a → b ∈ T a ∨ ∃ X, f a = some X ∧ b ∈ X
 none : ∀ p X, f p = some X → ∀ x ∈ X, f x = none
 dep : ∀ p X, f p = some X → ∀ y, p ∈ T y → ∀ x ∈ X, x ∈ T y
 free : ∀ p X, f p = some X → ∀ x ∈ X, p ∉ T x
 ap : ∀ p X, f p = some X → ∀ y, y < n → y ≠ p → ap p y ∨ p ∈ T y
inductive Lt (ap od : Nat → Nat → Prop) (al : Nat → Prop) : List Nat → List Nat → List Nat → Prop
 | nil : Lt ap od al [] [] []
 | op {D C A : List Nat} {i : Nat} : (∀ p ∈ D, ap p i) → Lt ap od al D C A → Lt ap od al D (i :: C) (i :: A)
 | push {D C A : List Nat} {p : Nat} : al p → p ∉ D → (∀ q ∈ D, od p q) → Lt ap od al (p :: D) C A → Lt ap od al D (p :: C) A
 | pop {D C A : List Nat} {p : Nat} : p ∈ D → Lt ap od al (D.filter fun q => decide (q ≠ p)) C A → Lt ap od al D C (p :: A)
section
variable {ap od : Nat → Nat → Prop} {al : Nat → Prop}
theorem Lt.refl : ∀ l : List Nat, Lt ap od al [] l l
 | [] => .nil
 | i :: l => .op (by simp) (Lt.refl l)
theorem Lt.perm {D C A : List Nat} (h : Lt ap od al D C A) : ∀ {D' : List Nat}, (∀ x, x ∈ D ↔ x ∈ D') → Lt ap od al D' C A := by
 induction h with
 | nil =>
  intro D' hd;have : D' = [] := List.eq_nil_iff_forall_not_mem.2 fun x hx => by simpa using (hd x).2 hx
  subst this; exact .nil
 | op h1 _ ih => intro D' hd; exact .op (fun p hp => h1 p ((hd p).2 hp)) (ih hd)
 | push h1 h2 h3 _ ih =>
  intro D' hd;refine .push h1 (fun h => h2 ((hd _).2 h)) (fun q hq => h3 q ((hd q).2 hq)) (ih fun x => ?_);simp only [List.mem_cons, hd x]
 | pop h1 _ ih =>
  intro D' hd;refine .pop ((hd _).1 h1) (ih fun x => ?_);simp only [List.mem_filter, hd x]
theorem Lt.ins {p : Nat} {A2 : List Nat} {D C A : List Nat} (h : Lt ap od al D C A) : ∀ {A1 : List Nat}, A = A1 ++ A2 → p ∉ D → p ∉ C → (∀ y ∈ A1, ap p y) → (∀ q, q ≠ p → od q p) → Lt ap od al (p :: D) C (A1 ++ p :: A2) := by
 have now : ∀ {D C A : List Nat}, Lt ap od al D C A → p ∉ D → Lt ap od al (p :: D) C (p :: A) := fun {D C A} h hp => by
  refine .pop (by simp) (h.perm fun x => ?_);simp only [List.mem_filter, List.mem_cons, decide_eq_true_eq];constructor
  ·exact fun hx => ⟨.inr hx, fun e => hp (e ▸ hx)⟩
  ·rintro ⟨e | e, hne⟩
   ·exact absurd e hne
   ·exact e
 induction h with
 | nil =>
  intro A1 he hp hc ha ho;have : A1 = [] ∧ A2 = [] := by simpa using he.symm
  obtain ⟨rfl, rfl⟩ := this;exact now .nil hp
 | @op D C A i h1 h2 ih =>
  intro A1 he hp hc ha ho;cases A1 with
  | nil => simp only [List.nil_append] at he; subst he; exact now (.op h1 h2) hp
  | cons y B =>
   simp only [List.cons_append, List.cons.injEq] at he;obtain ⟨rfl, he⟩ := he;refine .op (fun q hq => ?_) (ih he hp (fun h => hc (by simp [h])) (fun y hy => ha y (by simp [hy])) ho);rcases List.mem_cons.1 hq with e | hq
   ·subst e; exact ha _ (by simp)
   ·exact h1 q hq
 | @push D C A q h1 h2 h3 h4 ih =>
  intro A1 he hp hc ha ho;have hne : q ≠ p := fun e => hc (by simp [e]);have := ih he (by simp only [List.mem_cons, not_or]; exact ⟨hne.symm, hp⟩) (fun h => hc (by simp [h])) ha ho;refine .push h1 (by simp only [List.mem_cons, not_or]; exact ⟨hne, h2⟩) (fun z hz => ?_) (this.perm fun x => ?_)
  ·rcases List.mem_cons.1 hz with e | hz
   ·subst e; exact ho q hne
   ·exact h3 z hz
  ·simp only [List.mem_cons]; constructor
   ·rintro (e | e | e)
    ·exact .inr (.inl e)
    ·exact .inl e
    ·exact .inr (.inr e)
   ·rintro (e | e | e)
    ·exact .inr (.inl e)
    ·exact .inl e
    ·exact .inr (.inr e)
 | @pop D C A q h1 h2 ih =>
  intro A1 he hp hc ha ho;cases A1 with
  | nil => simp only [List.nil_append] at he; subst he; exact now (.pop h1 h2) hp
  | cons y B =>
   simp only [List.cons_append, List.cons.injEq] at he;obtain ⟨rfl, he⟩ := he;have hne : q ≠ p := fun e => hp (e ▸ h1);have := ih he (fun h => hp (List.mem_filter.1 h).1) hc (fun y hy => ha y (by simp [hy])) ho;refine .pop (by simp [h1]) (this.perm fun x => ?_);simp only [List.mem_filter, List.mem_cons, decide_eq_true_eq];constructor
   ·rintro (e | ⟨e1, e2⟩)
    ·exact ⟨.inl e, fun k => hne (k.symm.trans e)⟩
    ·exact ⟨.inr e1, e2⟩
   ·rintro ⟨e | e, k⟩
    ·exact .inl e
    ·exact .inr ⟨e, k⟩
theorem ZiO {f : Nat → Option (List Nat)} {T T' : Nat → List Nat} {n : Nat} (hf : ZpM n ap f T T') (hal : ∀ p X, f p = some X → al p) (hod : ∀ p X, f p = some X → ∀ q, q ≠ p → od q p) : ∀ {l : List Nat}, (∀ x ∈ l, x < n) → l.Nodup → l.Pairwise (fun a b => b ∉ T a) →
  (∀ x, x ∈ P1 f l ↔ x ∈ l) ∧ (P1 f l).Nodup ∧ (P1 f l).Pairwise (fun a b => b ∉ T' a) ∧ Lt ap od al [] l (P1 f l)
 | [], _, _, _ => ⟨fun _ => Iff.rfl, by simp [P1], by simp [P1], .nil⟩
 | i :: l, hr, hn, hw => by
  obtain ⟨n1, n2⟩ := List.nodup_cons.1 hn;obtain ⟨w1, w2⟩ := List.pairwise_cons.1 hw;obtain ⟨m1, m2, m3, m4⟩ := ZiO hf hal hod (fun x hx => hr x (by simp [hx])) n2 w2;cases hfi : f i with
  | none =>
   simp only [P1, hfi];refine ⟨fun x => by simp only [List.mem_cons, m1 x], List.nodup_cons.2 ⟨fun h => n1 ((m1 i).1 h), m2⟩, List.pairwise_cons.2 ⟨fun b hb hT => ?_, m3⟩, .op (by simp) m4⟩;rcases hf.new i b hT with h | ⟨X, h, _⟩
   ·exact w1 b ((m1 b).1 hb) h
   ·rw [hfi] at h; cases h
  | some X =>
   simp only [P1, hfi];obtain ⟨l1, l2, e1, e2, e3, e4⟩ := ZcJ X i (P1 f l);have hnot : ∀ y ∈ l1, i ∉ T y := by
    intro y hy hT;rcases e4 with e4 | ⟨l0, x, e4, e5⟩
    ·subst e4; cases hy
    ·have hxy := hf.dep i X hfi y hT x e5
     rw [e4] at hy;rcases List.mem_append.1 hy with hy | hy
     ·rw [e1, e4] at m3
      have := (List.pairwise_append.1 (List.pairwise_append.1 m3).1).2.2 y hy x (by simp);exact this (hf.old _ _ hxy)
     ·simp only [List.mem_singleton] at hy
      subst hy;exact hf.free i X hfi y e5 hT
   have hyi : ∀ y, y ∈ l1 ∨ y ∈ l2 → y ∈ l := fun y hy => (m1 y).1 (by rw [e1]; exact List.mem_append.2 hy);rw [e2];refine ⟨fun x => ?_, ?_, ?_, ?_⟩
   ·have := m1 x
    rw [e1] at this;simp only [List.mem_append, List.mem_cons] at this ⊢;rw [← this];constructor
    ·rintro (h | h | h)
     ·exact .inr (.inl h)
     ·exact .inl h
     ·exact .inr (.inr h)
    ·rintro (h | h | h)
     ·exact .inr (.inl h)
     ·exact .inl h
     ·exact .inr (.inr h)
   ·rw [e1] at m2
    have hm := List.nodup_append.1 m2;refine List.nodup_append.2 ⟨hm.1, List.nodup_cons.2 ⟨fun h => n1 (hyi i (.inr h)), hm.2.1⟩, fun a ha b hb => ?_⟩;rcases List.mem_cons.1 hb with e | hb
    ·subst e; exact fun e => n1 (hyi _ (.inl (e ▸ ha)))
    ·exact hm.2.2 a ha b hb
   ·rw [e1] at m3
    have hm := List.pairwise_append.1 m3;refine List.pairwise_append.2 ⟨hm.1, List.pairwise_cons.2 ⟨fun b hb hT => ?_, hm.2.1⟩, fun a ha b hb => ?_⟩
    ·rcases hf.new i b hT with h | ⟨Y, h, hY⟩
     ·exact w1 b (hyi b (.inr hb)) h
     ·rw [hfi] at h; cases h; exact e3 b hb hY
    ·rcases List.mem_cons.1 hb with e | hb
     ·subst e
      intro hT;rcases hf.new a b hT with h | ⟨Y, h, hY⟩
      ·exact hnot a ha h
      ·have := hf.none a Y h b hY
       rw [hfi] at this; cases this
     ·exact hm.2.2 a ha b hb
   ·refine .push (hal i X hfi) (by simp) (by simp) ?_
    refine Lt.ins m4 e1 (by simp) n1 (fun y hy => ?_) (hod i X hfi);rcases hf.ap i X hfi y (hr y (by simp [hyi y (.inl hy)])) (fun e => n1 (e ▸ hyi y (.inl hy))) with h | h
    ·exact h
    ·exact absurd h (hnot y hy)
end
def ddP (P : Nat → Bool) : Nat → List SV → List SV
 | _, [] => []
 | n, x :: l => (bif P n then .dead else x) :: ddP P (n + 1) l
theorem Zll (P : Nat → Bool) : ∀ (n : Nat) (l : List SV) (t : Nat), P (n + t) = false → nth (ddP P n l) t = nth l t
 | _, [], _, _ => rfl
 | n, x :: l, 0, h => by simp only [ddP, nth]; rw [show P n = false from h]; rfl
 | n, x :: l, t + 1, h => by simp only [ddP, nth]; exact Zll P (n + 1) l t (by rw [show n + 1 + t = n + (t + 1) by omega]; exact h)
theorem P2 {P P' : Nat → Bool} : ∀ (n : Nat) (l : List SV), (∀ t, P (n + t) = P' (n + t)) → ddP P n l = ddP P' n l
 | _, [], _ => rfl
 | n, x :: l, h => by
  simp only [ddP];rw [show P n = P' n from h 0, P2 (P := P) (P' := P') (n + 1) l (fun t => by have := h (t + 1); rwa [show n + (t + 1) = n + 1 + t by omega] at this)]
theorem ZhO {P P' : Nat → Bool} : ∀ (n : Nat) (l : List SV) (t : Nat) (v : SV), P' (n + t) = false → (∀ u, u ≠ t → P (n + u) = P' (n + u)) → ddP P' n (upd l t v) = upd (ddP P n l) t v
 | _, [], _, _, _, _ => rfl
 | n, x :: l, 0, v, h1, h2 => by
  simp only [upd, ddP];rw [show P' n = false from h1, P2 (P := P) (P' := P') (n + 1) l (fun t => by have := h2 (t + 1) (by omega); rwa [show n + (t + 1) = n + 1 + t by omega] at this)];rfl
 | n, x :: l, t + 1, v, h1, h2 => by
  simp only [upd, ddP];rw [show P n = P' n from h2 0 (by omega), ZhO (P := P) (P' := P') (n + 1) l t v (by rw [show n + 1 + t = n + (t + 1) by omega]; exact h1)
   (fun u hu => by have := h2 (u + 1) (by omega); rwa [show n + (u + 1) = n + 1 + u by omega] at this)]
theorem ZiP {P P' : Nat → Bool} : ∀ (n : Nat) (l : List SV) (t : Nat), P' (n + t) = true → (∀ u, u ≠ t → P (n + u) = P' (n + u)) → ddP P' n l = upd (ddP P n l) t .dead
 | _, [], _, _, _ => rfl
 | n, x :: l, 0, h1, h2 => by
  simp only [upd, ddP];rw [show P' n = true from h1, P2 (P := P) (P' := P') (n + 1) l (fun t => by have := h2 (t + 1) (by omega); rwa [show n + (t + 1) = n + 1 + t by omega] at this)];rfl
 | n, x :: l, t + 1, h1, h2 => by
  simp only [upd, ddP];rw [show P n = P' n from h2 0 (by omega), ZiP (P := P) (P' := P') (n + 1) l t (by rw [show n + 1 + t = n + (t + 1) by omega]; exact h1)
   (fun u hu => by have := h2 (u + 1) (by omega); rwa [show n + (u + 1) = n + 1 + u by omega] at this)]
def pdB (ops : Array Oper) (D : List Nat) (t : Nat) : Bool := D.any fun q => decide (WG ops.toList q = some t)
theorem HX {ops : Array Oper} {D : List Nat} {t : Nat} : pdB ops D t = false ↔ ∀ q ∈ D, WG ops.toList q ≠ some t := by
 unfold pdB;simp only [List.any_eq_false, decide_eq_true_eq]
theorem HY {ops : Array Oper} {D : List Nat} {t : Nat} : pdB ops D t = true ↔ ∃ q ∈ D, WG ops.toList q = some t := by
 unfold pdB;simp only [List.any_eq_true, decide_eq_true_eq]
theorem ZnQ {ops : Array Oper} {D D' : List Nat} {t : Nat} (h : (∃ q ∈ D, WG ops.toList q = some t) ↔ ∃ q ∈ D', WG ops.toList q = some t) : pdB ops D t = pdB ops D' t := by
 cases h1 : pdB ops D t <;> cases h2 : pdB ops D' t
 ·rfl
 ·have := HY.1 h2
  rw [← h] at this;have := HY.2 this;rw [h1] at this; cases this
 ·rw [HY, h, ← HY, h2] at h1; cases h1
 ·rfl
theorem Inv.rebase {g g2 : G} {rho : Rho} {h : List Blk} {w w1 : World} (hi : Inv g rho h w) (hsz : w.heap.size ≤ w1.heap.size) (hw : ∀ k, k < w.heap.size → w1.heap[k]? = w.heap[k]?)
  (hk : ∀ k, Im g rho h w k → Im g2 rho h w1 k) (hr : ∀ k, UX rho h k → k ∈ g2.S0 ∨ g2.w0.heap.size ≤ k) (hkept : FM g2.w0 w1 g2.S0) : Inv g2 rho h w1 ∧ Ext (zOf g rho h w) (zOf g2 rho h w1) := by
 have he : Ext (zOf g rho h w) (zOf g2 rho h w1) := ⟨fun k hm => ⟨hk k hm, hw k hm.2.1⟩, fun b => ZX.refl _ _⟩
 refine ⟨⟨fun b d hd => (hi.sim b d hd).ext he (fun hl k hkd => hw k (hi.range b d hd hl k hkd).1), hi.disj, hi.nodup, fun b d hd hl k hkd => ⟨?_, hr k ⟨b, d, hd, hl, hkd⟩⟩, hkept, PA.ext (z := zOf g rho h w) hi.tab he⟩, he⟩;exact Nat.lt_of_lt_of_le (hi.range b d hd hl k hkd).1 hsz
def XE (g : G) (k : Nat) : Prop := g.p k ∨ k ∈ g.S0 ∨ g.w0.heap.size ≤ k
def gW (g : G) (N : Nat → Prop) (S : List Nat) (w : World) : G := ⟨fun k => XE g k ∧ ¬ N k, S, w, g.bx, g.ax⟩
open Classical in
theorem ZhP {g g1 : G} {N : Nat → Prop} {rho : Rho} {h : List Blk} {w w1 : World} (hi : Inv g1 rho h w) (hsz : w.heap.size ≤ w1.heap.size) (hw : ∀ k, k < w.heap.size → w1.heap[k]? = w.heap[k]?)
  (hk : ∀ k, Im g1 rho h w k → XE g k ∧ ¬ N k) (ho : ∀ k, UX rho h k → (k ∈ g.S0 ∨ g.w0.heap.size ≤ k) ∧ ¬ N k) :
  ∃ S, Inv (gW g N S w1) rho h w1 ∧ Ext (zOf g1 rho h w) (zOf (gW g N S w1) rho h w1) ∧ ∀ k ∈ S, (k ∈ g.S0 ∨ g.w0.heap.size ≤ k) ∧ k < w1.heap.size ∧ ¬ N k := by
 have hlt : ∀ k, UX rho h k → k < w1.heap.size := fun k ⟨b, d, h1, h2, h3⟩ => Nat.lt_of_lt_of_le (hi.range b d h1 h2 k h3).1 hsz
 let S := (List.range w1.heap.size).filter fun k => decide (UX rho h k)
 have hS : ∀ k, k ∈ S ↔ UX rho h k := fun k => by
  simp only [S, List.mem_filter, List.mem_range, decide_eq_true_eq];exact ⟨fun q => q.2, fun q => ⟨hlt k q, q⟩⟩
 obtain ⟨a1, a2⟩ := hi.rebase (g2 := gW g N S w1) hsz hw (fun k hm => ⟨.inl (hk k hm), Nat.lt_of_lt_of_le hm.2.1 hsz, hm.2.2⟩) (fun k hm => .inl ((hS k).2 hm)) (FM.refl _ _);exact ⟨S, a1, a2, fun k hm => ⟨(ho k ((hS k).1 hm)).1, hlt k ((hS k).1 hm), (ho k ((hS k).1 hm)).2⟩⟩
structure Pnd (E : Env) (ops : Array Oper) (g : G) (a : Act) (w : World) (p blk : Nat) : Prop where
 op : ∃ o t ty d e, nth ops.toList p = some o ∧ o.op = .alloc t ∧ o.guard = none ∧ o.dst = some d ∧ E.ty t = some ty ∧ (∀ u, a.tmps[d]? = some u → u = .pointer (some ⟨blk, 0, none⟩)) ∧ w.heap[blk]? = some (.cells (Zp ty).toArray e (0, 0))
 new : g.w0.heap.size ≤ blk
 lt : blk < w.heap.size
structure ZfX (E : Env) (ops : Array Oper) (bk : Nat → Nat) (g : G) (D : List Nat) (rho : Rho) (s : St) (a : Act) (w : World) : Prop where
 sim : ∃ S, Sim (gW g (fun k => ∃ p ∈ D, k = bk p) S w) rho ⟨ddP (pdB ops D) 0 s.slots, s.heap⟩ a w ∧ ∀ k ∈ S, (k ∈ g.S0 ∨ g.w0.heap.size ≤ k) ∧ k < w.heap.size ∧ ¬ ∃ p ∈ D, k = bk p
 kept : FM g.w0 w g.S0
 pend : ∀ p ∈ D, Pnd E ops g a w p (bk p)
 dis : ∀ p ∈ D, ∀ q ∈ D, bk p = bk q → p = q
 od : ∀ p ∈ D, ∀ q ∈ D, p ≠ q → ∀ d, WG ops.toList p = some d → WG ops.toList q ≠ some d
theorem ZiQ {ops : Array Oper} (n : Nat) (l : List SV) : ddP (pdB ops []) n l = l := by
 induction l generalizing n with
 | nil => rfl
 | cons x l ih => simp only [ddP, ih]; rfl
theorem ZfX.of {ops : Array Oper} {bk : Nat → Nat} {g : G} {rho : Rho} {s : St} {a : Act} {w : World} (hs : Sim g rho s a w) : ZfX E ops bk g [] rho s a w := by
 obtain ⟨S, h1, h2, h3⟩ := ZhP (g := g) (N := fun k => ∃ p ∈ ([] : List Nat), k = bk p) hs.inv (Nat.le_refl _) (fun _ _ => rfl) (fun k hm => ⟨hm.1, by simp⟩) (fun k ⟨b, d, e1, e2, e3⟩ => ⟨(hs.inv.range b d e1 e2 k e3).2, by simp⟩);refine ⟨⟨S, ⟨h1, ?_, hs.defers, hs.bx, hs.ax⟩, h3⟩, hs.inv.kept, by simp, by simp, by simp⟩;rw [ZiQ];exact VL.ext h2 _ _ hs.slots
theorem ZfX.to {ops : Array Oper} {bk : Nat → Nat} {g : G} {rho : Rho} {s : St} {a : Act} {w : World} (hs : ZfX E ops bk g [] rho s a w) : Sim g rho s a w := by
 obtain ⟨⟨S, h1, h2⟩, h3, _, _, _⟩ := hs;have hI : ∀ k, Im (gW g (fun k => ∃ p ∈ ([] : List Nat), k = bk p) S w) rho s.heap w k → Im g rho s.heap w k := by
  intro k hm;refine ⟨?_, hm.2⟩;rcases hm.1 with q | q | q
  ·exact q.1
  ·exact .inr (h2 k q).1
  ·exact absurd hm.2.1 (Nat.not_lt.2 q)
 have hO : ∀ k, UX rho s.heap k → k ∈ g.S0 ∨ g.w0.heap.size ≤ k := by
  rintro k ⟨b, d, e1, e2, e3⟩
  have := h1.inv.range b d e1 e2 k e3;rcases this.2 with q | q
  ·exact (h2 k q).1
  ·exact absurd this.1 (Nat.not_lt.2 q)
 obtain ⟨a1, a2⟩ := h1.inv.rebase (g2 := g) (w1 := w) (Nat.le_refl _) (fun _ _ => rfl) hI hO h3;refine ⟨a1, ?_, h1.defers, h1.bx, h1.ax⟩;have := VL.ext a2 _ _ h1.slots
 rwa [ZiQ] at this
theorem ZfX.step {ops : Array Oper} {bk : Nat → Nat} {g : G} {D : List Nat} {rho rho' : Rho} {s s' : St} {a : Act} {w w' : World} (hs : ZfX E ops bk g D rho s a w) {dst : Option Tmp} {cv : Value} {S : List Nat}
  (hS : ∀ k ∈ S, (k ∈ g.S0 ∨ g.w0.heap.size ≤ k) ∧ k < w.heap.size ∧ ¬ ∃ p ∈ D, k = bk p)
  (hn : Sim (gW g (fun k => ∃ p ∈ D, k = bk p) S w) rho' ⟨ddP (pdB ops D) 0 s'.slots, s'.heap⟩ (a.put dst cv) w') (hd : ∀ t, dst = some t → pdB ops D t = false) : ZfX E ops bk g D rho' s' (a.put dst cv) w' := by
 have hk : FM w w' S := hn.inv.kept;have hlt : ∀ k, (∃ p ∈ D, k = bk p) → k < w.heap.size := fun k ⟨p, h1, h2⟩ => h2 ▸ (hs.pend p h1).lt;have hI : ∀ k, Im (gW g (fun k => ∃ p ∈ D, k = bk p) S w) rho' s'.heap w' k → XE g k ∧ ¬ ∃ p ∈ D, k = bk p := by
  intro k hm;rcases hm.1 with q | q | q
  ·exact q
  ·exact ⟨.inr (hS k q).1, (hS k q).2.2⟩
  ·exact ⟨.inr (.inr (Nat.le_trans hs.kept.1 q)), fun hx => Nat.not_lt.2 q (hlt k hx)⟩
 have hO : ∀ k, UX rho' s'.heap k → (k ∈ g.S0 ∨ g.w0.heap.size ≤ k) ∧ ¬ ∃ p ∈ D, k = bk p := by
  rintro k ⟨b, d, e1, e2, e3⟩
  rcases (hn.inv.range b d e1 e2 k e3).2 with q | q
  ·exact ⟨(hS k q).1, (hS k q).2.2⟩
  ·exact ⟨.inr (Nat.le_trans hs.kept.1 q), fun hx => Nat.not_lt.2 q (hlt k hx)⟩
 obtain ⟨S', h1, h2, h3⟩ := ZhP (g := g) (N := fun k => ∃ p ∈ D, k = bk p) hn.inv (Nat.le_refl _) (fun _ _ => rfl) hI hO
 ·refine ⟨⟨S', ⟨h1, VL.ext h2 _ _ hn.slots, hn.defers, hn.bx, hn.ax⟩, h3⟩, hs.kept.trans hk (fun k hm => (hS k hm).1), fun p hp => ?_, hs.dis, hs.od⟩
  obtain ⟨⟨o, t, ty, d, e, q1, q2, q3, q4, q5, q6, q7⟩, p2, p3⟩ := hs.pend p hp;refine ⟨⟨o, t, ty, d, e, q1, q2, q3, q4, q5, fun u hu => q6 u ?_, ?_⟩, p2, Nat.lt_of_lt_of_le p3 hk.1⟩
  ·cases dst with
   | none => exact hu
   | some t2 =>
    have hne : t2 ≠ d := fun e => by
     have := HX.1 (hd t2 rfl) p hp;apply this;unfold WG;rw [q1, e];exact q4
    simpa [Act.put, Array.getElem?_setIfInBounds, hne] using hu
  ·rw [hk.2 _ p3 (fun hm => (hS _ hm).2.2 ⟨p, hp, rfl⟩)]; exact q7
theorem ZfX.push {P : Program} (hE : HK P E) {ops : Array Oper} {bk : Nat → Nat} {g : G} {D : List Nat} {rho : Rho} {s : St} {a : Act} {w : World} (hs : ZfX E ops bk g D rho s a w) {p : Nat} {o : Oper} {t : TypeId} {ty : Ty} {d : Tmp}
  (h1 : nth ops.toList p = some o) (h2 : o.op = .alloc t) (h3 : o.guard = none) (h4 : o.dst = some d) (h5 : E.ty t = some ty) (hp : p ∉ D) (hod : ∀ q ∈ D, WG ops.toList q ≠ some d) :
  ZfX E ops (fun q => if q = p then w.heap.size else bk q) g (p :: D) rho s (a.put o.dst (.pointer (some ⟨w.heap.size, 0, none⟩))) (Xm w (.cells (Zp ty).toArray t (0, 0))) := by
 obtain ⟨⟨S, hsim, hS⟩, hk, hpd, hdis, hods⟩ := hs;have hsz : (Xm w (.cells (Zp ty).toArray t (0, 0))).heap.size = w.heap.size + 1 := by simp [Xm]
 have hbk : ∀ q ∈ D, (if q = p then w.heap.size else bk q) = bk q := fun q hq => if_neg (fun (e : q = p) => hp (e ▸ hq));have hdp : WG ops.toList p = some d := by unfold WG; rw [h1]; exact h4
 have hN : ∀ k, k < w.heap.size → (¬ ∃ q ∈ D, k = bk q) → ¬ ∃ q ∈ p :: D, k = if q = p then w.heap.size else bk q := by
  rintro k hlt hn ⟨q, hq, e⟩
  rcases List.mem_cons.1 hq with e2 | hq
  ·subst e2; rw [if_pos rfl] at e; omega
  ·rw [hbk q hq] at e; exact hn ⟨q, hq, e⟩
 have hI : ∀ k, Im (gW g (fun k => ∃ p ∈ D, k = bk p) S w) rho s.heap w k → XE g k ∧ ¬ ∃ q ∈ p :: D, k = if q = p then w.heap.size else bk q := by
  intro k hm;rcases hm.1 with q | q | q
  ·exact ⟨q.1, hN k hm.2.1 q.2⟩
  ·exact ⟨.inr (hS k q).1, hN k hm.2.1 (hS k q).2.2⟩
  ·exact absurd hm.2.1 (Nat.not_lt.2 q)
 have hO : ∀ k, UX rho s.heap k → (k ∈ g.S0 ∨ g.w0.heap.size ≤ k) ∧ ¬ ∃ q ∈ p :: D, k = if q = p then w.heap.size else bk q := by
  rintro k ⟨b, dd, e1, e2, e3⟩
  have hr := hsim.inv.range b dd e1 e2 k e3;rcases hr.2 with q | q
  ·exact ⟨(hS k q).1, hN k hr.1 (hS k q).2.2⟩
  ·exact absurd hr.1 (Nat.not_lt.2 q)
 obtain ⟨S', a1, a2, a3⟩ := ZhP (g := g) (N := fun k => ∃ q ∈ p :: D, k = if q = p then w.heap.size else bk q) (w1 := Xm w (.cells (Zp ty).toArray t (0, 0))) hsim.inv (by omega) (fun k hlt => V8 hlt) hI hO
 ·refine ⟨⟨S', ⟨a1, ?_, ?_, hsim.bx, hsim.ax⟩, a3⟩, ?_, ?_, ?_, ?_⟩
  ·have hv := VL.ext a2 _ _ hsim.slots
   rw [h4];simp only [Act.put, Array.toList_setIfInBounds];rw [ZiP (P := pdB ops D) (P' := pdB ops (p :: D)) 0 s.slots d (by rw [Nat.zero_add]; exact HY.2 ⟨p, by simp, hdp⟩) (fun u hu => ZnQ ?_)]
   ·exact VL.upd (by simp only [V]) d hv
   ·rw [Nat.zero_add]
    constructor
    ·rintro ⟨q, hq, e⟩; exact ⟨q, by simp [hq], e⟩
    ·rintro ⟨q, hq, e⟩
     rcases List.mem_cons.1 hq with e2 | hq
     ·subst e2; rw [hdp] at e; cases e; exact absurd rfl hu
     ·exact ⟨q, hq, e⟩
  ·rw [LP]; exact hsim.defers
  ·exact hk.trans (S' := []) ⟨by omega, fun k hlt _ => V8 hlt, DV w _ rfl⟩ (by simp)
  ·intro q hq
   rcases List.mem_cons.1 hq with e | hq
   ·subst e
    refine ⟨⟨o, t, ty, d, t, h1, h2, h3, h4, h5, fun u hu => ?_, ?_⟩, ?_, ?_⟩
    ·rw [h4] at hu
     simp only [Act.put, Array.getElem?_setIfInBounds, if_true] at hu;rw [if_pos rfl]
     split at hu
     ·cases hu; rfl
     ·cases hu
    ·rw [if_pos rfl]; exact J5
    ·rw [if_pos rfl]; exact hk.1
    ·rw [if_pos rfl]; omega
   ·rw [hbk q hq]
    obtain ⟨⟨o', t', ty', d', e, q1, q2, q3, q4, q5, q6, q7⟩, p2, p3⟩ := hpd q hq;refine ⟨⟨o', t', ty', d', e, q1, q2, q3, q4, q5, fun u hu => q6 u ?_, (V8 p3).trans q7⟩, p2, by omega⟩;have hne : d ≠ d' := fun e => by
     apply hod q hq;unfold WG;rw [q1, e];exact q4
    rw [h4] at hu;simpa [Act.put, Array.getElem?_setIfInBounds, hne] using hu
  ·intro x hx0 y hy0 e
   rcases List.mem_cons.1 hx0 with ex | hx <;> rcases List.mem_cons.1 hy0 with ey | hy
   ·rw [ex, ey]
   ·subst ex; rw [if_pos rfl, hbk y hy] at e; have := (hpd y hy).lt; omega
   ·subst ey; rw [if_pos rfl, hbk x hx] at e; have := (hpd x hx).lt; omega
   ·rw [hbk x hx, hbk y hy] at e; exact hdis x hx y hy e
  ·intro x hx0 y hy0 hne d' hd'
   rcases List.mem_cons.1 hx0 with ex | hx <;> rcases List.mem_cons.1 hy0 with ey | hy
   ·exact absurd (ex.trans ey.symm) hne
   ·subst ex; rw [hdp] at hd'; cases hd'; exact hod y hy
   ·subst ey; intro e; rw [hdp] at e; cases e; exact hod x hx hd'
   ·exact hods x hx y hy hne d' hd'
theorem VL.put {z : Z} {v : SV} {c : Value} (hv : V z v c) : ∀ {l : List SV} {cs : List Value} (n : Nat), VL z l cs → (∀ u, cs[n]? = some u → u = c) → VL z (Sx.upd l n v) cs
 | [], cs, n, h, _ => by simp only [VL] at h; subst h; simp [Sx.upd, VL]
 | x :: l, cs, n, h, hc => by
  simp only [VL] at h;obtain ⟨c0, r, rfl, h2, h3⟩ := h;cases n with
  | zero =>
   simp only [Sx.upd, VL];have := hc c0 (by simp);subst this;exact ⟨c0, r, rfl, hv, h3⟩
  | succ n =>
   simp only [Sx.upd, VL];exact ⟨c0, r, rfl, h2, VL.put hv n h3 (fun u hu => hc u (by simpa using hu))⟩
theorem ZfX.pop {ops : Array Oper} {bk : Nat → Nat} {g : G} {D : List Nat} {rho : Rho} {s : St} {a : Act} {w : World} (hs : ZfX E ops bk g D rho s a w) {p : Nat} {o : Oper} {t : TypeId} {ty : Ty} {d : Tmp}
  (h1 : nth ops.toList p = some o) (h2 : o.op = .alloc t) (h4 : o.dst = some d) (h5 : E.ty t = some ty) (hp : p ∈ D) :
  ZfX E ops bk g (D.filter fun q => decide (q ≠ p)) (Yk rho s.heap.length (.v (bk p))) ⟨Zaz s.slots o.dst (.ptr s.heap.length 0), s.heap ++ [.vars (Vi ty)]⟩ a w := by
 obtain ⟨⟨S, hsim, hS⟩, hk, hpd, hdis, hods⟩ := hs;obtain ⟨sl, h⟩ := s;obtain ⟨⟨o', t', ty', d', e, q1, q2, q3, q4, q5, q6, q7⟩, p2, p3⟩ := hpd p hp;rw [h1] at q1;cases q1;rw [h2] at q2; cases q2;rw [h4] at q4; cases q4;rw [h5] at q5; cases q5;have hdp : WG ops.toList p = some d := by unfold WG; rw [h1]; exact h4
 have hmem : ∀ q, q ∈ D.filter (fun q => decide (q ≠ p)) ↔ q ∈ D ∧ q ≠ p := fun q => by simp only [List.mem_filter, decide_eq_true_eq]
 have hi := hsim.inv;have hlt : ∀ b dd, rho b = some dd → live (nth h b) → ∀ k ∈ dd.blks, k ∈ S := fun b dd e1 e2 k e3 => by
  have hr := hi.range b dd e1 e2 k e3;rcases hr.2 with q | q
  ·exact q
  ·exact absurd hr.1 (Nat.not_lt.2 q)
 have hno : ∀ k ∈ S, k ≠ bk p := fun k hm e => (hS k hm).2.2 ⟨p, hp, e⟩;have hN : ∀ k, (¬ ∃ q ∈ D, k = bk q) → ¬ ∃ q ∈ D.filter (fun q => decide (q ≠ p)), k = bk q := by
  rintro k hn ⟨q, hq, e⟩
  exact hn ⟨q, ((hmem q).1 hq).1, e⟩
 have he : Ext (zOf (gW g (fun k => ∃ p ∈ D, k = bk p) S w) rho h w) (zOf (gW g (fun k => ∃ q ∈ D.filter (fun q => decide (q ≠ p)), k = bk q) (bk p :: S) w) (Yk rho h.length (.v (bk p))) (h ++ [.vars (Vi ty)]) w) := by
  refine ⟨fun k hm => ⟨⟨?_, hm.2.1, ?_⟩, rfl⟩, fun b => ?_⟩
  ·rcases hm.1 with q | q | q
   ·exact .inl ⟨q.1, hN k q.2⟩
   ·exact .inr (.inl (List.mem_cons_of_mem _ q))
   ·exact .inr (.inr q)
  ·rintro ⟨b, d', e1, e2, e3⟩
   rcases ZK h (.vars (Vi ty)) b with ⟨f, _⟩ | ⟨f, f4⟩ | ⟨_, f4, _⟩
   ·subst f
    simp only [Yk, if_pos] at e1;cases e1;simp only [Sx.D.blks, List.mem_singleton] at e3;subst e3;rcases hm.1 with q | q | q
    ·exact q.2 ⟨p, hp, rfl⟩
    ·exact hno _ q rfl
    ·exact Nat.not_lt.2 q p3
   ·have : b ≠ h.length := by omega
    simp only [Yk, if_neg this] at e1;rw [f4] at e2;exact hm.2.2 ⟨b, d', e1, e2, e3⟩
   ·rw [f4] at e2; exact e2.elim
  ·show ZX (rho b) (Yk rho h.length (.v (bk p)) b) (nth h b) (nth (h ++ [.vars (Vi ty)]) b)
   rcases ZK h (.vars (Vi ty)) b with ⟨f, f4⟩ | ⟨f, f4⟩ | ⟨_, f4, f5⟩
   ·subst f; rw [Y6.2 (Nat.le_refl _)]; exact ZX.none
   ·have : b ≠ h.length := by omega
    rw [f4]; simp only [Yk, if_neg this]; exact ZX.refl _ _
   ·rw [f5]; exact ZX.none
 have old : ∀ b d', Yk rho h.length (.v (bk p)) b = some d' → live (nth (h ++ [.vars (Vi ty)]) b) → (b = h.length ∧ d' = .v (bk p)) ∨ (b < h.length ∧ rho b = some d' ∧ live (nth h b)) := by
  intro b d' e1 e2;rcases ZK h (.vars (Vi ty)) b with ⟨f, _⟩ | ⟨f, f4⟩ | ⟨_, f4, _⟩
  ·subst f; simp only [Yk, if_pos] at e1; cases e1; exact .inl ⟨rfl, rfl⟩
  ·have : b ≠ h.length := by omega
   simp only [Yk, if_neg this] at e1;rw [f4] at e2;exact .inr ⟨f, e1, e2⟩
  ·rw [f4] at e2; exact e2.elim
 have hinv : Inv (gW g (fun k => ∃ q ∈ D.filter (fun q => decide (q ≠ p)), k = bk q) (bk p :: S) w) (Yk rho h.length (.v (bk p))) (h ++ [.vars (Vi ty)]) w := by
  refine ⟨?_, ?_, ?_, ?_, FM.refl _ _, PA.ext (z := zOf _ rho h w) hi.tab he⟩
  ·intro b d' e1
   rcases ZK h (.vars (Vi ty)) b with ⟨f, f4⟩ | ⟨f, f4⟩ | ⟨_, f4, _⟩
   ·subst f; simp only [Yk, if_pos] at e1; cases e1; rw [f4]
    exact ⟨bk p, Zp ty, e, rfl, q7, HI ty⟩
   ·have hne : b ≠ h.length := by omega
    simp only [Yk, if_neg hne] at e1;rw [f4];exact (hi.sim b d' e1).ext he (fun _ _ _ => rfl)
   ·rw [f4]; trivial
  ·intro b1 b2 d1 d2 e1 e2 l1 l2 hne k hk1 hk2
   rcases old b1 d1 e1 l1 with ⟨f1, f2⟩ | ⟨f1, f2, f3⟩ <;> rcases old b2 d2 e2 l2 with ⟨g1, g2⟩ | ⟨g1, g2, g3⟩
   ·exact hne (f1.trans g1.symm)
   ·subst f2; simp only [Sx.D.blks, List.mem_singleton] at hk1; exact hno k (hlt b2 d2 g2 g3 k hk2) hk1
   ·subst g2; simp only [Sx.D.blks, List.mem_singleton] at hk2; exact hno k (hlt b1 d1 f2 f3 k hk1) hk2
   ·exact hi.disj b1 b2 d1 d2 f2 g2 f3 g3 hne k hk1 hk2
  ·intro b1 d1 e1 l1
   rcases old b1 d1 e1 l1 with ⟨_, f2⟩ | ⟨_, f2, f3⟩
   ·subst f2; simp [Sx.D.blks]
   ·exact hi.nodup b1 d1 f2 f3
  ·intro b1 d1 e1 l1 k hk1
   rcases old b1 d1 e1 l1 with ⟨_, f2⟩ | ⟨_, f2, f3⟩
   ·subst f2; simp only [Sx.D.blks, List.mem_singleton] at hk1; subst hk1; exact ⟨p3, .inl (by simp [gW])⟩
   ·have hm := hlt b1 d1 f2 f3 k hk1
    exact ⟨(hS k hm).2.1, .inl (by simp only [gW, List.mem_cons]; exact .inr hm)⟩
 refine ⟨⟨bk p :: S, ⟨hinv, ?_, hsim.defers, fun q hq => (hsim.bx q hq).le (he.le q.1), fun q hq => (hsim.ax q hq).le (he.le q.1)⟩, fun k hm => ?_⟩, hk, fun q hq => hpd q ((hmem q).1 hq).1,
  fun x hx y hy => hdis x ((hmem x).1 hx).1 y ((hmem y).1 hy).1, fun x hx y hy => hods x ((hmem x).1 hx).1 y ((hmem y).1 hy).1⟩
 ·have hv := VL.ext he _ _ hsim.slots
  rw [h4];show VL _ (ddP (pdB ops (D.filter fun q => decide (q ≠ p))) 0 (Sx.upd sl d (.ptr h.length 0))) a.tmps.toList;rw [ZhO (P := pdB ops D) 0 sl d _ (by
   rw [Nat.zero_add];refine HX.2 fun q hq => ?_;obtain ⟨m1, m2⟩ := (hmem q).1 hq;exact hods p hp q m1 (Ne.symm m2) d hdp) (fun u hu => ZnQ ?_)]
  ·refine VL.put ?_ d hv (fun u hu => q6 u (by simpa using hu))
   exact ZmM (z := zOf _ (Yk rho h.length (.v (bk p))) (h ++ [Blk.vars (Vi ty)]) w) (cells := Vi ty) (show nth (h ++ [Blk.vars (Vi ty)]) h.length = _ from XJ _ _) Z7
  ·rw [Nat.zero_add]
   constructor
   ·rintro ⟨q, hq, e⟩
    refine ⟨q, (hmem q).2 ⟨hq, fun e2 => ?_⟩, e⟩;subst e2;rw [hdp] at e;cases e;exact hu rfl
   ·rintro ⟨q, hq, e⟩; exact ⟨q, ((hmem q).1 hq).1, e⟩
 ·rcases List.mem_cons.1 hm with e | hm
  ·subst e
   refine ⟨.inr p2, p3, ?_⟩
   rintro ⟨q, hq, e⟩
   obtain ⟨m1, m2⟩ := (hmem q).1 hq;exact m2 (hdis p hp q m1 e).symm
  ·exact ⟨(hS k hm).1, (hS k hm).2.1, hN k (hS k hm).2.2⟩
section
variable {P : Program} {s : St} {o : Oper} {r : R}
theorem Zlm (hE : HK P E) {ops : Array Oper} {i : Nat} (ho : ops[i]? = some o) {s : St} {K : St → Option R} (he : LF E ops.toList o s K = some r)
  {g : G} {rho : Rho} {a : Act} {w : World} {Q : Exit → Act → World → Prop} {next : Act → World → Prop} (hs : Sim g rho s a w) (hn : ∀ s' rho' cv w', K s' = some r → Sim g rho' s' (a.put o.dst cv) w' → next (a.put o.dst cv) w') : wpOp P ops Q i next a w := by
 have take : ∀ (s1 : St), Sim g rho s1 a w → Zkx E o s1 K = some r → Region.wanted o (yielded ops a.tmps) = true → wpOp P ops Q i next a w := by
  intro s1 hs1 h1 hw;simp only [wpOp, ho, hw, if_true];left;exact ZiE hE h1 g a w rho hs1.inv (fun x _ => ZfJ hs1 x) _ Q (fun v h' cv w' rho' hk hi hv hx => hn _ rho' cv w' hk (hs1.step hi hv hx))
 have skip : ∀ (s1 : St), Sim g rho s1 a w → K (s1.put o.dst (.tup [])) = some r → Region.wanted o (yielded ops a.tmps) = false → wpOp P ops Q i next a w := by
  intro s1 hs1 h1 hw;simp only [wpOp, ho, hw, Bool.false_eq_true, if_false];exact hn _ rho _ w h1 (hs1.put FO)
 unfold LF at he
 split at he
 ·rename_i hg
  exact take s hs he (by simp [Region.wanted, hg])
 ·rename_i j want hg
  split at he
  ·cases he
  ·rename_i d hd
   have hd' := ZiF hd
   split at he
   ·rename_i b hb
    obtain ⟨u, h1, h2⟩ := VL.get hs.slots hb;have h1' : a.tmps[d]? = some u := by simpa using h1
    have hu := Zhu h2 (b := b) rfl;subst hu;have hy : yielded ops a.tmps j = some b := by simp only [yielded, hd', Option.bind_some, h1']
    have hwd : Region.wanted o (yielded ops a.tmps) = (some b == some want) := by simp [Region.wanted, hg, hy]
    have hput : s.put (some d) (.val .bool b) = s := by
     simp only [St.put]; rw [HP hb]
    have hb2 : b = true ∨ b = false := by cases b <;> simp
    rcases hb2 with e | e
    ·subst e
     dsimp only [cond_true] at he;rw [hput] at he;cases want with
     | true => exact take s hs he (by rw [hwd]; rfl)
     | false => exact skip s hs he (by rw [hwd]; rfl)
    ·subst e
     dsimp only [cond_false] at he;rw [hput] at he;cases want with
     | true => exact skip s hs he (by rw [hwd]; rfl)
     | false => exact take s hs he (by rw [hwd]; rfl)
   ·rename_i hb
    obtain ⟨u, h1, h2⟩ := VL.get hs.slots hb;have h1' : a.tmps[d]? = some u := by simpa using h1
    simp only [V] at h2;obtain ⟨cs, h3, h4⟩ := h2;have hy : yielded ops a.tmps j = none := by simp only [yielded, hd', Option.bind_some, h1', h3]
    exact skip s hs he (by simp [Region.wanted, hg, hy])
   ·cases he
open Classical in
theorem Zm9 (hE : HK P E) {ops : Array Oper} {i : Nat} (ho : ops[i]? = some o) {K : St → Option R} (he : LF E ops.toList o s K = some r) {bk : Nat → Nat} {D : List Nat} (hap : ∀ p ∈ D, apN ops p i = true)
  {g : G} {rho : Rho} {a : Act} {w : World} {Q : Exit → Act → World → Prop} {next : Act → World → Prop} (hs : ZfX E ops bk g D rho s a w)
  (hn : ∀ s' rho' a' w', K s' = some r → ZfX E ops bk g D rho' s' a' w' → next a' w') : wpOp P ops Q i next a w := by
 obtain ⟨S, h1, h2⟩ := hs.sim;have hio : nth ops.toList i = some o := by rw [Vb]; exact ho
 -- those that wait lie apart
 have hpa : ∀ p ∈ D, ∀ d, WG ops.toList p = some d → d ∉ o.looksAt ops ∧ o.dst ≠ some d := by
  intro p hp d hd;have := hap p hp;unfold apN at this;rw [hio] at this;cases hx : nth ops.toList p with
  | none => rw [hx] at this; cases this
  | some x =>
   rw [hx] at this;dsimp only at this;obtain ⟨k1, k2, _⟩ := Oper.apart_spec this;have hxd : x.dst = some d := by unfold WG at hd; rw [hx] at hd; exact hd
   exact ⟨k1 d hxd, k2 d hxd⟩
 have hdd : ∀ t, o.dst = some t → pdB ops D t = false := fun t ht => HX.2 fun q hq e => (hpa q hq t e).2 ht;have hput : ∀ v, Zaz (ddP (pdB ops D) 0 s.slots) o.dst v = ddP (pdB ops D) 0 (Zaz s.slots o.dst v) := fun v => by
  cases hd : o.dst with
  | none => rfl
  | some t => exact (ZhO (P := pdB ops D) 0 s.slots t v (by rw [Nat.zero_add]; exact hdd t hd) (fun _ _ => rfl)).symm
 let K' : St → Option R := fun s' => if ∃ v h, s' = ⟨Zaz (ddP (pdB ops D) 0 s.slots) o.dst v, h⟩ ∧ K ⟨Zaz s.slots o.dst v, h⟩ = some r then some r else none
 have he' : LF E ops.toList o ⟨ddP (pdB ops D) 0 s.slots, s.heap⟩ K' = some r := by
  rw [Pe] at he ⊢;rw [FZ (sl' := s.slots) (fun t ht => Zll _ 0 _ t (by rw [Nat.zero_add]; exact HX.2 fun q hq e => (hpa q hq t e).1 ht))];refine D6 hE.tblM (fun v h hk => ?_) he;exact if_pos ⟨v, h, rfl, hk⟩
 refine Zlm hE ho he' h1 (fun s' rho' cv w' hk hs' => ?_);have hc : ∃ v h, s' = ⟨Zaz (ddP (pdB ops D) 0 s.slots) o.dst v, h⟩ ∧ K ⟨Zaz s.slots o.dst v, h⟩ = some r := by
  by_cases hx : ∃ v h, s' = ⟨Zaz (ddP (pdB ops D) 0 s.slots) o.dst v, h⟩ ∧ K ⟨Zaz s.slots o.dst v, h⟩ = some r
  ·exact hx
  ·simp only [K', if_neg hx] at hk; cases hk
 obtain ⟨v, h, e1, e2⟩ := hc;subst e1;rw [hput] at hs';exact hn ⟨Zaz s.slots o.dst v, h⟩ rho' _ w' e2 (hs.step h2 hs' hdd)
theorem ZoC {E : Env} {ops : Array Oper} {p : Nat} (h : ZnJ E ops.toList p = true) : ∃ o t ty d, nth ops.toList p = some o ∧ o.op = .alloc t ∧ o.guard = none ∧ o.dst = some d ∧ E.ty t = some ty := by
 unfold ZnJ at h
 split at h
 ·rename_i o ho
  unfold Zpz at h
  split at h
  ·rename_i d t h1 h2 h3
   split at h
   ·rename_i ty h4
    exact ⟨o, t, ty, d, ho, h2, h3, h1, h4⟩
   ·cases h
  ·cases h
 ·cases h
theorem Zna (hE : HK P E) {ops : Array Oper} {K : St → Option R} {g : G} {Q : Exit → Act → World → Prop} (hq : ∀ s' rho' a' w', K s' = some r → Sim g rho' s' a' w' → Q .normal a' w') {D C A : List Nat}
  (hl : Lt (fun p i => apN ops p i = true) (fun p q => Jh ops.toList q p = true ∧ Jh ops.toList p q = true) (fun p => ZnJ E ops.toList p = true) D C A) :
  (∀ i ∈ C, i < ops.size) → ∀ (bk : Nat → Nat) (s : St) (rho : Rho) (a : Act) (w : World), Vc E ops A s K = some r → ZfX E ops bk g D rho s a w → wpOps P ops Q C a w := by
 induction hl with
 | nil =>
  intro _ bk s rho a w he hs;simp only [Vc] at he;exact hq s rho a w he hs.to
 | @op D C A i h1 _ ih =>
  intro hC bk s rho a w he hs;rw [wpOps_cons];simp only [Vc] at he
  split at he
  ·rename_i o ho
   have ho' : ops[i]? = some o := by rw [← Vb]; exact ho
   exact Zm9 hE ho' he h1 hs (fun s' rho' a' w' hk hs' => ih (fun j hj => hC j (by simp [hj])) bk s' rho' a' w' hk hs')
  ·cases he
 | @push D C A p h1 h2 h3 _ ih =>
  intro hC bk s rho a w he hs;rw [wpOps_cons];obtain ⟨o, t, ty, d, k1, k2, k3, k4, k5⟩ := ZoC h1;have ho' : ops[p]? = some o := by rw [← Vb]; exact k1
  have hod : ∀ q ∈ D, WG ops.toList q ≠ some d := fun q hq e => by
   have hdp : WG ops.toList p = some d := by unfold WG; rw [k1]; exact k4
   have := (h3 q hq).1;unfold Jh at this;rw [hdp, e] at this;simp at this
  have hpush := hs.push hE k1 k2 k3 k4 k5 h2 hod;simp only [wpOp, ho', show Region.wanted o (yielded ops a.tmps) = true by simp [Region.wanted, k3], if_true];left;obtain ⟨inf, d', q1, q2, q3, _⟩ := LK hE.toEnvOk0 k5;have hcells : (mkV ty (Zp ty)).cells = (Zp ty).toArray := by
   have := (Z0 (im := fun _ => False) (w := w) (o := false) ty).cells;exact Array.toList_inj.1 (by simpa using this)
  have hrun : (execOp a.eval o).run P w = .ok (.value (.pointer (some ⟨w.heap.size, 0, none⟩))) (Xm w (.cells (Zp ty).toArray t (0, 0))) := by
   unfold execOp;rw [k2];dsimp only;show ((Instr.alloc t true (.tuple #[]) >>= fun v => _) : Sem Next).run P w = _;have : (Instr.alloc t true (.tuple #[])).run P w = .ok (.pointer (some ⟨w.heap.size, 0, none⟩)) (Xm w (.cells (Zp ty).toArray t (0, 0))) := by
    unfold Instr.alloc;rw [run_bind_ok (run_zeroValue q1 q3)];show ((newVar t (mkV ty (Zp ty)) >>= fun v => _) : Sem Value).run P w = _;rw [run_bind_ok Zcs, hcells];rfl
   rw [run_bind_ok this];rfl
  unfold Oper.wp;rw [hrun];exact ih (fun j hj => hC j (by simp [hj])) _ s rho _ _ he hpush
 | @pop D C A p h1 _ ih =>
  intro hC bk s rho a w he hs;obtain ⟨⟨o, t, ty, d, e, k1, k2, k3, k4, k5, _⟩, _⟩ := hs.pend p h1;have hpop := hs.pop k1 k2 k4 k5 h1;simp only [Vc, k1] at he;rw [Pe] at he;unfold WM Zmx at he;rw [k3] at he;simp only [ZY, k2, k5] at he;exact ih hC bk _ _ a w he hpop
end
theorem Zln {α β : Type} (f : α → β) : ∀ (l : List α) (n : Nat), nth (l.map f) n = (nth l n).map f
 | [], _ => rfl
 | _ :: _, 0 => rfl
 | _ :: l, n + 1 => Zln f l n
theorem ZcK : ∀ (n k i : Nat), i < n → nth (Kf k n) i = some (k + i)
 | n + 1, k, 0, _ => rfl
 | n + 1, k, i + 1, h => by
  simp only [Kf, nth];rw [ZcK n (k + 1) i (by omega)];congr 1; omega
theorem HZ : ∀ (n k : Nat), (Kf k n).length = n
 | 0, _ => rfl
 | n + 1, k => by simp only [Kf, List.length_cons]; rw [HZ n]
theorem P3 {tab : List (List Nat)} {a b : Nat} (h : b ∈ YD tab a) : a < tab.length := by
 rcases Nat.lt_or_ge a tab.length with k | k
 ·exact k
 ·unfold YD at h
  rw [Y6.2 k] at h;cases h
theorem Zlo {ops : Array Oper} {tab : List (List Nat)} {a : Nat} (h : a < tab.length) : YD (ZpA E ops tab) a = bif ZkE E ops tab a then HE (YD tab a) (Zjp E ops tab a) else YD tab a := by
 unfold ZpA;rw [show ∀ t, YD t a = (nth t a).getD [] from fun _ => rfl, Zln, ZcK _ _ _ h];simp only [Nat.zero_add, Option.map_some, Option.getD_some]
def fAl (E : Env) (ops : Array Oper) (tab : List (List Nat)) (p : Nat) : Option (List Nat) := bif ZkE E ops tab p then some (Zjp E ops tab p) else none
theorem D7 {ops : Array Oper} {tab : List (List Nat)} {p : Nat} {X : List Nat} (h : fAl E ops tab p = some X) : ZkE E ops tab p = true ∧ X = Zjp E ops tab p := by
 unfold fAl at h;cases hb : ZkE E ops tab p with
 | false => rw [hb] at h; cases h
 | true => rw [hb] at h; cases h; exact ⟨rfl, rfl⟩
theorem P4 {ops : Array Oper} {tab : List (List Nat)} {p x : Nat} (h : x ∈ Zjp E ops tab p) : ZnJ E ops.toList x = false ∧ p ∉ YD tab x ∧ ∀ y, p ∈ YD tab y → x ∈ YD tab y := by
 unfold Zjp at h
 split at h
 ·cases h
 ·rename_i z zs hz
  obtain ⟨h1, h2⟩ := List.mem_filter.1 h;simp only [Bool.and_eq_true, Bool.not_eq_true', List.all_eq_true] at h2;obtain ⟨h2, h3, h4⟩ := h2;refine ⟨h2, fun hp => ?_, fun y hy => ?_⟩
  ·rw [Qb.2 hp] at h3; cases h3
  ·have hm : y ∈ z :: zs := by
    rw [← hz];exact List.mem_filter.2 ⟨Qv.2 ⟨Nat.zero_le _, by have := P3 hy; omega⟩, Qb.2 hy⟩
   rcases List.mem_cons.1 hm with e | hm
   ·subst e; exact h1
   ·exact Qb.1 (h4 y hm)
theorem H0 {ops : Array Oper} {tab : List (List Nat)} {p : Nat} (h : ZkE E ops tab p = true) : ZnJ E ops.toList p = true ∧ ∀ y, y < ops.size → y ≠ p → Jh ops.toList p y = true ∧ (p ∈ YD tab y ∨ apN ops p y = true) := by
 unfold ZkE at h;simp only [Bool.and_eq_true, List.all_eq_true, Bool.or_eq_true] at h;refine ⟨h.1, fun y hy hne => ?_⟩;rcases h.2 y (Qv.2 ⟨Nat.zero_le _, by simpa using hy⟩) with e | ⟨e1, e2⟩
 ·exact absurd (Nat.eq_of_beq_eq_true e) hne
 ·exact ⟨e1, e2.imp Qb.1 id⟩
theorem ZhQ {ops : List Oper} {p q : Nat} (h : Jh ops p q = true) : Jh ops q p = true := by
 unfold Jh at h ⊢;cases h1 : WG ops p <;> cases h2 : WG ops q <;> rw [h1, h2] at h <;> dsimp only at h ⊢;rename_i a b;rw [Bool.not_eq_true'] at h ⊢;cases hb : Nat.beq b a with
 | false => rfl
 | true =>
  have := Nat.eq_of_beq_eq_true hb;subst this;rw [Nat.beq_refl] at h; cases h
theorem Zj1 {ops : Array Oper} {tab : List (List Nat)} {p : Nat} (h : ZkE E ops tab p = true) (q : Nat) (hne : q ≠ p) : Jh ops.toList q p = true ∧ Jh ops.toList p q = true := by
 rcases Nat.lt_or_ge q ops.size with k | k
 ·have := ((H0 h).2 q k hne).1
  exact ⟨ZhQ this, this⟩
 ·have hn : WG ops.toList q = none := by
   unfold WG;rw [Y6.2 (by simpa using k)];rfl
  unfold Jh;rw [hn];cases WG ops.toList p <;> exact ⟨rfl, rfl⟩
theorem Zlp {ops : Array Oper} {tab : List (List Nat)} : ZpM ops.size (fun p i => apN ops p i = true) (fAl E ops tab) (YD tab) (YD (ZpA E ops tab)) where
 old := fun a b hb => by
  rw [Zlo (P3 hb)];cases ZkE E ops tab a with
  | false => exact hb
  | true => exact List.mem_append_left _ hb
 new := fun a b hb => by
  have hl : a < tab.length := by
   have := P3 hb;unfold ZpA at this
   rwa [List.length_map, HZ] at this
  rw [Zlo hl] at hb;cases hk : ZkE E ops tab a with
  | false => rw [hk] at hb; exact .inl hb
  | true =>
   rw [hk] at hb;rcases ZcI hb with h | h
   ·exact .inl h
   ·exact .inr ⟨_, by unfold fAl; rw [hk]; rfl, h⟩
 none := fun p X h x hx => by
  obtain ⟨_, rfl⟩ := D7 h;unfold fAl;cases hk : ZkE E ops tab x with
  | false => rfl
  | true => have := (H0 hk).1; rw [(P4 hx).1] at this; cases this
 dep := fun p X h y hy x hx => by
  obtain ⟨_, rfl⟩ := D7 h;exact (P4 hx).2.2 y hy
 free := fun p X h x hx => by
  obtain ⟨_, rfl⟩ := D7 h;exact (P4 hx).2.1
 ap := fun p X h y hy hne => ((H0 (D7 h).1).2 y hy hne).2.symm
theorem Zj2 {P : Program} (hE : HK P E) {ops : Array Oper} {s : St} {K : St → Option R} {r : R} (he : Zhs E ops s K = some r) (g : G) (rho : Rho) (a : Act) (w : World) (Q : Exit → Act → World → Prop) (hs : Sim g rho s a w)
  (hq : ∀ s' rho' a' w', K s' = some r → Sim g rho' s' a' w' → Q .normal a' w') (t : Nat) : wpOps P ops Q (Region.schedule (P.follows .mixedOrders) ops t) a { w with drawn := w.drawn + 1 } := by
 unfold Zhs at he;cases hc : (HG .any ops.toList && (!Region.departs ops || (HG .text ops.toList && HG .gc ops.toList))) with
 | false => rw [hc] at he; cases he
 | true =>
  rw [hc] at he;simp only [cond_true] at he;simp only [Bool.and_eq_true, Bool.or_eq_true, Bool.not_eq_true'] at hc;have any : ∀ (m : Region.Mode) (t : Nat), HG m ops.toList = true → wpOps P ops Q (Region.linearise m ops t) a { w with drawn := w.drawn + 1 } := by
   intro m t hm;obtain ⟨T, hT⟩ := ZjZ hm;obtain ⟨h1, h2, h3⟩ := ZfU hT t;have hpw := ZpJ h2 h3;unfold Zsd at he;cases hl : E.late with
   | false =>
    rw [hl] at he;obtain ⟨os, ho⟩ := ZpK (ops := ops) (is := Region.linearise m ops t) (fun i hi => (h2 i).1 hi);have hr := Zlj hE.tblM _ _ s he _ h1 (fun x => by rw [h2 x, Qv]; simp) hpw;rw [Zj0 ho] at hr;exact PM hE os _ s ho hr g rho a _ Q (hs.drew _) hq
   | true =>
    rw [hl] at he;simp only [cond_true] at he;obtain ⟨m1, m2, m3, m4⟩ := ZiO (od := fun p q => Jh ops.toList q p = true ∧ Jh ops.toList p q = true) (al := fun p => ZnJ E ops.toList p = true) (Zlp (E := E) (ops := ops) (tab := ZnH ops.toList []))
     (fun p X h => (H0 (D7 h).1).1) (fun p X h q hne => (Zj1 (D7 h).1 q hne).symm) (fun x hx => (h2 x).1 hx) h1 hpw
    have hr := Zlj hE.tblM _ _ s he _ m2 (fun x => by rw [m1 x, h2 x, Qv]; simp) m3;exact Zna hE hq m4 (fun i hi => (h2 i).1 hi) (fun _ => 0) s rho a _ hr (ZfX.of (hs.drew _))
  unfold Region.schedule
  split
  ·exact any _ _ hc.1
  ·rename_i hx
   simp only [Bool.or_eq_true, Bool.not_eq_true', not_or] at hx;rcases hc.2 with h | h
   ·exact absurd h hx.2
   ·split
    ·exact any _ _ h.1
    ·exact any _ _ h.2
end
end Go.Sx
namespace Go.Sx
open Go
def Ex.out : Ex → Exit
 | .normal => .normal
 | .exit id => .exit id
 | .ret => .ret
noncomputable section
variable {R : Type} (P : Program) (E : Env)
structure Lpf (R : Type) where
 keeps : List OB
 blks : List BK
 run : Nat → KD keeps → BD blks → Option R
def Lpf.at {R : Type} (l : Lpf R) (n : Nat) : Lp R := ⟨l.keeps, l.blks, l.run n⟩
variable (tab : Nat → Option (Lpf R))
def P5 (n i : Nat) : Option (Lp R) := (tab i).map fun l => l.at n
def ZqX (b : Code) (K : Nat → Ex → St → Option R) (n : Nat) : Ex → St → Option R := fun e s' => match e with
 | .normal => (match ZmC (P5 tab n) b with
  | some l => Er l s'
  | none => ev E (P5 tab n) b s' (K n))
 | e => K n e s'
def ZiR (id : Nat) (K : Nat → Ex → St → Option R) (n : Nat) : Ex → St → Option R := fun e s' => match e with
 | .exit id' => bif Nat.beq id' id then K n .normal s' else K n (.exit id') s'
 | e => K n e s'
def ZhR (l : Lpf R) (K : Nat → Ex → St → Option R) (n : Nat) : Ex → St → Option R := fun e s' => match e with
 | .normal => Er (l.at n) s'
 | e => K n e s'
def Ae : Code → (Nat → Ex → St → Option R) → Prop
 | .seq a b, K => Ae a (ZqX E tab b K) ∧ Ae b K ∧ ∀ i l, Wh b = some i → tab (5000000 + i) = some l →
   (∀ x y, l.run 0 x y = none) ∧ ∀ n x y, l.run (n + 1) x y = ev E (P5 tab n) b (UN (l.at n) x y) (K n)
 | .cond _ a b, K => Ae a K ∧ Ae b K
 | .block id c, K => Ae c (ZiR id K)
 | .loop c, K => ∀ i l, Wh c = some i → tab i = some l →
   ((∀ x y, l.run 0 x y = none) ∧ ∀ n x y, l.run (n + 1) x y = ev E (P5 tab n) c (UN (l.at n) x y) (ZhR l K n)) ∧ Ae c (ZhR l K)
 | _, _ => True
def Fit (g : G) (r : R) (n : Nat) (K : Nat → Ex → St → Option R) (Q : Exit → Act → World → Prop) : Prop :=
 ∀ m, m ≤ n → ∀ e s', K m e s' = some r → ∀ rho a w, Sim g rho s' a w → Q e.out a w
def ZqY (c : Code) (Q : Exit → Act → World → Prop) (a : Act) (w : World) : Prop :=
 ∀ (b : Frame) (k : List Item) (cs : List Frame), ∃ e a' w', Q e a' w' ∧ Arrives P (lone (b.at a (.code c :: .inLoop c :: k)) cs w) b k cs e a' w'
variable {P} {E} {tab}
theorem Znb {c : Code} {Q : Exit → Act → World → Prop} {a : Act} {w : World} (h : ZqY P c Q a w) : (Code.loop c).wp P Q a w := by
 intro b k cs;obtain ⟨e, a', w', hq, harr⟩ := h b k cs;exact ⟨e, a', w', hq, .of_steps (.one step_loop) harr⟩
theorem Znc {c : Code} {Q : Exit → Act → World → Prop} {a : Act} {w : World} (h : c.wp P (Exit.then (ZqY P c Q) Q) a w) : ZqY P c Q a w := by
 intro b k cs;obtain ⟨e, a₁, w₁, hq, harr⟩ := h b (.inLoop c :: k) cs;cases e with
 | normal =>
  obtain ⟨e₂, a₂, w₂, hq₂, harr₂⟩ := hq b k cs;exact ⟨e₂, a₂, w₂, hq₂, .of_steps (Steps.trans harr (.one step_inLoop)) harr₂⟩
 | exit id => exact ⟨_, a₁, w₁, hq, .pass (x := .inLoop c) rfl (fun _ _ => .inl (by simp)) harr⟩
 | goto l => exact ⟨_, a₁, w₁, hq, .pass (x := .inLoop c) rfl (fun _ _ => .inl (by simp)) harr⟩
 | ret => exact ⟨_, a₁, w₁, hq, .pass (x := .inLoop c) rfl (fun _ _ => .inl (by simp)) harr⟩
 | panic ch => exact ⟨_, a₁, w₁, hq, .pass (x := .inLoop c) rfl (fun _ _ => .inl (by simp)) harr⟩
 | outgrown => exact ⟨_, a₁, w₁, hq, .pass (x := .inLoop c) rfl (fun _ _ => .inl (by simp)) harr⟩
theorem ZfY (hE : HK P E) {g : G} (hB : ∀ i l, tab i = some l → (∀ q ∈ g.bx, q.1 < l.blks.length) ∧ ∀ q ∈ g.ax, q.1 < l.blks.length) {r : R} : ∀ (c : Code) (K : Nat → Ex → St → Option R) (Q : Exit → Act → World → Prop) (n : Nat) (s : St) (rho : Rho) (a : Act) (w : World),
  Ae E tab c K → Fit g r n K Q → ev E (P5 tab n) c s (K n) = some r → Sim g rho s a w → c.wp P Q a w
 | .skip, K, Q, n, s, rho, a, w, _, hf, he, hs => wp_skip (hf n (Nat.le_refl _) .normal s he rho a w hs)
 | .label l, K, Q, n, s, rho, a, w, _, hf, he, hs => wp_label (hf n (Nat.le_refl _) .normal s he rho a w hs)
 | .exit id, K, Q, n, s, rho, a, w, _, hf, he, hs => wp_exit (hf n (Nat.le_refl _) (.exit id) s he rho a w hs)
 | .ret, K, Q, n, s, rho, a, w, _, hf, he, hs => wp_ret (hf n (Nat.le_refl _) .ret s he rho a w hs)
 | .region id ops draw, K, Q, n, s, rho, a, w, _, hf, he, hs => by
  simp only [ev] at he;cases draw with
  | false =>
   simp only [cond_false] at he;refine wp_region ?_;exact PM hE _ _ s (At.range ops) he g rho a w Q hs (fun s' rho' a' w' hk hs' => hf n (Nat.le_refl _) .normal s' hk rho' a' w' hs')
  | true =>
   simp only [cond_true] at he;refine wp_region_draw (fun t => ?_);exact Zj2 hE he g rho a w Q hs (fun s' rho' a' w' hk hs' => hf n (Nat.le_refl _) .normal s' hk rho' a' w' hs') t
 | .seq x y, K, Q, n, s, rho, a, w, hl, hf, he, hs => by
  refine wp_seq ?_;refine ZfY hE hB (r := r) x (ZqX E tab y K) _ n s rho a w hl.1 (fun m hm e s' hk rho' a' w' hs' => ?_) ?_ hs
  ·cases e with
   | normal =>
    simp only [ZqX] at hk
    split at hk
    ·rename_i l0 hl0
     unfold ZmC at hl0
     split at hl0
     ·rename_i i hi
      unfold P5 at hl0;cases ht : tab (5000000 + i) with
      | none => rw [ht] at hl0; cases hl0
      | some l =>
       rw [ht] at hl0;simp only [Option.map_some, Option.some.injEq] at hl0;subst hl0;obtain ⟨h0, h1⟩ := hl.2.2 i l hi ht;obtain ⟨x', y', rho2, hr, hs2⟩ := ZfL hs' (hB _ l ht).1 (hB _ l ht).2 hk;cases m with
       | zero =>
        have := (h0 x' y').symm.trans hr;cases this
       | succ m =>
        have hr := (h1 m x' y').symm.trans hr;exact ZfY hE hB y K Q m _ rho2 a' w' hl.2.1 (fun m' hm' => hf m' (by omega)) hr hs2
     ·cases hl0
    ·exact ZfY hE hB y K Q m s' rho' a' w' hl.2.1 (fun m' hm' => hf m' (Nat.le_trans hm' hm)) hk hs'
   | exit id => exact hf m hm _ s' hk rho' a' w' hs'
   | ret => exact hf m hm _ s' hk rho' a' w' hs'
  ·simp only [ev] at he
   exact he
 | .cond c x y, K, Q, n, s, rho, a, w, hl, hf, he, hs => by
  simp only [ev] at he
  split at he
  ·rename_i b hb
   have hc := Zhu (ZfJ hs c) hb;refine wp_cond hc ?_;cases b with
   | true => exact ZfY hE hB x K Q n s rho a w hl.1 hf he hs
   | false => exact ZfY hE hB y K Q n s rho a w hl.2 hf he hs
  ·cases he
 | .block id c, K, Q, n, s, rho, a, w, hl, hf, he, hs => by
  refine wp_block ?_;refine ZfY hE hB (r := r) c (ZiR id K) _ n s rho a w hl (fun m hm e s' hk rho' a' w' hs' => ?_) ?_ hs
  ·cases e with
   | normal => exact hf m hm .normal s' hk rho' a' w' hs'
   | exit id' =>
    simp only [ZiR] at hk;simp only [Ex.out, Exit.inBlock];cases hb : Nat.beq id' id with
    | true =>
     rw [hb] at hk;rw [if_pos (Nat.eq_of_beq_eq_true hb)];exact hf m hm .normal s' hk rho' a' w' hs'
    | false =>
     rw [hb] at hk;rw [if_neg (Nat.ne_of_beq_eq_false hb)];exact hf m hm (.exit id') s' hk rho' a' w' hs'
   | ret => exact hf m hm .ret s' hk rho' a' w' hs'
  ·simp only [ev] at he
   exact he
 | .loop c, K, Q, n, s, rho, a, w, hl, hf, he, hs => by
  simp only [ev] at he
  split at he
  ·rename_i i hi
   split at he
   ·rename_i l0 hl0
    unfold P5 at hl0;cases ht : tab i with
    | none => rw [ht] at hl0; cases hl0
    | some l =>
     rw [ht] at hl0;simp only [Option.map_some, Option.some.injEq] at hl0;subst hl0;obtain ⟨⟨h0, h1⟩, h2⟩ := hl i l hi ht;refine Znb ?_;have key : ∀ m, m ≤ n → ∀ s rho a w, Sim g rho s a w → Er (l.at m) s = some r → ZqY P c Q a w := by
      intro m
      induction m using Nat.strongRecOn with
      | _ m ih =>
       intro hm s rho a w hs he;obtain ⟨x, y, rho', hr, hs'⟩ := ZfL hs (hB i l ht).1 (hB i l ht).2 he;cases m with
       | zero =>
        have := (h0 x y).symm.trans hr;cases this
       | succ m =>
        have hr := (h1 m x y).symm.trans hr;refine Znc ?_;refine ZfY hE hB (r := r) c (ZhR l K) _ m _ rho' a w h2 (fun q hq e s' hk rho2 a2 w2 hs2 => ?_) hr hs';cases e with
        | normal => exact ih q (by omega) (by omega) s' rho2 a2 w2 hs2 hk
        | exit id => exact hf q (by omega) _ s' hk rho2 a2 w2 hs2
        | ret => exact hf q (by omega) _ s' hk rho2 a2 w2 hs2
     exact key n (Nat.le_refl _) s rho a w hs he
   ·cases he
  ·cases he
 | .scope _, K, Q, n, s, rho, a, w, _, _, he, _ => by simp [ev] at he
 | .goto _, K, Q, n, s, rho, a, w, _, _, he, _ => by simp [ev] at he
 | .rangeFunc _ _ _ _, K, Q, n, s, rho, a, w, _, _, he, _ => by simp [ev] at he
 | .refuse _, K, Q, n, s, rho, a, w, _, _, he, _ => by simp [ev] at he
end
end Go.Sx
namespace Go.Sx
open Go
inductive Bxk where
 | box (b : Nat)
 | arr (b : Nat) (t : Ty)
def Bxk.n : Bxk → Nat
 | .box b => b
 | .arr b _ => b
def XG (h : List Blk) : SV → SV × List Blk × List Bxk
 | .io t x => (.own h.length 0, h ++ [.arr 0 t x], [.arr h.length t])
 | v => ((Uj h v).1, (Uj h v).2, [])
def WH (h : List Blk) : List SV → List SV × List Blk × List Bxk
 | [] => ([], h, [])
 | x :: l => match XG h x with | (x', h', b) => (match WH h' l with | (l', h'', b') => (x' :: l', h'', b ++ b'))
mutual
def enter (h : List Blk) : SV → SV × List Blk × List Bxk
 | .fr t x => (.own h.length 0, h ++ [.arr 0 t x], [])
 | .io t x => (.own h.length 0, h ++ [.arr 0 t x], [.arr h.length t])
 | .mr l => match Xl h l with | (l', h') => (.ptr h'.length 0, h' ++ [.vars l'], [.box h'.length])
 | .fp l => match Xl h l with | (l', h') => (.ptr h'.length 0, h' ++ [.vars l'], [])
 | .fn f l => match Xk h l with | (l', h', b) => (.fn f l', h', b)
 | .agg l => match WH h l with | (l', h', b) => (.agg l', h', b)
 | .tup l => match Xl h l with | (l', h') => (.tup l', h', [])
 | .fv t x => match Uj h (.fv t x) with | (v, h') => (v, h', [])
 | v => (v, h, [])
def Xk (h : List Blk) : List SV → List SV × List Blk × List Bxk
 | [] => ([], h, [])
 | x :: l => match enter h x with | (x', h', b) => (match Xk h' l with | (l', h'', b') => (x' :: l', h'', b ++ b'))
end
def ZoD (h : List Blk) : List Bxk → Option (List (List SV))
 | [] => some []
 | .box b :: bs => match nth h b with
  | some (.vars c) => (match Zhm (upd h b .gone) c with
   | some (c', h') => (match ZoD h' bs with | some r => some (c' :: r) | none => none)
   | none => none)
  | _ => none
 | .arr b t :: bs => match nth h b with
  | some (.arr v s x) => if v = 0 then (match toS (.sl true s) (.sl true t) x with
   | some y => (match ZoD (upd h b .gone) bs with | some r => some ([.fr t y] :: r) | none => none)
   | none => none) else none
  | _ => none
def ZhS (E : Env) (s : St) (a : Tmp) (t : TypeId) : Option SV :=
 match E.ty t with
 | some ty => (match s.get (.tmp a) with
  | .ptr b off => (match nth s.heap b with
   | some (.vars c) => El s.heap ty (cut c off ty.size) some
   | _ => none)
  | _ => none)
 | none => none
def ZnR (E : Env) (s : St) : List ResultVar → Option (List SV)
 | [] => some []
 | .tmp t :: l => match ZnR E s l with | some r => some (s.get (.tmp t) :: r) | none => none
 | .cell a t :: l => match ZhS E s a t with
  | some v => (match ZnR E s l with | some r => some (v :: r) | none => none)
  | none => none
def Pf : List SV → SV
 | [x] => x
 | l => .tup l
def ZpN (h : List Blk) (v : SV) : Option (SV × List Blk) :=
 match v with
 | .ptr b 0 => (match nth h b with
  | some (.vars c) => (match Zhm (upd h b .gone) c with
   | some (c', h') => some (.fp c', h')
   | none => none)
  | _ => none)
 | v => pub h v
def Zfh (h : List Blk) : List (Option Ty) → List SV → Option (List SV × List Blk)
 | [], [] => some ([], h)
 | some t :: ts, v :: l => match Zpx h t v with
  | some (v', h') => (match Zfh h' ts l with | some (l', h'') => some (v' :: l', h'') | none => none)
  | none => none
 | none :: ts, v :: l => match ZpN h v with
  | some (v', h') => (match Zfh h' ts l with | some (l', h'') => some (v' :: l', h'') | none => none)
  | none => none
 | _, _ => none
def fin (E : Env) (rt : List (Option Ty)) (res : List ResultVar) (boxes : List Bxk) (s : St) : Option (SV × List (List SV)) :=
 match ZnR E s res with
 | none => none
 | some l => match Zfh s.heap rt l with
  | none => none
  | some (l', h) => match ZoD h boxes with
   | none => none
   | some o => some (Pf l', o)
abbrev Res : Type := SV × List (List SV)
def Zse (E : Env) (rt : List (Option Ty)) (res : List ResultVar) (boxes : List Bxk) : Ex → St → Option Res := fun e s => match e with
 | .normal => fin E rt res boxes s
 | .ret => fin E rt res boxes s
 | .exit _ => none
noncomputable section
variable {R : Type} (E : Env) (kp : List (Nat × (List OB × List BK)))
def Y8 (Ln : Nat → Option (Lp R)) : Code → (Ex → St → Option R) → List (Nat × (Code × (Ex → St → Option R)))
 | .seq a b, K => Y8 Ln a (fun e s' => match e with | .normal => (match ZmC Ln b with | some l => Er l s' | none => ev E Ln b s' K) | e => K e s') ++
   ((match Wh b with
   | some i => (match Ln (5000000 + i) with | some _ => [(5000000 + i, (b, K))] | none => [])
   | none => []) ++ Y8 Ln b K)
 | .cond _ a b, K => Y8 Ln a K ++ Y8 Ln b K
 | .block id c, K => Y8 Ln c (fun e s' => match e with | .exit id' => bif Nat.beq id' id then K .normal s' else K (.exit id') s' | e => K e s')
 | .loop c, K => match Wh c with
  | some i => (match Ln i with
   | some l => (i, c, fun e s' => match e with | .normal => Er l s' | e => K e s') :: Y8 Ln c (fun e s' => match e with | .normal => Er l s' | e => K e s')
   | none => [])
  | none => []
 | _, _ => []
def B7 : Code → List Nat
 | .seq a b => B7 a ++ ((match Wh b with
  | some i => (match ZF kp (5000000 + i) with | some _ => [5000000 + i] | none => [])
  | none => []) ++ B7 b)
 | .cond _ a b => B7 a ++ B7 b
 | .block _ c => B7 c
 | .loop c => match Wh c with
  | some i => (match ZF kp i with | some _ => i :: B7 c | none => [])
  | none => []
 | _ => []
variable (body : Code) (K0 : Ex → St → Option R)
def Zsf (k : List OB × List BK) (run : KD k.1 → BD k.2 → Option R) : Lp R := ⟨k.1, k.2, run⟩
def Zlq (Ln : Nat → Option (Lp R)) (i : Nat) (ks : List OB) (bs : List BK) (x : KD ks) (y : BD bs) : Option R :=
 match ZF (Y8 E Ln body K0) i with
 | some (c, K) => ev E Ln c (Zod ks bs x y) K
 | none => none
def ZfZ : Nat → (i : Nat) → (k : List OB × List BK) → KD k.1 → BD k.2 → Option R
 | 0, _, _, _, _ => none
 | n + 1, i, k, x, y => Zlq E body K0 (fun i => match ZF kp i with | some k => some (Zsf k (ZfZ n i k)) | none => none) i k.1 k.2 x y
def Lr (n i : Nat) : Option (Lp R) := match ZF kp i with | some k => some (Zsf k (ZfZ E kp body K0 n i k)) | none => none
def Zmy (i : Nat) : Option (Lpf R) := match ZF kp i with | some k => some ⟨k.1, k.2, fun n => ZfZ E kp body K0 n i k⟩ | none => none
theorem LV (n : Nat) : P5 (Zmy E kp body K0) n = Lr E kp body K0 n := by
 funext i;unfold P5 Zmy Lr;cases ZF kp i with
 | none => rfl
 | some k => rfl
def ZhT : List Nat → Bool
 | [] => true
 | x :: l => !(l.any (Nat.beq x)) && ZhT l
theorem ZiS : ∀ {l : List Nat}, ZhT l = true → l.Nodup
 | [], _ => by simp
 | x :: l, h => by
  simp only [ZhT, Bool.and_eq_true, Bool.not_eq_true'] at h;refine List.nodup_cons.2 ⟨fun hm => ?_, ZiS h.2⟩;have := List.any_eq_false.1 h.1 x hm;exact this (Nat.beq_refl x)
theorem B8 {β : Type _} : ∀ {l : List (Nat × β)}, (l.map (·.1)).Nodup → ∀ {i : Nat} {b : β}, (i, b) ∈ l → ZF l i = some b
 | [], _, i, b, h => by simp at h
 | (j, c) :: l, hn, i, b, h => by
  simp only [List.map_cons] at hn;obtain ⟨n1, n2⟩ := List.nodup_cons.1 hn;rcases List.mem_cons.1 h with e | h
  ·cases e
   simp [ZF]
  ·have : j ≠ i := fun e => n1 (e ▸ List.mem_map.2 ⟨_, h, rfl⟩)
   simp only [ZF];rw [show Nat.beq j i = false from by
    cases hb : Nat.beq j i with
    | false => rfl
    | true => exact absurd (Nat.eq_of_beq_eq_true hb) this]
   exact B8 n2 h
theorem Wj (n : Nat) : ∀ (c : Code) (K : Ex → St → Option R), (Y8 E (Lr E kp body K0 n) c K).map (·.1) = B7 kp c
 | .seq a b, K => by
  simp only [Y8, B7, List.map_append];rw [Wj n a, Wj n b];congr 2;cases Wh b with
  | none => rfl
  | some i =>
   dsimp only;have : Lr E kp body K0 n (5000000 + i) = none ↔ ZF kp (5000000 + i) = none := by
    unfold Lr; cases ZF kp (5000000 + i) <;> simp
   cases hk : ZF kp (5000000 + i) with
   | none => rw [this.2 hk]; rfl
   | some k =>
    cases hl : Lr E kp body K0 n (5000000 + i) with
    | none => rw [this.1 hl] at hk; cases hk
    | some l => rfl
 | .cond _ a b, K => by simp only [Y8, B7, List.map_append]; rw [Wj n a, Wj n b]
 | .block _ c, K => by simp only [Y8, B7]; rw [Wj n c]
 | .loop c, K => by
  simp only [Y8, B7];cases Wh c with
  | none => rfl
  | some i =>
   dsimp only;have : Lr E kp body K0 n i = none ↔ ZF kp i = none := by
    unfold Lr; cases ZF kp i <;> simp
   cases hk : ZF kp i with
   | none => rw [this.2 hk]; rfl
   | some k =>
    cases hl : Lr E kp body K0 n i with
    | none => rw [this.1 hl] at hk; cases hk
    | some l => simp only [List.map_cons]; rw [Wj n c]
 | .skip, _ => rfl
 | .region _ _ _, _ => rfl
 | .rangeFunc _ _ _ _, _ => rfl
 | .exit _, _ => rfl
 | .scope _, _ => rfl
 | .label _, _ => rfl
 | .goto _, _ => rfl
 | .ret, _ => rfl
 | .refuse _, _ => rfl
theorem Wk (hn : (B7 kp body).Nodup) : ∀ (c : Code) (K : Nat → Ex → St → Option R),
  (∀ n, ∀ q ∈ Y8 E (Lr E kp body K0 n) c (K n), q ∈ Y8 E (Lr E kp body K0 n) body K0) → Ae E (Zmy E kp body K0) c K
 | .seq a b, K, h => by
  refine ⟨Wk hn a _ (fun n q hq => h n q ?_), Wk hn b _ (fun n q hq => h n q (by simp only [Y8]; exact List.mem_append.2 (.inr (List.mem_append.2 (.inr hq))))), fun i l hi hl => ?_⟩
  ·simp only [Y8]
   refine List.mem_append.2 (.inl ?_);unfold ZqX at hq;rw [LV] at hq;exact hq
  ·have ht : Zmy E kp body K0 (5000000 + i) = some l := hl
   unfold Zmy at ht;cases hk : ZF kp (5000000 + i) with
   | none => rw [hk] at ht; cases ht
   | some k =>
    rw [hk] at ht;simp only [Option.some.injEq] at ht;have hLr : ∀ n, Lr E kp body K0 n (5000000 + i) = some (l.at n) := fun n => by
     rw [← LV]; unfold P5; rw [hl]; rfl
    have hmem : ∀ n, (5000000 + i, b, K n) ∈ Y8 E (Lr E kp body K0 n) body K0 := by
     intro n;refine h n _ ?_;simp only [Y8, hi, hLr];exact List.mem_append.2 (.inr (List.mem_append.2 (.inl (List.mem_singleton.2 rfl))))
    refine ⟨fun x y => by subst ht; rfl, fun n x y => ?_⟩;have ha := B8 (by rw [Wj]; exact hn) (hmem n);subst ht;rw [LV];show Zlq E body K0 (Lr E kp body K0 n) (5000000 + i) k.1 k.2 x y = _;unfold Zlq;rw [ha];rfl
 | .cond _ a b, K, h => ⟨Wk hn a _ (fun n q hq => h n q (by simp only [Y8]; exact List.mem_append.2 (.inl hq))), Wk hn b _ (fun n q hq => h n q (by simp only [Y8]; exact List.mem_append.2 (.inr hq)))⟩
 | .block id c, K, h => Wk hn c (ZiR id K) (fun n q hq => h n q (by simp only [Y8]; exact hq))
 | .loop c, K, h => by
  intro i l hi hl;have ht : Zmy E kp body K0 i = some l := hl;unfold Zmy at ht;cases hk : ZF kp i with
  | none => rw [hk] at ht; cases ht
  | some k =>
   rw [hk] at ht;simp only [Option.some.injEq] at ht;have hLr : ∀ n, Lr E kp body K0 n i = some (l.at n) := fun n => by
    rw [← LV]; unfold P5; rw [hl]; rfl
   have hmem : ∀ n, ∀ q, q ∈ (i, c, ZhR l K n) :: Y8 E (Lr E kp body K0 n) c (ZhR l K n) → q ∈ Y8 E (Lr E kp body K0 n) body K0 := by
    intro n q hq;refine h n q ?_;simp only [Y8, hi, hLr];exact hq
   refine ⟨⟨fun x y => by subst ht; rfl, fun n x y => ?_⟩, Wk hn c (ZhR l K) (fun n q hq => hmem n q (List.mem_cons_of_mem _ hq))⟩;have ha := B8 (by rw [Wj]; exact hn) (hmem n (i, c, ZhR l K n) (List.mem_cons_self ..));subst ht;rw [LV];show Zlq E body K0 (Lr E kp body K0 n) i k.1 k.2 x y = _;unfold Zlq;rw [ha];rfl
 | .skip, _, _ => trivial
 | .region _ _ _, _, _ => trivial
 | .rangeFunc _ _ _ _, _, _ => trivial
 | .exit _, _, _ => trivial
 | .scope _, _, _ => trivial
 | .label _, _, _ => trivial
 | .goto _, _, _ => trivial
 | .ret, _, _ => trivial
 | .refuse _, _, _ => trivial
theorem ZoE (hn : (B7 kp body).Nodup) : Ae E (Zmy E kp body K0) body (fun _ => K0) :=
 Wk E kp body K0 hn body _ (fun _ _ hq => hq)
end
end Go.Sx
namespace Go.Sx
open Go
inductive Bxs (rho : Rho) (h : List Blk) : List Bxk → List LC → Prop
 | nil : Bxs rho h [] []
 | cons {b blk : Nat} {bs : List Bxk} {blks : List LC} : rho b = some (.v blk) → (∃ c, nth h b = some (.vars c)) → Bxs rho h bs blks → Bxs rho h (.box b :: bs) (.box blk :: blks)
 | arr {b cap : Nat} {A : Option Addr} {S : List Nat} {t : Ty} {x : List t.den} {bs : List Bxk} {blks : List LC} : rho b = some (.s A cap S) → nth h b = some (.arr 0 t x) → Bxs rho h bs blks →
   Bxs rho h (.arr b t :: bs) (.arr (.slice A x.length cap) t :: blks)
theorem Bxs.append {rho : Rho} {h : List Blk} {bs cs : List Bxk} {blks clks : List LC} (a : Bxs rho h bs blks) (b : Bxs rho h cs clks) : Bxs rho h (bs ++ cs) (blks ++ clks) := by
 induction a with
 | nil => exact b
 | cons h1 h2 _ ih => exact .cons h1 h2 ih
 | arr h1 h2 _ ih => exact .arr h1 h2 ih
theorem Bxs.later {z : Z} {r : Rho} {h : List Blk} {S : List Nat} {bs : List Bxk} {blks : List LC} (a : Bxs z.rho z.h bs blks) (g : AX z r h S) : Bxs r h bs blks := by
 induction a with
 | nil => exact .nil
 | cons h1 h2 _ ih =>
  obtain ⟨c, hc⟩ := h2;have := g.old _ (BU hc);exact .cons (this.2.trans h1) ⟨c, this.1.trans hc⟩ ih
 | arr h1 h2 _ ih =>
  have := g.old _ (BU h2);exact .arr (this.2.trans h1) (this.1.trans h2) ih
theorem P6 (h : List Blk) (x : SV) (l : List SV) : Xk h (x :: l) = ((enter h x).1 :: (Xk (enter h x).2.1 l).1, (Xk (enter h x).2.1 l).2.1, (enter h x).2.2 ++ (Xk (enter h x).2.1 l).2.2) := rfl
theorem Na (h : List Blk) (x : SV) (l : List SV) : WH h (x :: l) = ((XG h x).1 :: (WH (XG h x).2.1 l).1, (WH (XG h x).2.1 l).2.1, (XG h x).2.2 ++ (WH (XG h x).2.1 l).2.2) := rfl
theorem ZiT {z : Z} (hi : IZ z) {t : Ty} {x : List t.den} {c : Value} {S : List Nat} (h1 : 0 < t.size) (h2 : TR z.im z.w true (.sl true t) x [c] S) (hn : S.Nodup) (hf : DZ z S) :
  ∃ rho', AX z rho' (z.h ++ [.arr 0 t x]) S ∧ V (z.mk2 rho' (z.h ++ [.arr 0 t x])) (.own z.h.length 0) c ∧ Bxs rho' (z.h ++ [.arr 0 t x]) [.arr z.h.length t] [.arr c t] := by
 obtain ⟨r, g, v⟩ := ZdX hi h2 h1 hn hf;refine ⟨r, g, v, ?_⟩;have hb : nth (z.h ++ [Blk.arr 0 t x]) z.h.length = some (.arr 0 t x) := XJ _ _;obtain ⟨A, cap, S', e1, e2⟩ := ZaE v hb rfl;subst e2;exact .arr e1 hb .nil
theorem Nb {im : Nat → Prop} {w : World} (v : SV) {c : Value} {S : List Nat} {B : List LC} (hv : CV im w v c S B) {h : List Blk} : (XG h v).2.2.length ≤ B.length := by
 cases v with
 | io t x =>
  simp only [CV] at hv;rw [hv.1]; simp [XG]
 | _ => simp [XG]
theorem Af {im : Nat → Prop} {w : World} : ∀ (l : List SV) {cs : List Value} {S : List Nat} {B : List LC} (_ : CVL im w l cs S B) {h : List Blk}, (WH h l).2.2.length ≤ B.length
 | [], _, _, _, _, _ => by simp [WH]
 | x :: l, cs, S, B, hv, h => by
  simp only [CVL] at hv;obtain ⟨c, r, S1, S2, B1, B2, _, _, rfl, h4, h5⟩ := hv;rw [Na];simp only [List.length_append];have := Nb x h4 (h := h);have := Af l h5 (h := (XG h x).2.1);omega
theorem Zlr (v : SV) {z : Z} (hi : IZ z) (c : Value) (S : List Nat) (B : List LC) (hv : CV z.im z.w v c S B) (hn : S.Nodup) (hf : DZ z S) (hl : (XG z.h v).2.2.length = B.length) :
  ∃ rho', AX z rho' (XG z.h v).2.1 S ∧ V (z.mk2 rho' (XG z.h v).2.1) (XG z.h v).1 c ∧ Bxs rho' (XG z.h v).2.1 (XG z.h v).2.2 B := by
 have XE : (XG z.h v) = ((Uj z.h v).1, (Uj z.h v).2, []) → ∃ rho', AX z rho' (XG z.h v).2.1 S ∧ V (z.mk2 rho' (XG z.h v).2.1) (XG z.h v).1 c ∧ Bxs rho' (XG z.h v).2.1 (XG z.h v).2.2 B := fun e => by
  rw [e] at hl ⊢;have hB : B = [] := List.length_eq_zero_iff.1 hl.symm;subst hB;obtain ⟨r, g, v1⟩ := ZdZ v hi c S hv hn hf;exact (⟨r, g, v1, .nil⟩ : ∃ rho', AX z rho' (Uj z.h v).2 S ∧ V (z.mk2 rho' (Uj z.h v).2) (Uj z.h v).1 c ∧ Bxs rho' (Uj z.h v).2 [] [])
 cases v with
 | io t x =>
  simp only [CV] at hv;obtain ⟨rfl, h1, h2⟩ := hv;exact ZiT hi h1 h2 hn hf
 | _ => exact XE rfl
theorem ZcL : ∀ (l : List SV) {z : Z} (_ : IZ z) (cs : List Value) (S : List Nat) (B : List LC), CVL z.im z.w l cs S B → S.Nodup → DZ z S → (WH z.h l).2.2.length = B.length →
  ∃ rho', AX z rho' (WH z.h l).2.1 S ∧ VL (z.mk2 rho' (WH z.h l).2.1) (WH z.h l).1 cs ∧ Bxs rho' (WH z.h l).2.1 (WH z.h l).2.2 B
 | [], z, hi, cs, S, B, hv, _, _, _ => by
  simp only [CVL] at hv;obtain ⟨rfl, rfl, rfl⟩ := hv;exact ⟨z.rho, AX.refl hi, by simp only [WH, VL], .nil⟩
 | x :: l, z, hi, cs, S, B, hv, hn, hf, hl => by
  simp only [CVL] at hv;obtain ⟨c, r, S1, S2, B1, B2, rfl, rfl, rfl, h4, h5⟩ := hv;obtain ⟨n1, n2, n3⟩ := WZ hn;rw [Na] at hl ⊢;simp only [List.length_append] at hl;have hge1 := Nb x h4 (h := z.h);have hge2 := Af l h5 (h := (XG z.h x).2.1);obtain ⟨r1, g1, v1, x1⟩ := Zlr x hi c S1 B1 h4 n1 (fun k hk => hf k (by simp [hk])) (by omega);obtain ⟨r2, g2, v2, x2⟩ := ZcL l (z := z.mk2 r1 (XG z.h x).2.1) g1.iz r S2 B2 h5 n2 (DZ.step g1 (fun k hk => hf k (by simp [hk])) n3) (by
   show (WH (XG z.h x).2.1 l).2.2.length = _
   omega)
  refine ⟨r2, g1.trans g2, ?_, (x1.later (z := z.mk2 r1 (XG z.h x).2.1) g2).append x2⟩;simp only [VL];exact ⟨c, r, rfl, V.ext g2.ext _ _ v1, v2⟩
mutual
theorem Znd : ∀ (v : SV) {z : Z} (_ : IZ z) (c : Value) (S : List Nat) (B : List LC), CV z.im z.w v c S B → S.Nodup → DZ z S → (enter z.h v).2.2.length = B.length →
  ∃ rho', AX z rho' (enter z.h v).2.1 S ∧ V (z.mk2 rho' (enter z.h v).2.1) (enter z.h v).1 c ∧ Bxs rho' (enter z.h v).2.1 (enter z.h v).2.2 B
 | .val t x, z, hi, c, S, B, hv, _, _, _ => by
  simp only [CV] at hv;obtain ⟨rfl, rfl, cs, h1, h2⟩ := hv;refine ⟨z.rho, AX.refl hi, ?_, .nil⟩;simp only [enter, V];exact ⟨cs, h1, h2⟩
 | .vl c0 t x, z, hi, c, S, B, hv, _, _, _ => by
  simp only [CV] at hv;obtain ⟨rfl, rfl, h0, cs, h1, h2⟩ := hv;refine ⟨z.rho, AX.refl hi, ?_, .nil⟩;simp only [enter, V];exact ⟨h0, cs, h1, h2⟩
 | .nil, z, hi, c, S, B, hv, _, _, _ => by
  simp only [CV] at hv;obtain ⟨rfl, rfl, rfl⟩ := hv;exact ⟨z.rho, AX.refl hi, by simp only [enter, V], .nil⟩
 | .fr t x, z, hi, c, S, B, hv, hn, hf, _ => by
  simp only [CV] at hv;obtain ⟨rfl, h1, h2⟩ := hv;simp only [enter];obtain ⟨r, g, v⟩ := ZdX hi h2 h1 hn hf;exact ⟨r, g, v, .nil⟩
 | .fv t x, z, hi, c, S, B, hv, hn, hf, _ => by
  have hB : B = [] := by simp only [CV] at hv; exact hv.1
  subst hB;obtain ⟨r, g, v⟩ := ZdZ _ hi c S hv hn hf;exact ⟨r, g, v, .nil⟩
 | .io t x, z, hi, c, S, B, hv, hn, hf, _ => by
  simp only [CV] at hv;obtain ⟨rfl, h1, h2⟩ := hv;exact ZiT hi h1 h2 hn hf
 | .agg l, z, hi, c, S, B, hv, hn, hf, hl => by
  simp only [CV] at hv;obtain ⟨cs, rfl, h2⟩ := hv;simp only [enter] at hl;obtain ⟨rho', g1, g2, g3⟩ := ZcL l hi cs S B h2 hn hf hl;simp only [enter];refine ⟨rho', g1, ?_, g3⟩;simp only [V];exact ⟨cs, rfl, g2⟩
 | .tup l, z, hi, c, S, B, hv, hn, hf, hl => by
  simp only [CV] at hv;obtain ⟨cs, rfl, h2⟩ := hv;simp only [enter, List.length_nil] at hl;have hB : B = [] := List.length_eq_zero_iff.1 hl.symm;subst hB;obtain ⟨rho', g1, g2⟩ := U9 l hi cs S h2 hn hf;simp only [enter];refine ⟨rho', g1, ?_, .nil⟩;simp only [V];exact ⟨cs, rfl, g2⟩
 | .fn f l, z, hi, c, S, B, hv, hn, hf, hl => by
  simp only [CV] at hv;obtain ⟨cs, rfl, h2⟩ := hv;simp only [enter] at hl;obtain ⟨rho', g1, g2, g3⟩ := P7 l hi cs S B h2 hn hf hl;simp only [enter];refine ⟨rho', g1, ?_, g3⟩;simp only [V];exact ⟨cs, rfl, g2⟩
 | .mr l, z, hi, c, S, B, hv, hn, hf, _ => by
  simp only [CV] at hv;obtain ⟨blk, cs, e, S', rfl, rfl, rfl, h4, h5⟩ := hv;obtain ⟨n1, n2⟩ := List.nodup_cons.1 hn;obtain ⟨r1, g1, v1⟩ := U9 l hi cs S' h5 n2 (fun k hk => hf k (by simp [hk]));obtain ⟨r2, g2, v2⟩ := ZdY (z := z.mk2 r1 (Xl z.h l).2) g1.iz h4 v1 (DZ.step g1 (fun k hk => hf k (by simp only [List.mem_singleton] at hk; simp [hk])) (fun k hk hb => by
   simp only [List.mem_singleton] at hb; subst hb; exact n1 hk))
  simp only [enter];refine ⟨r2, (g1.trans g2).more (fun k hk => ?_), ?_, .cons v2 ⟨_, XJ _ _⟩ .nil⟩
  ·rcases List.mem_append.1 hk with q | q
   ·simp [q]
   ·simp only [List.mem_singleton] at q; simp [q]
  ·simp only [V]
   refine ⟨⟨_, rfl⟩, ?_⟩;show match nth ((Xl z.h l).2 ++ [Blk.vars (Xl z.h l).1]) (Xl z.h l).2.length with | some (.vars _) => _ | some .lent => _ | some _ => True | none => False
   rw [XJ];exact ⟨blk, v2, rfl⟩
 | .fp l, z, hi, c, S, B, hv, hn, hf, _ => by
  simp only [CV] at hv;obtain ⟨blk, cs, e, S', rfl, rfl, rfl, h4, h5⟩ := hv;obtain ⟨n1, n2⟩ := List.nodup_cons.1 hn;obtain ⟨r1, g1, v1⟩ := U9 l hi cs S' h5 n2 (fun k hk => hf k (by simp [hk]));obtain ⟨r2, g2, v2⟩ := ZdY (z := z.mk2 r1 (Xl z.h l).2) g1.iz h4 v1 (DZ.step g1 (fun k hk => hf k (by simp only [List.mem_singleton] at hk; simp [hk])) (fun k hk hb => by
   simp only [List.mem_singleton] at hb; subst hb; exact n1 hk))
  simp only [enter];refine ⟨r2, (g1.trans g2).more (fun k hk => ?_), ?_, .nil⟩
  ·rcases List.mem_append.1 hk with q | q
   ·simp [q]
   ·simp only [List.mem_singleton] at q; simp [q]
  ·simp only [V]
   refine ⟨⟨_, rfl⟩, ?_⟩;show match nth ((Xl z.h l).2 ++ [Blk.vars (Xl z.h l).1]) (Xl z.h l).2.length with | some (.vars _) => _ | some .lent => _ | some _ => True | none => False
   rw [XJ];exact ⟨blk, v2, rfl⟩
 | .own _ _, _, _, _, _, _, h, _, _, _ => by simp only [CV] at h
 | .sub _ _ _ _, _, _, _, _, _, h, _, _, _ => by simp only [CV] at h
 | .ptr _ _, _, _, _, _, _, h, _, _, _ => by simp only [CV] at h
 | .eptr _ _ _ _, _, _, _, _, _, h, _, _, _ => by simp only [CV] at h
 | .rptr _ _ _, _, _, _, _, _, h, _, _, _ => by simp only [CV] at h
 | .dead, z, hi, _, _, _, h, _, _, _ => by
  simp only [CV] at h;obtain ⟨rfl, rfl⟩ := h;exact ⟨z.rho, AX.refl hi, by simp only [enter, V], .nil⟩
theorem P7 : ∀ (l : List SV) {z : Z} (_ : IZ z) (cs : List Value) (S : List Nat) (B : List LC), CVL z.im z.w l cs S B → S.Nodup → DZ z S → (Xk z.h l).2.2.length = B.length →
  ∃ rho', AX z rho' (Xk z.h l).2.1 S ∧ VL (z.mk2 rho' (Xk z.h l).2.1) (Xk z.h l).1 cs ∧ Bxs rho' (Xk z.h l).2.1 (Xk z.h l).2.2 B
 | [], z, hi, cs, S, B, hv, _, _, _ => by
  simp only [CVL] at hv;obtain ⟨rfl, rfl, rfl⟩ := hv;exact ⟨z.rho, AX.refl hi, by simp only [Xk, VL], .nil⟩
 | x :: l, z, hi, cs, S, B, hv, hn, hf, hl => by
  simp only [CVL] at hv;obtain ⟨c, r, S1, S2, B1, B2, rfl, rfl, rfl, h4, h5⟩ := hv;obtain ⟨n1, n2, n3⟩ := WZ hn;rw [P6] at hl ⊢;simp only [List.length_append] at hl;have hge1 := P8 x h4 (h := z.h);have hge2 := Ca l h5 (h := (enter z.h x).2.1);obtain ⟨r1, g1, v1, x1⟩ := Znd x hi c S1 B1 h4 n1 (fun k hk => hf k (by simp [hk])) (by omega);obtain ⟨r2, g2, v2, x2⟩ := P7 l (z := z.mk2 r1 (enter z.h x).2.1) g1.iz r S2 B2 h5 n2 (DZ.step g1 (fun k hk => hf k (by simp [hk])) n3) (by
   show (Xk (enter z.h x).2.1 l).2.2.length = _
   omega)
  refine ⟨r2, g1.trans g2, ?_, (x1.later (z := z.mk2 r1 (enter z.h x).2.1) g2).append x2⟩;simp only [VL];exact ⟨c, r, rfl, V.ext g2.ext _ _ v1, v2⟩
theorem P8 {im : Nat → Prop} {w : World} : ∀ (v : SV) {c : Value} {S : List Nat} {B : List LC} (_ : CV im w v c S B) {h : List Blk}, (enter h v).2.2.length ≤ B.length
 | .val t x, _, _, _, _, _ => by simp [enter]
 | .vl c0 t x, _, _, _, _, _ => by simp [enter]
 | .nil, _, _, _, _, _ => by simp [enter]
 | .fr t x, _, _, _, _, _ => by simp [enter]
 | .fv t x, _, _, _, _, _ => by simp [enter]
 | .io t x, c, S, B, hv, h => by
  simp only [CV] at hv;rw [hv.1]; simp [enter]
 | .agg l, c, S, B, hv, h => by
  simp only [CV] at hv;obtain ⟨cs, _, h2⟩ := hv;simp only [enter];exact Af l h2
 | .tup l, _, _, _, _, _ => by simp [enter]
 | .fn f l, c, S, B, hv, h => by
  simp only [CV] at hv;obtain ⟨cs, _, h2⟩ := hv;simp only [enter];exact Ca l h2
 | .mr l, c, S, B, hv, h => by
  simp only [CV] at hv;obtain ⟨blk, cs, e, S', _, _, rfl, _, _⟩ := hv;simp [enter]
 | .fp l, _, _, _, _, _ => by simp [enter]
 | .own _ _, _, _, _, h, _ => by simp only [CV] at h
 | .sub _ _ _ _, _, _, _, h, _ => by simp only [CV] at h
 | .ptr _ _, _, _, _, h, _ => by simp only [CV] at h
 | .eptr _ _ _ _, _, _, _, h, _ => by simp only [CV] at h
 | .rptr _ _ _, _, _, _, h, _ => by simp only [CV] at h
 | .dead, _, _, _, _, _ => by simp [enter]
theorem Ca {im : Nat → Prop} {w : World} : ∀ (l : List SV) {cs : List Value} {S : List Nat} {B : List LC} (_ : CVL im w l cs S B) {h : List Blk}, (Xk h l).2.2.length ≤ B.length
 | [], _, _, _, _, _ => by simp [Xk]
 | x :: l, cs, S, B, hv, h => by
  simp only [CVL] at hv;obtain ⟨c, r, S1, S2, B1, B2, _, _, rfl, h4, h5⟩ := hv;rw [P6];simp only [List.length_append];have := P8 x h4 (h := h);have := Ca l h5 (h := (enter h x).2.1);omega
end
end Go.Sx
