/- The abstract machine: typed values, slot values, blocks, and an evaluator of the model's own code in continuation style. -/
import Derived.Calls
import Derived.Orders
set_option linter.unusedVariables false
set_option linter.unusedSimpArgs false
namespace Go.Sx
open Go
inductive Ty where
 | int (k : IntKind)
 | bool
 | str
 | unit
 | pair (a b : Ty)
 | sl (u : Bool) (a : Ty)
abbrev Ty.den : Ty → Type
 | .int _ => Int
 | .bool => Bool
 | .str => ByteArray
 | .unit => Unit
 | .pair a b => a.den × b.den
 | .sl _ a => List a.den
def Ty.size : Ty → Nat
 | .unit => 0
 | .pair a b => a.size + b.size
 | _ => 1
def Ty.isAgg : Ty → Bool
 | .unit => true
 | .pair _ _ => true
 | _ => false
def Ty.eqv : Ty → Ty → Bool
 | .int k, .int k' => decide (k = k')
 | .bool, .bool => true
 | .str, .str => true
 | .unit, .unit => true
 | .pair a b, .pair c d => a.eqv c && b.eqv d
 | .sl _ a, .sl _ b => a.eqv b
 | _, _ => false
def Ty.same : Ty → Ty → Bool
 | .int k, .int k' => decide (k = k')
 | .bool, .bool => true
 | .str, .str => true
 | .unit, .unit => true
 | .pair a b, .pair c d => a.same c && b.same d
 | .sl u a, .sl v b => (u == v) && a.same b
 | _, _ => false
theorem Ty.same_eq : ∀ {s t : Ty}, s.same t = true → s = t
 | .int k, .int k', h => by simp only [Ty.same, decide_eq_true_eq] at h; rw [h]
 | .bool, .bool, _ => rfl
 | .str, .str, _ => rfl
 | .unit, .unit, _ => rfl
 | .pair a b, .pair c d, h => by
  simp only [Ty.same, Bool.and_eq_true] at h;rw [Ty.same_eq h.1, Ty.same_eq h.2]
 | .sl u a, .sl v b, h => by
  simp only [Ty.same, Bool.and_eq_true, beq_iff_eq] at h;rw [h.1, Ty.same_eq h.2]
def Ty.uq : Ty → Ty
 | .pair a b => .pair a.uq b.uq
 | .sl _ a => .sl true a.uq
 | t => t
def Ty.okU : Ty → Bool
 | .pair a b => a.okU && b.okU
 | .sl _ a => Nat.blt 0 a.size && a.okU
 | _ => true
theorem Ty.den_eqv : ∀ {s t : Ty}, s.eqv t = true → s.den = t.den
 | .int _, .int _, _ => rfl
 | .bool, .bool, _ => rfl
 | .str, .str, _ => rfl
 | .unit, .unit, _ => rfl
 | .pair a b, .pair c d, h => by
  simp only [Ty.eqv, Bool.and_eq_true] at h;simp only [Ty.den]; rw [Ty.den_eqv h.1, Ty.den_eqv h.2]
 | .sl _ a, .sl _ b, h => by
  simp only [Ty.eqv] at h;simp only [Ty.den]; rw [Ty.den_eqv h]
def Ty.ro : Ty → Ty
 | .pair a b => .pair a.ro b.ro
 | .sl _ a => .sl false a.ro
 | t => t
def Ty.hasRo : Ty → Bool
 | .pair a b => a.hasRo || b.hasRo
 | .sl u a => !u || a.hasRo
 | _ => false
def Ty.noUq : Ty → Bool
 | .pair a b => a.noUq && b.noUq
 | .sl u a => !u && a.noUq
 | _ => true
def Ty.hasSl : Ty → Bool
 | .pair a b => a.hasSl || b.hasSl
 | .sl _ _ => true
 | _ => false
def ZS : (t : Ty) → t.den
 | .int _ => (0 : Int)
 | .bool => false
 | .str => ByteArray.empty
 | .unit => ()
 | .pair a b => (ZS a, ZS b)
 | .sl _ _ => []
def eqD : (t : Ty) → t.den → t.den → Bool
 | .int _, x, y => decide ((x : Int) = y)
 | .bool, x, y => (x : Bool) == y
 | .str, x, y => decide ((x : ByteArray) = y)
 | .unit, _, _ => true
 | .pair a b, x, y => eqD a x.1 y.1 && eqD b x.2 y.2
 | .sl _ _, _, _ => false
inductive SV where
 | val (t : Ty) (x : t.den)
 | agg (l : List SV)
 | tup (l : List SV)
 | own (b v : Nat)
 | sub (b v off n : Nat)
 | nil
 | ptr (b off : Nat)
 | eptr (b v i off : Nat)
 | rptr (t : Ty) (x : t.den) (off : Nat)
 | fn (f : FuncId) (cap : List SV)
 | fr (t : Ty) (x : List t.den)
 | fv (t : Ty) (x : t.den)
 | io (t : Ty) (x : List t.den)
 | mr (l : List SV)
 | fp (l : List SV)
 | vl (c : Value) (t : Ty) (x : t.den)
 | dead
inductive Blk where
 | vars (c : List SV)
 | arr (v : Nat) (t : Ty) (x : List t.den)
 | lent
 | held (v : Nat) (t : Ty) (n : Nat)
 | opn (v : Nat) (t : Ty) (x : List t.den) (i : Nat) (c : List SV)
 | gone
def Blk.info : Blk → Option (Nat × Ty × Nat)
 | .arr v t x => some (v, t, x.length)
 | .held v t n => some (v, t, n)
 | .opn v t x _ _ => some (v, t, x.length)
 | _ => none
def Ay : Option Blk → Option (Nat × Ty × Nat)
 | some b => b.info
 | none => none
structure St where
 slots : List SV
 heap : List Blk
def nth {α : Type} : List α → Nat → Option α
 | [], _ => none
 | x :: _, 0 => some x
 | _ :: l, n + 1 => nth l n
def upd {α : Type} : List α → Nat → α → List α
 | [], _, _ => []
 | _ :: l, 0, y => y :: l
 | x :: l, n + 1, y => x :: upd l n y
def BU {α : Type} : List α → Nat → α → Option (List α)
 | [], _, _ => none
 | _ :: l, 0, y => some (y :: l)
 | x :: l, n + 1, y => match BU l n y with
  | some l' => some (x :: l')
  | none => none
theorem R8 {α : Type} : ∀ {l : List α} {n : Nat} {y : α} {l' : List α}, BU l n y = some l' → l' = upd l n y
 | [], _, _, _, h => by cases h
 | _ :: _, 0, _, _, h => by cases h; rfl
 | x :: l, n + 1, y, l', h => by
  simp only [BU] at h
  split at h
  ·rename_i l2 h2
   cases h;simp only [upd];rw [R8 h2]
  ·cases h
def asB : SV → Option Bool
 | .val .bool b => some b
 | _ => none
def asI : SV → Option (IntKind × Int)
 | .val (.int k) n => some (k, n)
 | _ => none
def asS : SV → Option ByteArray
 | .val .str s => some s
 | _ => none
def Zv0 : Value → SV
 | .int k n => .val (.int k) n
 | .bool b => .val .bool b
 | .string s => .val .str s
 | .slice none 0 0 => .nil
 | _ => .dead
def ofC : Value → SV
 | .agg cs => .agg (cs.toList.map Zv0)
 | v => Zv0 v
def St.get (s : St) : Operand → SV
 | .tmp t => (nth s.slots t).getD .dead
 | .const v => ofC v
 | .func f => .fn f []
 | .global _ => .dead
def St.put (s : St) (d : Option Tmp) (v : SV) : St :=
 match d with
 | some t => { s with slots := upd s.slots t v }
 | none => s
def castD {s t : Ty} (h : s.eqv t = true) (x : s.den) : t.den := cast (Ty.den_eqv h) x
def toD (s t : Ty) (x : s.den) : Option t.den :=
 if h : s.eqv t = true then some (castD h x) else none
def toS (s t : Ty) (x : s.den) : Option t.den :=
 if h : s.same t = true then some (cast (congrArg Ty.den (Ty.same_eq h)) x) else none
def cellsOf : (t : Ty) → t.den → List SV
 | .unit, _ => []
 | .pair a b, x => cellsOf a x.1 ++ cellsOf b x.2
 | .int k, x => [.val (.int k) x]
 | .bool, x => [.val .bool x]
 | .str, x => [.val .str x]
 | .sl u a, x => [.val (.sl u a) x]
def UB : Ty → List SV
 | .unit => []
 | .pair a b => UB a ++ UB b
 | .int k => [.val (.int k) (0 : Int)]
 | .bool => [.val .bool false]
 | .str => [.val .str ByteArray.empty]
 | .sl _ _ => [.nil]
def Ej (deep : Bool) (h : List Blk) (t : Ty) : SV → Option t.den
 | .val s x => toD s t x
 | .vl _ s x => toD s t x
 | .nil => match t with | .sl _ _ => some [] | _ => none
 | .own b v => match t with
  | .sl _ a => bif deep then
    (match nth h b with
    | some (.arr v' s x) => if v' = v then toD (.sl true s) (.sl true a) x else none
    | _ => none) else none
  | _ => none
 | .sub b v off n => match t with
  | .sl _ a => bif deep then
    (match nth h b with
    | some (.arr v' s x) => if v' = v then toD (.sl true s) (.sl true a) ((x.drop off).take n) else none
    | _ => none) else none
  | _ => none
 | _ => none
def GC (deep : Bool) (h : List Blk) (t : Ty) (l : List SV) : Option (t.den × List SV) :=
 match l with
 | c :: r => (match Ej deep h t c with | some x => some (x, r) | none => none)
 | [] => none
def Zi9 (deep : Bool) (h : List Blk) : (t : Ty) → List SV → Option (t.den × List SV)
 | .unit, l => some ((), l)
 | .pair a b, l => match Zi9 deep h a l with
  | some (x, l') => (match Zi9 deep h b l' with
   | some (y, l'') => some ((x, y), l'')
   | none => none)
  | none => none
 | .int k, l => GC deep h (.int k) l
 | .bool, l => GC deep h .bool l
 | .str, l => GC deep h .str l
 | .sl u a, l => GC deep h (.sl u a) l
def KH (deep : Bool) (h : List Blk) (t : Ty) (l : List SV) : Option t.den :=
 match Zi9 deep h t l with
 | some (x, []) => some x
 | _ => none
def ZgQ (deep : Bool) (h : List Blk) (t : Ty) : SV → Option t.den
 | .agg l => bif t.isAgg then KH deep h t l else none
 | v => Ej deep h t v
def Zt0 : SV → Bool
 | .nil => true
 | _ => false
def HL (h : List Blk) (t : Ty) (l : List SV) : SV :=
 bif l.any Zt0 then .agg l else
 match KH false h t l with
 | some x => .val t x
 | none => .agg l
def AC : SV → Bool
 | .val t _ => !t.isAgg
 | .vl _ t _ => !t.isAgg
 | .own _ _ => true
 | .sub _ _ _ _ => true
 | .nil => true
 | .ptr _ _ => true
 | .eptr _ _ _ _ => true
 | .rptr _ _ _ => true
 | .fn _ _ => true
 | _ => false
def YU : List SV → Bool
 | [] => true
 | x :: l => AC x && YU l
def Zc5 : SV → Option (List SV)
 | .val t x => some (cellsOf t x)
 | .agg l => bif YU l then some l else none
 | .tup _ => none
 | .fr _ _ => none
 | .fv _ _ => none
 | .io _ _ => none
 | .mr _ => none
 | .fp _ => none
 | .vl c t x => bif t.isAgg then none else some [.vl c t x]
 | .dead => none
 | v => some [v]
inductive TK where
 | scalar
 | slice (e : TypeId)
 | struct (fs : List (Nat × TypeId))
structure TI where
 ty : Ty
 bytes : Nat
 kind : TK
inductive Mode where
 | ro (t : Ty)
 | mv
 | mref
 | io
 | fnm (ms : List Mode)
structure Con where
 modes : List Mode
 run : (R : Type) → List SV → (SV → List (List SV) → Option R) → Option R
 fresh : Bool
inductive Zc1 where
 | drop
 | is (v : SV)
 | ro (t : Ty)
 | own (t : Ty)
inductive BK where
 | drop
 | vars (ks : List Zc1)
 | arr (t : Ty)
structure Env where
 ti : TypeId → Option TI
 eqs : TypeId → Bool
 tbl : FuncId → Option Con
 nest : Bool := false
 opens : Bool := false
 vt : Nat → Bool := fun _ => false
def Env.ty (E : Env) (t : TypeId) : Option Ty := (E.ti t).map (·.ty)
def Yi {β : Type _} : List (Nat × β) → Nat → Option β
 | [], _ => none
 | (k, v) :: l, n => bif Nat.beq k n then some v else Yi l n
def lim : Nat := 4294967296
def ZsR : Nat := 1649267441664
mutual
def pub (h : List Blk) : SV → Option (SV × List Blk)
 | .val t x => some (.val t x, h)
 | .vl c t x => some (.vl c t x, h)
 | .nil => some (.nil, h)
 | .own b v => match nth h b with
  | some (.arr v' t x) => if v' = v then some (.fr t x, upd h b .gone) else none
  | _ => none
 | .sub b v off n => match nth h b with
  | some (.arr v' t x) => if v' = v then (bif t.noUq then some (.fr t ((x.drop off).take n), upd h b .gone) else none) else none
  | _ => none
 | .agg l => match Zmo h l with | some (l', h') => some (.agg l', h') | none => none
 | .tup l => match Zmo h l with | some (l', h') => some (.tup l', h') | none => none
 | _ => none
def Zmo (h : List Blk) : List SV → Option (List SV × List Blk)
 | [] => some ([], h)
 | x :: l => match pub h x with
  | some (x', h') => (match Zmo h' l with | some (l', h'') => some (x' :: l', h'') | none => none)
  | none => none
end
def UK : (t : Ty) → t.den → List Blk → List SV × List Blk
 | .unit, _, h => ([], h)
 | .pair a b, x, h => match UK a x.1 h with | (l, h') => (match UK b x.2 h' with | (l', h'') => (l ++ l', h''))
 | .int k, x, h => ([.val (.int k) x], h)
 | .bool, x, h => ([.val .bool x], h)
 | .str, x, h => ([.val .str x], h)
 | .sl u a, x, h => bif u then ([.own h.length 0], h ++ [.arr 0 a x]) else ([.val (.sl u a) x], h)
def Zux (t : Ty) (l : List SV) : SV :=
 bif t.isAgg then .agg l else (match l with | [x] => x | _ => .dead)
mutual
def Kq (h : List Blk) : SV → SV × List Blk
 | .fr t x => (.own h.length 0, h ++ [.arr 0 t x])
 | .fv t x => match UK t x h with | (l, h') => (Zux t l, h')
 | .agg l => match XW h l with | (l', h') => (.agg l', h')
 | .tup l => match XW h l with | (l', h') => (.tup l', h')
 | .fn f l => match XW h l with | (l', h') => (.fn f l', h')
 | .fp l => match XW h l with | (l', h') => (.ptr h'.length 0, h' ++ [.vars l'])
 | v => (v, h)
def XW (h : List Blk) : List SV → List SV × List Blk
 | [] => ([], h)
 | x :: l => match Kq h x with | (x', h') => (match XW h' l with | (l', h'') => (x' :: l', h''))
end
mutual
def hasRo : SV → Bool
 | .val t _ => t.hasSl
 | .vl _ t _ => t.hasSl
 | .fr t _ => t.hasRo
 | .fv t _ => t.hasRo
 | .io t _ => t.hasRo
 | .agg l => Wf l
 | .tup l => Wf l
 | .fn _ l => Wf l
 | .mr l => Wf l
 | .fp l => Wf l
 | _ => false
def Wf : List SV → Bool
 | [] => false
 | x :: l => hasRo x || Wf l
end
mutual
def Zjb : SV → Bool
 | .val _ _ => true
 | .vl _ _ _ => true
 | .nil => true
 | .fr _ _ => true
 | .fv _ _ => true
 | .dead => true
 | .agg l => DJ l
 | .tup l => DJ l
 | .fn _ l => DJ l
 | .fp l => DJ l
 | _ => false
def DJ : List SV → Bool
 | [] => true
 | x :: l => Zjb x && DJ l
end
def JS : SV → List Nat
 | .own b _ => [b]
 | .sub b _ _ _ => [b]
 | _ => []
def QH : SV → List Nat
 | .agg l => l.flatMap JS
 | v => JS v
inductive Lnt where
 | box (b : Nat)
 | arr (b v : Nat) (t : Ty)
structure R9 where
 args : List SV
 heap : List Blk
 lent : List Nat
 boxes : List Lnt
def Vb (h : List Blk) : SV → Option R9
 | .own b v => match nth h b with
  | some (.arr v' t x) => if v' = v then some ⟨[.io t x], upd h b (.held v t x.length), [], [.arr b v t]⟩ else none
  | _ => none
 | .nil => some ⟨[.nil], h, [], []⟩
 | .val t x => bif t.hasSl then none else some ⟨[.val t x], h, [], []⟩
 | _ => none
def JT (h : List Blk) : List SV → Option R9
 | [] => some ⟨[], h, [], []⟩
 | c :: l => match Vb h c with
  | none => none
  | some p => match JT p.heap l with
   | none => none
   | some q => some ⟨p.args ++ q.args, q.heap, p.lent ++ q.lent, p.boxes ++ q.boxes⟩
mutual
def ZeY (m : Mode) (v : SV) (h : List Blk) : Option R9 :=
 match m with
 | .ro t => match ZgQ true h t v with
  | some x => some ⟨[.val t x], h, QH v, []⟩
  | none => none
 | .mv => match pub h v with
  | some (v', h') => some ⟨[v'], h', [], []⟩
  | none => none
 | .mref => match v with
  | .ptr b 0 => match nth h b with
   | some (.vars c) => match Zmo (upd h b .lent) c with
    | some (c', h') => some ⟨[.mr c'], h', [], [.box b]⟩
    | none => none
   | _ => none
  | _ => none
 | .io => match v with
  | .agg l => match JT h l with
   | some p => some ⟨[.agg p.args], p.heap, p.lent, p.boxes⟩
   | none => none
  | v => Vb h v
 | .fnm ms => match v with
  | .fn f cap => match Az ms cap h with
   | some p => some ⟨[.fn f p.args], p.heap, p.lent, p.boxes⟩
   | none => none
  | _ => none
def Az (ms : List Mode) (vs : List SV) (h : List Blk) : Option R9 :=
 match ms with
 | [] => match vs with
  | [] => some ⟨[], h, [], []⟩
  | _ => none
 | m :: ms' => match vs with
  | [] => none
  | v :: vs' => match ZeY m v h with
   | none => none
   | some p => match Az ms' vs' p.heap with
    | none => none
    | some q => some ⟨p.args ++ q.args, q.heap, p.lent ++ q.lent, p.boxes ++ q.boxes⟩
end
def KR (h : List Blk) : List Nat → List Blk
 | [] => h
 | b :: l => KR (upd h b .gone) l
def Ul (h : List Blk) : List Lnt → List (List SV) → Option (List Blk)
 | [], [] => some h
 | .box b :: bs, c :: cs => match XW h c with | (c', h') => Ul (upd h' b (.vars c')) bs cs
 | .arr b v t :: bs, c :: cs => match c with
  | [.fr s x] => (match toS (.sl true s) (.sl true t) x with
   | some y => Ul (upd h b (.arr v t y)) bs cs
   | none => none)
  | _ => none
 | _, _ => none
def ZnN : List SV → List SV → Bool
 | [], [] => true
 | .ptr b o :: l, .ptr b' o' :: m => Nat.beq b b' && Nat.beq o o' && ZnN l m
 | _, _ => false
def Zjc : SV → SV → Bool
 | .fn f l, .fn g m => Nat.beq f g && ZnN l m
 | .ptr b o, .ptr b' o' => Nat.beq b b' && Nat.beq o o'
 | .own b v, .own b' v' => Nat.beq b b' && Nat.beq v v'
 | .nil, .nil => true
 | _, _ => false
def Zmk (h : List Blk) (t : Ty) : SV → Option (List t.den)
 | .nil => some []
 | .own b v => match nth h b with
  | some (.arr v' s x) => if v' = v then toS (.sl true s) (.sl true t) x else none
  | _ => none
 | .sub b v off n => match nth h b with
  | some (.arr v' s x) => if v' = v then (bif s.noUq then toS (.sl true s) (.sl true t) ((x.drop off).take n) else none) else none
  | _ => none
 | _ => none
def GI (h : List Blk) (t : Ty) (l : List SV) : Option (t.den × List SV) :=
 match l with
 | c :: r => (match Ej false h t c with | some x => some (x, r) | none => none)
 | [] => none
def KI (h : List Blk) : (t : Ty) → List SV → Option (t.den × List SV × List Blk)
 | .unit, l => some ((), l, h)
 | .pair a b, l => match KI h a l with
  | some (x, l', h') => (match KI h' b l' with
   | some (y, l'', h'') => some ((x, y), l'', h'')
   | none => none)
  | none => none
 | .int k, l => (GI h (.int k) l).map fun q => (q.1, q.2, h)
 | .bool, l => (GI h .bool l).map fun q => (q.1, q.2, h)
 | .str, l => (GI h .str l).map fun q => (q.1, q.2, h)
 | .sl u a, l => bif u then (match l with
   | c :: r => (match Zmk h a c with
    | some x => (match c with
     | .nil => some (x, r, h)
     | .own b _ => some (x, r, upd h b .gone)
     | .sub b _ _ _ => some (x, r, upd h b .gone)
     | _ => none)
    | none => none)
   | [] => none)
  else (GI h (.sl u a) l).map fun q => (q.1, q.2, h)
def Zv1 : SV → Bool
 | .agg _ => true
 | .val t _ => t.isAgg
 | _ => false
def Zv2 (h : List Blk) (t : Ty) (v : SV) : Option (SV × List Blk) :=
 bif (Zv1 v == t.isAgg) && t.okU then
  (match Zc5 v with
  | none => none
  | some l => match KI h t l with
   | some (x, [], h') => some (.fv t x, h')
   | _ => none)
 else none
end Go.Sx
namespace Go.Sx
open Go
def KD : List Zc1 → Type
 | [] => Unit
 | .ro t :: l => t.den × KD l
 | .own t :: l => List t.den × KD l
 | .is _ :: l => KD l
 | .drop :: l => KD l
def BD : List BK → Type
 | [] => Unit
 | .vars ks :: l => KD ks × BD l
 | .arr t :: l => List t.den × BD l
 | .drop :: l => BD l
def VO : Option Blk → Bool
 | some (.arr _ _ _) => true
 | _ => false
def JU : (ks : List Zc1) → List SV → List Blk → Option (KD ks × List Blk)
 | [], [], h => some ((), h)
 | [], _ :: _, _ => none
 | _ :: _, [], _ => none
 | .drop :: ks, _ :: l, h => JU ks l h
 | .is v :: ks, x :: l, h => bif Zjc v x then JU ks l h else none
 | .ro t :: ks, x :: l, h => match ZgQ true h t x with
  | some d => bif (QH x).all (fun b => VO (nth h b)) then (match JU ks l (KR h (QH x)) with | some (r, h') => some ((d, r), h') | none => none) else none
  | none => none
 | .own t :: ks, x :: l, h => match Zmk h t x with
  | some d => (match JU ks l (KR h (QH x)) with | some (r, h') => some ((d, r), h') | none => none)
  | none => none
def El : (bs : List BK) → List Blk → List Blk → Option (BD bs × List Blk)
 | [], _, h => some ((), h)
 | .drop :: bs, l, h => match l with
  | _ :: l' => El bs l' h
  | [] => none
 | .vars ks :: bs, l, h => match l with
  | .vars c :: l' => (match JU ks c h with
   | some (d, h') => (match El bs l' h' with
    | some (r, h'') => some ((d, r), h'')
    | none => none)
   | none => none)
  | _ => none
 | .arr t :: bs, l, h => match l with
  | _ :: l' => (match nth h (h.length - l.length) with
   | some (.arr v s x) => if v = 0 then (match toS (.sl true s) (.sl true t) x with
    | some d => (match El bs l' (upd h (h.length - l.length) .gone) with
     | some (r, h'') => some ((d, r), h'')
     | none => none)
    | none => none) else none
   | _ => none)
  | [] => none
def IL : (ks : List Zc1) → KD ks → Nat → List SV
 | [], _, _ => []
 | .drop :: ks, x, n => .dead :: IL ks x n
 | .is v :: ks, x, n => v :: IL ks x n
 | .ro t :: ks, x, n => .val t x.1 :: IL ks x.2 n
 | .own _ :: ks, x, n => .own n 0 :: IL ks x.2 (n + 1)
def GD : (ks : List Zc1) → KD ks → List Blk
 | [], _ => []
 | .drop :: ks, x => GD ks x
 | .is _ :: ks, x => GD ks x
 | .ro _ :: ks, x => GD ks x.2
 | .own t :: ks, x => .arr 0 t x.1 :: GD ks x.2
def QI : (bs : List BK) → BD bs → Nat → List Blk
 | [], _, _ => []
 | .drop :: bs, x, n => .gone :: QI bs x n
 | .vars ks :: bs, x, n => .vars (IL ks x.1 n) :: QI bs x.2 (n + (GD ks x.1).length)
 | .arr t :: bs, x, n => .arr 0 t x.1 :: QI bs x.2 n
def Sc : (bs : List BK) → BD bs → List Blk
 | [], _ => []
 | .drop :: bs, x => Sc bs x
 | .vars ks :: bs, x => GD ks x.1 ++ Sc bs x.2
 | .arr _ :: bs, x => Sc bs x.2
structure Lp (R : Type) where
 keeps : List Zc1
 blks : List BK
 run : KD keeps → BD blks → Option R
def Zuy (ks : List Zc1) (bs : List BK) (x : KD ks) (y : BD bs) : St :=
 let n := bs.length
 let o := Sc bs y
 { slots := IL ks x (n + o.length), heap := QI bs y n ++ o ++ GD ks x }
def KS {R : Type} (l : Lp R) (x : KD l.keeps) (y : BD l.blks) : St := Zuy l.keeps l.blks x y
def ZvT (n : Nat) : List SV → Bool
 | [] => true
 | .ptr b _ :: l => Nat.blt b n && ZvT n l
 | _ => false
def okK (n : Nat) : List Zc1 → Bool
 | [] => true
 | .is (.ptr b _) :: l => Nat.blt b n && okK n l
 | .is (.own b _) :: l => Nat.blt b n && okK n l
 | .is (.fn _ c) :: l => ZvT n c && okK n l
 | .own t :: l => Nat.blt 0 t.size && okK n l
 | _ :: l => okK n l
def ZsS (n : Nat) : List BK → Bool
 | [] => true
 | .drop :: l => ZsS n l
 | .vars ks :: l => okK n ks && ZsS n l
 | .arr t :: l => Nat.blt 0 t.size && ZsS n l
def GJ {R : Type} (l : Lp R) (s : St) : Option R :=
 bif ZsS l.blks.length l.blks && okK l.blks.length l.keeps then
 (match El l.blks s.heap s.heap with
 | some (y, h) => (match JU l.keeps s.slots h with
  | some (x, _) => l.run x y
  | none => none)
 | none => none) else none
noncomputable section
def Wk {R : Type} (x y : Option R) : Option R := @ite _ (x = y) (Classical.propDecidable _) x none
theorem XF {R : Type} (x : Option R) : Wk x x = x := by unfold Wk; rw [if_pos rfl]
theorem Em {R : Type} {x y : Option R} {r : R} (h : Wk x y = some r) : x = some r ∧ y = some r := by
 unfold Wk at h
 split at h
 ·rename_i e; exact ⟨h, e ▸ h⟩
 ·cases h
def ZnO {R α : Type} (xs : List α) (K : Bool → Option R) : Option R :=
 match xs with
 | [] => Wk (K true) (K false)
 | _ :: _ => K false
def Sd : SV → Bool
 | .nil => true
 | _ => false
variable {R : Type} (E : Env)
def Zqq (h : List Blk) (x : SV) (K : Bool → Option R) : Option R :=
 match x with
 | .nil => K true
 | .val (.sl _ _) xs => ZnO xs K
 | .own b v => match nth h b with
  | some (.arr v' _ xs) => if v' = v then ZnO xs K else none
  | _ => none
 | _ => none
def IM (t : TypeId) (a : Ty) : Bool :=
 match E.ti t with
 | some ⟨_, _, .slice e⟩ => (match E.ti e with | some ie => ie.ty.eqv a | none => false)
 | _ => false
def UL (t : TypeId) : Bool :=
 match E.ti t with
 | some ⟨_, _, .slice _⟩ => true
 | _ => false
def Zc6 (t : TypeId) : Bool :=
 match E.ti t with
 | some ⟨.str, _, .scalar⟩ => true
 | _ => false
def Zmp (op : BinOp) (k : IntKind) (x y : Int) (K : SV → Option R) : Option R :=
 match op with
 | .add => K (.val (.int k) (k.wrap (x + y)))
 | .sub => K (.val (.int k) (k.wrap (x - y)))
 | .mul => K (.val (.int k) (k.wrap (x * y)))
 | .quo => if y = 0 then none else K (.val (.int k) (k.wrap (x.tdiv y)))
 | .rem => if y = 0 then none else K (.val (.int k) (x.tmod y))
 | .and => K (.val (.int k) (k.wrap ((BitVec.ofInt k.bits x &&& BitVec.ofInt k.bits y).toNat : Int)))
 | .or => K (.val (.int k) (k.wrap ((BitVec.ofInt k.bits x ||| BitVec.ofInt k.bits y).toNat : Int)))
 | .xor => K (.val (.int k) (k.wrap ((BitVec.ofInt k.bits x ^^^ BitVec.ofInt k.bits y).toNat : Int)))
 | .eql => K (.val .bool (decide (x = y)))
 | .neq => K (.val .bool (!decide (x = y)))
 | .lss => K (.val .bool (decide (x < y)))
 | .leq => K (.val .bool (decide (x ≤ y)))
 | .gtr => K (.val .bool (decide (y < x)))
 | .geq => K (.val .bool (decide (y ≤ x)))
 | _ => none
def Zo2 (op : BinOp) (x y : ByteArray) (K : SV → Option R) : Option R :=
 match op with
 | .add => if x.size + y.size ≤ lim then K (.val .str (x ++ y)) else none
 | .eql => K (.val .bool (decide (x = y)))
 | .neq => K (.val .bool (!decide (x = y)))
 | .lss => K (.val .bool (Op.bytesLess x.toList y.toList))
 | .leq => K (.val .bool (Op.bytesLess x.toList y.toList || decide (x = y)))
 | .gtr => K (.val .bool (!(Op.bytesLess x.toList y.toList || decide (x = y))))
 | .geq => K (.val .bool (!Op.bytesLess x.toList y.toList))
 | _ => none
def Se (h : List Blk) (op : BinOp) (t : TypeId) (a b : SV) (K : SV → Option R) : Option R :=
 match asI a, asI b with
 | some (k, x), some (k', y) =>
  (match op with
  | .shl => if y < 0 then none else K (.val (.int k) (k.wrap (x * 2 ^ (min y.toNat k.bits))))
  | .shr => if y < 0 then none else K (.val (.int k) (x.fdiv (2 ^ (min y.toNat k.bits))))
  | _ => bif decide (k = k') then Zmp op k x y K else none)
 | _, _ => match asS a, asS b with
  | some x, some y => Zo2 op x y K
  | _, _ => match asB a, asB b with
   | some x, some y => (match op, E.ty t with
    | .eql, some .bool => K (.val .bool (x == y))
    | .neq, some .bool => K (.val .bool (!(x == y)))
    | _, _ => none)
   | _, _ => bif E.eqs t then (match E.ty t with
    | some ty => (match ZgQ false h ty a, ZgQ false h ty b with
     | some x, some y => (match op with
      | .eql => K (.val .bool (eqD ty x y))
      | .neq => K (.val .bool (!eqD ty x y))
      | _ => none)
     | _, _ => none)
    | none => none) else none
def Zjd (h : List Blk) (op : BinOp) (a : SV) (K : SV → Option R) : Option R :=
 match op with
 | .eql => Zqq h a fun q => K (.val .bool q)
 | .neq => Zqq h a fun q => K (.val .bool (!q))
 | _ => none
def ZeZ (h : List Blk) (op : BinOp) (t : TypeId) (a b : SV) (K : SV → Option R) : Option R :=
 bif Sd b && UL E t then Zjd h op a K else Se E h op t a b K
def Zo3 (op : UnOp) (a : SV) (K : SV → Option R) : Option R :=
 match op with
 | .neg => match asI a with | some (k, x) => K (.val (.int k) (k.wrap (0 - x))) | none => none
 | .not => match asB a with | some b => K (.val .bool (!b)) | none => none
 | _ => none
def Zmq (h : List Blk) (src dst : TypeId) (a : SV) (K : SV → Option R) : Option R :=
 match E.ty dst, asI a with
 | some (.int k), some (_, n) => (match E.ty src with | some (.int _) => K (.val (.int k) (k.wrap n)) | _ => none)
 | some .str, _ => (match E.ty src, asS a with
  | some .str, some s => K (.val .str s)
  | some (.sl _ (.int .u8)), _ => (match ZgQ true h (.sl false (.int .u8)) a with
   | some (x : List Int) => K (.val .str ⟨(x.map fun n => UInt8.ofNat n.toNat).toArray⟩)
   | none => none)
  | _, _ => none)
 | _, _ => none
def UM (lo hi : Option SV) (n : Nat) (K : Nat → Nat → Option R) : Option R :=
 match hi with
 | none => (match lo with
  | none => K 0 n
  | some l => match asI l with
   | some (_, i) => if 0 ≤ i then (if i ≤ n then K i.toNat n else none) else none
   | none => none)
 | some u => match asI u with
  | some (_, j) => if 0 ≤ j then (if j ≤ n then (match lo with
   | none => K 0 j.toNat
   | some l => match asI l with
    | some (_, i) => if 0 ≤ i then (if i ≤ j then K i.toNat j.toNat else none) else none
    | none => none) else none) else none
  | none => none
def N9 (h : List Blk) (t : TypeId) (x : SV) (lo hi : Option SV) (K : SV → Option R) : Option R :=
 match x with
 | .val .str s => bif Zc6 E t then (UM lo hi (ByteArray.size s) fun i j => K (.val .str (ByteArray.extract s i j))) else none
 | .val (.sl u a) xs => bif IM E t a then (UM lo hi (List.length xs) fun i j => K (.val (.sl u a) (List.take (j - i) (List.drop i xs)))) else none
 | .nil => bif UL E t then (UM lo hi 0 fun _ _ => K .nil) else none
 | .own b v => match nth h b with
  | some (.arr v' a xs) => if v' = v then (bif IM E t a then (UM lo hi xs.length fun i j => K (.sub b v i (j - i))) else none) else none
  | _ => none
 | .sub b v off n => match nth h b with
  | some (.arr v' a _) => if v' = v then (bif IM E t a then (UM lo hi n fun i j => K (.sub b v (off + i) (j - i))) else none) else none
  | _ => none
 | _ => none
def Env.far (E : Env) : Bool := E.vt 999998
def Env.wide (E : Env) : Bool := E.vt 999997
def Nc (h : List Blk) (t : TypeId) (x : SV) (lo : Option SV) (hi mx : SV) (K : SV → Option R) : Option R :=
 match x, asI mx with
 | .own b v, some (_, m) => (match nth h b with
  | some (.arr v' a xs) => if v' = v then (bif IM E t a then (if 0 ≤ m then (if m ≤ xs.length then UM lo (some hi) m.toNat fun _ _ => K .dead else none) else none) else none) else none
  | _ => none)
 | _, _ => none
def Ze0 (h : List Blk) (t : TypeId) (x : SV) (lo hi : Option SV) (K : SV → Option R) : Option R :=
 match x, hi with
 | .sub b v 0 n, some hi => match nth h b with
  | some (.arr v' a xs) => if v' = v then (bif IM E t a then (UM lo (some hi) xs.length fun i j => K (.sub b v i (j - i))) else none) else none
  | _ => none
 | x, hi => N9 E h t x lo hi K
def Zuz (h : List Blk) (t : TypeId) (x : SV) (K : SV → Option R) : Option R :=
 match x with
 | .val .str s => bif Zc6 E t then K (.val (.int .i64) (ByteArray.size s : Int)) else none
 | .val (.sl _ _) xs => bif UL E t then K (.val (.int .i64) (List.length xs : Int)) else none
 | .nil => bif UL E t then K (.val (.int .i64) (0 : Int)) else none
 | .own b v => match nth h b with
  | some (.arr v' _ xs) => if v' = v then (bif UL E t then K (.val (.int .i64) (xs.length : Int)) else none) else none
  | _ => none
 | .sub b v _ n => match nth h b with
  | some (.arr v' _ _) => if v' = v then (bif UL E t then K (.val (.int .i64) (n : Int)) else none) else none
  | _ => none
 | _ => none
def QJ (h : List Blk) (t : TypeId) (x ix : SV) (K : SV → Option R) : Option R :=
 match asI ix with
 | none => none
 | some (_, i) => match x with
  | .val (.sl _ a) xs => bif IM E t a then (if 0 ≤ i then Option.bind (nth xs i.toNat) fun y => K (.rptr a y 0) else none) else none
  | .own b v => (match nth h b with
   | some (.arr v' a xs) => if v' = v then (bif IM E t a then (if 0 ≤ i then (if i < xs.length then K (.eptr b v i.toNat 0) else none) else none) else none) else none
   | some (.opn v' a xs _ _) => if v' = v then (bif IM E t a then (if 0 ≤ i then (if i < xs.length then K (.eptr b v i.toNat 0) else none) else none) else none) else none
   | _ => none)
  | .sub b v off n => (match nth h b with
   | some (.arr v' a _) => if v' = v then (bif IM E t a then (if 0 ≤ i then (if i < n then K (.eptr b v (off + i.toNat) 0) else none) else none) else none) else none
   | _ => none)
  | _ => none
def ZuA (s : ByteArray) (i : Int) (K : Int → Option R) : Option R :=
 if 0 ≤ i then Option.bind (nth s.data.toList i.toNat) (fun b => K (b.toNat : Int)) else none
def Ze1 (t : TypeId) (x ix : SV) (K : SV → Option R) : Option R :=
 match asI ix, asS x with
 | some (_, i), some s => bif Zc6 E t then (ZuA s i fun b => K (.val (.int .u8) b)) else none
 | _, _ => none
def cut (c : List SV) (off n : Nat) : List SV := (c.drop off).take n
def Zxr : SV → SV
 | .vl _ t x => .val t x
 | v => v
def GE (h : List Blk) (ty : Ty) (c : List SV) (K : SV → Option R) : Option R :=
 bif Nat.beq c.length ty.size then
  (bif ty.isAgg then K (HL h ty c) else (match c with | [x] => K (Zxr x) | _ => none))
 else none
def Zc7 (h : List Blk) (ty : Ty) (a : Ty) (y : a.den) (off : Nat) (K : SV → Option R) : Option R :=
 match (if off = 0 then toD a ty y else none) with
 | some x => K (.val ty x)
 | none => GE h ty (cut (cellsOf a y) off ty.size) K
def Zt1 : SV → Bool
 | .val t _ => !t.hasSl
 | _ => false
def ZnP (l : List SV) : Bool := l.all Zt1
def KX (h : List Blk) (ty : Ty) (p : SV) (K : SV → Option R) : Option R :=
 match p with
 | .ptr b off => (match nth h b with
  | some (.vars c) => GE h ty (cut c off ty.size) K
  | _ => none)
 | .rptr a y off => Zc7 h ty a y off K
 | .eptr b v i off => (match nth h b with
  | some (.arr v' a xs) => if v' = v then Option.bind (nth xs i) (fun y =>
    bif a.noUq then Zc7 h ty a y off K else
    (bif ZnP (cut (cellsOf a y) off ty.size) then GE h ty (cut (cellsOf a y) off ty.size) K else none)) else none
  | _ => none)
 | _ => none
def JV (c : List SV) (off : Nat) (d : List SV) : List SV := c.take off ++ d ++ c.drop (off + d.length)
def Oa (h : List Blk) (ty : Ty) (p x : SV) (K : List Blk → Option R) : Option R :=
 match Zc5 x with
 | none => none
 | some d => bif Nat.beq d.length ty.size then
  (match p with
  | .ptr b off => (match nth h b with
   | some (.vars c) => bif Nat.ble (off + d.length) c.length then K (upd h b (.vars (JV c off d))) else none
   | _ => none)
  | .eptr b v i off => (match nth h b with
   | some (.arr v' a xs) => if v' = v then Option.bind (nth xs i) (fun y =>
     match KH true h a (JV (cellsOf a y) off d) with
     | some y' => bif a.noUq && !((QH (.agg d)).any (Nat.beq b)) then Option.bind (BU xs i y') (fun xs' => K (upd (KR h (QH (.agg d))) b (.arr v a xs'))) else none
     | none => none) else none
   | _ => none)
  | _ => none) else none
def fieldAt (fs : List (Nat × TypeId)) (f : Nat) (K : Nat → TypeId → Option R) : Option R :=
 match nth fs f with
 | some (o, t) => K o t
 | none => none
def Vt (h : List Blk) (t : TypeId) (p : SV) (f : Nat) (K : SV → Option R) : Option R :=
 match E.ti t with
 | some ⟨_, _, .struct fs⟩ => fieldAt fs f fun o _ => (match p with
  | .ptr b off => (match nth h b with
   | some (.vars _) => K (.ptr b (off + o))
   | _ => none)
  | .rptr a y off => K (.rptr a y (off + o))
  | .eptr b v i off => (match nth h b with
   | some (.arr v' _ _) => if v' = v then K (.eptr b v i (off + o)) else none
   | some (.opn v' _ _ _ _) => if v' = v then K (.eptr b v i (off + o)) else none
   | _ => none)
  | _ => none)
 | _ => none
def Zmr : SV → Option (List SV)
 | .val t x => bif t.isAgg then some (cellsOf t x) else none
 | .agg l => bif YU l then some l else none
 | _ => none
def Sf (h : List Blk) (t : TypeId) (x : SV) (f : Nat) (K : SV → Option R) : Option R :=
 match E.ti t with
 | some ⟨ty, _, .struct fs⟩ => fieldAt fs f fun o ft => (match E.ty ft, Zmr x with
  | some fty, some c => bif Nat.beq c.length ty.size then GE h fty (cut c o fty.size) K else none
  | _, _ => none)
 | _ => none
def Zqu (fs : List (Nat × TypeId)) : List (Nat × SV) → List SV → Option (List SV)
 | [], c => some c
 | (i, v) :: l, c => match nth fs i with
  | none => none
  | some (o, ft) => match E.ty ft, Zc5 v with
   | some fty, some d => bif Nat.beq d.length fty.size && Nat.ble (o + d.length) c.length then Zqu fs l (JV c o d) else none
   | _, _ => none
def Sg (h : List Blk) (t : TypeId) (parts : List (Nat × SV)) (K : SV → Option R) : Option R :=
 match E.ti t with
 | some ⟨ty, _, .struct fs⟩ => (match Zqu E fs parts (UB ty) with
  | some c => K (HL h ty c)
  | none => none)
 | _ => none
def Si (h : List Blk) (a : Ty) : Nat → List (Nat × SV) → Option (List a.den)
 | _, [] => some []
 | j, (i, v) :: l => bif Nat.beq i j then (match ZgQ true h a v with
  | some x => (match Si h a (j + 1) l with | some xs => some (x :: xs) | none => none)
  | none => none) else none
def WB (h : List Blk) (t : TypeId) (n : Nat) (parts : List (Nat × SV)) (K : SV → List Blk → Option R) : Option R :=
 match E.ti t with
 | some ⟨_, _, .slice e⟩ => (match E.ty e with
  | some a => bif Nat.beq parts.length n && Nat.ble n 4096 && Nat.ble a.size 1024 && a.noUq then
   (match Si h a 0 parts with
   | some xs => K (.own h.length 0) (KR h (parts.flatMap fun p => QH p.2) ++ [.arr 0 a xs])
   | none => none) else none
  | none => none)
 | _ => none
def Um (h : List Blk) (t : TypeId) (n c : SV) (K : SV → List Blk → Option R) : Option R :=
 match E.ti t with
 | some ⟨_, _, .slice e⟩ => (match E.ty e, asI n, asI c with
  | some a, some (.i64, x), some (.i64, y) => if 0 ≤ x then (if x ≤ y then (if y ≤ lim then (bif a.noUq then
    K (.own h.length 0) (h ++ [.arr 0 (bif E.nest then a.uq else a) (List.replicate x.toNat (ZS (bif E.nest then a.uq else a)))]) else none) else none) else none) else none
  | _, _, _ => none)
 | _ => none
def Zqv : SV → Bool
 | .val .str _ => true
 | _ => false
def RV (s : ByteArray) : List Int := s.data.toList.map fun b => (b.toNat : Int)
def Zo4 (h : List Blk) (t' : TypeId) (a : Ty) (x : SV) : Option (List a.den) :=
 bif Zqv x then (match asS x with
  | some s => bif Zc6 E t' then toD (.sl false (.int .u8)) (.sl false a) (RV s) else none
  | none => none)
 else (bif IM E t' a then ZgQ true h (.sl false a) x else none)
def CG (L : Nat) (h : List Blk) (t t' : TypeId) (s x : SV) (K : SV → List Blk → Option R) : Option R :=
 match E.ti t with
 | some ⟨_, _, .slice e⟩ => (match E.ty e with
  | some a => bif a.noUq then (match Zo4 E h t' a x with
   | some ys => (match s with
    | .nil => if List.length ys ≤ L then K (.own h.length 0) (KR h (bif a.hasSl then QH x else []) ++ [.arr 0 a ys]) else none
    | .own b v => (match nth h b with
     | some (.arr v' a' xs) => if v' = v then (match toD (.sl false a) (.sl false a') ys with
      | some zs => bif a'.noUq && !((QH x).any (Nat.beq b)) then (if xs.length + List.length ys ≤ L then
        K (.own b (v + 1)) (upd (KR h (bif a.hasSl then QH x else [])) b (.arr (v + 1) a' (xs ++ zs))) else none) else none
      | none => none) else none
     | _ => none)
    | _ => none)
   | none => none) else none
  | none => none)
 | _ => none
def JW (h : List Blk) (t t' : TypeId) (s x : SV) (K : SV → List Blk → Option R) : Option R := CG E lim h t t' s x K
def Sj (t : TypeId) : Bool :=
 match E.ti t with
 | some ⟨_, _, .slice e⟩ => (match E.ti e with | some i => Nat.ble i.bytes 64 | none => false)
 | _ => false
def IN (h : List Blk) (b v : Nat) (a : Ty) (xs : List a.den) (i : Nat) (y : a.den) : List SV × List Blk :=
 match UK a y (upd h b (.opn v a xs i (List.replicate a.size .dead))) with
 | (c, h') => (c, upd h' b (.opn v a xs i c))
def GK (h : List Blk) (b : Nat) : List Blk :=
 match nth h b with
 | some (.opn v t xs i c) => (match KI h t c with
  | some (y, [], h') => upd h' b (.arr v t (upd xs i y))
  | _ => h)
 | _ => h
def Zje (h : List Blk) : List Nat → List Blk
 | [] => h
 | b :: l => Zje (GK h b) l
def Zxi : Nat → Nat → List Nat
 | _, 0 => []
 | k, n + 1 => k :: Zxi (k + 1) n
def RW (h : List Blk) : List Blk := Zje h (Zxi 0 h.length)
def BV (h : List Blk) (b : Nat) (K : List Blk → Option R) : Option R :=
 match nth h b with
 | some (.opn v t xs i c) => (match KI h t c with
  | some (y, [], h') => Option.bind (BU xs i y) (fun xs' => K (upd h' b (.arr v t xs')))
  | _ => K h)
 | _ => K h
def HM (h : List Blk) (K : List Blk → Option R) : List Nat → Option R
 | [] => K h
 | b :: l => BV h b fun h' => HM h' K l
def IP (h : List Blk) (K : List Blk → Option R) : Option R := HM h K (Zxi 0 h.length)
theorem Sk {h : List Blk} {b : Nat} {K : List Blk → Option R} {r : R} (he : BV h b K = some r) : K (GK h b) = some r := by
 unfold BV at he;unfold GK
 split at he
 ·split at he
  ·obtain ⟨xs', h1, h2⟩ := Option.bind_eq_some_iff.1 he
   rw [R8 h1] at h2;exact h2
  ·exact he
 ·exact he
theorem Ob : ∀ (l : List Nat) {h : List Blk} {K : List Blk → Option R} {r : R}, HM h K l = some r → K (Zje h l) = some r
 | [], _, _, _, he => he
 | _ :: l, _, _, _, he => Ob l (Sk he)
theorem GL {h : List Blk} {K : List Blk → Option R} {r : R} (he : IP h K = some r) : K (RW h) = some r := Ob _ he
theorem Zms {h : List Blk} {b : Nat} {K K' : List Blk → Option R} {r : R} (hk : ∀ h, K h = some r → K' h = some r) (he : BV h b K = some r) : BV h b K' = some r := by
 unfold BV at he ⊢
 split at he
 ·split at he
  ·obtain ⟨xs', h1, h2⟩ := Option.bind_eq_some_iff.1 he
   exact Option.bind_eq_some_iff.2 ⟨xs', h1, hk _ h2⟩
  ·exact hk _ he
 ·exact hk _ he
theorem Oc : ∀ (l : List Nat) {h : List Blk} {K K' : List Blk → Option R} {r : R}, (∀ h, K h = some r → K' h = some r) → HM h K l = some r → HM h K' l = some r
 | [], _, _, _, _, hk, he => hk _ he
 | _ :: l, _, _, _, _, hk, he => Zms (fun _ h1 => Oc l hk h1) he
theorem Zc8 {h : List Blk} {K K' : List Blk → Option R} {r : R} (hk : ∀ h, K h = some r → K' h = some r) (he : IP h K = some r) : IP h K' = some r := Oc _ hk he
def Zmt (h : List Blk) (ty : Ty) (p : SV) (K : SV → List Blk → Option R) : Option R :=
 match p with
 | .eptr b v i off => (match nth h b with
  | some (.arr v' a xs) => if v' = v then (bif a.noUq then KX h ty p (fun x => K x h) else (bif a.okU then Option.bind (nth xs i) (fun y =>
    match IN h b v' a xs i y with | (c, h1) => GE h1 ty (cut c off ty.size) fun x => K x h1) else none)) else none
  | some (.opn v' _ _ j c) => if v' = v then (if j = i then GE h ty (cut c off ty.size) (fun x => K x h) else none) else none
  | _ => none)
 | p => KX h ty p (fun x => K x h)
def Nd (h : List Blk) (ty : Ty) (p : SV) (K : SV → List Blk → Option R) : Option R :=
 bif ty.hasSl then Zmt h ty p K else KX h ty p (fun x => K x h)
def Sl (z : Bool) (h : List Blk) (b : Nat) : List Blk := bif z then h else GK h b
def ZgR (z : Bool) (h : List Blk) (b : Nat) (K : List Blk → Option R) : Option R := bif z then K h else BV h b K
theorem Od {z : Bool} {h : List Blk} {b : Nat} {K : List Blk → Option R} {r : R} (he : ZgR z h b K = some r) : K (Sl z h b) = some r := by
 cases z with
 | true => exact he
 | false => exact Sk he
def Sn (z : Bool) (h : List Blk) (b v : Nat) (a : Ty) (xs : List a.den) (i : Nat) (c : List SV) (off : Nat) (d : List SV) (K : List Blk → Option R) : Option R :=
 bif Nat.ble (off + d.length) c.length then ZgR z (upd h b (.opn v a xs i (JV c off d))) b K else none
def Ze2 (z : Bool) (h : List Blk) (ty : Ty) (p x : SV) (K : List Blk → Option R) : Option R :=
 match p with
 | .eptr b v i off => (match nth h b with
  | some (.arr v' a xs) => if v' = v then (bif a.noUq then Oa h ty p x K else
    (match Zc5 x with
    | none => none
    | some d => bif Nat.beq d.length ty.size && a.okU then Option.bind (nth xs i) (fun y =>
      match IN h b v' a xs i y with | (c, h1) => Sn z h1 b v' a xs i c off d K) else none)) else none
  | some (.opn v' a xs j c) => if v' = v then (if j = i then (match Zc5 x with
    | none => none
    | some d => bif Nat.beq d.length ty.size then Sn z h b v' a xs j c off d K else none) else none) else none
  | _ => none)
 | p => Oa h ty p x K
def Oe (a : Ty) : Nat → List (Nat × SV) → List Blk → Option (List a.den × List Blk)
 | _, [], h => some ([], h)
 | j, (i, v) :: l, h => bif Nat.beq i j then (match Zc5 v with
  | none => none
  | some d => (match KI h a d with
   | some (x, [], h') => (match Oe a (j + 1) l h' with | some (xs, h'') => some (x :: xs, h'') | none => none)
   | _ => none)) else none
def Vc (h : List Blk) (t : TypeId) (n : Nat) (parts : List (Nat × SV)) (K : SV → List Blk → Option R) : Option R :=
 match E.ti t with
 | some ⟨_, _, .slice e⟩ => (match E.ty e with
  | some a => bif a.hasSl then
   (bif Nat.beq parts.length n && Nat.ble n 4096 && Nat.ble a.size 1024 then
   (match Oe a.uq 0 parts h with
   | some (xs, h') => K (.own h'.length 0) (h' ++ [.arr 0 a.uq xs])
   | none => none) else none)
   else WB E h t n parts K
  | none => none)
 | _ => none
def Zo5 (h : List Blk) (a : Ty) (x : SV) : Option (List a.den × List Blk) :=
 match Zmk h a x with
 | some ys => (match x with
  | .nil => some (ys, h)
  | .own b _ => some (ys, upd h b .gone)
  | _ => none)
 | none => none
def BJ (h : List Blk) (t t' : TypeId) (s x : SV) (K : SV → List Blk → Option R) : Option R :=
 match E.ti t with
 | some ⟨_, _, .slice e⟩ => (match E.ty e with
  | some a => bif a.hasSl && IM E t' a then (match s with
    | .nil => (match Zo5 h a.uq x with
     | some (ys, h') => if ys.length ≤ lim then K (.own h'.length 0) (h' ++ [.arr 0 a.uq ys]) else none
     | none => none)
    | .own b v => (match nth h b with
     | some (.arr v' a' xs) => bif a'.noUq then JW E h t t' s x K else (if v' = v then (bif a.eqv a' then (match Zo5 h a' x with
      | some (ys, h') => (match nth h' b with
       | some (.arr _ _ _) => if xs.length + ys.length ≤ lim then K (.own b (v + 1)) (upd h' b (.arr (v + 1) a' (xs ++ ys))) else none
       | _ => none)
      | none => none) else none) else none)
     | _ => none)
    | _ => none) else JW E h t t' s x K
  | none => none)
 | _ => none
def WS (p : R9) (fresh : Bool) (K : SV → List Blk → Option R) (r : SV) (outs : List (List SV)) : Option R :=
 bif Zjb r && outs.all DJ && !(fresh && (hasRo r || outs.any Wf)) then
  (match Ul (bif hasRo r || outs.any Wf then KR p.heap p.lent else p.heap) p.boxes outs with
  | some h' => match Kq h' r with | (v, h'') => K v h''
  | none => none)
 else none
def pvB (E : Env) (b : Nat) : Bool := E.vt 999996 && E.vt (3000000 + b)
def QK (E : Env) : Lnt → Bool
 | .box b => !(pvB E b)
 | .arr b _ _ => !(pvB E b)
def Env.clo (E : Env) (l : List Mode) : Bool := E.opens && !(E.vt 999994 && l.all fun m => match m with | .mref => true | _ => false)
def HN (f : FuncId) (args : List SV) (h : List Blk) (K : SV → List Blk → Option R) : Option R :=
 match E.tbl f with
 | none => none
 | some c => match Az c.modes args h with
  | none => none
  | some p => bif p.lent.all (fun b => VO (nth p.heap b)) then (bif p.boxes.all (QK E) then c.run R p.args (WS p c.fresh fun v h' => bif E.clo c.modes then IP h' (K v) else K v h') else none) else none
def UN (h : List Blk) (x : SV) (K : SV → Option R) : Option R :=
 match x with
 | .ptr b _ => (match nth h b with
  | some (.vars _) => K x
  | _ => none)
 | .rptr _ _ _ => K x
 | .eptr b v _ _ => (match nth h b with
  | some (.arr v' _ _) => if v' = v then K x else none
  | _ => none)
 | _ => none
def HO (h : List Blk) (t t' : TypeId) (s x : SV) (K : SV → List Blk → Option R) : Option R :=
 match s with
 | .sub b v 0 n => (match E.ti t with
  | some ⟨_, _, .slice e⟩ => (match E.ty e with
   | some a => bif a.hasSl then none else (match Zo4 E h t' a x with
    | some ys => (match nth h b with
     | some (.arr v' a' xs) => if v' = v then (match toD (.sl false a) (.sl false a') ys with
      | some zs => if n + List.length zs ≤ List.length xs then K (.sub b v 0 (n + List.length zs)) (upd h b (.arr v a' (List.take n xs ++ (zs ++ List.drop (n + List.length zs) xs)))) else none
      | none => none) else none
     | _ => none)
    | none => none)
   | none => none)
  | _ => none)
 | _ => bif E.nest then BJ E h t t' s x K else JW E h t t' s x K
def Ze3 (h : List Blk) (t : TypeId) (x : SV) (K : SV → List Blk → Option R) : Option R :=
 match x with
 | .sub b v off n => match nth h b with
  | some (.arr v' a xs) => if v' = v then (bif IM E t a && !a.hasSl then (if off + n ≤ List.length xs then K (.tup []) (upd h b (.arr v a (List.take off xs ++ (List.replicate n (ZS a) ++ List.drop (off + n) xs)))) else none) else none) else none
  | _ => none
 | _ => none
def Zt2 : SV → Bool
 | .ptr _ _ => true
 | _ => false
def Zqw (E : Env) : Operand → Bool
 | .tmp t => E.vt t
 | _ => false
def Zv3 (E : Env) : Operand → Bool
 | .tmp t => E.vt 999996 && E.vt (1000000 + t)
 | _ => false
def pvV (E : Env) : SV → Bool
 | .ptr b _ => pvB E b
 | _ => false
def Rd (E : Env) (a : Operand) (v : SV) : Bool := (!(Zqw E a) || Zt2 v) && (!(Zv3 E a) || pvV E v)
theorem Zt3 {E : Env} {a : Operand} {v : SV} (h : Zqw E a = true) (hv : Rd E a v = true) : Zt2 v = true := by
 unfold Rd at hv;rw [h] at hv;simp only [Bool.not_true, Bool.false_or, Bool.and_eq_true] at hv;exact hv.1
def Yp (o : Oper) (gt : Operand → SV) (h : List Blk) (K : SV → List Blk → Option R) : Option R :=
 let K1 : SV → Option R := fun v => K v h
 match o.op with
 | .move x => K1 (gt x)
 | .assign x => K1 (gt x)
 | .pick c a b => (match asB (gt c) with
  | some t => bif t then K1 (gt a) else K1 (gt b)
  | none => none)
 | .alloc t => (match E.ty t with
  | some ty => K (.ptr h.length 0) (h ++ [.vars (UB ty)])
  | none => none)
 | .box t x => (match E.ty t, Zc5 (gt x) with
  | some ty, some c => bif Nat.beq c.length ty.size then K (.ptr h.length 0) (h ++ [.vars c]) else none
  | _, _ => none)
 | .build t ps => Sg E h t (ps.toList.map fun p => (p.1, gt p.2)) K1
 | .buildSlice t n ps => bif E.nest then Vc E h t n (ps.toList.map fun p => (p.1, gt p.2)) K else WB E h t n (ps.toList.map fun p => (p.1, gt p.2)) K
 | .load t a => (match E.ty t with | some ty => bif Rd E a (gt a) then (bif E.opens then Nd h ty (gt a) K else KX h ty (gt a) K1) else none | none => none)
 | .store t a x => (match E.ty t with
  | some ty => (bif E.nest then Ze2 (E.vt 999995) h ty (gt a) (gt x) (fun h => K (.tup []) h) else Oa h ty (gt a) (gt x) fun h => K (.tup []) h)
  | none => none)
 | .binOp op t x y _ => ZeZ E h op t (gt x) (gt y) K1
 | .unOp op _ x => Zo3 op (gt x) K1
 | .nilCheck x => bif Rd E x (gt x) then UN h (gt x) K1 else none
 | .convert src dst x => Zmq E h src dst (gt x) K1
 | .makeFunc (.func f) fs cs => bif fs.toList.isEmpty then K1 (.fn f (cs.toList.map gt)) else none
 | .makeSlice t n c => Um E h t (gt n) (gt c) K
 | .slice t x lo hi none => bif E.far then Ze0 E h t (gt x) (lo.map gt) (hi.map gt) K1 else N9 E h t (gt x) (lo.map gt) (hi.map gt) K1
 | .slice t x lo (some hi) (some mx) => bif E.far then Nc E h t (gt x) (lo.map gt) (gt hi) (gt mx) K1 else none
 | .fieldAddr t x f => bif Rd E x (gt x) then Vt E h t (gt x) f K1 else none
 | .field t x f => Sf E h t (gt x) f K1
 | .indexAddr t x i => QJ E h t (gt x) (gt i) K1
 | .index t x i => Ze1 E t (gt x) (gt i) K1
 | .extract x i => (match gt x with
  | .tup l => (match nth l i with | some v => K1 v | none => none)
  | _ => none)
 | .call c => (match c.callee with
  | .value f => (match gt f with
   | .fn g cap => HN E g (c.args.toList.map gt ++ cap) h K
   | _ => none)
  | .builtin .len => (match c.args.toList, c.argTypes.toList with | [x], [t] => Zuz E h t (gt x) K1 | _, _ => none)
  | .builtin .append => (match c.args.toList, c.argTypes.toList with
   | [x, y], [t, t'] => bif E.far then HO E h t t' (gt x) (gt y) K else (bif E.wide then (bif Sj E t then CG E ZsR h t t' (gt x) (gt y) K else none) else (bif E.nest then BJ E h t t' (gt x) (gt y) K else JW E h t t' (gt x) (gt y) K))
   | _, _ => none)
  | .builtin .clear => (match c.args.toList, c.argTypes.toList with | [x], [t] => bif E.far then Ze3 E h t (gt x) K else none | _, _ => none)
  | .builtin .max => (match c.args.toList with
   | [x, y] => (match asI (gt x), asI (gt y) with
    | some (k, a), some (_, b) => K1 (.val (.int k) (max a b))
    | _, _ => none)
   | _ => none)
  | .builtin .min => (match c.args.toList with
   | [x, y] => (match asI (gt x), asI (gt y) with
    | some (k, a), some (_, b) => K1 (.val (.int k) (min a b))
    | _, _ => none)
   | _ => none)
  | _ => none)
 | _ => none
def Zqx (o : Oper) (s : St) (K : St → Option R) : Option R := Yp E o s.get s.heap fun v h => K (St.put ⟨s.slots, h⟩ o.dst v)
def VJ (ops : List Oper) (j : Nat) : Option Tmp := (nth ops j).bind (·.dst)
def Nf (ops : List Oper) (o : Oper) (s : St) (K : St → Option R) : Option R :=
 match o.guard with
 | none => Zqx E o s K
 | some (j, want) => match VJ ops j with
  | none => none
  | some d => match nth s.slots d with
   | some (.val .bool b) =>
    bif (b : Bool) then
     (bif want then Zqx E o (s.put (some d) (.val .bool true)) K else K ((s.put (some d) (.val .bool true)).put o.dst (.tup [])))
    else
     (bif want then K ((s.put (some d) (.val .bool false)).put o.dst (.tup [])) else Zqx E o (s.put (some d) (.val .bool false)) K)
   | some (.tup []) => K (s.put o.dst (.tup []))
   | _ => none
def So (ops : List Oper) : List Oper → St → (St → Option R) → Option R
 | [], s, K => K s
 | o :: l, s, K => Nf E ops o s fun s' => So ops l s' K
def KY : Op → Bool
 | .move _ => true
 | .assign _ => true
 | .pick _ _ _ => true
 | .unOp _ _ _ => true
 | .extract _ _ => true
 | .call c => (match c.callee with | .builtin .max => true | .builtin .min => true | _ => false)
 | _ => false
def Zxs : Operand → Bool
 | .const (.int _ _) => true
 | .const (.string _) => true
 | .const (.bool _) => true
 | _ => false
def WX (E : Env) : Op → Bool
 | .load t a => Zqw E a || !(E.opens && (match E.ty t with | some ty => ty.hasSl | none => false))
 | .fieldAddr _ _ _ => true
 | .nilCheck _ => true
 | .indexAddr _ _ _ => true
 | .index _ _ _ => true
 | .slice _ _ _ _ none => !E.far
 | .field _ _ _ => true
 | .binOp _ t _ y _ => !UL E t || Zxs y
 | .build _ _ => true
 | .convert _ _ _ => true
 | .call c => (match c.callee with | .builtin .len => true | .builtin .max => true | .builtin .min => true | _ => false)
 | p => KY p
def Zqy : Mode → Bool
 | .ro _ => true
 | _ => false
def Zqz (E : Env) : Op → Bool
 | .alloc _ => true
 | .box _ _ => true
 | .call c => (match c.callee with | .value (.func f) => (match E.tbl f with | some c => !E.opens && (c.fresh && c.modes.all Zqy) | none => false) | _ => false)
 | _ => false
def vOp (E : Env) : Op → Bool
 | .load _ a => Zqw E a
 | .fieldAddr _ a _ => Zqw E a
 | .nilCheck a => Zqw E a
 | _ => false
def ZqA (E : Env) : Op → Bool
 | .load _ _ => true
 | .alloc _ => true
 | .box _ _ => true
 | .buildSlice _ _ _ => true
 | .makeSlice _ _ _ => true
 | .call c => (match c.callee with
  | .builtin .append => !(E.far || E.wide)
  | .value (.func f) => (match E.tbl f with | some c => c.modes.all Zqy | none => false)
  | _ => false)
 | _ => false
def ZsM (E : Env) : Op → Bool
 | .load _ a => Zqw E a && Zv3 E a
 | .fieldAddr _ a _ => Zqw E a && Zv3 E a
 | .nilCheck a => Zqw E a && Zv3 E a
 | _ => false
def ZqB (E : Env) : Op → Bool
 | .call c => (match c.callee with | .value (.func f) => (E.tbl f).isSome | _ => false)
 | _ => false
def ZqC (E : Env) (c q : Op) : Bool := KY c || KY q || (WX E c && (WX E q || Zqz E q)) || (vOp E c && ZqA E q) || (ZsM E c && ZqB E q)
def ZqD (E : Env) (ops : Array Oper) (c q : Nat) : Bool := match nth ops.toList c, nth ops.toList q with
 | some a, some b => a.apart ops b && ZqC E a.op b.op
 | _, _ => false
def HP (m : Region.Mode) (o : Oper) : List Nat := (o.after.toList.filter fun e => Region.binds m e).map (·.on)
def ZgS (l : List Nat) (x : Nat) : Bool := l.any (Nat.beq x)
def IQ (l r : List Nat) : List Nat := l ++ r.filter fun x => !(ZgS l x)
def Zt4 (ops : List Oper) (acc : List (List Nat)) : List (List Nat) :=
 match ops with
 | [] => acc
 | o :: l => Zt4 l (acc ++ [(HP .any o).foldl (fun s e => IQ s (e :: (nth acc e).getD [])) []])
def Zxt (l : List Nat) (x : Nat) : List Nat := l.filter fun y => !(Nat.beq x y)
def Xc (tab : List (List Nat)) (q : Nat) : List Nat := (nth tab q).getD []
def Zt5 (tab : List (List Nat)) (rem : List Nat) (i : Nat) : Bool := !((Xc tab i).any (ZgS rem))
def ZuB (ops : Array Oper) (tab : List (List Nat)) (rem : List Nat) (f : Nat) : List Nat :=
 let bad := rem.filter fun q => !(Nat.beq q f) && !(ZgS (Xc tab q) f) && !(ZqD E ops f q)
 f :: rem.filter fun g => !(Nat.beq g f) && Zt5 tab rem g && bad.any fun q => Nat.beq g q || ZgS (Xc tab q) g
def IR (ops : Array Oper) (tab : List (List Nat)) (cs rem : List Nat) : Bool :=
 cs.all (ZgS rem) && rem.all fun q => ZgS cs q || cs.any (fun c => ZgS (Xc tab q) c) || cs.all fun c => ZqD E ops c q
def Zxu {α : Type} : List α → Bool
 | [_] => true
 | _ => false
def ZsT (ops : Array Oper) (tab : List (List Nat)) (rem : List Nat) : List Nat :=
 let cls := ((rem.filter (Zt5 tab rem)).map (ZuB E ops tab rem)).filter fun cs => IR E ops tab cs rem
 match cls.find? Zxu with
 | some cs => cs
 | none => cls.headD []
def ZgT {α : Type} (f : α → Option R) : List α → Option R
 | [] => none
 | [x] => f x
 | x :: l => Wk (f x) (ZgT f l)
def ZuC (ops : Array Oper) (tab : List (List Nat)) : Nat → List Nat → St → (St → Option R) → Option R
 | _, [], s, K => K s
 | 0, _ :: _, _, _ => none
 | n + 1, f :: rest, s, K =>
  bif IR E ops tab (ZsT E ops tab (f :: rest)) (f :: rest) then
   ZgT (fun c => match nth ops.toList c with
    | some o => Nf E ops.toList o s fun s' => ZuC ops tab n (Zxt (f :: rest) c) s' K
    | none => none) (ZsT E ops tab (f :: rest))
  else none
def Zym (m : Region.Mode) (ops : List Oper) (idx : List Nat) : Nat → List Nat → List Nat
 | 0, acc => acc
 | n + 1, acc => match idx.find? (fun i => !(ZgS acc i) && ((nth ops i).map fun o => (HP m o).all (ZgS acc)).getD false) with
  | some i => Zym m ops idx n (acc ++ [i])
  | none => acc
def ZvU (m : Region.Mode) (ops : List Oper) : List Nat → List Nat → Bool
 | _, [] => true
 | acc, i :: l => (match nth ops i with | some o => (HP m o).all (ZgS acc) | none => false) && ZvU m ops (i :: acc) l
def AD : Nat → Nat → List Nat
 | _, 0 => []
 | k, n + 1 => k :: AD (k + 1) n
def IS (m : Region.Mode) (ops : List Oper) : Bool :=
 let t := Zym m ops (AD 0 ops.length) ops.length []
 ZvU m ops [] t && (AD 0 ops.length).all (ZgS t)
def Zv4 (E : Env) (o : Oper) : Bool := match o.dst, o.op, o.guard with
 | some _, .alloc t, none => (match E.ty t with | some _ => true | none => false)
 | _, _, _ => false
def Zt6 (E : Env) (ops : List Oper) (p : Nat) : Bool := match nth ops p with
 | some o => Zv4 E o
 | none => false
def BW (ops : List Oper) (p q : Nat) : Bool := match VJ ops p, VJ ops q with
 | some a, some b => !(Nat.beq a b)
 | _, _ => true
def apN (ops : Array Oper) (p q : Nat) : Bool := match nth ops.toList p, nth ops.toList q with
 | some a, some b => a.apart ops b
 | _, _ => false
def ZqE (E : Env) (ops : Array Oper) (tab : List (List Nat)) (p : Nat) : Bool :=
 Zt6 E ops.toList p && (AD 0 ops.toList.length).all fun y => Nat.beq y p || (BW ops.toList p y && (ZgS (Xc tab y) p || apN ops p y))
def Zo6 (E : Env) (ops : Array Oper) (tab : List (List Nat)) (p : Nat) : List Nat :=
 match (AD 0 tab.length).filter (fun z => ZgS (Xc tab z) p) with
 | [] => []
 | z :: zs => (Xc tab z).filter fun x => !(Zt6 E ops.toList x) && (!(ZgS (Xc tab x) p) && zs.all fun y => ZgS (Xc tab y) x)
def Zv5 (E : Env) (ops : Array Oper) (tab : List (List Nat)) : List (List Nat) :=
 (AD 0 tab.length).map fun p => bif ZqE E ops tab p then IQ (Xc tab p) (Zo6 E ops tab p) else Xc tab p
def Env.late (E : Env) : Bool := E.vt 999999
def Zyn (E : Env) (ops : Array Oper) : List (List Nat) := bif E.late then Zv5 E ops (Zt4 ops.toList []) else Zt4 ops.toList []
def Zmu (ops : Array Oper) (s : St) (K : St → Option R) : Option R :=
 bif IS .any ops.toList && (!Region.departs ops || (IS .text ops.toList && IS .gc ops.toList)) then
  ZuC E ops (Zyn E ops) ops.toList.length (AD 0 ops.toList.length) s K
 else none
def Vd : Code → Option Nat
 | .region id _ _ => some id
 | .seq a b => match Vd a with | some i => some i | none => Vd b
 | .cond _ a b => match Vd a with | some i => some i | none => Vd b
 | .block _ b => Vd b
 | .loop b => Vd b
 | .scope b => Vd b
 | _ => none
inductive Ex where
 | normal
 | exit (id : Nat)
 | ret
variable (L : Nat → Option (Lp R))
def ZsU (b : Code) : Option (Lp R) := match Vd b with
 | some i => L (5000000 + i)
 | none => none
def ev : Code → St → (Ex → St → Option R) → Option R
 | .skip, s, K => K .normal s
 | .label _, s, K => K .normal s
 | .region _ ops draw, s, K => bif draw then Zmu E ops s (K .normal) else So E ops.toList ops.toList s (K .normal)
 | .seq a b, s, K => ev a s fun e s' => match e with
  | .normal => (match ZsU L b with
   | some l => GJ l s'
   | none => ev b s' K)
  | e => K e s'
 | .cond c x y, s, K => (match asB (s.get c) with
  | some b => bif b then ev x s K else ev y s K
  | none => none)
 | .block id c, s, K => ev c s fun e s' => match e with
  | .exit id' => bif Nat.beq id' id then K .normal s' else K (.exit id') s'
  | e => K e s'
 | .loop c, s, _ => (match Vd c with
  | some i => (match L i with | some l => GJ l s | none => none)
  | none => none)
 | .exit id, s, K => K (.exit id) s
 | .ret, s, K => K .ret s
 | _, _, _ => none
end
end Go.Sx
namespace Go.Sx
open Go
def Reps {α : Type} (R : α → List Value → List Nat → Prop) : List α → List Value → List Nat → Prop
 | [], cs, S => cs = [] ∧ S = []
 | x :: xs, cs, S => ∃ c1 c2 S1 S2, cs = c1 ++ c2 ∧ S = S1 ++ S2 ∧ R x c1 S1 ∧ Reps R xs c2 S2
def Reads (w : World) (A : Addr) (cs : List Value) : Prop :=
 ∀ j c, cs[j]? = some c → w.cell? ⟨A.block, A.off + j, none⟩ = some c
def BlockAt (w : World) (A : Addr) (n : Nat) (cs : List Value) : Prop :=
 ∃ all e, w.heap[A.block]? = some (.cells all e (0, 0)) ∧ A.off + n ≤ all.size ∧ ∀ j c, cs[j]? = some c → all[A.off + j]? = some c
def TR (im : Nat → Prop) (w : World) (o : Bool) : (t : Ty) → t.den → List Value → List Nat → Prop
 | .int k, x, cs, S => cs = [.int k x] ∧ S = []
 | .bool, x, cs, S => cs = [.bool x] ∧ S = []
 | .str, x, cs, S => cs = [.string x] ∧ S = []
 | .unit, _, cs, S => cs = [] ∧ S = []
 | .pair a b, x, cs, S => ∃ c1 c2 S1 S2, cs = c1 ++ c2 ∧ S = S1 ++ S2 ∧ TR im w o a x.1 c1 S1 ∧ TR im w o b x.2 c2 S2
 | .sl u a, x, cs, S =>
  ∃ A cap, cs = [.slice A (List.length x) cap] ∧ List.length x ≤ cap ∧
   (if (o && u) = true then
    (match A with
    | none => x = [] ∧ cap = 0 ∧ S = []
    | some ad => ad.spot = none ∧ ∃ inner S', S = ad.block :: S' ∧ BlockAt w ad (cap * a.size) inner ∧ Reps (TR im w true a) x inner S')
   else S = [] ∧ (x ≠ [] → ∃ ad inner, A = some ad ∧ ad.spot = none ∧ im ad.block ∧ Reads w ad inner ∧ Reps (TR im w false a) x inner []))
theorem Reps.imp {α : Type} {R R' : α → List Value → List Nat → Prop} :
  ∀ {xs : List α} {cs : List Value} {S : List Nat}, (∀ x c S1, (∀ b ∈ S1, b ∈ S) → R x c S1 → R' x c S1) → Reps R xs cs S → Reps R' xs cs S
 | [], _, _, _, h => h
 | _ :: _, _, _, hi, ⟨c1, c2, S1, S2, h1, h2, h3, h4⟩ =>
  ⟨c1, c2, S1, S2, h1, h2, hi _ _ _ (fun b hb => by subst h2; simp [hb]) h3,
   Reps.imp (fun x c S3 hs hr => hi x c S3 (fun b hb => by subst h2; simp [hs b hb]) hr) h4⟩
theorem Zo7 {w w' : World} {b o : Nat} (h : w'.heap[b]? = w.heap[b]?) : w'.cell? ⟨b, o, none⟩ = w.cell? ⟨b, o, none⟩ := by
 simp only [World.cell?, h]
theorem Reads.mono {w w' : World} {A : Addr} {cs : List Value} (h : Reads w A cs) (hb : w'.heap[A.block]? = w.heap[A.block]?) : Reads w' A cs :=
 fun j c hj => (Zo7 hb).trans (h j c hj)
theorem BlockAt.mono {w w' : World} {A : Addr} {n : Nat} {cs : List Value} (h : BlockAt w A n cs) (hb : w'.heap[A.block]? = w.heap[A.block]?) : BlockAt w' A n cs := by
 obtain ⟨all, e, h1, h2, h3⟩ := h;exact ⟨all, e, hb.trans h1, h2, h3⟩
theorem TR.mono {im im' : Nat → Prop} {w w' : World} (hi : ∀ b, im b → im' b ∧ w'.heap[b]? = w.heap[b]?) :
  ∀ (o : Bool) (t : Ty) (x : t.den) (cs : List Value) (S : List Nat), (∀ b ∈ S, w'.heap[b]? = w.heap[b]?) → TR im w o t x cs S → TR im' w' o t x cs S := by
 intro o t
 induction t generalizing o with
 | int k => intro x cs S _ h; exact h
 | bool => intro x cs S _ h; exact h
 | str => intro x cs S _ h; exact h
 | unit => intro x cs S _ h; exact h
 | pair a b iha ihb =>
  intro x cs S hS h;obtain ⟨c1, c2, S1, S2, h1, h2, h3, h4⟩ := h;subst h2;exact ⟨c1, c2, S1, S2, h1, rfl, iha o _ _ _ (fun b hb => hS b (by simp [hb])) h3, ihb o _ _ _ (fun b hb => hS b (by simp [hb])) h4⟩
 | sl u a iha =>
  intro x cs S hS h;obtain ⟨A, cap, h1, h2, h3⟩ := h;refine ⟨A, cap, h1, h2, ?_⟩
  by_cases hu : (o && u) = true
  ·rw [if_pos hu] at h3 ⊢
   cases A with
   | none => exact h3
   | some ad =>
    obtain ⟨hs, inner, S', h4, h5, h6⟩ := h3;subst h4;refine ⟨hs, inner, S', rfl, h5.mono (hS _ (by simp)), h6.imp ?_⟩;intro y c S1 hs1 hr;exact iha true _ _ _ (fun b hb => hS b (by simp [hs1 b hb])) hr
  ·rw [if_neg hu] at h3 ⊢
   refine ⟨h3.1, fun hx => ?_⟩;obtain ⟨ad, inner, h4, h5, h6, h7, h8⟩ := h3.2 hx;refine ⟨ad, inner, h4, h5, (hi _ h6).1, h7.mono (hi _ h6).2, h8.imp ?_⟩;intro y c S1 hs1 hr;exact iha false _ _ _ (fun b hb => by simpa using hs1 b hb) hr
theorem Reps.len {α : Type} {R : α → List Value → List Nat → Prop} {n : Nat} (hn : ∀ x c S, R x c S → c.length = n) :
  ∀ {xs : List α} {cs : List Value} {S : List Nat}, Reps R xs cs S → cs.length = xs.length * n
 | [], _, _, h => by simp [h.1]
 | _ :: xs, _, _, ⟨c1, c2, _, _, h1, _, h3, h4⟩ => by
  subst h1;simp [hn _ _ _ h3, Reps.len hn h4, Nat.add_mul, Nat.add_comm]
theorem TR.len {im : Nat → Prop} {w : World} : ∀ {o : Bool} {t : Ty} {x : t.den} {cs : List Value} {S : List Nat}, TR im w o t x cs S → cs.length = t.size := by
 intro o t
 induction t with
 | int k => intro x cs S h; simp [h.1, Ty.size]
 | bool => intro x cs S h; simp [h.1, Ty.size]
 | str => intro x cs S h; simp [h.1, Ty.size]
 | unit => intro x cs S h; simp [h.1, Ty.size]
 | pair a b iha ihb =>
  intro x cs S h;obtain ⟨c1, c2, S1, S2, h1, h2, h3, h4⟩ := h;subst h1;simp [iha h3, ihb h4, Ty.size]
 | sl u a _ =>
  intro x cs S h;obtain ⟨A, cap, h1, _⟩ := h;simp [h1, Ty.size]
inductive D where
 | v (blk : Nat)
 | s (A : Option Addr) (cap : Nat) (S : List Nat)
def D.blks : D → List Nat
 | .v b => [b]
 | .s _ _ S => S
abbrev Rho := Nat → Option D
def mkV (t : Ty) (cs : List Value) : Value := if t.isAgg then .agg cs.toArray else cs.headD undef
structure Z where
 im : Nat → Prop
 w : World
 rho : Rho
 h : List Blk
def VQ (A : Option Addr) (o : Nat) : Option Addr := A.map fun ad => ⟨ad.block, ad.off + o, none⟩
mutual
def V (z : Z) : SV → Value → Prop
 | .val t x, cv => ∃ cs, TR z.im z.w false t x cs [] ∧ cv = mkV t cs
 | .vl c0 t x, cv => cv = c0 ∧ ∃ cs, TR z.im z.w false t x cs [] ∧ cv = mkV t cs
 | .agg l, cv => ∃ cs : List Value, cv = .agg cs.toArray ∧ VL z l cs
 | .tup l, cv => ∃ cs : List Value, cv = .tuple cs.toArray ∧ VL z l cs
 | .own b v, cv => (∃ A n c, cv = .slice A n c) ∧ (nth z.h b).isSome = true ∧ ∀ v' t n, Ay (nth z.h b) = some (v', t, n) →
   v ≤ v' ∧ (v' = v → ∃ A cap S, z.rho b = some (.s A cap S) ∧ cv = .slice A n cap)
 | .sub b v off m, cv => (∃ A n c, cv = .slice A n c) ∧ (nth z.h b).isSome = true ∧ ∀ v' t n, Ay (nth z.h b) = some (v', t, n) →
   v ≤ v' ∧ (v' = v → off + m ≤ n ∧ ∃ A cap S o cap', z.rho b = some (.s A cap S) ∧
    cv = .slice (VQ A o) m cap' ∧ m ≤ cap' ∧ o + cap' * t.size ≤ cap * t.size ∧ (0 < m → o = off * t.size) ∧ (off = 0 → o = 0 ∧ cap' = cap))
 | .nil, cv => cv = .slice none 0 0
 | .ptr b off, cv => (∃ A, cv = .pointer A) ∧ match nth z.h b with
  | some (.vars _) => ∃ blk, z.rho b = some (.v blk) ∧ cv = .pointer (some ⟨blk, off, none⟩)
  | some .lent => ∃ blk, z.rho b = some (.v blk) ∧ cv = .pointer (some ⟨blk, off, none⟩)
  | some _ => True
  | none => False
 | .eptr b v i off, cv => (∃ A, cv = .pointer A) ∧ (nth z.h b).isSome = true ∧ ∀ v' t n, Ay (nth z.h b) = some (v', t, n) →
   v ≤ v' ∧ (v' = v → i < n ∧ ∃ ad cap S, z.rho b = some (.s (some ad) cap S) ∧ cv = .pointer (some ⟨ad.block, ad.off + i * t.size + off, none⟩))
 | .rptr t x off, cv => ∃ (ad : Addr) (cs : List Value), cv = .pointer (some ⟨ad.block, ad.off + off, none⟩) ∧ z.im ad.block ∧ Reads z.w ad cs ∧ TR z.im z.w false t x cs []
 | .fn f cap, cv => ∃ cs : List Value, cv = .func (.func f) #[] cs.toArray ∧ VL z cap cs
 | .fr _ _, _ => False
 | .fv _ _, _ => False
 | .io _ _, _ => False
 | .mr _, _ => False
 | .fp _, _ => False
 | .dead, _ => True
def VL (z : Z) : List SV → List Value → Prop
 | [], cs => cs = []
 | x :: l, cs => ∃ c r, cs = c :: r ∧ V z x c ∧ VL z l r
end
def AA (r r' : Option D) : Prop := ∀ A cap S, r = some (.s A cap S) → ∃ S', r' = some (.s A cap S')
theorem AA.refl (r : Option D) : AA r r := fun _ _ S h => ⟨S, h⟩
theorem AA.trans {r r' r'' : Option D} (h : AA r r') (h' : AA r' r'') : AA r r'' := fun A cap S e => by
 obtain ⟨S', e'⟩ := h A cap S e;exact h' A cap S' e'
theorem AA.of_eq {r r' : Option D} (h : r' = r) : AA r r' := fun _ _ S e => ⟨S, h.trans e⟩
def Yk (r r' : Option D) (o o' : Option Blk) : Prop :=
 (o.isSome = true → o'.isSome = true) ∧ (o = some .gone → o' = some .gone) ∧
 (∀ v t n, Ay o = some (v, t, n) → o' = some .gone ∨ ∃ v' t' n', Ay o' = some (v', t', n') ∧ (v < v' ∨ (v' = v ∧ t' = t ∧ n' = n ∧ AA r r'))) ∧
 ((o = some .lent ∨ ∃ c, o = some (.vars c)) → o' = some .gone ∨ (r' = r ∧ (o' = some .lent ∨ ∃ c, o' = some (.vars c))))
structure Ext (z z' : Z) : Prop where
 im : ∀ b, z.im b → z'.im b ∧ z'.w.heap[b]? = z.w.heap[b]?
 le : ∀ b, Yk (z.rho b) (z'.rho b) (nth z.h b) (nth z'.h b)
theorem Yk.refl (r : Option D) (b : Option Blk) : Yk r r b b :=
 ⟨id, id, fun v t n h => .inr ⟨v, t, n, h, .inr ⟨rfl, rfl, rfl, AA.refl r⟩⟩, fun h => .inr ⟨rfl, h⟩⟩
theorem Yk.gone {r r' : Option D} {o : Option Blk} : Yk r r' o (some .gone) := ⟨fun _ => rfl, fun _ => rfl, fun _ _ _ _ => .inl rfl, fun _ => .inl rfl⟩
theorem Yk.none {r r' : Option D} {o : Option Blk} : Yk r r' none o :=
 ⟨fun h => (by cases h), fun h => (by cases h), fun _ _ _ h => (by cases h), fun h => (by rcases h with h | ⟨c, h⟩ <;> cases h)⟩
theorem Yk.arr {r r' : Option D} {v v' : Nat} {t t' : Ty} {x : List t.den} {x' : List t'.den} (h : v < v' ∨ (v' = v ∧ t' = t ∧ x'.length = x.length ∧ AA r r')) : Yk r r' (some (.arr v t x)) (some (.arr v' t' x')) := by
 refine ⟨fun _ => rfl, fun h => (by cases h), fun v1 t1 n1 h1 => ?_, fun h => (by rcases h with h | ⟨c, h⟩ <;> cases h)⟩;simp only [Ay, Blk.info, Option.some.injEq, Prod.mk.injEq] at h1;obtain ⟨rfl, rfl, rfl⟩ := h1;exact .inr ⟨v', t', x'.length, rfl, h⟩
theorem Yk.vars {r : Option D} {c c' : List SV} : Yk r r (some (.vars c)) (some (.vars c')) :=
 ⟨fun _ => rfl, fun h => (by cases h), fun _ _ _ h => (by cases h), fun _ => .inr ⟨rfl, .inr ⟨c', rfl⟩⟩⟩
theorem Un {o : Option Blk} {Q : Nat → Ty → Nat → Prop} {v : Nat} {t : Ty} {x : List t.den} (hb : o = some (.arr v t x)) (h : Q v t x.length) : o.isSome = true ∧ ∀ v' t' n, Ay o = some (v', t', n) → Q v' t' n := by
 subst hb;refine ⟨rfl, fun v' t' n h1 => ?_⟩;simp only [Ay, Blk.info, Option.some.injEq, Prod.mk.injEq] at h1;obtain ⟨rfl, rfl, rfl⟩ := h1;exact h
theorem Yk.back {r r' : Option D} {o o' : Option Blk} (h : Yk r r' o o') (hs : o.isSome = true) {v' : Nat} {t' : Ty} {n' : Nat} (hi : Ay o' = some (v', t', n')) :
  ∃ v t n, Ay o = some (v, t, n) ∧ (v < v' ∨ (v' = v ∧ t' = t ∧ n' = n ∧ AA r r')) := by
 have no : o' ≠ some .gone := by intro e; rw [e] at hi; cases hi
 cases o with
 | none => cases hs
 | some x =>
  cases hx : x.info with
  | some q =>
   obtain ⟨v, t, n⟩ := q;rcases h.2.2.1 v t n hx with e | ⟨v2, t2, n2, e, hh⟩
   ·exact absurd e no
   ·rw [hi] at e
    simp only [Option.some.injEq, Prod.mk.injEq] at e;obtain ⟨rfl, rfl, rfl⟩ := e;exact ⟨v, t, n, hx, hh⟩
  | none =>
   exfalso;cases x with
   | gone => exact no (h.2.1 rfl)
   | lent =>
    rcases h.2.2.2 (.inl rfl) with e | ⟨_, e | ⟨c, e⟩⟩
    ·exact no e
    ·rw [e] at hi; cases hi
    ·rw [e] at hi; cases hi
   | vars c =>
    rcases h.2.2.2 (.inr ⟨c, rfl⟩) with e | ⟨_, e | ⟨c, e⟩⟩
    ·exact no e
    ·rw [e] at hi; cases hi
    ·rw [e] at hi; cases hi
   | arr v t x => cases hx
   | held v t n => cases hx
   | opn v t x i c => cases hx
theorem Ext.refl (z : Z) : Ext z z := ⟨fun _ h => ⟨h, rfl⟩, fun _ => Yk.refl _ _⟩
theorem Yk.trans {r r' r'' : Option D} {b b' b'' : Option Blk} (h : Yk r r' b b') (h' : Yk r' r'' b' b'') : Yk r r'' b b'' := by
 refine ⟨fun x => h'.1 (h.1 x), fun x => h'.2.1 (h.2.1 x), fun v t n hi => ?_, fun hv => ?_⟩
 ·rcases h.2.2.1 v t n hi with e | ⟨v', t', n', e, hh⟩
  ·exact .inl (h'.2.1 e)
  ·rcases h'.2.2.1 v' t' n' e with f | ⟨v'', t'', n'', f, hh'⟩
   ·exact .inl f
   ·refine .inr ⟨v'', t'', n'', f, ?_⟩
    rcases hh with hh | ⟨h1, h2, h3, h4⟩
    ·rcases hh' with hh' | ⟨k1, _⟩
     ·exact .inl (by omega)
     ·exact .inl (by omega)
    ·rcases hh' with hh' | ⟨k1, k2, k3, k4⟩
     ·exact .inl (by omega)
     ·exact .inr ⟨by omega, k2.trans h2, k3.trans h3, h4.trans k4⟩
 ·rcases h.2.2.2 hv with e | ⟨e, e2⟩
  ·exact .inl (h'.2.1 e)
  ·rcases h'.2.2.2 e2 with f | ⟨f, f2⟩
   ·exact .inl f
   ·exact .inr ⟨f.trans e, f2⟩
theorem Ext.trans {z z' z'' : Z} (h : Ext z z') (h' : Ext z' z'') : Ext z z'' :=
 ⟨fun b hb => ⟨(h'.im b (h.im b hb).1).1, ((h'.im b (h.im b hb).1).2).trans (h.im b hb).2⟩, fun b => (h.le b).trans (h'.le b)⟩
mutual
theorem V.ext {z z' : Z} (he : Ext z z') : ∀ (v : SV) (c : Value), V z v c → V z' v c
 | .val t x, c, h => by
  simp only [V] at h ⊢;obtain ⟨cs, h1, h2⟩ := h;exact ⟨cs, h1.mono he.im _ _ _ _ _ (by simp), h2⟩
 | .vl c0 t x, c, h => by
  simp only [V] at h ⊢;obtain ⟨h0, cs, h1, h2⟩ := h;exact ⟨h0, cs, h1.mono he.im _ _ _ _ _ (by simp), h2⟩
 | .agg l, c, h => by
  simp only [V] at h ⊢;obtain ⟨cs, h1, h2⟩ := h;exact ⟨cs, h1, VL.ext he l cs h2⟩
 | .tup l, c, h => by
  simp only [V] at h ⊢;obtain ⟨cs, h1, h2⟩ := h;exact ⟨cs, h1, VL.ext he l cs h2⟩
 | .own b v, c, h => by
  simp only [V] at h ⊢;obtain ⟨hc, hs, h⟩ := h;have hl := he.le b;refine ⟨hc, hl.1 hs, fun v2 t2 n2 hi2 => ?_⟩;obtain ⟨v1, t1, n1, hi1, hh⟩ := hl.back hs hi2;have h1 := h v1 t1 n1 hi1;rcases hh with hh | ⟨rfl, rfl, rfl, k4⟩
  ·exact ⟨by omega, fun e => by omega⟩
  ·refine ⟨h1.1, fun e => ?_⟩
   obtain ⟨A, cap, S, h3, h4⟩ := h1.2 e;obtain ⟨S', h5⟩ := k4 A cap S h3;exact ⟨A, cap, S', h5, h4⟩
 | .sub b v off n, c, h => by
  simp only [V] at h ⊢;obtain ⟨hc, hs, h⟩ := h;have hl := he.le b;refine ⟨hc, hl.1 hs, fun v2 t2 n2 hi2 => ?_⟩;obtain ⟨v1, t1, n1, hi1, hh⟩ := hl.back hs hi2;have h1 := h v1 t1 n1 hi1;rcases hh with hh | ⟨rfl, rfl, rfl, k4⟩
  ·exact ⟨by omega, fun e => by omega⟩
  ·refine ⟨h1.1, fun e => ?_⟩
   obtain ⟨h5, A, cap, S, o, cap', h3, h4⟩ := h1.2 e;obtain ⟨S', h6⟩ := k4 A cap S h3;exact ⟨h5, A, cap, S', o, cap', h6, h4⟩
 | .nil, c, h => by simp only [V] at h ⊢; exact h
 | .ptr b off, c, h => by
  simp only [V] at h ⊢;obtain ⟨hc, h⟩ := h;refine ⟨hc, ?_⟩;have hl := he.le b;cases h1 : nth z.h b with
  | none => rw [h1] at h; exact h.elim
  | some x =>
   rw [h1] at h hl;have other : (∀ c, x ≠ .vars c) → x ≠ .lent → (match nth z'.h b with | some (.vars _) => ∃ blk, z'.rho b = some (.v blk) ∧ c = .pointer (some ⟨blk, off, none⟩) | some .lent => ∃ blk, z'.rho b = some (.v blk) ∧ c = .pointer (some ⟨blk, off, none⟩) | some _ => True | none => False) := by
    intro n1 n2;have hsome : (nth z'.h b).isSome = true := hl.1 rfl;cases hx : x.info with
    | none =>
     have : x = .gone := by cases x <;> simp_all [Blk.info]
     subst this;rw [hl.2.1 rfl]; trivial
    | some q =>
     obtain ⟨v, t, n⟩ := q;rcases hl.2.2.1 v t n hx with e | ⟨v', t', n', e, _⟩
     ·rw [e]; trivial
     ·cases hb : nth z'.h b with
      | none => rw [hb] at hsome; cases hsome
      | some y => rw [hb] at e; cases y <;> simp [Ay, Blk.info] at e <;> trivial
   have var : (∃ blk, z.rho b = some (.v blk) ∧ c = .pointer (some ⟨blk, off, none⟩)) → (some x = some .lent ∨ ∃ c, some x = some (.vars c)) →
     (match nth z'.h b with | some (.vars _) => ∃ blk, z'.rho b = some (.v blk) ∧ c = .pointer (some ⟨blk, off, none⟩) | some .lent => ∃ blk, z'.rho b = some (.v blk) ∧ c = .pointer (some ⟨blk, off, none⟩) | some _ => True | none => False) := by
    rintro ⟨blk, h3, h4⟩ hx
    rcases hl.2.2.2 hx with e | ⟨hr, e | ⟨c2, e⟩⟩
    ·rw [e]; trivial
    ·rw [e]; exact ⟨blk, hr.trans h3, h4⟩
    ·rw [e]; exact ⟨blk, hr.trans h3, h4⟩
   cases x with
   | vars c1 => exact var h (.inr ⟨c1, rfl⟩)
   | lent => exact var h (.inl rfl)
   | arr v t y => exact other (fun _ e => by cases e) (fun e => by cases e)
   | held v t n => exact other (fun _ e => by cases e) (fun e => by cases e)
   | opn v t x i c => exact other (fun _ e => by cases e) (fun e => by cases e)
   | gone => exact other (fun _ e => by cases e) (fun e => by cases e)
 | .eptr b v i off, c, h => by
  simp only [V] at h ⊢;obtain ⟨hc, hs, h⟩ := h;have hl := he.le b;refine ⟨hc, hl.1 hs, fun v2 t2 n2 hi2 => ?_⟩;obtain ⟨v1, t1, n1, hi1, hh⟩ := hl.back hs hi2;have h1 := h v1 t1 n1 hi1;rcases hh with hh | ⟨rfl, rfl, rfl, k4⟩
  ·exact ⟨by omega, fun e => by omega⟩
  ·refine ⟨h1.1, fun e => ?_⟩
   obtain ⟨h5, ad, cap, S, h3, h4⟩ := h1.2 e;obtain ⟨S', h6⟩ := k4 (some ad) cap S h3;exact ⟨h5, ad, cap, S', h6, h4⟩
 | .rptr t x off, c, h => by
  simp only [V] at h ⊢;obtain ⟨ad, cs, h1, h2, h3, h4⟩ := h;exact ⟨ad, cs, h1, (he.im _ h2).1, h3.mono (he.im _ h2).2, h4.mono he.im _ _ _ _ _ (by simp)⟩
 | .fn f cap, c, h => by
  simp only [V] at h ⊢;obtain ⟨cs, h1, h2⟩ := h;exact ⟨cs, h1, VL.ext he cap cs h2⟩
 | .fr _ _, _, h => by simp [V] at h
 | .fv _ _, _, h => by simp [V] at h
 | .io _ _, _, h => by simp [V] at h
 | .mr _, _, h => by simp [V] at h
 | .fp _, _, h => by simp [V] at h
 | .dead, _, _ => by simp [V]
theorem VL.ext {z z' : Z} (he : Ext z z') : ∀ (l : List SV) (cs : List Value), VL z l cs → VL z' l cs
 | [], cs, h => by simp only [VL] at h ⊢; exact h
 | x :: l, cs, h => by
  simp only [VL] at h ⊢;obtain ⟨c, r, h1, h2, h3⟩ := h;exact ⟨c, r, h1, V.ext he x c h2, VL.ext he l r h3⟩
end
end Go.Sx
namespace Go.Sx
open Go
def Zyu : List (Nat × (Option Obj → Prop)) := []
end Go.Sx
namespace Go.Sx
open Go
theorem Yd {α : Type} : ∀ {l : List α} {n : Nat} {x y : α}, nth l n = some x → nth (upd l n y) n = some y
 | _ :: _, 0, _, _, _ => rfl
 | _ :: l, n + 1, _, _, h => Yd (l := l) (n := n) h
theorem Z6 {α : Type} : ∀ {l : List α} {n m : Nat} {y : α}, n ≠ m → nth (upd l n y) m = nth l m
 | [], _, _, _, _ => rfl
 | _ :: _, 0, 0, _, h => absurd rfl h
 | _ :: _, 0, _ + 1, _, _ => rfl
 | _ :: _, _ + 1, 0, _, _ => rfl
 | _ :: l, n + 1, m + 1, _, h => Z6 (l := l) (n := n) (m := m) (fun e => h (by rw [e]))
theorem Of {α : Type} : ∀ {l : List α} {n : Nat} {y : α}, nth l n = none → upd l n y = l
 | [], _, _, _ => rfl
 | _ :: _, 0, _, h => by simp [nth] at h
 | x :: l, n + 1, y, h => by simp only [upd]; rw [Of (l := l) (n := n) h]
theorem ZY {α : Type} : ∀ (l : List α) (n : Nat) (y : α), (upd l n y).length = l.length
 | [], _, _ => rfl
 | _ :: _, 0, _ => rfl
 | _ :: l, n + 1, y => by simp [upd, ZY l n y]
theorem AE {α : Type} : ∀ (l : List α) (n : Nat), nth l n = l[n]?
 | [], _ => by simp [nth]
 | _ :: _, 0 => by simp [nth]
 | _ :: l, n + 1 => by simp [nth, AE l n]
theorem Vu {α : Type} {l r : List α} {n : Nat} (h : n < l.length) : nth (l ++ r) n = nth l n := by
 rw [AE, AE, List.getElem?_append_left h]
theorem Xy {α : Type} {l : List α} {n : Nat} : nth l n = none ↔ l.length ≤ n := by rw [AE]; simp
theorem AF {α : Type} {l : List α} {n : Nat} {x : α} (h : nth l n = some x) : n < l.length := by
 rcases Nat.lt_or_ge n l.length with h1 | h1
 ·exact h1
 ·rw [Xy.2 h1] at h; cases h
theorem WC {α : Type} (l : List α) (x : α) : nth (l ++ [x]) l.length = some x := by rw [AE]; simp
def live : Option Blk → Prop
 | some (.vars _) => True
 | some (.arr _ _ _) => True
 | some .lent => True
 | some (.held _ _ _) => True
 | some (.opn _ _ _ _ _) => True
 | _ => False
def KZ (rho : Rho) (h : List Blk) (k : Nat) : Prop := ∃ b d, rho b = some d ∧ live (nth h b) ∧ k ∈ d.blks
structure G where
 p : Nat → Prop
 S0 : List Nat
 w0 : World
 bx : List (Nat × Nat)
 ax : List (Nat × (Value × Ty))
def Im (g : G) (rho : Rho) (h : List Blk) (w : World) (k : Nat) : Prop :=
 (g.p k ∨ k ∈ g.S0 ∨ g.w0.heap.size ≤ k) ∧ k < w.heap.size ∧ ¬ KZ rho h k
def zOf (g : G) (rho : Rho) (h : List Blk) (w : World) : Z := ⟨Im g rho h w, w, rho, h⟩
def GM (z : Z) (d : D) : Option Blk → Prop
 | some (.vars c) => ∃ blk cs e, d = .v blk ∧ z.w.heap[blk]? = some (.cells (cs : List Value).toArray e (0, 0)) ∧ VL z c cs
 | some .lent => ∃ blk, d = .v blk
 | some (.held _ _ _) => ∃ A cap S, d = .s A cap S
 | some (.arr _ t x) => ∃ A cap S, d = .s A cap S ∧ TR z.im z.w true (.sl true t) x [.slice A x.length cap] S ∧ 0 < t.size
 | some (.opn _ t x i c) => ∃ (ad : Addr) (cap : Nat) (cs1 cs cs2 : List Value) (S1 S2 : List Nat), d = .s (some ad) cap (ad.block :: (S1 ++ S2)) ∧ ad.spot = none ∧ i < x.length ∧ x.length ≤ cap ∧
   BlockAt z.w ad (cap * t.size) (cs1 ++ (cs ++ cs2)) ∧ Reps (TR z.im z.w true t) (x.take i) cs1 S1 ∧ VL z c cs ∧ cs.length = t.size ∧ Reps (TR z.im z.w true t) (x.drop (i + 1)) cs2 S2 ∧ 0 < t.size
 | _ => True
def ZsV : Option Obj → Nat × Nat
 | some (.cells _ _ f) => f
 | _ => (0, 0)
structure Frz (w w' : World) : Prop where
 obj : ∀ k : Nat, k < w.heap.size → ZsV w'.heap[k]? = ZsV w.heap[k]? ∨ ZsV w'.heap[k]? = (0, 0)
 os : w'.os = w.os
 out : w'.output = w.output
 le : w.heap.size ≤ w'.heap.size
structure Zml (w w' : World) : Prop where
 heap : w'.heap = w.heap
 os : w'.os = w.os
 out : w'.output = w.output
theorem Zml.refl (w : World) : Zml w w := ⟨rfl, rfl, rfl⟩
theorem Frz.refl (w : World) : Frz w w := ⟨fun _ _ => .inl rfl, rfl, rfl, Nat.le_refl _⟩
theorem Frz.trans {w w' w'' : World} (h : Frz w w') (h' : Frz w' w'') : Frz w w'' := by
 refine ⟨fun k hk => ?_, h'.os.trans h.os, h'.out.trans h.out, Nat.le_trans h.le h'.le⟩;rcases h'.obj k (Nat.lt_of_lt_of_le hk h.le) with e | e
 ·rw [e]; exact h.obj k hk
 ·exact .inr e
theorem Frz.of_eq {w w' : World} (h : Zml w w') : Frz w w' := ⟨fun k _ => .inl (by rw [h.heap]), h.os, h.out, Nat.le_of_eq (by rw [h.heap])⟩
structure Kept (w w' : World) (S : List Nat) : Prop where
 size : w.heap.size ≤ w'.heap.size
 same : ∀ k, k < w.heap.size → k ∉ S → w'.heap[k]? = w.heap[k]?
 frz : Frz w w'
def Zjf (p : Nat → Prop) (w : World) : Prop := ∀ t ∈ Zyu, p t.1 ∧ t.2 w.heap[t.1]?
structure Inv (g : G) (rho : Rho) (h : List Blk) (w : World) : Prop where
 sim : ∀ b d, rho b = some d → GM (zOf g rho h w) d (nth h b)
 disj : ∀ b b' d d', rho b = some d → rho b' = some d' → live (nth h b) → live (nth h b') → b ≠ b' → ∀ k ∈ d.blks, k ∉ d'.blks
 nodup : ∀ b d, rho b = some d → live (nth h b) → d.blks.Nodup
 range : ∀ b d, rho b = some d → live (nth h b) → ∀ k ∈ d.blks, k < w.heap.size ∧ (k ∈ g.S0 ∨ g.w0.heap.size ≤ k)
 kept : Kept g.w0 w g.S0
 tab : Zjf (Im g rho h w) w
theorem Zjf.ext {z z' : Z} (hn : Zjf z.im z.w) (he : Ext z z') : Zjf z'.im z'.w := fun t ht =>
 ⟨(he.im t.1 (hn t ht).1).1, by rw [(he.im t.1 (hn t ht).1).2]; exact (hn t ht).2⟩
theorem Kept.refl (w : World) (S : List Nat) : Kept w w S := ⟨Nat.le_refl _, fun _ _ _ => rfl, Frz.refl w⟩
theorem Kept.trans {w w' w'' : World} {S S' : List Nat} (h : Kept w w' S) (h' : Kept w' w'' S') (hs : ∀ k ∈ S', k ∈ S ∨ w.heap.size ≤ k) : Kept w w'' S :=
 ⟨Nat.le_trans h.1 h'.1, fun k hk hn => (h'.2 k (Nat.lt_of_lt_of_le hk h.1) (fun hc => (hs k hc).elim hn (fun hl => Nat.not_le_of_lt hk hl))).trans (h.2 k hk hn), h.3.trans h'.3⟩
theorem GM.ext {z z' : Z} (he : Ext z z') {d : D} {b : Option Blk} (h : GM z d b) (hb : live b → ∀ k ∈ d.blks, z'.w.heap[k]? = z.w.heap[k]?) : GM z' d b := by
 cases b with
 | none => trivial
 | some b =>
  cases b with
  | gone => trivial
  | lent => exact h
  | held v t n => exact h
  | vars c =>
   obtain ⟨blk, cs, e, h1, h2, h3⟩ := h;subst h1;exact ⟨blk, cs, e, rfl, (hb trivial _ (by simp [D.blks])).trans h2, VL.ext he _ _ h3⟩
  | arr v t x =>
   obtain ⟨A, cap, S, h1, h2, h3⟩ := h;subst h1;exact ⟨A, cap, S, rfl, h2.mono he.im _ _ _ _ _ (fun b hk => hb trivial b hk), h3⟩
  | opn v t x i c =>
   obtain ⟨ad, cap, cs1, cs, cs2, S1, S2, h1, h2, h3, h4, h5, h6, h7, h8, h9, h10⟩ := h;subst h1;have hS : ∀ k, k ∈ S1 ∨ k ∈ S2 → z'.w.heap[k]? = z.w.heap[k]? := fun k hk => hb trivial k (by simp only [D.blks, List.mem_cons, List.mem_append]; exact .inr hk);exact ⟨ad, cap, cs1, cs, cs2, S1, S2, rfl, h2, h3, h4, h5.mono (hb trivial _ (by simp [D.blks])),
    h6.imp (fun x c S hs hr => hr.mono he.im _ _ _ _ _ (fun k hk => hS k (.inl (hs k hk)))), VL.ext he _ _ h7, h8,
    h9.imp (fun x c S hs hr => hr.mono he.im _ _ _ _ _ (fun k hk => hS k (.inr (hs k hk)))), h10⟩
theorem KZ.mono {rho : Rho} {h h' : List Blk} {k : Nat} (hl : ∀ b, live (nth h' b) → live (nth h b)) (ho : KZ rho h' k) : KZ rho h k := by
 obtain ⟨b, d, h1, h2, h3⟩ := ho;exact ⟨b, d, h1, hl b h2, h3⟩
theorem Ye {α : Type} (l : List α) (n m : Nat) (y : α) : (n = m ∧ nth (upd l n y) m = some y ∧ (nth l m).isSome) ∨ nth (upd l n y) m = nth l m := by
 by_cases hnm : n = m
 ·subst hnm
  cases h : nth l n with
  | none => right; rw [Of h, h]
  | some x => left; exact ⟨rfl, Yd h, rfl⟩
 ·right; exact Z6 hnm
theorem Sp {g : G} {rho : Rho} {h : List Blk} {w : World} (b : Nat) : Ext (zOf g rho h w) (zOf g rho (upd h b .gone) w) where
 im := fun k hk => by
  refine ⟨⟨hk.1, hk.2.1, fun ho => hk.2.2 (ho.mono ?_)⟩, rfl⟩;intro b' hl;rcases Ye h b b' Blk.gone with ⟨_, h2, _⟩ | h2
  ·rw [h2] at hl; exact hl.elim
  ·rwa [h2] at hl
 le := fun b' => by
  show Yk (rho b') (rho b') (nth h b') (nth (upd h b .gone) b');rcases Ye h b b' Blk.gone with ⟨_, h2, h3⟩ | h2
  ·rw [h2]
   exact Yk.gone
  ·rw [h2]; exact Yk.refl _ _
theorem ZqF {g : G} {rho : Rho} {h : List Blk} {w : World} (b : Nat) (hi : Inv g rho h w) : Inv g rho (upd h b .gone) w := by
 have hl : ∀ b', live (nth (upd h b .gone) b') → live (nth h b') ∧ nth (upd h b Blk.gone) b' = nth h b' := by
  intro b' hl;rcases Ye h b b' Blk.gone with ⟨_, h2, _⟩ | h2
  ·rw [h2] at hl; exact hl.elim
  ·rw [h2] at hl; exact ⟨hl, h2⟩
 refine ⟨fun b' d hd => ?_, fun b1 b2 d1 d2 h1 h2 l1 l2 => hi.disj b1 b2 d1 d2 h1 h2 (hl b1 l1).1 (hl b2 l2).1,
  fun b1 d1 h1 l1 => hi.nodup b1 d1 h1 (hl b1 l1).1, fun b1 d1 h1 l1 => hi.range b1 d1 h1 (hl b1 l1).1, hi.kept, Zjf.ext (z := zOf g rho h w) hi.tab (Sp b)⟩
 rcases Ye h b b' Blk.gone with ⟨_, h2, _⟩ | h2
 ·rw [h2]; trivial
 ·rw [h2]; exact (hi.sim b' d hd).ext (Sp b) (fun _ _ _ => rfl)
theorem CH {g : G} {rho : Rho} {w : World} : ∀ (l : List Nat) (h : List Blk), Ext (zOf g rho h w) (zOf g rho (KR h l) w)
 | [], h => Ext.refl _
 | b :: l, h => (Sp b).trans (CH l (upd h b .gone))
theorem IT {g : G} {rho : Rho} {w : World} : ∀ (l : List Nat) (h : List Blk), Inv g rho h w → Inv g rho (KR h l) w
 | [], _, hi => hi
 | b :: l, h, hi => IT l (upd h b .gone) (ZqF b hi)
theorem CI : ∀ (l : List Nat) (h : List Blk), (KR h l).length = h.length
 | [], _ => rfl
 | b :: l, h => by simp only [KR]; rw [CI l, ZY]
theorem AG {b : Nat} : ∀ (l : List Nat) (h : List Blk), b ∉ l → nth (KR h l) b = nth h b
 | [], _, _ => rfl
 | c :: l, h, hn => by
  simp only [List.mem_cons, not_or] at hn;simp only [KR];rw [AG l _ hn.2, Z6 (Ne.symm hn.1)]
theorem BX {b : Nat} : ∀ (l : List Nat) (h : List Blk), b ∈ l → ¬ live (nth (KR h l) b)
 | c :: l, h, hm => by
  simp only [KR]
  by_cases hbl : b ∈ l
  ·exact BX l _ hbl
  ·have hbc : b = c := by simpa [hbl] using hm
   subst hbc;rw [AG l _ hbl];rcases Ye h b b Blk.gone with ⟨_, h2, _⟩ | h2
   ·rw [h2]; exact fun h => h
   ·cases hx : nth h b with
    | none => rw [h2, hx]; exact fun h => h
    | some x => rw [Yd hx]; exact fun h => h
def YL (rho : Rho) (b : Nat) (d : D) : Rho := fun b' => if b' = b then some d else rho b'
theorem push_get {w : World} {o : Obj} {k : Nat} (hk : k < w.heap.size) : (w.heap.push o)[k]? = w.heap[k]? := by
 rw [Array.getElem?_push]; simp [Nat.ne_of_lt hk]
theorem push_new {w : World} {o : Obj} : (w.heap.push o)[w.heap.size]? = some o := by
 rw [Array.getElem?_push]; simp
def XY (w : World) (o : Obj) : World := { w with heap := w.heap.push o }
theorem frz_push (w : World) (o : Obj) (hf : ZsV (some o) = (0, 0)) : Frz w (XY w o) := by
 refine ⟨fun k _ => ?_, rfl, rfl, by show _ ≤ (w.heap.push o).size; rw [Array.size_push]; omega⟩;show ZsV (w.heap.push o)[k]? = _ ∨ ZsV (w.heap.push o)[k]? = _;rw [Array.getElem?_push]
 split
 ·exact .inr hf
 ·exact .inl rfl
theorem Z7 {α : Type} (l : List α) (x : α) (n : Nat) : (n = l.length ∧ nth (l ++ [x]) n = some x) ∨ (n < l.length ∧ nth (l ++ [x]) n = nth l n) ∨ (l.length < n ∧ nth (l ++ [x]) n = none ∧ nth l n = none) := by
 rcases Nat.lt_trichotomy n l.length with h | h | h
 ·exact .inr (.inl ⟨h, Vu h⟩)
 ·subst h; exact .inl ⟨rfl, WC l x⟩
 ·exact .inr (.inr ⟨h, Xy.2 (by simp; omega), Xy.2 (by omega)⟩)
theorem FY {g : G} {rho : Rho} {h : List Blk} {w : World} (hi : Inv g rho h w) (o : Obj) (nb : Blk) (d : D) (hd : ∀ k ∈ d.blks, k = w.heap.size) :
  Ext (zOf g rho h w) (zOf g (YL rho h.length d) (h ++ [nb]) (XY w o)) where
 im := fun k hk => by
  have hlt : k < w.heap.size := hk.2.1;refine ⟨⟨hk.1, by show k < (w.heap.push o).size; rw [Array.size_push]; omega, ?_⟩, push_get hlt⟩
  rintro ⟨b, d', h1, h2, h3⟩
  rcases Z7 h nb b with ⟨e, _⟩ | ⟨e, h4⟩ | ⟨_, h4, _⟩
  ·subst e
   simp only [YL, if_pos] at h1;cases h1;have := hd k h3;omega
  ·have : b ≠ h.length := by omega
   simp only [YL, if_neg this] at h1;rw [h4] at h2;exact hk.2.2 ⟨b, d', h1, h2, h3⟩
  ·rw [h4] at h2; exact h2.elim
 le := fun b => by
  show Yk (rho b) (YL rho h.length d b) (nth h b) (nth (h ++ [nb]) b);rcases Z7 h nb b with ⟨e, h4⟩ | ⟨e, h4⟩ | ⟨_, h4, h5⟩
  ·subst e; rw [Xy.2 (Nat.le_refl _)]; exact Yk.none
  ·have : b ≠ h.length := by omega
   rw [h4]; simp only [YL, if_neg this]; exact Yk.refl _ _
  ·rw [h5]; exact Yk.none
theorem Ze4 {g : G} {rho : Rho} {h : List Blk} {w : World} (hi : Inv g rho h w) (o : Obj) (nb : Blk) (d : D) (hd : ∀ k ∈ d.blks, k = w.heap.size) (hnd : d.blks.Nodup)
  (hs : GM (zOf g (YL rho h.length d) (h ++ [nb]) (XY w o)) d (some nb)) (hfz : ZsV (some o) = (0, 0) := by rfl) : Inv g (YL rho h.length d) (h ++ [nb]) (XY w o) := by
 have he := FY hi o nb d hd;have hsz : (XY w o).heap.size = w.heap.size + 1 := by simp [XY]
 have old : ∀ b d', YL rho h.length d b = some d' → live (nth (h ++ [nb]) b) → (b = h.length ∧ d' = d) ∨ (b < h.length ∧ rho b = some d' ∧ live (nth h b)) := by
  intro b d' h1 h2;rcases Z7 h nb b with ⟨e, _⟩ | ⟨e, h4⟩ | ⟨_, h4, _⟩
  ·subst e; simp only [YL, if_pos] at h1; cases h1; exact .inl ⟨rfl, rfl⟩
  ·have : b ≠ h.length := by omega
   simp only [YL, if_neg this] at h1;rw [h4] at h2;exact .inr ⟨e, h1, h2⟩
  ·rw [h4] at h2; exact h2.elim
 refine ⟨?_, ?_, ?_, ?_, ?_, Zjf.ext (z := zOf g rho h w) hi.tab he⟩
 ·intro b d' h1
  rcases Z7 h nb b with ⟨e, h4⟩ | ⟨e, h4⟩ | ⟨_, h4, _⟩
  ·subst e; simp only [YL, if_pos] at h1; cases h1; rw [h4]; exact hs
  ·have hne : b ≠ h.length := by omega
   simp only [YL, if_neg hne] at h1;rw [h4];refine (hi.sim b d' h1).ext he (fun hl k hk => ?_);exact push_get (hi.range b d' h1 hl k hk).1
  ·rw [h4]; trivial
 ·intro b1 b2 d1 d2 h1 h2 l1 l2 hne k hk hk2
  rcases old b1 d1 h1 l1 with ⟨e1, e2⟩ | ⟨e1, e2, e3⟩ <;> rcases old b2 d2 h2 l2 with ⟨f1, f2⟩ | ⟨f1, f2, f3⟩
  ·exact hne (e1.trans f1.symm)
  ·subst e2; have := hd k hk; have := (hi.range b2 d2 f2 f3 k hk2).1; omega
  ·subst f2; have := hd k hk2; have := (hi.range b1 d1 e2 e3 k hk).1; omega
  ·exact hi.disj b1 b2 d1 d2 e2 f2 e3 f3 hne k hk hk2
 ·intro b1 d1 h1 l1
  rcases old b1 d1 h1 l1 with ⟨_, e2⟩ | ⟨_, e2, e3⟩
  ·subst e2; exact hnd
  ·exact hi.nodup b1 d1 e2 e3
 ·intro b1 d1 h1 l1 k hk
  rcases old b1 d1 h1 l1 with ⟨_, e2⟩ | ⟨_, e2, e3⟩
  ·subst e2; have := hd k hk; exact ⟨by omega, .inr (by have := hi.kept.1; omega)⟩
  ·have := hi.range b1 d1 e2 e3 k hk; exact ⟨by omega, this.2⟩
 ·refine ⟨by have := hi.kept.1; omega, fun k hk hn => ?_, hi.kept.3.trans (frz_push w o hfz)⟩
  exact (push_get (Nat.lt_of_lt_of_le hk hi.kept.1)).trans (hi.kept.2 k hk hn)
end Go.Sx
namespace Go.Sx
open Go
theorem Ty.eqv_agg : ∀ {s t : Ty}, s.eqv t = true → s.isAgg = t.isAgg
 | .int _, .int _, _ => rfl
 | .bool, .bool, _ => rfl
 | .str, .str, _ => rfl
 | .unit, .unit, _ => rfl
 | .pair _ _, .pair _ _, _ => rfl
 | .sl _ _, .sl _ _, _ => rfl
theorem Ty.eqv_size : ∀ {s t : Ty}, s.eqv t = true → s.size = t.size
 | .int _, .int _, _ => rfl
 | .bool, .bool, _ => rfl
 | .str, .str, _ => rfl
 | .unit, .unit, _ => rfl
 | .pair a b, .pair c d, h => by
  simp only [Ty.eqv, Bool.and_eq_true] at h;simp only [Ty.size, Ty.eqv_size h.1, Ty.eqv_size h.2]
 | .sl _ _, .sl _ _, _ => rfl
theorem Zjg {α β : Type} (e : α = β) {R : α → List Value → List Nat → Prop} {R' : β → List Value → List Nat → Prop}
  (h : ∀ x c S, R x c S → R' (cast e x) c S) {xs : List α} {cs : List Value} {S : List Nat} (hr : Reps R xs cs S) : Reps R' (cast (congrArg List e) xs) cs S := by
 subst e;exact hr.imp (fun x c S1 _ hx => h x c S1 hx)
theorem Sq {α β : Type} (e : α = β) (xs : List α) : (cast (congrArg List e) xs).length = xs.length := by subst e; rfl
theorem ZsW {α β : Type} (e : α = β) (xs : List α) : cast (congrArg List e) xs = [] ↔ xs = [] := by subst e; rfl
theorem ZsX {α β γ δ : Type} (e : α = γ) (f : β = δ) (x : α × β) : (cast (by rw [e, f]) x : γ × δ).1 = cast e x.1 := by subst e; subst f; rfl
theorem ZsY {α β γ δ : Type} (e : α = γ) (f : β = δ) (x : α × β) : (cast (by rw [e, f]) x : γ × δ).2 = cast f x.2 := by subst e; subst f; rfl
theorem TR.castD {im : Nat → Prop} {w : World} : ∀ {s t : Ty} (h : s.eqv t = true) {x : s.den} {cs : List Value}, TR im w false s x cs [] → TR im w false t (castD h x) cs []
 | .int k, .int k', h, x, cs, hr => by
  have : k = k' := by simpa [Ty.eqv] using h
  subst this; exact hr
 | .bool, .bool, _, _, _, hr => hr
 | .str, .str, _, _, _, hr => hr
 | .unit, .unit, _, _, _, hr => hr
 | .pair a b, .pair c d, h, x, cs, hr => by
  have h' := h;simp only [Ty.eqv, Bool.and_eq_true] at h';obtain ⟨c1, c2, S1, S2, h1, h2, h3, h4⟩ := hr;have e1 : S1 = [] := by have := h2.symm; simp at this; exact this.1
  have e2 : S2 = [] := by have := h2.symm; simp at this; exact this.2
  subst e1; subst e2;refine ⟨c1, c2, [], [], h1, rfl, ?_, ?_⟩
  ·have := TR.castD h'.1 h3
   rw [show (Sx.castD h x : c.den × d.den).1 = Sx.castD h'.1 x.1 from ZsX (Ty.den_eqv h'.1) (Ty.den_eqv h'.2) x];exact this
  ·have := TR.castD h'.2 h4
   rw [show (Sx.castD h x : c.den × d.den).2 = Sx.castD h'.2 x.2 from ZsY (Ty.den_eqv h'.1) (Ty.den_eqv h'.2) x];exact this
 | .sl u a, .sl u' b, h, x, cs, hr => by
  have h' : a.eqv b = true := h;obtain ⟨A, cap, h1, h2, h3⟩ := hr;have e := Ty.den_eqv h';have hl : (Sx.castD h x : List b.den).length = List.length x := Sq e x;simp only [Bool.false_and, Bool.false_eq_true, if_false] at h3;refine ⟨A, cap, by rw [hl]; exact h1, by rw [hl]; exact h2, ?_⟩;simp only [Bool.false_and, Bool.false_eq_true, if_false];refine ⟨trivial, fun hx => ?_⟩;obtain ⟨ad, inner, h4, h5, h6, h7, h8⟩ := h3.2 (fun hn => hx ((ZsW e x).2 hn));refine ⟨ad, inner, h4, h5, h6, h7, ?_⟩;have h9 : Reps (fun y c S => S = [] ∧ TR im w false a y c []) x inner [] := h8.imp (fun y c S1 hs hr => by
   have : S1 = [] := List.eq_nil_iff_forall_not_mem.2 (fun b hb => by simpa using hs b hb);subst this; exact ⟨rfl, hr⟩)
  exact Zjg e (fun y c S hy => by obtain ⟨rfl, hy⟩ := hy; exact TR.castD h' hy) h9
theorem ZuD {s t : Ty} (h : s.eqv t = true) (cs : List Value) : mkV s cs = mkV t cs := by unfold mkV; rw [Ty.eqv_agg h]
theorem Zjh {im : Nat → Prop} {w : World} {s t : Ty} {x : s.den} {y : t.den} (h : toD s t x = some y) {cs : List Value} (hr : TR im w false s x cs []) :
  TR im w false t y cs [] ∧ mkV s cs = mkV t cs := by
 unfold toD at h
 split at h
 ·rename_i he
  cases h;exact ⟨hr.castD he, ZuD he cs⟩
 ·cases h
theorem Reads.of_block {w : World} {A : Addr} {n : Nat} {cs : List Value} (h : BlockAt w A n cs) : Reads w A cs := by
 obtain ⟨all, e, h1, h2, h3⟩ := h;intro j c hj;simp only [World.cell?, h1, Option.isSome_none, Bool.false_eq_true, if_false];exact h3 j c hj
theorem TR.weak {im im' : Nat → Prop} {w : World} (hi : ∀ b, im b → im' b) : ∀ (t : Ty) (x : t.den) (cs : List Value) (S : List Nat) (o : Bool), (∀ b ∈ S, im' b) →
  TR im w o t x cs S → TR im' w false t x cs [] := by
 intro t
 induction t with
 | int k => intro x cs S o _ h; exact ⟨h.1, rfl⟩
 | bool => intro x cs S o _ h; exact ⟨h.1, rfl⟩
 | str => intro x cs S o _ h; exact ⟨h.1, rfl⟩
 | unit => intro x cs S o _ h; exact ⟨h.1, rfl⟩
 | pair a b iha ihb =>
  intro x cs S o hS h;obtain ⟨c1, c2, S1, S2, h1, h2, h3, h4⟩ := h;subst h2;exact ⟨c1, c2, [], [], h1, rfl, iha _ _ _ o (fun b hb => hS b (by simp [hb])) h3, ihb _ _ _ o (fun b hb => hS b (by simp [hb])) h4⟩
 | sl u a iha =>
  intro x cs S o hS h;obtain ⟨A, cap, h1, h2, h3⟩ := h;refine ⟨A, cap, h1, h2, ?_⟩;simp only [Bool.false_and, Bool.false_eq_true, if_false];refine ⟨trivial, fun hx => ?_⟩;have Zqq : ∀ {l : List a.den} {cs : List Value} {S : List Nat}, Reps (fun y c S1 => TR im' w false a y c []) l cs S → Reps (TR im' w false a) l cs [] := by
   intro l
   induction l with
   | nil => intro cs S h; exact ⟨h.1, rfl⟩
   | cons y l ih =>
    intro cs S h;obtain ⟨c1, c2, S1, S2, k1, _, k3, k4⟩ := h;exact ⟨c1, c2, [], [], k1, rfl, k3, ih k4⟩
  by_cases hu : (o && u) = true
  ·rw [if_pos hu] at h3
   cases A with
   | none => exact absurd h3.1 hx
   | some ad =>
    obtain ⟨hs, inner, S', h4, h5, h6⟩ := h3;subst h4;refine ⟨ad, inner, rfl, hs, hS _ (by simp), Reads.of_block h5, Zqq (S := S') (h6.imp ?_)⟩;intro y c S1 hs1 hr;exact iha _ _ S1 true (fun b hb => hS b (by simp [hs1 b hb])) hr
  ·rw [if_neg hu] at h3
   obtain ⟨ad, inner, h4, h5, h6, h7, h8⟩ := h3.2 hx;refine ⟨ad, inner, h4, h5, hi _ h6, h7, Zqq (S := []) (h8.imp ?_)⟩;intro y c S1 hs1 hr;exact iha _ _ S1 false (fun b hb => by simpa using hs1 b hb) hr
theorem TR.noUq {im : Nat → Prop} {w : World} : ∀ {t : Ty} {x : t.den} {cs : List Value} {S : List Nat}, t.noUq = true → TR im w true t x cs S → S = [] ∧ TR im w false t x cs [] := by
 intro t
 induction t with
 | int k => intro x cs S _ h; exact ⟨h.2, h.1, rfl⟩
 | bool => intro x cs S _ h; exact ⟨h.2, h.1, rfl⟩
 | str => intro x cs S _ h; exact ⟨h.2, h.1, rfl⟩
 | unit => intro x cs S _ h; exact ⟨h.2, h.1, rfl⟩
 | pair a b iha ihb =>
  intro x cs S hn h;simp only [Ty.noUq, Bool.and_eq_true] at hn;obtain ⟨c1, c2, S1, S2, h1, h2, h3, h4⟩ := h;obtain ⟨e1, k1⟩ := iha hn.1 h3;obtain ⟨e2, k2⟩ := ihb hn.2 h4;exact ⟨by rw [h2, e1, e2]; rfl, c1, c2, [], [], h1, rfl, k1, k2⟩
 | sl u a _ =>
  intro x cs S hn h;simp only [Ty.noUq, Bool.and_eq_true, Bool.not_eq_true'] at hn;obtain ⟨A, cap, h1, h2, h3⟩ := h;rw [hn.1] at h3;simp only [Bool.and_false, Bool.false_eq_true, if_false] at h3;refine ⟨h3.1, A, cap, h1, h2, ?_⟩;simp only [Bool.false_and, Bool.false_eq_true, if_false];exact ⟨trivial, h3.2⟩
theorem Reps.noUq {im : Nat → Prop} {w : World} {t : Ty} (hn : t.noUq = true) : ∀ {xs : List t.den} {cs : List Value} {S : List Nat}, Reps (TR im w true t) xs cs S → S = [] ∧ Reps (TR im w false t) xs cs []
 | [], _, _, h => ⟨h.2, h.1, rfl⟩
 | _ :: _, _, _, ⟨c1, c2, S1, S2, h1, h2, h3, h4⟩ => by
  obtain ⟨e1, k1⟩ := h3.noUq hn;obtain ⟨e2, k2⟩ := Reps.noUq hn h4;exact ⟨by rw [h2, e1, e2]; rfl, c1, c2, [], [], h1, rfl, k1, k2⟩
theorem TR.ofRo {im : Nat → Prop} {w : World} : ∀ {t : Ty} {x : t.den} {cs : List Value}, t.noUq = true → TR im w false t x cs [] → TR im w true t x cs [] := by
 intro t
 induction t with
 | int k => intro x cs _ h; exact h
 | bool => intro x cs _ h; exact h
 | str => intro x cs _ h; exact h
 | unit => intro x cs _ h; exact h
 | pair a b iha ihb =>
  intro x cs hn h;simp only [Ty.noUq, Bool.and_eq_true] at hn;obtain ⟨c1, c2, S1, S2, h1, h2, h3, h4⟩ := h;have e : S1 = [] ∧ S2 = [] := by have := h2.symm; simpa using this
  obtain ⟨rfl, rfl⟩ := e;exact ⟨c1, c2, [], [], h1, rfl, iha hn.1 h3, ihb hn.2 h4⟩
 | sl u a _ =>
  intro x cs hn h;simp only [Ty.noUq, Bool.and_eq_true, Bool.not_eq_true'] at hn;obtain ⟨A, cap, h1, h2, h3⟩ := h;simp only [Bool.false_and, Bool.false_eq_true, if_false] at h3;refine ⟨A, cap, h1, h2, ?_⟩;rw [hn.1];simp only [Bool.and_false, Bool.false_eq_true, if_false];exact h3
theorem Reps.ofRo {im : Nat → Prop} {w : World} {t : Ty} (hn : t.noUq = true) : ∀ {xs : List t.den} {cs : List Value}, Reps (TR im w false t) xs cs [] → Reps (TR im w true t) xs cs []
 | [], _, h => h
 | _ :: _, _, ⟨c1, c2, S1, S2, h1, h2, h3, h4⟩ => by
  have e : S1 = [] ∧ S2 = [] := by have := h2.symm; simpa using this
  obtain ⟨rfl, rfl⟩ := e;exact ⟨c1, c2, [], [], h1, rfl, h3.ofRo hn, Reps.ofRo hn h4⟩
theorem Reps.drop {α : Type} {R : α → List Value → List Nat → Prop} {n : Nat} (hn : ∀ x c S, R x c S → c.length = n) :
  ∀ (k : Nat) {xs : List α} {cs : List Value}, Reps R xs cs [] → Reps R (xs.drop k) (cs.drop (k * n)) []
 | 0, xs, cs, h => by simpa using h
 | k + 1, [], cs, h => by
  obtain ⟨h1, _⟩ := h; subst h1; simp [Reps]
 | k + 1, x :: xs, cs, ⟨c1, c2, S1, S2, h1, h2, h3, h4⟩ => by
  have e2 : S2 = [] := by have := h2.symm; simp at this; exact this.2
  subst e2;have := Reps.drop hn k h4;subst h1;have hl := hn _ _ _ h3;simp only [List.drop_succ_cons];rw [show (k + 1) * n = c1.length + k * n by rw [hl, Nat.add_mul]; omega];rw [List.drop_append, List.drop_eq_nil_of_le (Nat.le_add_right _ _)];simpa using this
theorem Reps.take {α : Type} {R : α → List Value → List Nat → Prop} {n : Nat} (hn : ∀ x c S, R x c S → c.length = n) :
  ∀ (k : Nat) {xs : List α} {cs : List Value}, Reps R xs cs [] → Reps R (xs.take k) (cs.take (k * n)) []
 | 0, xs, cs, _ => by simp [Reps]
 | k + 1, [], cs, h => by
  obtain ⟨h1, _⟩ := h; subst h1; simp [Reps]
 | k + 1, x :: xs, cs, ⟨c1, c2, S1, S2, h1, h2, h3, h4⟩ => by
  have e : S1 = [] ∧ S2 = [] := by have := h2.symm; simpa using this
  obtain ⟨rfl, rfl⟩ := e;have := Reps.take hn k h4;subst h1;have hl := hn _ _ _ h3;simp only [List.take_succ_cons];rw [show (k + 1) * n = c1.length + k * n by rw [hl, Nat.add_mul]; omega];rw [List.take_append];refine ⟨c1, c2.take (k * n), [], [], ?_, rfl, h3, this⟩;rw [List.take_of_length_le (by omega)]; congr 1; congr 1; omega
theorem Reps.get {α : Type} {R : α → List Value → List Nat → Prop} {n : Nat} (hn : ∀ x c S, R x c S → c.length = n) :
  ∀ (i : Nat) {xs : List α} {cs : List Value} {y : α}, Reps R xs cs [] → nth xs i = some y → R y ((cs.drop (i * n)).take n) []
 | _, [], _, _, _, h => by simp [nth] at h
 | 0, x :: xs, cs, y, ⟨c1, c2, S1, S2, h1, h2, h3, h4⟩, h => by
  have e : S1 = [] ∧ S2 = [] := by have := h2.symm; simpa using this
  obtain ⟨rfl, rfl⟩ := e;simp only [nth, Option.some.injEq] at h;subst h; subst h1;have hl := hn _ _ _ h3;simp [← hl];exact h3
 | i + 1, x :: xs, cs, y, ⟨c1, c2, S1, S2, h1, h2, h3, h4⟩, h => by
  have e : S1 = [] ∧ S2 = [] := by have := h2.symm; simpa using this
  obtain ⟨rfl, rfl⟩ := e;have := Reps.get hn i h4 (y := y) h;subst h1;have hl := hn _ _ _ h3;rw [show (i + 1) * n = c1.length + i * n by rw [hl, Nat.add_mul]; omega, List.drop_append, List.drop_eq_nil_of_le (Nat.le_add_right _ _)];simpa using this
theorem Reads.part {w : World} {A : Addr} {cs : List Value} (h : Reads w A cs) (o n : Nat) : Reads w ⟨A.block, A.off + o, none⟩ ((cs.drop o).take n) := by
 intro j c hj;rw [List.getElem?_take] at hj
 split at hj
 ·rw [List.getElem?_drop] at hj
  have := h (o + j) c hj;rw [show A.off + o + j = A.off + (o + j) by omega]; exact this
 ·cases hj
theorem TR.part {im : Nat → Prop} {w : World} {u : Bool} {a : Ty} {x : List a.den} {A : Option Addr} {cap : Nat}
  (h : TR im w false (.sl u a) x [.slice A x.length cap] []) (off n : Nat) (hn : off + n ≤ x.length) {A' : Option Addr} {c' : Nat} (hc : n ≤ c')
  (hA : 0 < n → A' = VQ A (off * a.size)) : TR im w false (.sl u a) ((x.drop off).take n) [.slice A' n c'] [] := by
 obtain ⟨A1, cap1, h1, h2, h3⟩ := h;have hlen : ((x.drop off).take n).length = n := by simp; omega
 simp only [List.cons.injEq, and_true, Value.slice.injEq] at h1;obtain ⟨rfl, _, rfl⟩ := h1;refine ⟨A', c', by rw [hlen], by rw [hlen]; exact hc, ?_⟩;simp only [Bool.false_and, Bool.false_eq_true, if_false] at h3 ⊢;refine ⟨trivial, fun hx => ?_⟩;have hn0 : 0 < n := by
  rcases Nat.eq_zero_or_pos n with h0 | h0
  ·subst h0; simp at hx
  ·exact h0
 have hx0 : x ≠ [] := by intro e; subst e; simp at hn; omega
 obtain ⟨ad, inner, h4, h5, h6, h7, h8⟩ := h3.2 hx0;subst h4;refine ⟨⟨ad.block, ad.off + off * a.size, none⟩, (inner.drop (off * a.size)).take (n * a.size), hA hn0, rfl, h6, h7.part _ _, ?_⟩;exact Reps.take (fun _ _ _ hr => hr.len) n (Reps.drop (fun _ _ _ hr => hr.len) off h8)
theorem VL.append {z : Z} : ∀ {l l' : List SV} {c c' : List Value}, VL z l c → VL z l' c' → VL z (l ++ l') (c ++ c')
 | [], _, c, c', h, h' => by simp only [VL] at h; subst h; simpa using h'
 | x :: l, _, c, c', h, h' => by
  simp only [VL] at h;obtain ⟨a, r, h1, h2, h3⟩ := h;subst h1;simp only [List.cons_append, VL];exact ⟨a, r ++ c', rfl, h2, VL.append h3 h'⟩
theorem VL.length {z : Z} : ∀ {l : List SV} {c : List Value}, VL z l c → l.length = c.length
 | [], c, h => by simp only [VL] at h; subst h; rfl
 | x :: l, c, h => by
  simp only [VL] at h;obtain ⟨a, r, h1, h2, h3⟩ := h;subst h1;simp [VL.length h3]
theorem VL.get {z : Z} : ∀ {l : List SV} {c : List Value} {i : Nat} {x : SV}, VL z l c → nth l i = some x → ∃ u, c[i]? = some u ∧ V z x u
 | [], _, _, _, _, h => by simp [nth] at h
 | y :: l, c, i, x, h, hx => by
  simp only [VL] at h;obtain ⟨a, r, h1, h2, h3⟩ := h;subst h1;cases i with
  | zero => simp only [nth, Option.some.injEq] at hx; subst hx; exact ⟨a, rfl, h2⟩
  | succ i => obtain ⟨u, hu, hv⟩ := VL.get h3 (i := i) hx; exact ⟨u, by simpa using hu, hv⟩
theorem VL.drop {z : Z} : ∀ (k : Nat) {l : List SV} {c : List Value}, VL z l c → VL z (l.drop k) (c.drop k)
 | 0, _, _, h => by simpa using h
 | k + 1, [], c, h => by simp only [VL] at h; subst h; simp [VL]
 | k + 1, x :: l, c, h => by
  simp only [VL] at h;obtain ⟨a, r, h1, _, h3⟩ := h;subst h1;simpa using VL.drop k h3
theorem VL.take {z : Z} : ∀ (k : Nat) {l : List SV} {c : List Value}, VL z l c → VL z (l.take k) (c.take k)
 | 0, _, _, _ => by simp [VL]
 | k + 1, [], c, h => by simp only [VL] at h; subst h; simp [VL]
 | k + 1, x :: l, c, h => by
  simp only [VL] at h;obtain ⟨a, r, h1, h2, h3⟩ := h;subst h1;simp only [List.take_succ_cons, VL];exact ⟨a, _, rfl, h2, VL.take k h3⟩
theorem VL.cut {z : Z} {l : List SV} {c : List Value} (h : VL z l c) (o n : Nat) : VL z (Sx.cut l o n) ((c.drop o).take n) := (h.drop o).take n
theorem VL.split {z : Z} : ∀ {l l' : List SV} {c : List Value}, VL z (l ++ l') c → ∃ c1 c2, c = c1 ++ c2 ∧ VL z l c1 ∧ VL z l' c2
 | [], _, c, h => ⟨[], c, rfl, by simp [VL], h⟩
 | x :: l, l', c, h => by
  simp only [List.cons_append, VL] at h;obtain ⟨a, r, h1, h2, h3⟩ := h;obtain ⟨c1, c2, h4, h5, h6⟩ := VL.split h3;subst h1; subst h4;refine ⟨a :: c1, c2, rfl, ?_, h6⟩;simp only [VL];exact ⟨a, c1, rfl, h2, h5⟩
def one : Value → Bool
 | .agg _ => false
 | .tuple _ => false
 | _ => true
theorem Sr {c : Value} (h : one c = true) : c.cells = #[c] := by cases c <;> first | rfl | cases h
theorem TR.scalar {im : Nat → Prop} {w : World} {o : Bool} : ∀ {t : Ty} {x : t.den} {cs : List Value} {S : List Nat}, t.isAgg = false → TR im w o t x cs S → ∃ c, cs = [c] ∧ one c = true
 | .int _, _, _, _, _, h => ⟨_, h.1, rfl⟩
 | .bool, _, _, _, _, h => ⟨_, h.1, rfl⟩
 | .str, _, _, _, _, h => ⟨_, h.1, rfl⟩
 | .unit, _, _, _, ha, _ => by cases ha
 | .pair _ _, _, _, _, ha, _ => by cases ha
 | .sl _ _, _, _, _, _, h => by obtain ⟨A, cap, h1, _⟩ := h; exact ⟨_, h1, rfl⟩
theorem TR.cells_V {z : Z} : ∀ {t : Ty} {x : t.den} {cs : List Value}, TR z.im z.w false t x cs [] → VL z (cellsOf t x) cs := by
 intro t;have WE : ∀ {t : Ty} {x : t.den} {cs : List Value}, t.isAgg = false → TR z.im z.w false t x cs [] → VL z [.val t x] cs := by
  intro t x cs ha h;obtain ⟨c, h1, _⟩ := h.scalar ha;subst h1;simp only [VL, V];exact ⟨c, [], rfl, ⟨[c], h, by simp [mkV, ha]⟩, rfl⟩
 induction t with
 | int k => intro x cs h; exact WE rfl h
 | bool => intro x cs h; exact WE rfl h
 | str => intro x cs h; exact WE rfl h
 | unit => intro x cs h; simp only [cellsOf, VL]; exact h.1
 | pair a b iha ihb =>
  intro x cs h;obtain ⟨c1, c2, S1, S2, h1, h2, h3, h4⟩ := h;have e : S1 = [] ∧ S2 = [] := by have := h2.symm; simpa using this
  obtain ⟨rfl, rfl⟩ := e;subst h1;exact (iha h3).append (ihb h4)
 | sl u a _ => intro x cs h; exact WE rfl h
theorem Q1 : ∀ (t : Ty) (x : t.den), YU (cellsOf t x) = true
 | .int _, _ => rfl
 | .bool, _ => rfl
 | .str, _ => rfl
 | .unit, _ => rfl
 | .pair a b, x => by
  have h1 := Q1 a x.1;have h2 := Q1 b x.2;have app : ∀ (l l' : List SV), YU l = true → YU l' = true → YU (l ++ l') = true := by
   intro l
   induction l with
   | nil => intro l' _ h; exact h
   | cons y l ih => intro l' h h'; simp only [YU, Bool.and_eq_true, List.cons_append] at h ⊢; exact ⟨h.1, ih l' h.2 h'⟩
  exact app _ _ h1 h2
 | .sl _ _, _ => rfl
theorem Q2 : ∀ {l l' : List SV}, YU l = true → YU l' = true → YU (l ++ l') = true
 | [], _, _, h => h
 | y :: l, l', h, h' => by simp only [YU, Bool.and_eq_true, List.cons_append] at h ⊢; exact ⟨h.1, Q2 h.2 h'⟩
theorem Og : ∀ (n : Nat) {l : List SV}, YU l = true → YU (l.take n) = true
 | 0, _, _ => by simp [YU]
 | n + 1, [], _ => by simp [YU]
 | n + 1, y :: l, h => by simp only [YU, Bool.and_eq_true, List.take_succ_cons] at h ⊢; exact ⟨h.1, Og n h.2⟩
theorem Oh : ∀ (n : Nat) {l : List SV}, YU l = true → YU (l.drop n) = true
 | 0, _, h => by simpa using h
 | n + 1, [], _ => by simp [YU]
 | n + 1, y :: l, h => by simp only [YU, Bool.and_eq_true, List.drop_succ_cons] at h ⊢; exact Oh n h.2
theorem En : ∀ t : Ty, YU (UB t) = true
 | .int _ => rfl
 | .bool => rfl
 | .str => rfl
 | .unit => rfl
 | .pair a b => Q2 (En a) (En b)
 | .sl _ _ => rfl
theorem V.one {z : Z} : ∀ {v : SV} {c : Value}, V z v c → AC v = true → Sx.one c = true
 | .val t x, c, h, hc => by
  simp only [V] at h;obtain ⟨cs, h1, h2⟩ := h;have ha : t.isAgg = false := by simpa [AC] using hc
  obtain ⟨c1, h3, h4⟩ := h1.scalar ha;subst h3;simp only [mkV, ha, Bool.false_eq_true, if_false, List.headD_cons] at h2;rw [h2]; exact h4
 | .vl c0 t x, c, h, hc => by
  simp only [V] at h;obtain ⟨_, cs, h1, h2⟩ := h;have ha : t.isAgg = false := by simpa [AC] using hc
  obtain ⟨c1, h3, h4⟩ := h1.scalar ha;subst h3;simp only [mkV, ha, Bool.false_eq_true, if_false, List.headD_cons] at h2;rw [h2]; exact h4
 | .own _ _, c, h, _ => by simp only [V] at h; obtain ⟨⟨A, n, k, rfl⟩, _⟩ := h; rfl
 | .sub _ _ _ _, c, h, _ => by simp only [V] at h; obtain ⟨⟨A, n, k, rfl⟩, _⟩ := h; rfl
 | .nil, c, h, _ => by simp only [V] at h; subst h; rfl
 | .ptr _ _, c, h, _ => by simp only [V] at h; obtain ⟨⟨A, rfl⟩, _⟩ := h; rfl
 | .eptr _ _ _ _, c, h, _ => by simp only [V] at h; obtain ⟨⟨A, rfl⟩, _⟩ := h; rfl
 | .rptr _ _ _, c, h, _ => by simp only [V] at h; obtain ⟨ad, cs, rfl, _⟩ := h; rfl
 | .fn _ _, c, h, _ => by simp only [V] at h; obtain ⟨cs, rfl, _⟩ := h; rfl
 | .agg _, _, _, hc => by simp [AC] at hc
 | .tup _, _, _, hc => by simp [AC] at hc
 | .fr _ _, _, _, hc => by simp [AC] at hc
 | .fv _ _, _, _, hc => by simp [AC] at hc
 | .io _ _, _, _, hc => by simp [AC] at hc
 | .mr _, _, _, hc => by simp [AC] at hc
 | .fp _, _, _, hc => by simp [AC] at hc
 | .dead, _, _, hc => by simp [AC] at hc
theorem VL.one {z : Z} : ∀ {l : List SV} {cs : List Value}, VL z l cs → YU l = true → ∀ c ∈ cs, Sx.one c = true
 | [], cs, h, _, c, hc => by simp only [VL] at h; subst h; simp at hc
 | x :: l, cs, h, hl, c, hc => by
  simp only [VL] at h;obtain ⟨a, r, h1, h2, h3⟩ := h;simp only [YU, Bool.and_eq_true] at hl;subst h1;rcases List.mem_cons.1 hc with e | e
  ·subst e; exact h2.one hl.1
  ·exact VL.one h3 hl.2 c e
theorem Eo {z : Z} {v : SV} {c : Value} {d : List SV} (h : V z v c) (hf : Zc5 v = some d) : VL z d c.cells.toList ∧ YU d = true := by
 have single : ∀ {v : SV}, V z v c → AC v = true → VL z [v] c.cells.toList ∧ YU [v] = true := by
  intro v hv hc;rw [Sr (hv.one hc)];refine ⟨?_, by simp [YU, hc]⟩;simp only [VL];exact ⟨c, [], rfl, hv, rfl⟩
 cases v with
 | val t x =>
  simp only [Zc5, Option.some.injEq] at hf;subst hf;have h' := h;simp only [V] at h;obtain ⟨cs, h1, h2⟩ := h;refine ⟨?_, Q1 t x⟩;cases ha : t.isAgg with
  | true =>
   simp only [mkV, ha, if_true] at h2;subst h2;simpa [Value.cells] using h1.cells_V
  | false =>
   obtain ⟨c1, h3, h4⟩ := h1.scalar ha;subst h3;simp only [mkV, ha, Bool.false_eq_true, if_false, List.headD_cons] at h2;subst h2;rw [Sr h4];exact h1.cells_V
 | agg l =>
  simp only [Zc5] at hf;cases hc : YU l with
  | false => rw [hc] at hf; cases hf
  | true =>
   rw [hc] at hf;simp only [cond_true, Option.some.injEq] at hf;subst hf;simp only [V] at h;obtain ⟨cs, h1, h2⟩ := h;subst h1;exact ⟨by simpa [Value.cells] using h2, hc⟩
 | own b v => simp only [Zc5, Option.some.injEq] at hf; subst hf; exact single h rfl
 | sub b v o n => simp only [Zc5, Option.some.injEq] at hf; subst hf; exact single h rfl
 | nil => simp only [Zc5, Option.some.injEq] at hf; subst hf; exact single h rfl
 | ptr b o => simp only [Zc5, Option.some.injEq] at hf; subst hf; exact single h rfl
 | eptr b v i o => simp only [Zc5, Option.some.injEq] at hf; subst hf; exact single h rfl
 | rptr t x o => simp only [Zc5, Option.some.injEq] at hf; subst hf; exact single h rfl
 | fn f cap => simp only [Zc5, Option.some.injEq] at hf; subst hf; exact single h rfl
 | tup l => cases hf
 | fr t x => cases hf
 | fv t x => cases hf
 | io t x => cases hf
 | mr l => cases hf
 | fp l => cases hf
 | vl c0 t x =>
  simp only [Zc5] at hf;cases ha : t.isAgg with
  | true => rw [ha] at hf; cases hf
  | false =>
   rw [ha] at hf;simp only [cond_false, Option.some.injEq] at hf;subst hf;exact single h (by simp [AC, ha])
 | dead => cases hf
def JX (z : Z) (deep : Bool) (rs : List Nat) (k : Nat) : Prop := z.im k ∨ (deep = true ∧ ∃ r ∈ rs, ∃ d, z.rho r = some d ∧ live (nth z.h r) ∧ k ∈ d.blks)
theorem JY {z : Z} {deep : Bool} {rs rs' : List Nat} (h : ∀ r ∈ rs, r ∈ rs') {k : Nat} (hk : JX z deep rs k) : JX z deep rs' k := by
 rcases hk with hk | ⟨h1, r, h2, h3⟩
 ·exact .inl hk
 ·exact .inr ⟨h1, r, h r h2, h3⟩
theorem TR.im {im im' : Nat → Prop} {w : World} {t : Ty} {x : t.den} {cs : List Value} (hi : ∀ b, im b → im' b) (h : TR im w false t x cs []) : TR im' w false t x cs [] :=
 h.weak hi _ _ _ _ false (by simp)
theorem ZgU {z : Z} (hs : ∀ b d, z.rho b = some d → GM z d (nth z.h b)) {deep : Bool} {t : Ty} {v : SV} {c : Value} {x : t.den} (h : V z v c)
  (hx : Ej deep z.h t v = some x) : ∃ cs, TR (JX z deep (JS v)) z.w false t x cs [] ∧ c = mkV t cs := by
 cases v with
 | val s y =>
  simp only [Ej] at hx;simp only [V] at h;obtain ⟨cs, h1, h2⟩ := h;obtain ⟨h3, h4⟩ := Zjh hx h1;exact ⟨cs, h3.im (fun _ hb => .inl hb), h2.trans h4⟩
 | nil =>
  cases t <;> simp only [Ej, Option.some.injEq] at hx <;> try cases hx
  simp only [V] at h;subst h;refine ⟨[.slice none 0 0], ⟨none, 0, rfl, by simp, ?_⟩, rfl⟩;simp
 | own b v =>
  cases t with
  | sl u a =>
   simp only [Ej] at hx;cases deep with
   | false => cases hx
   | true =>
    simp only [cond_true] at hx;simp only [V] at h;obtain ⟨_, _, h⟩ := h;cases hb : nth z.h b with
    | none => rw [hb] at hx; cases hx
    | some bk =>
     rw [hb] at hx;cases bk with
     | vars c => cases hx
     | gone => cases hx
     | lent => cases hx
     | held _ _ _ => cases hx
     | opn _ _ _ _ _ => cases hx
     | arr v' s y =>
      simp only at hx
      split at hx
      ·rename_i e
       obtain ⟨A, cap, S, h1, h2⟩ := (h v' s y.length (by rw [hb]; rfl)).2 e;have h3 := hs b _ h1;rw [hb] at h3;obtain ⟨A1, cap1, S1, h4, h5, _⟩ := h3;cases h4;have h6 : TR (JX z true (JS (.own b v))) z.w false (.sl true s) y [.slice A y.length cap] [] :=
        h5.weak (fun _ hb => .inl hb) _ _ _ S true (fun k hk => .inr ⟨rfl, b, by simp [JS], _, h1, by rw [hb]; trivial, hk⟩)
       obtain ⟨h7, _⟩ := Zjh hx h6;exact ⟨_, h7, by rw [h2]; rfl⟩
      ·cases hx
  | _ => cases hx
 | sub b v off n =>
  cases t with
  | sl u a =>
   simp only [Ej] at hx;cases deep with
   | false => cases hx
   | true =>
    simp only [cond_true] at hx;simp only [V] at h;obtain ⟨_, _, h⟩ := h;cases hb : nth z.h b with
    | none => rw [hb] at hx; cases hx
    | some bk =>
     rw [hb] at hx;cases bk with
     | vars c => cases hx
     | gone => cases hx
     | lent => cases hx
     | held _ _ _ => cases hx
     | opn _ _ _ _ _ => cases hx
     | arr v' s y =>
      simp only at hx
      split at hx
      ·rename_i e
       obtain ⟨h0, A, cap, S, o, cap', h1, h2, hc1, hc2, hc3⟩ := (h v' s y.length (by rw [hb]; rfl)).2 e;have h3 := hs b _ h1;rw [hb] at h3;obtain ⟨A1, cap1, S1, h4, h5, _⟩ := h3;cases h4;have h6 : TR (JX z true (JS (.sub b v off n))) z.w false (.sl true s) y [.slice A y.length cap] [] :=
        h5.weak (fun _ hb => .inl hb) _ _ _ S true (fun k hk => .inr ⟨rfl, b, by simp [JS], _, h1, by rw [hb]; trivial, hk⟩)
       have h7 := h6.part off n h0 (A' := VQ A o) (c' := cap') hc1 (fun hn => by rw [hc3.1 hn]);obtain ⟨h8, _⟩ := Zjh hx h7;exact ⟨_, h8, by rw [h2]; rfl⟩
      ·cases hx
  | _ => cases hx
 | agg l => cases hx
 | tup l => cases hx
 | ptr b o => cases hx
 | eptr b v i o => cases hx
 | rptr s y o => cases hx
 | fn f cap => cases hx
 | fr s y => cases hx
 | fv s y => cases hx
 | io s y => cases hx
 | mr l => cases hx
 | fp l => cases hx
 | vl c0 s y =>
  simp only [Ej] at hx;simp only [V] at h;obtain ⟨_, cs, h1, h2⟩ := h;obtain ⟨h3, h4⟩ := Zjh hx h1;exact ⟨cs, h3.im (fun _ hb => .inl hb), h2.trans h4⟩
 | dead => cases hx
theorem Zmv {t : Ty} (ha : t.isAgg = false) {cs : List Value} (hl : cs.length = 1) : cs = [mkV t cs] := by
 match cs, hl with
 | [c], _ => simp [mkV, ha]
theorem QL {t : Ty} (ha : t.isAgg = false) : t.size = 1 := by cases t <;> first | rfl | cases ha
theorem ZuE {z : Z} (hs : ∀ b d, z.rho b = some d → GM z d (nth z.h b)) {deep : Bool} : ∀ {t : Ty} {l l' : List SV} {cs : List Value} {x : t.den}, VL z l cs →
  Zi9 deep z.h t l = some (x, l') → ∃ d c1 c2, l = d ++ l' ∧ cs = c1 ++ c2 ∧ TR (JX z deep (d.flatMap JS)) z.w false t x c1 [] ∧ VL z l' c2 := by
 intro t;have WE : ∀ {t : Ty} {l l' : List SV} {cs : List Value} {x : t.den}, t.isAgg = false → VL z l cs →
   GC deep z.h t l = some (x, l') → ∃ d c1 c2, l = d ++ l' ∧ cs = c1 ++ c2 ∧ TR (JX z deep (d.flatMap JS)) z.w false t x c1 [] ∧ VL z l' c2 := by
  intro t l l' cs x ha hv hp;unfold GC at hp;cases l with
  | nil => cases hp
  | cons c r =>
   simp only at hp
   split at hp
   ·rename_i y hy
    simp only [Option.some.injEq, Prod.mk.injEq] at hp;obtain ⟨rfl, rfl⟩ := hp;simp only [VL] at hv;obtain ⟨a, q, rfl, h2, h3⟩ := hv;obtain ⟨cs', h4, h5⟩ := ZgU hs h2 hy;have h6 := Zmv ha (h4.len.trans (QL ha));rw [← h5] at h6;subst h6;exact ⟨[c], [a], q, rfl, rfl, by simpa using h4, h3⟩
   ·cases hp
 induction t with
 | int k => intro l l' cs x hv hp; exact WE rfl hv hp
 | bool => intro l l' cs x hv hp; exact WE rfl hv hp
 | str => intro l l' cs x hv hp; exact WE rfl hv hp
 | unit =>
  intro l l' cs x hv hp;simp only [Zi9, Option.some.injEq, Prod.mk.injEq] at hp;obtain ⟨_, rfl⟩ := hp;exact ⟨[], [], cs, rfl, rfl, ⟨rfl, rfl⟩, hv⟩
 | pair a b iha ihb =>
  intro l l' cs x hv hp;simp only [Zi9] at hp
  split at hp
  ·rename_i xa la ha
   split at hp
   ·rename_i xb lb hb
    simp only [Option.some.injEq, Prod.mk.injEq] at hp;obtain ⟨rfl, rfl⟩ := hp;obtain ⟨d1, c1, c2, e1, e2, h3, h4⟩ := iha hv ha;obtain ⟨d2, c3, c4, e3, e4, h5, h6⟩ := ihb h4 hb;subst e1; subst e2; subst e3; subst e4;refine ⟨d1 ++ d2, c1 ++ c3, c4, by simp, by simp, ⟨c1, c3, [], [], rfl, rfl, ?_, ?_⟩, h6⟩
    ·exact h3.im (fun _ => JY (fun r hr => by simp only [List.flatMap_append, List.mem_append]; exact .inl hr))
    ·exact h5.im (fun _ => JY (fun r hr => by simp only [List.flatMap_append, List.mem_append]; exact .inr hr))
   ·cases hp
  ·cases hp
 | sl u a _ => intro l l' cs x hv hp; exact WE rfl hv hp
theorem Ng {z : Z} (hs : ∀ b d, z.rho b = some d → GM z d (nth z.h b)) {deep : Bool} {t : Ty} {l : List SV} {cs : List Value} {x : t.den} (hv : VL z l cs)
  (hp : KH deep z.h t l = some x) : TR (JX z deep (l.flatMap JS)) z.w false t x cs [] := by
 unfold KH at hp
 split at hp
 ·rename_i y hy
  cases hp;obtain ⟨d, c1, c2, e1, e2, h3, h4⟩ := ZuE hs hv hy;simp only [VL] at h4;subst h4;subst e2;simp only [List.append_nil] at e1 ⊢;subst e1;exact h3
 ·cases hp
theorem HQ {z : Z} (hs : ∀ b d, z.rho b = some d → GM z d (nth z.h b)) {deep : Bool} {t : Ty} {v : SV} {c : Value} {x : t.den} (h : V z v c)
  (hx : ZgQ deep z.h t v = some x) : ∃ cs, TR (JX z deep (QH v)) z.w false t x cs [] ∧ c = mkV t cs := by
 cases v with
 | agg l =>
  simp only [ZgQ] at hx;cases ha : t.isAgg with
  | false => rw [ha] at hx; cases hx
  | true =>
   rw [ha] at hx;simp only [cond_true] at hx;simp only [V] at h;obtain ⟨cs, h1, h2⟩ := h;exact ⟨cs, Ng hs h2 hx, by rw [h1]; simp [mkV, ha]⟩
 | _ => exact ZgU hs h hx
theorem Ze5 {z : Z} (hs : ∀ b d, z.rho b = some d → GM z d (nth z.h b)) {t : Ty} {l : List SV} {cs : List Value} (ha : t.isAgg = true) (hv : VL z l cs) :
  V z (HL z.h t l) (.agg cs.toArray) := by
 unfold HL;cases l.any Zt0 with
 | true =>
  simp only [cond_true, V];exact ⟨cs, rfl, hv⟩
 | false =>
 simp only [cond_false]
 split
 ·rename_i x hx
  have := Ng hs hv hx;simp only [V];refine ⟨cs, this.im (fun k hk => ?_), by simp [mkV, ha]⟩;rcases hk with hk | ⟨hk, _⟩
  ·exact hk
  ·cases hk
 ·simp only [V]
  exact ⟨cs, rfl, hv⟩
end Go.Sx
