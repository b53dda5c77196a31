/- The abstract machine: typed values, slot values, blocks, and an evaluator of the model's own code in continuation style. -/
import Derived.Calls
import Derived.Orders
import Derived.Lib.ItoaNum
import Derived.Lib.Space
set_option linter.unusedVariables false
set_option linter.unusedSimpArgs false
namespace Go.Sx
open Go
inductive Ty where
 | int (k : IntKind)
 | bool
 | str
 | unit
 | pair (a b : Ty)
 | sl (u : Bool) (a : Ty)
abbrev Ty.den : Ty → Type
 | .int _ => Int
 | .bool => Bool
 | .str => ByteArray
 | .unit => Unit
 | .pair a b => a.den × b.den
 | .sl _ a => List a.den
def Ty.size : Ty → Nat
 | .unit => 0
 | .pair a b => a.size + b.size
 | _ => 1
def Ty.isAgg : Ty → Bool
 | .unit => true
 | .pair _ _ => true
 | _ => false
def Ty.eqv : Ty → Ty → Bool
 | .int k, .int k' => decide (k = k')
 | .bool, .bool => true
 | .str, .str => true
 | .unit, .unit => true
 | .pair a b, .pair c d => a.eqv c && b.eqv d
 | .sl _ a, .sl _ b => a.eqv b
 | _, _ => false
def Ty.same : Ty → Ty → Bool
 | .int k, .int k' => decide (k = k')
 | .bool, .bool => true
 | .str, .str => true
 | .unit, .unit => true
 | .pair a b, .pair c d => a.same c && b.same d
 | .sl u a, .sl v b => (u == v) && a.same b
 | _, _ => false
theorem Ty.same_eq : ∀ {s t : Ty}, s.same t = true → s = t
 | .int k, .int k', h => by simp only [Ty.same, decide_eq_true_eq] at h; rw [h]
 | .bool, .bool, _ => rfl
 | .str, .str, _ => rfl
 | .unit, .unit, _ => rfl
 | .pair a b, .pair c d, h => by
  simp only [Ty.same, Bool.and_eq_true] at h;rw [Ty.same_eq h.1, Ty.same_eq h.2]
 | .sl u a, .sl v b, h => by
  simp only [Ty.same, Bool.and_eq_true, beq_iff_eq] at h;rw [h.1, Ty.same_eq h.2]
def Ty.uq : Ty → Ty
 | .pair a b => .pair a.uq b.uq
 | .sl _ a => .sl true a.uq
 | t => t
def Ty.okU : Ty → Bool
 | .pair a b => a.okU && b.okU
 | .sl _ a => Nat.blt 0 a.size && a.okU
 | _ => true
theorem Ty.den_eqv : ∀ {s t : Ty}, s.eqv t = true → s.den = t.den
 | .int _, .int _, _ => rfl
 | .bool, .bool, _ => rfl
 | .str, .str, _ => rfl
 | .unit, .unit, _ => rfl
 | .pair a b, .pair c d, h => by
  simp only [Ty.eqv, Bool.and_eq_true] at h;simp only [Ty.den]; rw [Ty.den_eqv h.1, Ty.den_eqv h.2]
 | .sl _ a, .sl _ b, h => by
  simp only [Ty.eqv] at h;simp only [Ty.den]; rw [Ty.den_eqv h]
def Ty.ro : Ty → Ty
 | .pair a b => .pair a.ro b.ro
 | .sl _ a => .sl false a.ro
 | t => t
def Ty.hasRo : Ty → Bool
 | .pair a b => a.hasRo || b.hasRo
 | .sl u a => !u || a.hasRo
 | _ => false
def Ty.noUq : Ty → Bool
 | .pair a b => a.noUq && b.noUq
 | .sl u a => !u && a.noUq
 | _ => true
def Ty.hasSl : Ty → Bool
 | .pair a b => a.hasSl || b.hasSl
 | .sl _ _ => true
 | _ => false
def WI : (t : Ty) → t.den
 | .int _ => (0 : Int)
 | .bool => false
 | .str => ByteArray.empty
 | .unit => ()
 | .pair a b => (WI a, WI b)
 | .sl _ _ => []
def eqD : (t : Ty) → t.den → t.den → Bool
 | .int _, x, y => decide ((x : Int) = y)
 | .bool, x, y => (x : Bool) == y
 | .str, x, y => decide ((x : ByteArray) = y)
 | .unit, _, _ => true
 | .pair a b, x, y => eqD a x.1 y.1 && eqD b x.2 y.2
 | .sl _ _, _, _ => false
inductive SV where
 | val (t : Ty) (x : t.den)
 | agg (l : List SV)
 | tup (l : List SV)
 | own (b v : Nat)
 | sub (b v off n : Nat)
 | nil
 | ptr (b off : Nat)
 | eptr (b v i off : Nat)
 | rptr (t : Ty) (x : t.den) (off : Nat)
 | fn (f : FuncId) (cap : List SV)
 | fr (t : Ty) (x : List t.den)
 | fv (t : Ty) (x : t.den)
 | io (t : Ty) (x : List t.den)
 | mr (l : List SV)
 | fp (l : List SV)
 | vl (c : Value) (t : Ty) (x : t.den)
 | dead
inductive Blk where
 | vars (c : List SV)
 | arr (v : Nat) (t : Ty) (x : List t.den)
 | lent
 | held (v : Nat) (t : Ty) (n : Nat)
 | opn (v : Nat) (t : Ty) (x : List t.den) (i : Nat) (c : List SV)
 | gone
def Blk.info : Blk → Option (Nat × Ty × Nat)
 | .arr v t x => some (v, t, x.length)
 | .held v t n => some (v, t, n)
 | .opn v t x _ _ => some (v, t, x.length)
 | _ => none
def Kb : Option Blk → Option (Nat × Ty × Nat)
 | some b => b.info
 | none => none
structure St where
 slots : List SV
 heap : List Blk
def nth {α : Type} : List α → Nat → Option α
 | [], _ => none
 | x :: _, 0 => some x
 | _ :: l, n + 1 => nth l n
def upd {α : Type} : List α → Nat → α → List α
 | [], _, _ => []
 | _ :: l, 0, y => y :: l
 | x :: l, n + 1, y => x :: upd l n y
def Ei {α : Type} : List α → Nat → α → Option (List α)
 | [], _, _ => none
 | _ :: l, 0, y => some (y :: l)
 | x :: l, n + 1, y => match Ei l n y with
  | some l' => some (x :: l')
  | none => none
theorem Pn {α : Type} : ∀ {l : List α} {n : Nat} {y : α} {l' : List α}, Ei l n y = some l' → l' = upd l n y
 | [], _, _, _, h => by cases h
 | _ :: _, 0, _, _, h => by cases h; rfl
 | x :: l, n + 1, y, l', h => by
  simp only [Ei] at h
  split at h
  ·rename_i l2 h2
   cases h;simp only [upd];rw [Pn h2]
  ·cases h
def asB : SV → Option Bool
 | .val .bool b => some b
 | _ => none
def asI : SV → Option (IntKind × Int)
 | .val (.int k) n => some (k, n)
 | _ => none
def asS : SV → Option ByteArray
 | .val .str s => some s
 | _ => none
def Zpv : Value → SV
 | .int k n => .val (.int k) n
 | .bool b => .val .bool b
 | .string s => .val .str s
 | .slice none 0 0 => .nil
 | _ => .dead
def ofC : Value → SV
 | .agg cs => .agg (cs.toList.map Zpv)
 | v => Zpv v
def St.get (s : St) : Operand → SV
 | .tmp t => (nth s.slots t).getD .dead
 | .const v => ofC v
 | .func f => .fn f []
 | .global _ => .dead
def St.put (s : St) (d : Option Tmp) (v : SV) : St :=
 match d with
 | some t => { s with slots := upd s.slots t v }
 | none => s
def castD {s t : Ty} (h : s.eqv t = true) (x : s.den) : t.den := cast (Ty.den_eqv h) x
def toD (s t : Ty) (x : s.den) : Option t.den :=
 if h : s.eqv t = true then some (castD h x) else none
def toS (s t : Ty) (x : s.den) : Option t.den :=
 if h : s.same t = true then some (cast (congrArg Ty.den (Ty.same_eq h)) x) else none
def cellsOf : (t : Ty) → t.den → List SV
 | .unit, _ => []
 | .pair a b, x => cellsOf a x.1 ++ cellsOf b x.2
 | .int k, x => [.val (.int k) x]
 | .bool, x => [.val .bool x]
 | .str, x => [.val .str x]
 | .sl u a, x => [.val (.sl u a) x]
def Vi : Ty → List SV
 | .unit => []
 | .pair a b => Vi a ++ Vi b
 | .int k => [.val (.int k) (0 : Int)]
 | .bool => [.val .bool false]
 | .str => [.val .str ByteArray.empty]
 | .sl _ _ => [.nil]
def BJ (deep : Bool) (h : List Blk) (t : Ty) : SV → Option t.den
 | .val s x => toD s t x
 | .vl _ s x => toD s t x
 | .nil => match t with | .sl _ _ => some [] | _ => none
 | .own b v => match t with
  | .sl _ a => bif deep then
    (match nth h b with
    | some (.arr v' s x) => if v' = v then toD (.sl true s) (.sl true a) x else none
    | _ => none) else none
  | _ => none
 | .sub b v off n => match t with
  | .sl _ a => bif deep then
    (match nth h b with
    | some (.arr v' s x) => if v' = v then toD (.sl true s) (.sl true a) ((x.drop off).take n) else none
    | _ => none) else none
  | _ => none
 | _ => none
def Ej (deep : Bool) (h : List Blk) (t : Ty) (l : List SV) : Option (t.den × List SV) :=
 match l with
 | c :: r => (match BJ deep h t c with | some x => some (x, r) | none => none)
 | [] => none
def Zfg (deep : Bool) (h : List Blk) : (t : Ty) → List SV → Option (t.den × List SV)
 | .unit, l => some ((), l)
 | .pair a b, l => match Zfg deep h a l with
  | some (x, l') => (match Zfg deep h b l' with
   | some (y, l'') => some ((x, y), l'')
   | none => none)
  | none => none
 | .int k, l => Ej deep h (.int k) l
 | .bool, l => Ej deep h .bool l
 | .str, l => Ej deep h .str l
 | .sl u a, l => Ej deep h (.sl u a) l
def UB (deep : Bool) (h : List Blk) (t : Ty) (l : List SV) : Option t.den :=
 match Zfg deep h t l with
 | some (x, []) => some x
 | _ => none
def ZdK (deep : Bool) (h : List Blk) (t : Ty) : SV → Option t.den
 | .agg l => bif t.isAgg then UB deep h t l else none
 | v => BJ deep h t v
def ZnD : SV → Bool
 | .nil => true
 | _ => false
def FH (h : List Blk) (t : Ty) (l : List SV) : SV :=
 bif l.any ZnD then .agg l else
 match UB false h t l with
 | some x => .val t x
 | none => .agg l
def Ke : SV → Bool
 | .val t _ => !t.isAgg
 | .vl _ t _ => !t.isAgg
 | .own _ _ => true
 | .sub _ _ _ _ => true
 | .nil => true
 | .ptr _ _ => true
 | .eptr _ _ _ _ => true
 | .rptr _ _ _ => true
 | .fn _ _ => true
 | _ => false
def Yt : List SV → Bool
 | [] => true
 | x :: l => Ke x && Yt l
def ZaA : SV → Option (List SV)
 | .val t x => some (cellsOf t x)
 | .agg l => bif Yt l then some l else none
 | .tup _ => none
 | .fr _ _ => none
 | .fv _ _ => none
 | .io _ _ => none
 | .mr _ => none
 | .fp _ => none
 | .vl c t x => bif t.isAgg then none else some [.vl c t x]
 | .dead => none
 | v => some [v]
inductive TK where
 | scalar
 | slice (e : TypeId)
 | struct (fs : List (Nat × TypeId))
structure TI where
 ty : Ty
 bytes : Nat
 kind : TK
inductive Mode where
 | ro (t : Ty)
 | mv
 | mref
 | io
 | fnm (ms : List Mode)
structure Con where
 modes : List Mode
 run : (R : Type) → List SV → (SV → List (List SV) → Option R) → Option R
 fresh : Bool
inductive OB where
 | drop
 | is (v : SV)
 | ro (t : Ty)
 | own (t : Ty)
inductive BK where
 | drop
 | vars (ks : List OB)
 | arr (t : Ty)
structure Env where
 ti : TypeId → Option TI
 eqs : TypeId → Bool
 tbl : FuncId → Option Con
 nest : Bool := false
 opens : Bool := false
 vt : Nat → Bool := fun _ => false
def Env.ty (E : Env) (t : TypeId) : Option Ty := (E.ti t).map (·.ty)
def ZF {β : Type _} : List (Nat × β) → Nat → Option β
 | [], _ => none
 | (k, v) :: l, n => bif Nat.beq k n then some v else ZF l n
def lim : Nat := 4294967296
def Zq5 : Nat := 1649267441664
mutual
def pub (h : List Blk) : SV → Option (SV × List Blk)
 | .val t x => some (.val t x, h)
 | .vl c t x => some (.vl c t x, h)
 | .nil => some (.nil, h)
 | .own b v => match nth h b with
  | some (.arr v' t x) => if v' = v then some (.fr t x, upd h b .gone) else none
  | _ => none
 | .sub b v off n => match nth h b with
  | some (.arr v' t x) => if v' = v then (bif t.noUq then some (.fr t ((x.drop off).take n), upd h b .gone) else none) else none
  | _ => none
 | .agg l => match Zhm h l with | some (l', h') => some (.agg l', h') | none => none
 | .tup l => match Zhm h l with | some (l', h') => some (.tup l', h') | none => none
 | _ => none
def Zhm (h : List Blk) : List SV → Option (List SV × List Blk)
 | [] => some ([], h)
 | x :: l => match pub h x with
  | some (x', h') => (match Zhm h' l with | some (l', h'') => some (x' :: l', h'') | none => none)
  | none => none
end
def Vj : (t : Ty) → t.den → List Blk → List SV × List Blk
 | .unit, _, h => ([], h)
 | .pair a b, x, h => match Vj a x.1 h with | (l, h') => (match Vj b x.2 h' with | (l', h'') => (l ++ l', h''))
 | .int k, x, h => ([.val (.int k) x], h)
 | .bool, x, h => ([.val .bool x], h)
 | .str, x, h => ([.val .str x], h)
 | .sl u a, x, h => bif u then ([.own h.length 0], h ++ [.arr 0 a x]) else ([.val (.sl u a) x], h)
def Zoc (t : Ty) (l : List SV) : SV :=
 bif t.isAgg then .agg l else (match l with | [x] => x | _ => .dead)
mutual
def Uj (h : List Blk) : SV → SV × List Blk
 | .fr t x => (.own h.length 0, h ++ [.arr 0 t x])
 | .fv t x => match Vj t x h with | (l, h') => (Zoc t l, h')
 | .agg l => match Xl h l with | (l', h') => (.agg l', h')
 | .tup l => match Xl h l with | (l', h') => (.tup l', h')
 | .fn f l => match Xl h l with | (l', h') => (.fn f l', h')
 | .fp l => match Xl h l with | (l', h') => (.ptr h'.length 0, h' ++ [.vars l'])
 | v => (v, h)
def Xl (h : List Blk) : List SV → List SV × List Blk
 | [] => ([], h)
 | x :: l => match Uj h x with | (x', h') => (match Xl h' l with | (l', h'') => (x' :: l', h''))
end
mutual
def hasRo : SV → Bool
 | .val t _ => t.hasSl
 | .vl _ t _ => t.hasSl
 | .fr t _ => t.hasRo
 | .fv t _ => t.hasRo
 | .io t _ => t.hasRo
 | .agg l => Xt l
 | .tup l => Xt l
 | .fn _ l => Xt l
 | .mr l => Xt l
 | .fp l => Xt l
 | _ => false
def Xt : List SV → Bool
 | [] => false
 | x :: l => hasRo x || Xt l
end
mutual
def Zfi : SV → Bool
 | .val _ _ => true
 | .vl _ _ _ => true
 | .nil => true
 | .fr _ _ => true
 | .fv _ _ => true
 | .dead => true
 | .agg l => AW l
 | .tup l => AW l
 | .fn _ l => AW l
 | .fp l => AW l
 | _ => false
def AW : List SV → Bool
 | [] => true
 | x :: l => Zfi x && AW l
end
def Qx : SV → List Nat
 | .own b _ => [b]
 | .sub b _ _ _ => [b]
 | _ => []
def VN : SV → List Nat
 | .agg l => l.flatMap Qx
 | v => Qx v
inductive Lnt where
 | box (b : Nat)
 | arr (b v : Nat) (t : Ty)
structure Po where
 args : List SV
 heap : List Blk
 lent : List Nat
 boxes : List Lnt
def We (h : List Blk) : SV → Option Po
 | .own b v => match nth h b with
  | some (.arr v' t x) => if v' = v then some ⟨[.io t x], upd h b (.held v t x.length), [], [.arr b v t]⟩ else none
  | _ => none
 | .nil => some ⟨[.nil], h, [], []⟩
 | .val t x => bif t.hasSl then none else some ⟨[.val t x], h, [], []⟩
 | _ => none
def Qy (h : List Blk) : List SV → Option Po
 | [] => some ⟨[], h, [], []⟩
 | c :: l => match We h c with
  | none => none
  | some p => match Qy p.heap l with
   | none => none
   | some q => some ⟨p.args ++ q.args, q.heap, p.lent ++ q.lent, p.boxes ++ q.boxes⟩
mutual
def Zck (m : Mode) (v : SV) (h : List Blk) : Option Po :=
 match m with
 | .ro t => match ZdK true h t v with
  | some x => some ⟨[.val t x], h, VN v, []⟩
  | none => none
 | .mv => match pub h v with
  | some (v', h') => some ⟨[v'], h', [], []⟩
  | none => none
 | .mref => match v with
  | .ptr b 0 => match nth h b with
   | some (.vars c) => match Zhm (upd h b .lent) c with
    | some (c', h') => some ⟨[.mr c'], h', [], [.box b]⟩
    | none => none
   | _ => none
  | _ => none
 | .io => match v with
  | .agg l => match Qy h l with
   | some p => some ⟨[.agg p.args], p.heap, p.lent, p.boxes⟩
   | none => none
  | v => We h v
 | .fnm ms => match v with
  | .fn f cap => match Kc ms cap h with
   | some p => some ⟨[.fn f p.args], p.heap, p.lent, p.boxes⟩
   | none => none
  | _ => none
def Kc (ms : List Mode) (vs : List SV) (h : List Blk) : Option Po :=
 match ms with
 | [] => match vs with
  | [] => some ⟨[], h, [], []⟩
  | _ => none
 | m :: ms' => match vs with
  | [] => none
  | v :: vs' => match Zck m v h with
   | none => none
   | some p => match Kc ms' vs' p.heap with
    | none => none
    | some q => some ⟨p.args ++ q.args, q.heap, p.lent ++ q.lent, p.boxes ++ q.boxes⟩
end
def UM (h : List Blk) : List Nat → List Blk
 | [] => h
 | b :: l => UM (upd h b .gone) l
def W8 (h : List Blk) : List Lnt → List (List SV) → Option (List Blk)
 | [], [] => some h
 | .box b :: bs, c :: cs => match Xl h c with | (c', h') => W8 (upd h' b (.vars c')) bs cs
 | .arr b v t :: bs, c :: cs => match c with
  | [.fr s x] => (match toS (.sl true s) (.sl true t) x with
   | some y => W8 (upd h b (.arr v t y)) bs cs
   | none => none)
  | _ => none
 | _, _ => none
def Zit : List SV → List SV → Bool
 | [], [] => true
 | .ptr b o :: l, .ptr b' o' :: m => Nat.beq b b' && Nat.beq o o' && Zit l m
 | _, _ => false
def Zfj : SV → SV → Bool
 | .fn f l, .fn g m => Nat.beq f g && Zit l m
 | .ptr b o, .ptr b' o' => Nat.beq b b' && Nat.beq o o'
 | .own b v, .own b' v' => Nat.beq b b' && Nat.beq v v'
 | .nil, .nil => true
 | _, _ => false
def Zhi (h : List Blk) (t : Ty) : SV → Option (List t.den)
 | .nil => some []
 | .own b v => match nth h b with
  | some (.arr v' s x) => if v' = v then toS (.sl true s) (.sl true t) x else none
  | _ => none
 | .sub b v off n => match nth h b with
  | some (.arr v' s x) => if v' = v then (bif s.noUq then toS (.sl true s) (.sl true t) ((x.drop off).take n) else none) else none
  | _ => none
 | _ => none
def Eq (h : List Blk) (t : Ty) (l : List SV) : Option (t.den × List SV) :=
 match l with
 | c :: r => (match BJ false h t c with | some x => some (x, r) | none => none)
 | [] => none
def UC (h : List Blk) : (t : Ty) → List SV → Option (t.den × List SV × List Blk)
 | .unit, l => some ((), l, h)
 | .pair a b, l => match UC h a l with
  | some (x, l', h') => (match UC h' b l' with
   | some (y, l'', h'') => some ((x, y), l'', h'')
   | none => none)
  | none => none
 | .int k, l => (Eq h (.int k) l).map fun q => (q.1, q.2, h)
 | .bool, l => (Eq h .bool l).map fun q => (q.1, q.2, h)
 | .str, l => (Eq h .str l).map fun q => (q.1, q.2, h)
 | .sl u a, l => bif u then (match l with
   | c :: r => (match Zhi h a c with
    | some x => (match c with
     | .nil => some (x, r, h)
     | .own b _ => some (x, r, upd h b .gone)
     | .sub b _ _ _ => some (x, r, upd h b .gone)
     | _ => none)
    | none => none)
   | [] => none)
  else (Eq h (.sl u a) l).map fun q => (q.1, q.2, h)
def Zpw : SV → Bool
 | .agg _ => true
 | .val t _ => t.isAgg
 | _ => false
def Zpx (h : List Blk) (t : Ty) (v : SV) : Option (SV × List Blk) :=
 bif (Zpw v == t.isAgg) && t.okU then
  (match ZaA v with
  | none => none
  | some l => match UC h t l with
   | some (x, [], h') => some (.fv t x, h')
   | _ => none)
 else none
end Go.Sx
namespace Go.Sx
open Go
def KD : List OB → Type
 | [] => Unit
 | .ro t :: l => t.den × KD l
 | .own t :: l => List t.den × KD l
 | .is _ :: l => KD l
 | .drop :: l => KD l
def BD : List BK → Type
 | [] => Unit
 | .vars ks :: l => KD ks × BD l
 | .arr t :: l => List t.den × BD l
 | .drop :: l => BD l
def WJ : Option Blk → Bool
 | some (.arr _ _ _) => true
 | _ => false
def Qz : (ks : List OB) → List SV → List Blk → Option (KD ks × List Blk)
 | [], [], h => some ((), h)
 | [], _ :: _, _ => none
 | _ :: _, [], _ => none
 | .drop :: ks, _ :: l, h => Qz ks l h
 | .is v :: ks, x :: l, h => bif Zfj v x then Qz ks l h else none
 | .ro t :: ks, x :: l, h => match ZdK true h t x with
  | some d => bif (VN x).all (fun b => WJ (nth h b)) then (match Qz ks l (UM h (VN x)) with | some (r, h') => some ((d, r), h') | none => none) else none
  | none => none
 | .own t :: ks, x :: l, h => match Zhi h t x with
  | some d => (match Qz ks l (UM h (VN x)) with | some (r, h') => some ((d, r), h') | none => none)
  | none => none
def BT : (bs : List BK) → List Blk → List Blk → Option (BD bs × List Blk)
 | [], _, h => some ((), h)
 | .drop :: bs, l, h => match l with
  | _ :: l' => BT bs l' h
  | [] => none
 | .vars ks :: bs, l, h => match l with
  | .vars c :: l' => (match Qz ks c h with
   | some (d, h') => (match BT bs l' h' with
    | some (r, h'') => some ((d, r), h'')
    | none => none)
   | none => none)
  | _ => none
 | .arr t :: bs, l, h => match l with
  | _ :: l' => (match nth h (h.length - l.length) with
   | some (.arr v s x) => if v = 0 then (match toS (.sl true s) (.sl true t) x with
    | some d => (match BT bs l' (upd h (h.length - l.length) .gone) with
     | some (r, h'') => some ((d, r), h'')
     | none => none)
    | none => none) else none
   | _ => none)
  | [] => none
def Hz : (ks : List OB) → KD ks → Nat → List SV
 | [], _, _ => []
 | .drop :: ks, x, n => .dead :: Hz ks x n
 | .is v :: ks, x, n => v :: Hz ks x n
 | .ro t :: ks, x, n => .val t x.1 :: Hz ks x.2 n
 | .own _ :: ks, x, n => .own n 0 :: Hz ks x.2 (n + 1)
def Ek : (ks : List OB) → KD ks → List Blk
 | [], _ => []
 | .drop :: ks, x => Ek ks x
 | .is _ :: ks, x => Ek ks x
 | .ro _ :: ks, x => Ek ks x.2
 | .own t :: ks, x => .arr 0 t x.1 :: Ek ks x.2
def VO : (bs : List BK) → BD bs → Nat → List Blk
 | [], _, _ => []
 | .drop :: bs, x, n => .gone :: VO bs x n
 | .vars ks :: bs, x, n => .vars (Hz ks x.1 n) :: VO bs x.2 (n + (Ek ks x.1).length)
 | .arr t :: bs, x, n => .arr 0 t x.1 :: VO bs x.2 n
def Pp : (bs : List BK) → BD bs → List Blk
 | [], _ => []
 | .drop :: bs, x => Pp bs x
 | .vars ks :: bs, x => Ek ks x.1 ++ Pp bs x.2
 | .arr _ :: bs, x => Pp bs x.2
structure Lp (R : Type) where
 keeps : List OB
 blks : List BK
 run : KD keeps → BD blks → Option R
def Zod (ks : List OB) (bs : List BK) (x : KD ks) (y : BD bs) : St :=
 let n := bs.length
 let o := Pp bs y
 { slots := Hz ks x (n + o.length), heap := VO bs y n ++ o ++ Ek ks x }
def UN {R : Type} (l : Lp R) (x : KD l.keeps) (y : BD l.blks) : St := Zod l.keeps l.blks x y
def Zpr (n : Nat) : List SV → Bool
 | [] => true
 | .ptr b _ :: l => Nat.blt b n && Zpr n l
 | _ => false
def okK (n : Nat) : List OB → Bool
 | [] => true
 | .is (.ptr b _) :: l => Nat.blt b n && okK n l
 | .is (.own b _) :: l => Nat.blt b n && okK n l
 | .is (.fn _ c) :: l => Zpr n c && okK n l
 | .own t :: l => Nat.blt 0 t.size && okK n l
 | _ :: l => okK n l
def ZmA (n : Nat) : List BK → Bool
 | [] => true
 | .drop :: l => ZmA n l
 | .vars ks :: l => okK n ks && ZmA n l
 | .arr t :: l => Nat.blt 0 t.size && ZmA n l
def Er {R : Type} (l : Lp R) (s : St) : Option R :=
 bif ZmA l.blks.length l.blks && okK l.blks.length l.keeps then
 (match BT l.blks s.heap s.heap with
 | some (y, h) => (match Qz l.keeps s.slots h with
  | some (x, _) => l.run x y
  | none => none)
 | none => none) else none
noncomputable section
def Wf {R : Type} (x y : Option R) : Option R := @ite _ (x = y) (Classical.propDecidable _) x none
theorem Xe {R : Type} (x : Option R) : Wf x x = x := by unfold Wf; rw [if_pos rfl]
theorem HA {R : Type} {x y : Option R} {r : R} (h : Wf x y = some r) : x = some r ∧ y = some r := by
 unfold Wf at h
 split at h
 ·rename_i e; exact ⟨h, e ▸ h⟩
 ·cases h
def Zoe {R α : Type} (xs : List α) (K : Bool → Option R) : Option R :=
 match xs with
 | [] => Wf (K true) (K false)
 | _ :: _ => K false
def Pq : SV → Bool
 | .nil => true
 | _ => false
variable {R : Type} (E : Env)
def Zkr (h : List Blk) (x : SV) (K : Bool → Option R) : Option R :=
 match x with
 | .nil => K true
 | .val (.sl _ _) xs => Zoe xs K
 | .own b v => match nth h b with
  | some (.arr v' _ xs) => if v' = v then Zoe xs K else none
  | _ => none
 | _ => none
def HB (t : TypeId) (a : Ty) : Bool :=
 match E.ti t with
 | some ⟨_, _, .slice e⟩ => (match E.ti e with | some ie => ie.ty.eqv a | none => false)
 | _ => false
def Vk (t : TypeId) : Bool :=
 match E.ti t with
 | some ⟨_, _, .slice _⟩ => true
 | _ => false
def ZaB (t : TypeId) : Bool :=
 match E.ti t with
 | some ⟨.str, _, .scalar⟩ => true
 | _ => false
def Zhn (op : BinOp) (k : IntKind) (x y : Int) (K : SV → Option R) : Option R :=
 match op with
 | .add => K (.val (.int k) (k.wrap (x + y)))
 | .sub => K (.val (.int k) (k.wrap (x - y)))
 | .mul => K (.val (.int k) (k.wrap (x * y)))
 | .quo => if y = 0 then none else K (.val (.int k) (k.wrap (x.tdiv y)))
 | .rem => if y = 0 then none else K (.val (.int k) (x.tmod y))
 | .and => K (.val (.int k) (k.wrap ((BitVec.ofInt k.bits x &&& BitVec.ofInt k.bits y).toNat : Int)))
 | .or => K (.val (.int k) (k.wrap ((BitVec.ofInt k.bits x ||| BitVec.ofInt k.bits y).toNat : Int)))
 | .xor => K (.val (.int k) (k.wrap ((BitVec.ofInt k.bits x ^^^ BitVec.ofInt k.bits y).toNat : Int)))
 | .eql => K (.val .bool (decide (x = y)))
 | .neq => K (.val .bool (!decide (x = y)))
 | .lss => K (.val .bool (decide (x < y)))
 | .leq => K (.val .bool (decide (x ≤ y)))
 | .gtr => K (.val .bool (decide (y < x)))
 | .geq => K (.val .bool (decide (y ≤ x)))
 | _ => none
def Zjl (op : BinOp) (x y : ByteArray) (K : SV → Option R) : Option R :=
 match op with
 | .add => if x.size + y.size ≤ lim then K (.val .str (x ++ y)) else none
 | .eql => K (.val .bool (decide (x = y)))
 | .neq => K (.val .bool (!decide (x = y)))
 | .lss => K (.val .bool (Op.bytesLess x.toList y.toList))
 | .leq => K (.val .bool (Op.bytesLess x.toList y.toList || decide (x = y)))
 | .gtr => K (.val .bool (!(Op.bytesLess x.toList y.toList || decide (x = y))))
 | .geq => K (.val .bool (!Op.bytesLess x.toList y.toList))
 | _ => none
def Pr (h : List Blk) (op : BinOp) (t : TypeId) (a b : SV) (K : SV → Option R) : Option R :=
 match asI a, asI b with
 | some (k, x), some (k', y) =>
  (match op with
  | .shl => if y < 0 then none else K (.val (.int k) (k.wrap (x * 2 ^ (min y.toNat k.bits))))
  | .shr => if y < 0 then none else K (.val (.int k) (x.fdiv (2 ^ (min y.toNat k.bits))))
  | _ => bif decide (k = k') then Zhn op k x y K else none)
 | _, _ => match asS a, asS b with
  | some x, some y => Zjl op x y K
  | _, _ => match asB a, asB b with
   | some x, some y => (match op, E.ty t with
    | .eql, some .bool => K (.val .bool (x == y))
    | .neq, some .bool => K (.val .bool (!(x == y)))
    | _, _ => none)
   | _, _ => bif E.eqs t then (match E.ty t with
    | some ty => (match ZdK false h ty a, ZdK false h ty b with
     | some x, some y => (match op with
      | .eql => K (.val .bool (eqD ty x y))
      | .neq => K (.val .bool (!eqD ty x y))
      | _ => none)
     | _, _ => none)
    | none => none) else none
def Zfk (h : List Blk) (op : BinOp) (a : SV) (K : SV → Option R) : Option R :=
 match op with
 | .eql => Zkr h a fun q => K (.val .bool q)
 | .neq => Zkr h a fun q => K (.val .bool (!q))
 | _ => none
def Zcl (h : List Blk) (op : BinOp) (t : TypeId) (a b : SV) (K : SV → Option R) : Option R :=
 bif Pq b && Vk E t then Zfk h op a K else Pr E h op t a b K
def Zjm (op : UnOp) (a : SV) (K : SV → Option R) : Option R :=
 match op with
 | .neg => match asI a with | some (k, x) => K (.val (.int k) (k.wrap (0 - x))) | none => none
 | .not => match asB a with | some b => K (.val .bool (!b)) | none => none
 | _ => none
def Zho (h : List Blk) (src dst : TypeId) (a : SV) (K : SV → Option R) : Option R :=
 match E.ty dst, asI a with
 | some (.int k), some (_, n) => (match E.ty src with | some (.int _) => K (.val (.int k) (k.wrap n)) | _ => none)
 | some .str, _ => (match E.ty src, asS a with
  | some .str, some s => K (.val .str s)
  | some (.sl _ (.int .u8)), _ => (match ZdK true h (.sl false (.int .u8)) a with
   | some (x : List Int) => K (.val .str ⟨(x.map fun n => UInt8.ofNat n.toNat).toArray⟩)
   | none => none)
  | _, _ => none)
 | _, _ => none
def Vl (lo hi : Option SV) (n : Nat) (K : Nat → Nat → Option R) : Option R :=
 match hi with
 | none => (match lo with
  | none => K 0 n
  | some l => match asI l with
   | some (_, i) => if 0 ≤ i then (if i ≤ n then K i.toNat n else none) else none
   | none => none)
 | some u => match asI u with
  | some (_, j) => if 0 ≤ j then (if j ≤ n then (match lo with
   | none => K 0 j.toNat
   | some l => match asI l with
    | some (_, i) => if 0 ≤ i then (if i ≤ j then K i.toNat j.toNat else none) else none
    | none => none) else none) else none
  | none => none
def MW (h : List Blk) (t : TypeId) (x : SV) (lo hi : Option SV) (K : SV → Option R) : Option R :=
 match x with
 | .val .str s => bif ZaB E t then (Vl lo hi (ByteArray.size s) fun i j => K (.val .str (ByteArray.extract s i j))) else none
 | .val (.sl u a) xs => bif HB E t a then (Vl lo hi (List.length xs) fun i j => K (.val (.sl u a) (List.take (j - i) (List.drop i xs)))) else none
 | .nil => bif Vk E t then (Vl lo hi 0 fun _ _ => K .nil) else none
 | .own b v => match nth h b with
  | some (.arr v' a xs) => if v' = v then (bif HB E t a then (Vl lo hi xs.length fun i j => K (.sub b v i (j - i))) else none) else none
  | _ => none
 | .sub b v off n => match nth h b with
  | some (.arr v' a _) => if v' = v then (bif HB E t a then (Vl lo hi n fun i j => K (.sub b v (off + i) (j - i))) else none) else none
  | _ => none
 | _ => none
def Env.far (E : Env) : Bool := E.vt 999998
def Env.wide (E : Env) : Bool := E.vt 999997
def LD (h : List Blk) (t : TypeId) (x : SV) (lo : Option SV) (hi mx : SV) (K : SV → Option R) : Option R :=
 match x, asI mx with
 | .own b v, some (_, m) => (match nth h b with
  | some (.arr v' a xs) => if v' = v then (bif HB E t a then (if 0 ≤ m then (if m ≤ xs.length then Vl lo (some hi) m.toNat fun _ _ => K .dead else none) else none) else none) else none
  | _ => none)
 | _, _ => none
def Zcm (h : List Blk) (t : TypeId) (x : SV) (lo hi : Option SV) (K : SV → Option R) : Option R :=
 match x, hi with
 | .sub b v 0 n, some hi => match nth h b with
  | some (.arr v' a xs) => if v' = v then (bif HB E t a then (Vl lo (some hi) xs.length fun i j => K (.sub b v i (j - i))) else none) else none
  | _ => none
 | x, hi => MW E h t x lo hi K
def Zof (h : List Blk) (t : TypeId) (x : SV) (K : SV → Option R) : Option R :=
 match x with
 | .val .str s => bif ZaB E t then K (.val (.int .i64) (ByteArray.size s : Int)) else none
 | .val (.sl _ _) xs => bif Vk E t then K (.val (.int .i64) (List.length xs : Int)) else none
 | .nil => bif Vk E t then K (.val (.int .i64) (0 : Int)) else none
 | .own b v => match nth h b with
  | some (.arr v' _ xs) => if v' = v then (bif Vk E t then K (.val (.int .i64) (xs.length : Int)) else none) else none
  | _ => none
 | .sub b v _ n => match nth h b with
  | some (.arr v' _ _) => if v' = v then (bif Vk E t then K (.val (.int .i64) (n : Int)) else none) else none
  | _ => none
 | _ => none
def VQ (h : List Blk) (t : TypeId) (x ix : SV) (K : SV → Option R) : Option R :=
 match asI ix with
 | none => none
 | some (_, i) => match x with
  | .val (.sl _ a) xs => bif HB E t a then (if 0 ≤ i then Option.bind (nth xs i.toNat) fun y => K (.rptr a y 0) else none) else none
  | .own b v => (match nth h b with
   | some (.arr v' a xs) => if v' = v then (bif HB E t a then (if 0 ≤ i then (if i < xs.length then K (.eptr b v i.toNat 0) else none) else none) else none) else none
   | some (.opn v' a xs _ _) => if v' = v then (bif HB E t a then (if 0 ≤ i then (if i < xs.length then K (.eptr b v i.toNat 0) else none) else none) else none) else none
   | _ => none)
  | .sub b v off n => (match nth h b with
   | some (.arr v' a _) => if v' = v then (bif HB E t a then (if 0 ≤ i then (if i < n then K (.eptr b v (off + i.toNat) 0) else none) else none) else none) else none
   | _ => none)
  | _ => none
def Zog (s : ByteArray) (i : Int) (K : Int → Option R) : Option R :=
 if 0 ≤ i then Option.bind (nth s.data.toList i.toNat) (fun b => K (b.toNat : Int)) else none
def Zcn (t : TypeId) (x ix : SV) (K : SV → Option R) : Option R :=
 match asI ix, asS x with
 | some (_, i), some s => bif ZaB E t then (Zog s i fun b => K (.val (.int .u8) b)) else none
 | _, _ => none
def cut (c : List SV) (off n : Nat) : List SV := (c.drop off).take n
def Zq6 : SV → SV
 | .vl _ t x => .val t x
 | v => v
def El (h : List Blk) (ty : Ty) (c : List SV) (K : SV → Option R) : Option R :=
 bif Nat.beq c.length ty.size then
  (bif ty.isAgg then K (FH h ty c) else (match c with | [x] => K (Zq6 x) | _ => none))
 else none
def ZaC (h : List Blk) (ty : Ty) (a : Ty) (y : a.den) (off : Nat) (K : SV → Option R) : Option R :=
 match (if off = 0 then toD a ty y else none) with
 | some x => K (.val ty x)
 | none => El h ty (cut (cellsOf a y) off ty.size) K
def ZnE : SV → Bool
 | .val t _ => !t.hasSl
 | _ => false
def Ziu (l : List SV) : Bool := l.all ZnE
def UV (h : List Blk) (ty : Ty) (p : SV) (K : SV → Option R) : Option R :=
 match p with
 | .ptr b off => (match nth h b with
  | some (.vars c) => El h ty (cut c off ty.size) K
  | _ => none)
 | .rptr a y off => ZaC h ty a y off K
 | .eptr b v i off => (match nth h b with
  | some (.arr v' a xs) => if v' = v then Option.bind (nth xs i) (fun y =>
    bif a.noUq then ZaC h ty a y off K else
    (bif Ziu (cut (cellsOf a y) off ty.size) then El h ty (cut (cellsOf a y) off ty.size) K else none)) else none
  | _ => none)
 | _ => none
def QA (c : List SV) (off : Nat) (d : List SV) : List SV := c.take off ++ d ++ c.drop (off + d.length)
def MX (h : List Blk) (ty : Ty) (p x : SV) (K : List Blk → Option R) : Option R :=
 match ZaA x with
 | none => none
 | some d => bif Nat.beq d.length ty.size then
  (match p with
  | .ptr b off => (match nth h b with
   | some (.vars c) => bif Nat.ble (off + d.length) c.length then K (upd h b (.vars (QA c off d))) else none
   | _ => none)
  | .eptr b v i off => (match nth h b with
   | some (.arr v' a xs) => if v' = v then Option.bind (nth xs i) (fun y =>
     match UB true h a (QA (cellsOf a y) off d) with
     | some y' => bif a.noUq && !((VN (.agg d)).any (Nat.beq b)) then Option.bind (Ei xs i y') (fun xs' => K (upd (UM h (VN (.agg d))) b (.arr v a xs'))) else none
     | none => none) else none
   | _ => none)
  | _ => none) else none
def fieldAt (fs : List (Nat × TypeId)) (f : Nat) (K : Nat → TypeId → Option R) : Option R :=
 match nth fs f with
 | some (o, t) => K o t
 | none => none
def Wu (h : List Blk) (t : TypeId) (p : SV) (f : Nat) (K : SV → Option R) : Option R :=
 match E.ti t with
 | some ⟨_, _, .struct fs⟩ => fieldAt fs f fun o _ => (match p with
  | .ptr b off => (match nth h b with
   | some (.vars _) => K (.ptr b (off + o))
   | _ => none)
  | .rptr a y off => K (.rptr a y (off + o))
  | .eptr b v i off => (match nth h b with
   | some (.arr v' _ _) => if v' = v then K (.eptr b v i (off + o)) else none
   | some (.opn v' _ _ _ _) => if v' = v then K (.eptr b v i (off + o)) else none
   | _ => none)
  | _ => none)
 | _ => none
def Zhp : SV → Option (List SV)
 | .val t x => bif t.isAgg then some (cellsOf t x) else none
 | .agg l => bif Yt l then some l else none
 | _ => none
def Ps (h : List Blk) (t : TypeId) (x : SV) (f : Nat) (K : SV → Option R) : Option R :=
 match E.ti t with
 | some ⟨ty, _, .struct fs⟩ => fieldAt fs f fun o ft => (match E.ty ft, Zhp x with
  | some fty, some c => bif Nat.beq c.length ty.size then El h fty (cut c o fty.size) K else none
  | _, _ => none)
 | _ => none
def Zku (fs : List (Nat × TypeId)) : List (Nat × SV) → List SV → Option (List SV)
 | [], c => some c
 | (i, v) :: l, c => match nth fs i with
  | none => none
  | some (o, ft) => match E.ty ft, ZaA v with
   | some fty, some d => bif Nat.beq d.length fty.size && Nat.ble (o + d.length) c.length then Zku fs l (QA c o d) else none
   | _, _ => none
def Pt (h : List Blk) (t : TypeId) (parts : List (Nat × SV)) (K : SV → Option R) : Option R :=
 match E.ti t with
 | some ⟨ty, _, .struct fs⟩ => (match Zku E fs parts (Vi ty) with
  | some c => K (FH h ty c)
  | none => none)
 | _ => none
def Pu (h : List Blk) (a : Ty) : Nat → List (Nat × SV) → Option (List a.den)
 | _, [] => some []
 | j, (i, v) :: l => bif Nat.beq i j then (match ZdK true h a v with
  | some x => (match Pu h a (j + 1) l with | some xs => some (x :: xs) | none => none)
  | none => none) else none
def XI (h : List Blk) (t : TypeId) (n : Nat) (parts : List (Nat × SV)) (K : SV → List Blk → Option R) : Option R :=
 match E.ti t with
 | some ⟨_, _, .slice e⟩ => (match E.ty e with
  | some a => bif Nat.beq parts.length n && Nat.ble n 4096 && Nat.ble a.size 1024 && a.noUq then
   (match Pu h a 0 parts with
   | some xs => K (.own h.length 0) (UM h (parts.flatMap fun p => VN p.2) ++ [.arr 0 a xs])
   | none => none) else none
  | none => none)
 | _ => none
def W9 (h : List Blk) (t : TypeId) (n c : SV) (K : SV → List Blk → Option R) : Option R :=
 match E.ti t with
 | some ⟨_, _, .slice e⟩ => (match E.ty e, asI n, asI c with
  | some a, some (.i64, x), some (.i64, y) => if 0 ≤ x then (if x ≤ y then (if y ≤ lim then (bif a.noUq then
    K (.own h.length 0) (h ++ [.arr 0 (bif E.nest then a.uq else a) (List.replicate x.toNat (WI (bif E.nest then a.uq else a)))]) else none) else none) else none) else none
  | _, _, _ => none)
 | _ => none
def Zkv : SV → Bool
 | .val .str _ => true
 | _ => false
def O8 (s : ByteArray) : List Int := s.data.toList.map fun b => (b.toNat : Int)
def Zjn (h : List Blk) (t' : TypeId) (a : Ty) (x : SV) : Option (List a.den) :=
 bif Zkv x then (match asS x with
  | some s => bif ZaB E t' then toD (.sl false (.int .u8)) (.sl false a) (O8 s) else none
  | none => none)
 else (bif HB E t' a then ZdK true h (.sl false a) x else none)
def J2 (L : Nat) (h : List Blk) (t t' : TypeId) (s x : SV) (K : SV → List Blk → Option R) : Option R :=
 match E.ti t with
 | some ⟨_, _, .slice e⟩ => (match E.ty e with
  | some a => bif a.noUq then (match Zjn E h t' a x with
   | some ys => (match s with
    | .nil => if List.length ys ≤ L then K (.own h.length 0) (UM h (bif a.hasSl then VN x else []) ++ [.arr 0 a ys]) else none
    | .own b v => (match nth h b with
     | some (.arr v' a' xs) => if v' = v then (match toD (.sl false a) (.sl false a') ys with
      | some zs => bif a'.noUq && !((VN x).any (Nat.beq b)) then (if xs.length + List.length ys ≤ L then
        K (.own b (v + 1)) (upd (UM h (bif a.hasSl then VN x else [])) b (.arr (v + 1) a' (xs ++ zs))) else none) else none
      | none => none) else none
     | _ => none)
    | _ => none)
   | none => none) else none
  | none => none)
 | _ => none
def QB (h : List Blk) (t t' : TypeId) (s x : SV) (K : SV → List Blk → Option R) : Option R := J2 E lim h t t' s x K
def Pv (t : TypeId) : Bool :=
 match E.ti t with
 | some ⟨_, _, .slice e⟩ => (match E.ti e with | some i => Nat.ble i.bytes 64 | none => false)
 | _ => false
def HC (h : List Blk) (b v : Nat) (a : Ty) (xs : List a.den) (i : Nat) (y : a.den) : List SV × List Blk :=
 match Vj a y (upd h b (.opn v a xs i (List.replicate a.size .dead))) with
 | (c, h') => (c, upd h' b (.opn v a xs i c))
def Es (h : List Blk) (b : Nat) : List Blk :=
 match nth h b with
 | some (.opn v t xs i c) => (match UC h t c with
  | some (y, [], h') => upd h' b (.arr v t (upd xs i y))
  | _ => h)
 | _ => h
def Zfl (h : List Blk) : List Nat → List Blk
 | [] => h
 | b :: l => Zfl (Es h b) l
def ZqU : Nat → Nat → List Nat
 | _, 0 => []
 | k, n + 1 => k :: ZqU (k + 1) n
def O9 (h : List Blk) : List Blk := Zfl h (ZqU 0 h.length)
def Jg (h : List Blk) (b : Nat) (K : List Blk → Option R) : Option R :=
 match nth h b with
 | some (.opn v t xs i c) => (match UC h t c with
  | some (y, [], h') => Option.bind (Ei xs i y) (fun xs' => K (upd h' b (.arr v t xs')))
  | _ => K h)
 | _ => K h
def FI (h : List Blk) (K : List Blk → Option R) : List Nat → Option R
 | [] => K h
 | b :: l => Jg h b fun h' => FI h' K l
def HD (h : List Blk) (K : List Blk → Option R) : Option R := FI h K (ZqU 0 h.length)
theorem Pw {h : List Blk} {b : Nat} {K : List Blk → Option R} {r : R} (he : Jg h b K = some r) : K (Es h b) = some r := by
 unfold Jg at he;unfold Es
 split at he
 ·split at he
  ·obtain ⟨xs', h1, h2⟩ := Option.bind_eq_some_iff.1 he
   rw [Pn h1] at h2;exact h2
  ·exact he
 ·exact he
theorem MY : ∀ (l : List Nat) {h : List Blk} {K : List Blk → Option R} {r : R}, FI h K l = some r → K (Zfl h l) = some r
 | [], _, _, _, he => he
 | _ :: l, _, _, _, he => MY l (Pw he)
theorem Et {h : List Blk} {K : List Blk → Option R} {r : R} (he : HD h K = some r) : K (O9 h) = some r := MY _ he
theorem Zhq {h : List Blk} {b : Nat} {K K' : List Blk → Option R} {r : R} (hk : ∀ h, K h = some r → K' h = some r) (he : Jg h b K = some r) : Jg h b K' = some r := by
 unfold Jg at he ⊢
 split at he
 ·split at he
  ·obtain ⟨xs', h1, h2⟩ := Option.bind_eq_some_iff.1 he
   exact Option.bind_eq_some_iff.2 ⟨xs', h1, hk _ h2⟩
  ·exact hk _ he
 ·exact hk _ he
theorem MZ : ∀ (l : List Nat) {h : List Blk} {K K' : List Blk → Option R} {r : R}, (∀ h, K h = some r → K' h = some r) → FI h K l = some r → FI h K' l = some r
 | [], _, _, _, _, hk, he => hk _ he
 | _ :: l, _, _, _, _, hk, he => Zhq (fun _ h1 => MZ l hk h1) he
theorem ZaD {h : List Blk} {K K' : List Blk → Option R} {r : R} (hk : ∀ h, K h = some r → K' h = some r) (he : HD h K = some r) : HD h K' = some r := MZ _ hk he
def Zhr (h : List Blk) (ty : Ty) (p : SV) (K : SV → List Blk → Option R) : Option R :=
 match p with
 | .eptr b v i off => (match nth h b with
  | some (.arr v' a xs) => if v' = v then (bif a.noUq then UV h ty p (fun x => K x h) else (bif a.okU then Option.bind (nth xs i) (fun y =>
    match HC h b v' a xs i y with | (c, h1) => El h1 ty (cut c off ty.size) fun x => K x h1) else none)) else none
  | some (.opn v' _ _ j c) => if v' = v then (if j = i then El h ty (cut c off ty.size) (fun x => K x h) else none) else none
  | _ => none)
 | p => UV h ty p (fun x => K x h)
def LE (h : List Blk) (ty : Ty) (p : SV) (K : SV → List Blk → Option R) : Option R :=
 bif ty.hasSl then Zhr h ty p K else UV h ty p (fun x => K x h)
def Px (z : Bool) (h : List Blk) (b : Nat) : List Blk := bif z then h else Es h b
def ZdL (z : Bool) (h : List Blk) (b : Nat) (K : List Blk → Option R) : Option R := bif z then K h else Jg h b K
theorem M0 {z : Bool} {h : List Blk} {b : Nat} {K : List Blk → Option R} {r : R} (he : ZdL z h b K = some r) : K (Px z h b) = some r := by
 cases z with
 | true => exact he
 | false => exact Pw he
def Py (z : Bool) (h : List Blk) (b v : Nat) (a : Ty) (xs : List a.den) (i : Nat) (c : List SV) (off : Nat) (d : List SV) (K : List Blk → Option R) : Option R :=
 bif Nat.ble (off + d.length) c.length then ZdL z (upd h b (.opn v a xs i (QA c off d))) b K else none
def Zco (z : Bool) (h : List Blk) (ty : Ty) (p x : SV) (K : List Blk → Option R) : Option R :=
 match p with
 | .eptr b v i off => (match nth h b with
  | some (.arr v' a xs) => if v' = v then (bif a.noUq then MX h ty p x K else
    (match ZaA x with
    | none => none
    | some d => bif Nat.beq d.length ty.size && a.okU then Option.bind (nth xs i) (fun y =>
      match HC h b v' a xs i y with | (c, h1) => Py z h1 b v' a xs i c off d K) else none)) else none
  | some (.opn v' a xs j c) => if v' = v then (if j = i then (match ZaA x with
    | none => none
    | some d => bif Nat.beq d.length ty.size then Py z h b v' a xs j c off d K else none) else none) else none
  | _ => none)
 | p => MX h ty p x K
def M1 (a : Ty) : Nat → List (Nat × SV) → List Blk → Option (List a.den × List Blk)
 | _, [], h => some ([], h)
 | j, (i, v) :: l, h => bif Nat.beq i j then (match ZaA v with
  | none => none
  | some d => (match UC h a d with
   | some (x, [], h') => (match M1 a (j + 1) l h' with | some (xs, h'') => some (x :: xs, h'') | none => none)
   | _ => none)) else none
def Wg (h : List Blk) (t : TypeId) (n : Nat) (parts : List (Nat × SV)) (K : SV → List Blk → Option R) : Option R :=
 match E.ti t with
 | some ⟨_, _, .slice e⟩ => (match E.ty e with
  | some a => bif a.hasSl then
   (bif Nat.beq parts.length n && Nat.ble n 4096 && Nat.ble a.size 1024 then
   (match M1 a.uq 0 parts h with
   | some (xs, h') => K (.own h'.length 0) (h' ++ [.arr 0 a.uq xs])
   | none => none) else none)
   else XI E h t n parts K
  | none => none)
 | _ => none
def Zjo (h : List Blk) (a : Ty) (x : SV) : Option (List a.den × List Blk) :=
 match Zhi h a x with
 | some ys => (match x with
  | .nil => some (ys, h)
  | .own b _ => some (ys, upd h b .gone)
  | _ => none)
 | none => none
def KU (h : List Blk) (t t' : TypeId) (s x : SV) (K : SV → List Blk → Option R) : Option R :=
 match E.ti t with
 | some ⟨_, _, .slice e⟩ => (match E.ty e with
  | some a => bif a.hasSl && HB E t' a then (match s with
    | .nil => (match Zjo h a.uq x with
     | some (ys, h') => if ys.length ≤ lim then K (.own h'.length 0) (h' ++ [.arr 0 a.uq ys]) else none
     | none => none)
    | .own b v => (match nth h b with
     | some (.arr v' a' xs) => bif a'.noUq then QB E h t t' s x K else (if v' = v then (bif a.eqv a' then (match Zjo h a' x with
      | some (ys, h') => (match nth h' b with
       | some (.arr _ _ _) => if xs.length + ys.length ≤ lim then K (.own b (v + 1)) (upd h' b (.arr (v + 1) a' (xs ++ ys))) else none
       | _ => none)
      | none => none) else none) else none)
     | _ => none)
    | _ => none) else QB E h t t' s x K
  | none => none)
 | _ => none
def XX (p : Po) (fresh : Bool) (K : SV → List Blk → Option R) (r : SV) (outs : List (List SV)) : Option R :=
 bif Zfi r && outs.all AW && !(fresh && (hasRo r || outs.any Xt)) then
  (match W8 (bif hasRo r || outs.any Xt then UM p.heap p.lent else p.heap) p.boxes outs with
  | some h' => match Uj h' r with | (v, h'') => K v h''
  | none => none)
 else none
def pvB (E : Env) (b : Nat) : Bool := E.vt 999996 && E.vt (3000000 + b)
def VR (E : Env) : Lnt → Bool
 | .box b => !(pvB E b)
 | .arr b _ _ => !(pvB E b)
def Env.clo (E : Env) (l : List Mode) : Bool := E.opens && !(E.vt 999994 && l.all fun m => match m with | .mref => true | _ => false)
def FJ (f : FuncId) (args : List SV) (h : List Blk) (K : SV → List Blk → Option R) : Option R :=
 match E.tbl f with
 | none => none
 | some c => match Kc c.modes args h with
  | none => none
  | some p => bif p.lent.all (fun b => WJ (nth p.heap b)) then (bif p.boxes.all (VR E) then c.run R p.args (XX p c.fresh fun v h' => bif E.clo c.modes then HD h' (K v) else K v h') else none) else none
def Vm (h : List Blk) (x : SV) (K : SV → Option R) : Option R :=
 match x with
 | .ptr b _ => (match nth h b with
  | some (.vars _) => K x
  | _ => none)
 | .rptr _ _ _ => K x
 | .eptr b v _ _ => (match nth h b with
  | some (.arr v' _ _) => if v' = v then K x else none
  | _ => none)
 | _ => none
def FK (h : List Blk) (t t' : TypeId) (s x : SV) (K : SV → List Blk → Option R) : Option R :=
 match s with
 | .sub b v 0 n => (match E.ti t with
  | some ⟨_, _, .slice e⟩ => (match E.ty e with
   | some a => bif a.hasSl then none else (match Zjn E h t' a x with
    | some ys => (match nth h b with
     | some (.arr v' a' xs) => if v' = v then (match toD (.sl false a) (.sl false a') ys with
      | some zs => if n + List.length zs ≤ List.length xs then K (.sub b v 0 (n + List.length zs)) (upd h b (.arr v a' (List.take n xs ++ (zs ++ List.drop (n + List.length zs) xs)))) else none
      | none => none) else none
     | _ => none)
    | none => none)
   | none => none)
  | _ => none)
 | _ => bif E.nest then KU E h t t' s x K else QB E h t t' s x K
def Zcp (h : List Blk) (t : TypeId) (x : SV) (K : SV → List Blk → Option R) : Option R :=
 match x with
 | .sub b v off n => match nth h b with
  | some (.arr v' a xs) => if v' = v then (bif HB E t a && !a.hasSl then (if off + n ≤ List.length xs then K (.tup []) (upd h b (.arr v a (List.take off xs ++ (List.replicate n (WI a) ++ List.drop (off + n) xs)))) else none) else none) else none
  | _ => none
 | _ => none
def ZnF : SV → Bool
 | .ptr _ _ => true
 | _ => false
def Zkw (E : Env) : Operand → Bool
 | .tmp t => E.vt t
 | _ => false
def Zpy (E : Env) : Operand → Bool
 | .tmp t => E.vt 999996 && E.vt (1000000 + t)
 | _ => false
def pvV (E : Env) : SV → Bool
 | .ptr b _ => pvB E b
 | _ => false
def OC (E : Env) (a : Operand) (v : SV) : Bool := (!(Zkw E a) || ZnF v) && (!(Zpy E a) || pvV E v)
theorem ZnG {E : Env} {a : Operand} {v : SV} (h : Zkw E a = true) (hv : OC E a v = true) : ZnF v = true := by
 unfold OC at hv;rw [h] at hv;simp only [Bool.not_true, Bool.false_or, Bool.and_eq_true] at hv;exact hv.1
def ZY (o : Oper) (gt : Operand → SV) (h : List Blk) (K : SV → List Blk → Option R) : Option R :=
 let K1 : SV → Option R := fun v => K v h
 match o.op with
 | .move x => K1 (gt x)
 | .assign x => K1 (gt x)
 | .pick c a b => (match asB (gt c) with
  | some t => bif t then K1 (gt a) else K1 (gt b)
  | none => none)
 | .alloc t => (match E.ty t with
  | some ty => K (.ptr h.length 0) (h ++ [.vars (Vi ty)])
  | none => none)
 | .box t x => (match E.ty t, ZaA (gt x) with
  | some ty, some c => bif Nat.beq c.length ty.size then K (.ptr h.length 0) (h ++ [.vars c]) else none
  | _, _ => none)
 | .build t ps => Pt E h t (ps.toList.map fun p => (p.1, gt p.2)) K1
 | .buildSlice t n ps => bif E.nest then Wg E h t n (ps.toList.map fun p => (p.1, gt p.2)) K else XI E h t n (ps.toList.map fun p => (p.1, gt p.2)) K
 | .load t a => (match E.ty t with | some ty => bif OC E a (gt a) then (bif E.opens then LE h ty (gt a) K else UV h ty (gt a) K1) else none | none => none)
 | .store t a x => (match E.ty t with
  | some ty => (bif E.nest then Zco (E.vt 999995) h ty (gt a) (gt x) (fun h => K (.tup []) h) else MX h ty (gt a) (gt x) fun h => K (.tup []) h)
  | none => none)
 | .binOp op t x y _ => Zcl E h op t (gt x) (gt y) K1
 | .unOp op _ x => Zjm op (gt x) K1
 | .nilCheck x => bif OC E x (gt x) then Vm h (gt x) K1 else none
 | .convert src dst x => Zho E h src dst (gt x) K1
 | .makeFunc (.func f) fs cs => bif fs.toList.isEmpty then K1 (.fn f (cs.toList.map gt)) else none
 | .makeSlice t n c => W9 E h t (gt n) (gt c) K
 | .slice t x lo hi none => bif E.far then Zcm E h t (gt x) (lo.map gt) (hi.map gt) K1 else MW E h t (gt x) (lo.map gt) (hi.map gt) K1
 | .slice t x lo (some hi) (some mx) => bif E.far then LD E h t (gt x) (lo.map gt) (gt hi) (gt mx) K1 else none
 | .fieldAddr t x f => bif OC E x (gt x) then Wu E h t (gt x) f K1 else none
 | .field t x f => Ps E h t (gt x) f K1
 | .indexAddr t x i => VQ E h t (gt x) (gt i) K1
 | .index t x i => Zcn E t (gt x) (gt i) K1
 | .extract x i => (match gt x with
  | .tup l => (match nth l i with | some v => K1 v | none => none)
  | _ => none)
 | .call c => (match c.callee with
  | .value f => (match gt f with
   | .fn g cap => FJ E g (c.args.toList.map gt ++ cap) h K
   | _ => none)
  | .builtin .len => (match c.args.toList, c.argTypes.toList with | [x], [t] => Zof E h t (gt x) K1 | _, _ => none)
  | .builtin .append => (match c.args.toList, c.argTypes.toList with
   | [x, y], [t, t'] => bif E.far then FK E h t t' (gt x) (gt y) K else (bif E.wide then (bif Pv E t then J2 E Zq5 h t t' (gt x) (gt y) K else none) else (bif E.nest then KU E h t t' (gt x) (gt y) K else QB E h t t' (gt x) (gt y) K))
   | _, _ => none)
  | .builtin .clear => (match c.args.toList, c.argTypes.toList with | [x], [t] => bif E.far then Zcp E h t (gt x) K else none | _, _ => none)
  | .builtin .max => (match c.args.toList with
   | [x, y] => (match asI (gt x), asI (gt y) with
    | some (k, a), some (_, b) => K1 (.val (.int k) (max a b))
    | _, _ => none)
   | _ => none)
  | .builtin .min => (match c.args.toList with
   | [x, y] => (match asI (gt x), asI (gt y) with
    | some (k, a), some (_, b) => K1 (.val (.int k) (min a b))
    | _, _ => none)
   | _ => none)
  | _ => none)
 | _ => none
def Zkx (o : Oper) (s : St) (K : St → Option R) : Option R := ZY E o s.get s.heap fun v h => K (St.put ⟨s.slots, h⟩ o.dst v)
def WG (ops : List Oper) (j : Nat) : Option Tmp := (nth ops j).bind (·.dst)
def LF (ops : List Oper) (o : Oper) (s : St) (K : St → Option R) : Option R :=
 match o.guard with
 | none => Zkx E o s K
 | some (j, want) => match WG ops j with
  | none => none
  | some d => match nth s.slots d with
   | some (.val .bool b) =>
    bif (b : Bool) then
     (bif want then Zkx E o (s.put (some d) (.val .bool true)) K else K ((s.put (some d) (.val .bool true)).put o.dst (.tup [])))
    else
     (bif want then K ((s.put (some d) (.val .bool false)).put o.dst (.tup [])) else Zkx E o (s.put (some d) (.val .bool false)) K)
   | some (.tup []) => K (s.put o.dst (.tup []))
   | _ => none
def Pz (ops : List Oper) : List Oper → St → (St → Option R) → Option R
 | [], s, K => K s
 | o :: l, s, K => LF E ops o s fun s' => Pz ops l s' K
def UW : Op → Bool
 | .move _ => true
 | .assign _ => true
 | .pick _ _ _ => true
 | .unOp _ _ _ => true
 | .extract _ _ => true
 | .call c => (match c.callee with | .builtin .max => true | .builtin .min => true | _ => false)
 | _ => false
def Zq7 : Operand → Bool
 | .const (.int _ _) => true
 | .const (.string _) => true
 | .const (.bool _) => true
 | _ => false
def X4 (E : Env) : Op → Bool
 | .load t a => Zkw E a || !(E.opens && (match E.ty t with | some ty => ty.hasSl | none => false))
 | .fieldAddr _ _ _ => true
 | .nilCheck _ => true
 | .indexAddr _ _ _ => true
 | .index _ _ _ => true
 | .slice _ _ _ _ none => !E.far
 | .field _ _ _ => true
 | .binOp _ t _ y _ => !Vk E t || Zq7 y
 | .build _ _ => true
 | .convert _ _ _ => true
 | .call c => (match c.callee with | .builtin .len => true | .builtin .max => true | .builtin .min => true | _ => false)
 | p => UW p
def Zky : Mode → Bool
 | .ro _ => true
 | _ => false
def Zkz (E : Env) : Op → Bool
 | .alloc _ => true
 | .box _ _ => true
 | .call c => (match c.callee with | .value (.func f) => (match E.tbl f with | some c => !E.opens && (c.fresh && c.modes.all Zky) | none => false) | _ => false)
 | _ => false
def vOp (E : Env) : Op → Bool
 | .load _ a => Zkw E a
 | .fieldAddr _ a _ => Zkw E a
 | .nilCheck a => Zkw E a
 | _ => false
def ZkA (E : Env) : Op → Bool
 | .load _ _ => true
 | .alloc _ => true
 | .box _ _ => true
 | .buildSlice _ _ _ => true
 | .makeSlice _ _ _ => true
 | .call c => (match c.callee with
  | .builtin .append => !(E.far || E.wide)
  | .value (.func f) => (match E.tbl f with | some c => c.modes.all Zky | none => false)
  | _ => false)
 | _ => false
def Zmw (E : Env) : Op → Bool
 | .load _ a => Zkw E a && Zpy E a
 | .fieldAddr _ a _ => Zkw E a && Zpy E a
 | .nilCheck a => Zkw E a && Zpy E a
 | _ => false
def ZkB (E : Env) : Op → Bool
 | .call c => (match c.callee with | .value (.func f) => (E.tbl f).isSome | _ => false)
 | _ => false
def ZkC (E : Env) (c q : Op) : Bool := UW c || UW q || (X4 E c && (X4 E q || Zkz E q)) || (vOp E c && ZkA E q) || (Zmw E c && ZkB E q)
def ZkD (E : Env) (ops : Array Oper) (c q : Nat) : Bool := match nth ops.toList c, nth ops.toList q with
 | some a, some b => a.apart ops b && ZkC E a.op b.op
 | _, _ => false
def FL (m : Region.Mode) (o : Oper) : List Nat := (o.after.toList.filter fun e => Region.binds m e).map (·.on)
def ZdM (l : List Nat) (x : Nat) : Bool := l.any (Nat.beq x)
def HE (l r : List Nat) : List Nat := l ++ r.filter fun x => !(ZdM l x)
def ZnH (ops : List Oper) (acc : List (List Nat)) : List (List Nat) :=
 match ops with
 | [] => acc
 | o :: l => ZnH l (acc ++ [(FL .any o).foldl (fun s e => HE s (e :: (nth acc e).getD [])) []])
def Zq8 (l : List Nat) (x : Nat) : List Nat := l.filter fun y => !(Nat.beq x y)
def YD (tab : List (List Nat)) (q : Nat) : List Nat := (nth tab q).getD []
def ZnI (tab : List (List Nat)) (rem : List Nat) (i : Nat) : Bool := !((YD tab i).any (ZdM rem))
def Zoh (ops : Array Oper) (tab : List (List Nat)) (rem : List Nat) (f : Nat) : List Nat :=
 let bad := rem.filter fun q => !(Nat.beq q f) && !(ZdM (YD tab q) f) && !(ZkD E ops f q)
 f :: rem.filter fun g => !(Nat.beq g f) && ZnI tab rem g && bad.any fun q => Nat.beq g q || ZdM (YD tab q) g
def HF (ops : Array Oper) (tab : List (List Nat)) (cs rem : List Nat) : Bool :=
 cs.all (ZdM rem) && rem.all fun q => ZdM cs q || cs.any (fun c => ZdM (YD tab q) c) || cs.all fun c => ZkD E ops c q
def Zq9 {α : Type} : List α → Bool
 | [_] => true
 | _ => false
def ZmB (ops : Array Oper) (tab : List (List Nat)) (rem : List Nat) : List Nat :=
 let cls := ((rem.filter (ZnI tab rem)).map (Zoh E ops tab rem)).filter fun cs => HF E ops tab cs rem
 match cls.find? Zq9 with
 | some cs => cs
 | none => cls.headD []
def ZdN {α : Type} (f : α → Option R) : List α → Option R
 | [] => none
 | [x] => f x
 | x :: l => Wf (f x) (ZdN f l)
def Zoi (ops : Array Oper) (tab : List (List Nat)) : Nat → List Nat → St → (St → Option R) → Option R
 | _, [], s, K => K s
 | 0, _ :: _, _, _ => none
 | n + 1, f :: rest, s, K =>
  bif HF E ops tab (ZmB E ops tab (f :: rest)) (f :: rest) then
   ZdN (fun c => match nth ops.toList c with
    | some o => LF E ops.toList o s fun s' => Zoi ops tab n (Zq8 (f :: rest) c) s' K
    | none => none) (ZmB E ops tab (f :: rest))
  else none
def Zsc (m : Region.Mode) (ops : List Oper) (idx : List Nat) : Nat → List Nat → List Nat
 | 0, acc => acc
 | n + 1, acc => match idx.find? (fun i => !(ZdM acc i) && ((nth ops i).map fun o => (FL m o).all (ZdM acc)).getD false) with
  | some i => Zsc m ops idx n (acc ++ [i])
  | none => acc
def Zps (m : Region.Mode) (ops : List Oper) : List Nat → List Nat → Bool
 | _, [] => true
 | acc, i :: l => (match nth ops i with | some o => (FL m o).all (ZdM acc) | none => false) && Zps m ops (i :: acc) l
def Kf : Nat → Nat → List Nat
 | _, 0 => []
 | k, n + 1 => k :: Kf (k + 1) n
def HG (m : Region.Mode) (ops : List Oper) : Bool :=
 let t := Zsc m ops (Kf 0 ops.length) ops.length []
 Zps m ops [] t && (Kf 0 ops.length).all (ZdM t)
def Zpz (E : Env) (o : Oper) : Bool := match o.dst, o.op, o.guard with
 | some _, .alloc t, none => (match E.ty t with | some _ => true | none => false)
 | _, _, _ => false
def ZnJ (E : Env) (ops : List Oper) (p : Nat) : Bool := match nth ops p with
 | some o => Zpz E o
 | none => false
def Jh (ops : List Oper) (p q : Nat) : Bool := match WG ops p, WG ops q with
 | some a, some b => !(Nat.beq a b)
 | _, _ => true
def apN (ops : Array Oper) (p q : Nat) : Bool := match nth ops.toList p, nth ops.toList q with
 | some a, some b => a.apart ops b
 | _, _ => false
def ZkE (E : Env) (ops : Array Oper) (tab : List (List Nat)) (p : Nat) : Bool :=
 ZnJ E ops.toList p && (Kf 0 ops.toList.length).all fun y => Nat.beq y p || (Jh ops.toList p y && (ZdM (YD tab y) p || apN ops p y))
def Zjp (E : Env) (ops : Array Oper) (tab : List (List Nat)) (p : Nat) : List Nat :=
 match (Kf 0 tab.length).filter (fun z => ZdM (YD tab z) p) with
 | [] => []
 | z :: zs => (YD tab z).filter fun x => !(ZnJ E ops.toList x) && (!(ZdM (YD tab x) p) && zs.all fun y => ZdM (YD tab y) x)
def ZpA (E : Env) (ops : Array Oper) (tab : List (List Nat)) : List (List Nat) :=
 (Kf 0 tab.length).map fun p => bif ZkE E ops tab p then HE (YD tab p) (Zjp E ops tab p) else YD tab p
def Env.late (E : Env) : Bool := E.vt 999999
def Zsd (E : Env) (ops : Array Oper) : List (List Nat) := bif E.late then ZpA E ops (ZnH ops.toList []) else ZnH ops.toList []
def Zhs (ops : Array Oper) (s : St) (K : St → Option R) : Option R :=
 bif HG .any ops.toList && (!Region.departs ops || (HG .text ops.toList && HG .gc ops.toList)) then
  Zoi E ops (Zsd E ops) ops.toList.length (Kf 0 ops.toList.length) s K
 else none
def Wh : Code → Option Nat
 | .region id _ _ => some id
 | .seq a b => match Wh a with | some i => some i | none => Wh b
 | .cond _ a b => match Wh a with | some i => some i | none => Wh b
 | .block _ b => Wh b
 | .loop b => Wh b
 | .scope b => Wh b
 | _ => none
inductive Ex where
 | normal
 | exit (id : Nat)
 | ret
variable (L : Nat → Option (Lp R))
def ZmC (b : Code) : Option (Lp R) := match Wh b with
 | some i => L (5000000 + i)
 | none => none
def ev : Code → St → (Ex → St → Option R) → Option R
 | .skip, s, K => K .normal s
 | .label _, s, K => K .normal s
 | .region _ ops draw, s, K => bif draw then Zhs E ops s (K .normal) else Pz E ops.toList ops.toList s (K .normal)
 | .seq a b, s, K => ev a s fun e s' => match e with
  | .normal => (match ZmC L b with
   | some l => Er l s'
   | none => ev b s' K)
  | e => K e s'
 | .cond c x y, s, K => (match asB (s.get c) with
  | some b => bif b then ev x s K else ev y s K
  | none => none)
 | .block id c, s, K => ev c s fun e s' => match e with
  | .exit id' => bif Nat.beq id' id then K .normal s' else K (.exit id') s'
  | e => K e s'
 | .loop c, s, _ => (match Wh c with
  | some i => (match L i with | some l => Er l s | none => none)
  | none => none)
 | .exit id, s, K => K (.exit id) s
 | .ret, s, K => K .ret s
 | _, _, _ => none
end
end Go.Sx
namespace Go.Sx
open Go
def Ye {α : Type} (R : α → List Value → List Nat → Prop) : List α → List Value → List Nat → Prop
 | [], cs, S => cs = [] ∧ S = []
 | x :: xs, cs, S => ∃ c1 c2 S1 S2, cs = c1 ++ c2 ∧ S = S1 ++ S2 ∧ R x c1 S1 ∧ Ye R xs c2 S2
def VS (w : World) (A : Addr) (cs : List Value) : Prop :=
 ∀ j c, cs[j]? = some c → w.cell? ⟨A.block, A.off + j, none⟩ = some c
def X5 (w : World) (A : Addr) (n : Nat) (cs : List Value) : Prop :=
 ∃ all e, w.heap[A.block]? = some (.cells all e (0, 0)) ∧ A.off + n ≤ all.size ∧ ∀ j c, cs[j]? = some c → all[A.off + j]? = some c
def TR (im : Nat → Prop) (w : World) (o : Bool) : (t : Ty) → t.den → List Value → List Nat → Prop
 | .int k, x, cs, S => cs = [.int k x] ∧ S = []
 | .bool, x, cs, S => cs = [.bool x] ∧ S = []
 | .str, x, cs, S => cs = [.string x] ∧ S = []
 | .unit, _, cs, S => cs = [] ∧ S = []
 | .pair a b, x, cs, S => ∃ c1 c2 S1 S2, cs = c1 ++ c2 ∧ S = S1 ++ S2 ∧ TR im w o a x.1 c1 S1 ∧ TR im w o b x.2 c2 S2
 | .sl u a, x, cs, S =>
  ∃ A cap, cs = [.slice A (List.length x) cap] ∧ List.length x ≤ cap ∧
   (if (o && u) = true then
    (match A with
    | none => x = [] ∧ cap = 0 ∧ S = []
    | some ad => ad.spot = none ∧ ∃ inner S', S = ad.block :: S' ∧ X5 w ad (cap * a.size) inner ∧ Ye (TR im w true a) x inner S')
   else S = [] ∧ (x ≠ [] → ∃ ad inner, A = some ad ∧ ad.spot = none ∧ im ad.block ∧ VS w ad inner ∧ Ye (TR im w false a) x inner []))
theorem Ye.imp {α : Type} {R R' : α → List Value → List Nat → Prop} :
  ∀ {xs : List α} {cs : List Value} {S : List Nat}, (∀ x c S1, (∀ b ∈ S1, b ∈ S) → R x c S1 → R' x c S1) → Ye R xs cs S → Ye R' xs cs S
 | [], _, _, _, h => h
 | _ :: _, _, _, hi, ⟨c1, c2, S1, S2, h1, h2, h3, h4⟩ =>
  ⟨c1, c2, S1, S2, h1, h2, hi _ _ _ (fun b hb => by subst h2; simp [hb]) h3,
   Ye.imp (fun x c S3 hs hr => hi x c S3 (fun b hb => by subst h2; simp [hs b hb]) hr) h4⟩
theorem Zjq {w w' : World} {b o : Nat} (h : w'.heap[b]? = w.heap[b]?) : w'.cell? ⟨b, o, none⟩ = w.cell? ⟨b, o, none⟩ := by
 simp only [World.cell?, h]
theorem VS.mono {w w' : World} {A : Addr} {cs : List Value} (h : VS w A cs) (hb : w'.heap[A.block]? = w.heap[A.block]?) : VS w' A cs :=
 fun j c hj => (Zjq hb).trans (h j c hj)
theorem X5.mono {w w' : World} {A : Addr} {n : Nat} {cs : List Value} (h : X5 w A n cs) (hb : w'.heap[A.block]? = w.heap[A.block]?) : X5 w' A n cs := by
 obtain ⟨all, e, h1, h2, h3⟩ := h;exact ⟨all, e, hb.trans h1, h2, h3⟩
theorem TR.mono {im im' : Nat → Prop} {w w' : World} (hi : ∀ b, im b → im' b ∧ w'.heap[b]? = w.heap[b]?) :
  ∀ (o : Bool) (t : Ty) (x : t.den) (cs : List Value) (S : List Nat), (∀ b ∈ S, w'.heap[b]? = w.heap[b]?) → TR im w o t x cs S → TR im' w' o t x cs S := by
 intro o t
 induction t generalizing o with
 | int k => intro x cs S _ h; exact h
 | bool => intro x cs S _ h; exact h
 | str => intro x cs S _ h; exact h
 | unit => intro x cs S _ h; exact h
 | pair a b iha ihb =>
  intro x cs S hS h;obtain ⟨c1, c2, S1, S2, h1, h2, h3, h4⟩ := h;subst h2;exact ⟨c1, c2, S1, S2, h1, rfl, iha o _ _ _ (fun b hb => hS b (by simp [hb])) h3, ihb o _ _ _ (fun b hb => hS b (by simp [hb])) h4⟩
 | sl u a iha =>
  intro x cs S hS h;obtain ⟨A, cap, h1, h2, h3⟩ := h;refine ⟨A, cap, h1, h2, ?_⟩
  by_cases hu : (o && u) = true
  ·rw [if_pos hu] at h3 ⊢
   cases A with
   | none => exact h3
   | some ad =>
    obtain ⟨hs, inner, S', h4, h5, h6⟩ := h3;subst h4;refine ⟨hs, inner, S', rfl, h5.mono (hS _ (by simp)), h6.imp ?_⟩;intro y c S1 hs1 hr;exact iha true _ _ _ (fun b hb => hS b (by simp [hs1 b hb])) hr
  ·rw [if_neg hu] at h3 ⊢
   refine ⟨h3.1, fun hx => ?_⟩;obtain ⟨ad, inner, h4, h5, h6, h7, h8⟩ := h3.2 hx;refine ⟨ad, inner, h4, h5, (hi _ h6).1, h7.mono (hi _ h6).2, h8.imp ?_⟩;intro y c S1 hs1 hr;exact iha false _ _ _ (fun b hb => by simpa using hs1 b hb) hr
theorem Ye.len {α : Type} {R : α → List Value → List Nat → Prop} {n : Nat} (hn : ∀ x c S, R x c S → c.length = n) :
  ∀ {xs : List α} {cs : List Value} {S : List Nat}, Ye R xs cs S → cs.length = xs.length * n
 | [], _, _, h => by simp [h.1]
 | _ :: xs, _, _, ⟨c1, c2, _, _, h1, _, h3, h4⟩ => by
  subst h1;simp [hn _ _ _ h3, Ye.len hn h4, Nat.add_mul, Nat.add_comm]
theorem TR.len {im : Nat → Prop} {w : World} : ∀ {o : Bool} {t : Ty} {x : t.den} {cs : List Value} {S : List Nat}, TR im w o t x cs S → cs.length = t.size := by
 intro o t
 induction t with
 | int k => intro x cs S h; simp [h.1, Ty.size]
 | bool => intro x cs S h; simp [h.1, Ty.size]
 | str => intro x cs S h; simp [h.1, Ty.size]
 | unit => intro x cs S h; simp [h.1, Ty.size]
 | pair a b iha ihb =>
  intro x cs S h;obtain ⟨c1, c2, S1, S2, h1, h2, h3, h4⟩ := h;subst h1;simp [iha h3, ihb h4, Ty.size]
 | sl u a _ =>
  intro x cs S h;obtain ⟨A, cap, h1, _⟩ := h;simp [h1, Ty.size]
inductive D where
 | v (blk : Nat)
 | s (A : Option Addr) (cap : Nat) (S : List Nat)
def D.blks : D → List Nat
 | .v b => [b]
 | .s _ _ S => S
abbrev Rho := Nat → Option D
def mkV (t : Ty) (cs : List Value) : Value := if t.isAgg then .agg cs.toArray else cs.headD undef
structure Z where
 im : Nat → Prop
 w : World
 rho : Rho
 h : List Blk
def WK (A : Option Addr) (o : Nat) : Option Addr := A.map fun ad => ⟨ad.block, ad.off + o, none⟩
mutual
def V (z : Z) : SV → Value → Prop
 | .val t x, cv => ∃ cs, TR z.im z.w false t x cs [] ∧ cv = mkV t cs
 | .vl c0 t x, cv => cv = c0 ∧ ∃ cs, TR z.im z.w false t x cs [] ∧ cv = mkV t cs
 | .agg l, cv => ∃ cs : List Value, cv = .agg cs.toArray ∧ VL z l cs
 | .tup l, cv => ∃ cs : List Value, cv = .tuple cs.toArray ∧ VL z l cs
 | .own b v, cv => (∃ A n c, cv = .slice A n c) ∧ (nth z.h b).isSome = true ∧ ∀ v' t n, Kb (nth z.h b) = some (v', t, n) →
   v ≤ v' ∧ (v' = v → ∃ A cap S, z.rho b = some (.s A cap S) ∧ cv = .slice A n cap)
 | .sub b v off m, cv => (∃ A n c, cv = .slice A n c) ∧ (nth z.h b).isSome = true ∧ ∀ v' t n, Kb (nth z.h b) = some (v', t, n) →
   v ≤ v' ∧ (v' = v → off + m ≤ n ∧ ∃ A cap S o cap', z.rho b = some (.s A cap S) ∧
    cv = .slice (WK A o) m cap' ∧ m ≤ cap' ∧ o + cap' * t.size ≤ cap * t.size ∧ (0 < m → o = off * t.size) ∧ (off = 0 → o = 0 ∧ cap' = cap))
 | .nil, cv => cv = .slice none 0 0
 | .ptr b off, cv => (∃ A, cv = .pointer A) ∧ match nth z.h b with
  | some (.vars _) => ∃ blk, z.rho b = some (.v blk) ∧ cv = .pointer (some ⟨blk, off, none⟩)
  | some .lent => ∃ blk, z.rho b = some (.v blk) ∧ cv = .pointer (some ⟨blk, off, none⟩)
  | some _ => True
  | none => False
 | .eptr b v i off, cv => (∃ A, cv = .pointer A) ∧ (nth z.h b).isSome = true ∧ ∀ v' t n, Kb (nth z.h b) = some (v', t, n) →
   v ≤ v' ∧ (v' = v → i < n ∧ ∃ ad cap S, z.rho b = some (.s (some ad) cap S) ∧ cv = .pointer (some ⟨ad.block, ad.off + i * t.size + off, none⟩))
 | .rptr t x off, cv => ∃ (ad : Addr) (cs : List Value), cv = .pointer (some ⟨ad.block, ad.off + off, none⟩) ∧ z.im ad.block ∧ VS z.w ad cs ∧ TR z.im z.w false t x cs []
 | .fn f cap, cv => ∃ cs : List Value, cv = .func (.func f) #[] cs.toArray ∧ VL z cap cs
 | .fr _ _, _ => False
 | .fv _ _, _ => False
 | .io _ _, _ => False
 | .mr _, _ => False
 | .fp _, _ => False
 | .dead, _ => True
def VL (z : Z) : List SV → List Value → Prop
 | [], cs => cs = []
 | x :: l, cs => ∃ c r, cs = c :: r ∧ V z x c ∧ VL z l r
end
def Kd (r r' : Option D) : Prop := ∀ A cap S, r = some (.s A cap S) → ∃ S', r' = some (.s A cap S')
theorem Kd.refl (r : Option D) : Kd r r := fun _ _ S h => ⟨S, h⟩
theorem Kd.trans {r r' r'' : Option D} (h : Kd r r') (h' : Kd r' r'') : Kd r r'' := fun A cap S e => by
 obtain ⟨S', e'⟩ := h A cap S e;exact h' A cap S' e'
theorem Kd.of_eq {r r' : Option D} (h : r' = r) : Kd r r' := fun _ _ S e => ⟨S, h.trans e⟩
def ZX (r r' : Option D) (o o' : Option Blk) : Prop :=
 (o.isSome = true → o'.isSome = true) ∧ (o = some .gone → o' = some .gone) ∧
 (∀ v t n, Kb o = some (v, t, n) → o' = some .gone ∨ ∃ v' t' n', Kb o' = some (v', t', n') ∧ (v < v' ∨ (v' = v ∧ t' = t ∧ n' = n ∧ Kd r r'))) ∧
 ((o = some .lent ∨ ∃ c, o = some (.vars c)) → o' = some .gone ∨ (r' = r ∧ (o' = some .lent ∨ ∃ c, o' = some (.vars c))))
structure Ext (z z' : Z) : Prop where
 im : ∀ b, z.im b → z'.im b ∧ z'.w.heap[b]? = z.w.heap[b]?
 le : ∀ b, ZX (z.rho b) (z'.rho b) (nth z.h b) (nth z'.h b)
theorem ZX.refl (r : Option D) (b : Option Blk) : ZX r r b b :=
 ⟨id, id, fun v t n h => .inr ⟨v, t, n, h, .inr ⟨rfl, rfl, rfl, Kd.refl r⟩⟩, fun h => .inr ⟨rfl, h⟩⟩
theorem ZX.gone {r r' : Option D} {o : Option Blk} : ZX r r' o (some .gone) := ⟨fun _ => rfl, fun _ => rfl, fun _ _ _ _ => .inl rfl, fun _ => .inl rfl⟩
theorem ZX.none {r r' : Option D} {o : Option Blk} : ZX r r' none o :=
 ⟨fun h => (by cases h), fun h => (by cases h), fun _ _ _ h => (by cases h), fun h => (by rcases h with h | ⟨c, h⟩ <;> cases h)⟩
theorem ZX.arr {r r' : Option D} {v v' : Nat} {t t' : Ty} {x : List t.den} {x' : List t'.den} (h : v < v' ∨ (v' = v ∧ t' = t ∧ x'.length = x.length ∧ Kd r r')) : ZX r r' (some (.arr v t x)) (some (.arr v' t' x')) := by
 refine ⟨fun _ => rfl, fun h => (by cases h), fun v1 t1 n1 h1 => ?_, fun h => (by rcases h with h | ⟨c, h⟩ <;> cases h)⟩;simp only [Kb, Blk.info, Option.some.injEq, Prod.mk.injEq] at h1;obtain ⟨rfl, rfl, rfl⟩ := h1;exact .inr ⟨v', t', x'.length, rfl, h⟩
theorem ZX.vars {r : Option D} {c c' : List SV} : ZX r r (some (.vars c)) (some (.vars c')) :=
 ⟨fun _ => rfl, fun h => (by cases h), fun _ _ _ h => (by cases h), fun _ => .inr ⟨rfl, .inr ⟨c', rfl⟩⟩⟩
theorem Va {o : Option Blk} {Q : Nat → Ty → Nat → Prop} {v : Nat} {t : Ty} {x : List t.den} (hb : o = some (.arr v t x)) (h : Q v t x.length) : o.isSome = true ∧ ∀ v' t' n, Kb o = some (v', t', n) → Q v' t' n := by
 subst hb;refine ⟨rfl, fun v' t' n h1 => ?_⟩;simp only [Kb, Blk.info, Option.some.injEq, Prod.mk.injEq] at h1;obtain ⟨rfl, rfl, rfl⟩ := h1;exact h
theorem ZX.back {r r' : Option D} {o o' : Option Blk} (h : ZX r r' o o') (hs : o.isSome = true) {v' : Nat} {t' : Ty} {n' : Nat} (hi : Kb o' = some (v', t', n')) :
  ∃ v t n, Kb o = some (v, t, n) ∧ (v < v' ∨ (v' = v ∧ t' = t ∧ n' = n ∧ Kd r r')) := by
 have no : o' ≠ some .gone := by intro e; rw [e] at hi; cases hi
 cases o with
 | none => cases hs
 | some x =>
  cases hx : x.info with
  | some q =>
   obtain ⟨v, t, n⟩ := q;rcases h.2.2.1 v t n hx with e | ⟨v2, t2, n2, e, hh⟩
   ·exact absurd e no
   ·rw [hi] at e
    simp only [Option.some.injEq, Prod.mk.injEq] at e;obtain ⟨rfl, rfl, rfl⟩ := e;exact ⟨v, t, n, hx, hh⟩
  | none =>
   exfalso;cases x with
   | gone => exact no (h.2.1 rfl)
   | lent =>
    rcases h.2.2.2 (.inl rfl) with e | ⟨_, e | ⟨c, e⟩⟩
    ·exact no e
    ·rw [e] at hi; cases hi
    ·rw [e] at hi; cases hi
   | vars c =>
    rcases h.2.2.2 (.inr ⟨c, rfl⟩) with e | ⟨_, e | ⟨c, e⟩⟩
    ·exact no e
    ·rw [e] at hi; cases hi
    ·rw [e] at hi; cases hi
   | arr v t x => cases hx
   | held v t n => cases hx
   | opn v t x i c => cases hx
theorem Ext.refl (z : Z) : Ext z z := ⟨fun _ h => ⟨h, rfl⟩, fun _ => ZX.refl _ _⟩
theorem ZX.trans {r r' r'' : Option D} {b b' b'' : Option Blk} (h : ZX r r' b b') (h' : ZX r' r'' b' b'') : ZX r r'' b b'' := by
 refine ⟨fun x => h'.1 (h.1 x), fun x => h'.2.1 (h.2.1 x), fun v t n hi => ?_, fun hv => ?_⟩
 ·rcases h.2.2.1 v t n hi with e | ⟨v', t', n', e, hh⟩
  ·exact .inl (h'.2.1 e)
  ·rcases h'.2.2.1 v' t' n' e with f | ⟨v'', t'', n'', f, hh'⟩
   ·exact .inl f
   ·refine .inr ⟨v'', t'', n'', f, ?_⟩
    rcases hh with hh | ⟨h1, h2, h3, h4⟩
    ·rcases hh' with hh' | ⟨k1, _⟩
     ·exact .inl (by omega)
     ·exact .inl (by omega)
    ·rcases hh' with hh' | ⟨k1, k2, k3, k4⟩
     ·exact .inl (by omega)
     ·exact .inr ⟨by omega, k2.trans h2, k3.trans h3, h4.trans k4⟩
 ·rcases h.2.2.2 hv with e | ⟨e, e2⟩
  ·exact .inl (h'.2.1 e)
  ·rcases h'.2.2.2 e2 with f | ⟨f, f2⟩
   ·exact .inl f
   ·exact .inr ⟨f.trans e, f2⟩
theorem Ext.trans {z z' z'' : Z} (h : Ext z z') (h' : Ext z' z'') : Ext z z'' :=
 ⟨fun b hb => ⟨(h'.im b (h.im b hb).1).1, ((h'.im b (h.im b hb).1).2).trans (h.im b hb).2⟩, fun b => (h.le b).trans (h'.le b)⟩
mutual
theorem V.ext {z z' : Z} (he : Ext z z') : ∀ (v : SV) (c : Value), V z v c → V z' v c
 | .val t x, c, h => by
  simp only [V] at h ⊢;obtain ⟨cs, h1, h2⟩ := h;exact ⟨cs, h1.mono he.im _ _ _ _ _ (by simp), h2⟩
 | .vl c0 t x, c, h => by
  simp only [V] at h ⊢;obtain ⟨h0, cs, h1, h2⟩ := h;exact ⟨h0, cs, h1.mono he.im _ _ _ _ _ (by simp), h2⟩
 | .agg l, c, h => by
  simp only [V] at h ⊢;obtain ⟨cs, h1, h2⟩ := h;exact ⟨cs, h1, VL.ext he l cs h2⟩
 | .tup l, c, h => by
  simp only [V] at h ⊢;obtain ⟨cs, h1, h2⟩ := h;exact ⟨cs, h1, VL.ext he l cs h2⟩
 | .own b v, c, h => by
  simp only [V] at h ⊢;obtain ⟨hc, hs, h⟩ := h;have hl := he.le b;refine ⟨hc, hl.1 hs, fun v2 t2 n2 hi2 => ?_⟩;obtain ⟨v1, t1, n1, hi1, hh⟩ := hl.back hs hi2;have h1 := h v1 t1 n1 hi1;rcases hh with hh | ⟨rfl, rfl, rfl, k4⟩
  ·exact ⟨by omega, fun e => by omega⟩
  ·refine ⟨h1.1, fun e => ?_⟩
   obtain ⟨A, cap, S, h3, h4⟩ := h1.2 e;obtain ⟨S', h5⟩ := k4 A cap S h3;exact ⟨A, cap, S', h5, h4⟩
 | .sub b v off n, c, h => by
  simp only [V] at h ⊢;obtain ⟨hc, hs, h⟩ := h;have hl := he.le b;refine ⟨hc, hl.1 hs, fun v2 t2 n2 hi2 => ?_⟩;obtain ⟨v1, t1, n1, hi1, hh⟩ := hl.back hs hi2;have h1 := h v1 t1 n1 hi1;rcases hh with hh | ⟨rfl, rfl, rfl, k4⟩
  ·exact ⟨by omega, fun e => by omega⟩
  ·refine ⟨h1.1, fun e => ?_⟩
   obtain ⟨h5, A, cap, S, o, cap', h3, h4⟩ := h1.2 e;obtain ⟨S', h6⟩ := k4 A cap S h3;exact ⟨h5, A, cap, S', o, cap', h6, h4⟩
 | .nil, c, h => by simp only [V] at h ⊢; exact h
 | .ptr b off, c, h => by
  simp only [V] at h ⊢;obtain ⟨hc, h⟩ := h;refine ⟨hc, ?_⟩;have hl := he.le b;cases h1 : nth z.h b with
  | none => rw [h1] at h; exact h.elim
  | some x =>
   rw [h1] at h hl;have other : (∀ c, x ≠ .vars c) → x ≠ .lent → (match nth z'.h b with | some (.vars _) => ∃ blk, z'.rho b = some (.v blk) ∧ c = .pointer (some ⟨blk, off, none⟩) | some .lent => ∃ blk, z'.rho b = some (.v blk) ∧ c = .pointer (some ⟨blk, off, none⟩) | some _ => True | none => False) := by
    intro n1 n2;have hsome : (nth z'.h b).isSome = true := hl.1 rfl;cases hx : x.info with
    | none =>
     have : x = .gone := by cases x <;> simp_all [Blk.info]
     subst this;rw [hl.2.1 rfl]; trivial
    | some q =>
     obtain ⟨v, t, n⟩ := q;rcases hl.2.2.1 v t n hx with e | ⟨v', t', n', e, _⟩
     ·rw [e]; trivial
     ·cases hb : nth z'.h b with
      | none => rw [hb] at hsome; cases hsome
      | some y => rw [hb] at e; cases y <;> simp [Kb, Blk.info] at e <;> trivial
   have var : (∃ blk, z.rho b = some (.v blk) ∧ c = .pointer (some ⟨blk, off, none⟩)) → (some x = some .lent ∨ ∃ c, some x = some (.vars c)) →
     (match nth z'.h b with | some (.vars _) => ∃ blk, z'.rho b = some (.v blk) ∧ c = .pointer (some ⟨blk, off, none⟩) | some .lent => ∃ blk, z'.rho b = some (.v blk) ∧ c = .pointer (some ⟨blk, off, none⟩) | some _ => True | none => False) := by
    rintro ⟨blk, h3, h4⟩ hx
    rcases hl.2.2.2 hx with e | ⟨hr, e | ⟨c2, e⟩⟩
    ·rw [e]; trivial
    ·rw [e]; exact ⟨blk, hr.trans h3, h4⟩
    ·rw [e]; exact ⟨blk, hr.trans h3, h4⟩
   cases x with
   | vars c1 => exact var h (.inr ⟨c1, rfl⟩)
   | lent => exact var h (.inl rfl)
   | arr v t y => exact other (fun _ e => by cases e) (fun e => by cases e)
   | held v t n => exact other (fun _ e => by cases e) (fun e => by cases e)
   | opn v t x i c => exact other (fun _ e => by cases e) (fun e => by cases e)
   | gone => exact other (fun _ e => by cases e) (fun e => by cases e)
 | .eptr b v i off, c, h => by
  simp only [V] at h ⊢;obtain ⟨hc, hs, h⟩ := h;have hl := he.le b;refine ⟨hc, hl.1 hs, fun v2 t2 n2 hi2 => ?_⟩;obtain ⟨v1, t1, n1, hi1, hh⟩ := hl.back hs hi2;have h1 := h v1 t1 n1 hi1;rcases hh with hh | ⟨rfl, rfl, rfl, k4⟩
  ·exact ⟨by omega, fun e => by omega⟩
  ·refine ⟨h1.1, fun e => ?_⟩
   obtain ⟨h5, ad, cap, S, h3, h4⟩ := h1.2 e;obtain ⟨S', h6⟩ := k4 (some ad) cap S h3;exact ⟨h5, ad, cap, S', h6, h4⟩
 | .rptr t x off, c, h => by
  simp only [V] at h ⊢;obtain ⟨ad, cs, h1, h2, h3, h4⟩ := h;exact ⟨ad, cs, h1, (he.im _ h2).1, h3.mono (he.im _ h2).2, h4.mono he.im _ _ _ _ _ (by simp)⟩
 | .fn f cap, c, h => by
  simp only [V] at h ⊢;obtain ⟨cs, h1, h2⟩ := h;exact ⟨cs, h1, VL.ext he cap cs h2⟩
 | .fr _ _, _, h => by simp [V] at h
 | .fv _ _, _, h => by simp [V] at h
 | .io _ _, _, h => by simp [V] at h
 | .mr _, _, h => by simp [V] at h
 | .fp _, _, h => by simp [V] at h
 | .dead, _, _ => by simp [V]
theorem VL.ext {z z' : Z} (he : Ext z z') : ∀ (l : List SV) (cs : List Value), VL z l cs → VL z' l cs
 | [], cs, h => by simp only [VL] at h ⊢; exact h
 | x :: l, cs, h => by
  simp only [VL] at h ⊢;obtain ⟨c, r, h1, h2, h3⟩ := h;exact ⟨c, r, h1, V.ext he x c h2, VL.ext he l r h3⟩
end
end Go.Sx
namespace Go.Sx
open Go
def ZkF (o : Option Obj) : Prop := ∃ t v e f, o = some (.cells #[.iface t v] e f)
def Zoj : List (Nat × (Option Obj → Prop)) :=
 [(0, fun o => ∃ e f, o = some (.cells (Lib.asciiSpaceTab.map fun z => Value.int .u8 z).toArray e f)),
  (1, fun o => ∃ m e f, o = some (.cells #[.int .i64 m] e f)),
  (6, ZkF), (7, ZkF),
  (5, fun o => ∃ e f, o = some (.cells (Lib.pow10Tab.map fun z => Value.int .u64 z).toArray e f))]
end Go.Sx
namespace Go.Sx
open Go
theorem ZW {α : Type} : ∀ {l : List α} {n : Nat} {x y : α}, nth l n = some x → nth (upd l n y) n = some y
 | _ :: _, 0, _, _, _ => rfl
 | _ :: l, n + 1, _, _, h => ZW (l := l) (n := n) h
theorem ZM {α : Type} : ∀ {l : List α} {n m : Nat} {y : α}, n ≠ m → nth (upd l n y) m = nth l m
 | [], _, _, _, _ => rfl
 | _ :: _, 0, 0, _, h => absurd rfl h
 | _ :: _, 0, _ + 1, _, _ => rfl
 | _ :: _, _ + 1, 0, _, _ => rfl
 | _ :: l, n + 1, m + 1, _, h => ZM (l := l) (n := n) (m := m) (fun e => h (by rw [e]))
theorem M2 {α : Type} : ∀ {l : List α} {n : Nat} {y : α}, nth l n = none → upd l n y = l
 | [], _, _, _ => rfl
 | _ :: _, 0, _, h => by simp [nth] at h
 | x :: l, n + 1, y, h => by simp only [upd]; rw [M2 (l := l) (n := n) h]
theorem ZG {α : Type} : ∀ (l : List α) (n : Nat) (y : α), (upd l n y).length = l.length
 | [], _, _ => rfl
 | _ :: _, 0, _ => rfl
 | _ :: l, n + 1, y => by simp [upd, ZG l n y]
theorem Eu {α : Type} : ∀ (l : List α) (n : Nat), nth l n = l[n]?
 | [], _ => by simp [nth]
 | _ :: _, 0 => by simp [nth]
 | _ :: l, n + 1 => by simp [nth, Eu l n]
theorem Wv {α : Type} {l r : List α} {n : Nat} (h : n < l.length) : nth (l ++ r) n = nth l n := by
 rw [Eu, Eu, List.getElem?_append_left h]
theorem Y6 {α : Type} {l : List α} {n : Nat} : nth l n = none ↔ l.length ≤ n := by rw [Eu]; simp
theorem BU {α : Type} {l : List α} {n : Nat} {x : α} (h : nth l n = some x) : n < l.length := by
 rcases Nat.lt_or_ge n l.length with h1 | h1
 ·exact h1
 ·rw [Y6.2 h1] at h; cases h
theorem XJ {α : Type} (l : List α) (x : α) : nth (l ++ [x]) l.length = some x := by rw [Eu]; simp
def live : Option Blk → Prop
 | some (.vars _) => True
 | some (.arr _ _ _) => True
 | some .lent => True
 | some (.held _ _ _) => True
 | some (.opn _ _ _ _ _) => True
 | _ => False
def UX (rho : Rho) (h : List Blk) (k : Nat) : Prop := ∃ b d, rho b = some d ∧ live (nth h b) ∧ k ∈ d.blks
structure G where
 p : Nat → Prop
 S0 : List Nat
 w0 : World
 bx : List (Nat × Nat)
 ax : List (Nat × (Value × Ty))
def Im (g : G) (rho : Rho) (h : List Blk) (w : World) (k : Nat) : Prop :=
 (g.p k ∨ k ∈ g.S0 ∨ g.w0.heap.size ≤ k) ∧ k < w.heap.size ∧ ¬ UX rho h k
def zOf (g : G) (rho : Rho) (h : List Blk) (w : World) : Z := ⟨Im g rho h w, w, rho, h⟩
def Ev (z : Z) (d : D) : Option Blk → Prop
 | some (.vars c) => ∃ blk cs e, d = .v blk ∧ z.w.heap[blk]? = some (.cells (cs : List Value).toArray e (0, 0)) ∧ VL z c cs
 | some .lent => ∃ blk, d = .v blk
 | some (.held _ _ _) => ∃ A cap S, d = .s A cap S
 | some (.arr _ t x) => ∃ A cap S, d = .s A cap S ∧ TR z.im z.w true (.sl true t) x [.slice A x.length cap] S ∧ 0 < t.size
 | some (.opn _ t x i c) => ∃ (ad : Addr) (cap : Nat) (cs1 cs cs2 : List Value) (S1 S2 : List Nat), d = .s (some ad) cap (ad.block :: (S1 ++ S2)) ∧ ad.spot = none ∧ i < x.length ∧ x.length ≤ cap ∧
   X5 z.w ad (cap * t.size) (cs1 ++ (cs ++ cs2)) ∧ Ye (TR z.im z.w true t) (x.take i) cs1 S1 ∧ VL z c cs ∧ cs.length = t.size ∧ Ye (TR z.im z.w true t) (x.drop (i + 1)) cs2 S2 ∧ 0 < t.size
 | _ => True
def ZkG : Option Obj → Nat × Nat
 | some (.cells _ _ f) => f
 | _ => (0, 0)
structure Frz (w w' : World) : Prop where
 obj : ∀ k : Nat, k < w.heap.size → ZkG w'.heap[k]? = ZkG w.heap[k]? ∨ ZkG w'.heap[k]? = (0, 0)
 os : w'.os = w.os
 out : w'.output = w.output
 le : w.heap.size ≤ w'.heap.size
structure Zhj (w w' : World) : Prop where
 heap : w'.heap = w.heap
 os : w'.os = w.os
 out : w'.output = w.output
theorem Zhj.refl (w : World) : Zhj w w := ⟨rfl, rfl, rfl⟩
theorem Frz.refl (w : World) : Frz w w := ⟨fun _ _ => .inl rfl, rfl, rfl, Nat.le_refl _⟩
theorem Frz.trans {w w' w'' : World} (h : Frz w w') (h' : Frz w' w'') : Frz w w'' := by
 refine ⟨fun k hk => ?_, h'.os.trans h.os, h'.out.trans h.out, Nat.le_trans h.le h'.le⟩;rcases h'.obj k (Nat.lt_of_lt_of_le hk h.le) with e | e
 ·rw [e]; exact h.obj k hk
 ·exact .inr e
theorem Frz.of_eq {w w' : World} (h : Zhj w w') : Frz w w' := ⟨fun k _ => .inl (by rw [h.heap]), h.os, h.out, Nat.le_of_eq (by rw [h.heap])⟩
structure FM (w w' : World) (S : List Nat) : Prop where
 size : w.heap.size ≤ w'.heap.size
 same : ∀ k, k < w.heap.size → k ∉ S → w'.heap[k]? = w.heap[k]?
 frz : Frz w w'
def PA (p : Nat → Prop) (w : World) : Prop := ∀ t ∈ Zoj, p t.1 ∧ t.2 w.heap[t.1]?
structure Inv (g : G) (rho : Rho) (h : List Blk) (w : World) : Prop where
 sim : ∀ b d, rho b = some d → Ev (zOf g rho h w) d (nth h b)
 disj : ∀ b b' d d', rho b = some d → rho b' = some d' → live (nth h b) → live (nth h b') → b ≠ b' → ∀ k ∈ d.blks, k ∉ d'.blks
 nodup : ∀ b d, rho b = some d → live (nth h b) → d.blks.Nodup
 range : ∀ b d, rho b = some d → live (nth h b) → ∀ k ∈ d.blks, k < w.heap.size ∧ (k ∈ g.S0 ∨ g.w0.heap.size ≤ k)
 kept : FM g.w0 w g.S0
 tab : PA (Im g rho h w) w
theorem PA.ext {z z' : Z} (hn : PA z.im z.w) (he : Ext z z') : PA z'.im z'.w := fun t ht =>
 ⟨(he.im t.1 (hn t ht).1).1, by rw [(he.im t.1 (hn t ht).1).2]; exact (hn t ht).2⟩
theorem FM.refl (w : World) (S : List Nat) : FM w w S := ⟨Nat.le_refl _, fun _ _ _ => rfl, Frz.refl w⟩
theorem FM.trans {w w' w'' : World} {S S' : List Nat} (h : FM w w' S) (h' : FM w' w'' S') (hs : ∀ k ∈ S', k ∈ S ∨ w.heap.size ≤ k) : FM w w'' S :=
 ⟨Nat.le_trans h.1 h'.1, fun k hk hn => (h'.2 k (Nat.lt_of_lt_of_le hk h.1) (fun hc => (hs k hc).elim hn (fun hl => Nat.not_le_of_lt hk hl))).trans (h.2 k hk hn), h.3.trans h'.3⟩
theorem Ev.ext {z z' : Z} (he : Ext z z') {d : D} {b : Option Blk} (h : Ev z d b) (hb : live b → ∀ k ∈ d.blks, z'.w.heap[k]? = z.w.heap[k]?) : Ev z' d b := by
 cases b with
 | none => trivial
 | some b =>
  cases b with
  | gone => trivial
  | lent => exact h
  | held v t n => exact h
  | vars c =>
   obtain ⟨blk, cs, e, h1, h2, h3⟩ := h;subst h1;exact ⟨blk, cs, e, rfl, (hb trivial _ (by simp [D.blks])).trans h2, VL.ext he _ _ h3⟩
  | arr v t x =>
   obtain ⟨A, cap, S, h1, h2, h3⟩ := h;subst h1;exact ⟨A, cap, S, rfl, h2.mono he.im _ _ _ _ _ (fun b hk => hb trivial b hk), h3⟩
  | opn v t x i c =>
   obtain ⟨ad, cap, cs1, cs, cs2, S1, S2, h1, h2, h3, h4, h5, h6, h7, h8, h9, h10⟩ := h;subst h1;have hS : ∀ k, k ∈ S1 ∨ k ∈ S2 → z'.w.heap[k]? = z.w.heap[k]? := fun k hk => hb trivial k (by simp only [D.blks, List.mem_cons, List.mem_append]; exact .inr hk);exact ⟨ad, cap, cs1, cs, cs2, S1, S2, rfl, h2, h3, h4, h5.mono (hb trivial _ (by simp [D.blks])),
    h6.imp (fun x c S hs hr => hr.mono he.im _ _ _ _ _ (fun k hk => hS k (.inl (hs k hk)))), VL.ext he _ _ h7, h8,
    h9.imp (fun x c S hs hr => hr.mono he.im _ _ _ _ _ (fun k hk => hS k (.inr (hs k hk)))), h10⟩
theorem UX.mono {rho : Rho} {h h' : List Blk} {k : Nat} (hl : ∀ b, live (nth h' b) → live (nth h b)) (ho : UX rho h' k) : UX rho h k := by
 obtain ⟨b, d, h1, h2, h3⟩ := ho;exact ⟨b, d, h1, hl b h2, h3⟩
theorem ZP {α : Type} (l : List α) (n m : Nat) (y : α) : (n = m ∧ nth (upd l n y) m = some y ∧ (nth l m).isSome) ∨ nth (upd l n y) m = nth l m := by
 by_cases hnm : n = m
 ·subst hnm
  cases h : nth l n with
  | none => right; rw [M2 h, h]
  | some x => left; exact ⟨rfl, ZW h, rfl⟩
 ·right; exact ZM hnm
theorem PB {g : G} {rho : Rho} {h : List Blk} {w : World} (b : Nat) : Ext (zOf g rho h w) (zOf g rho (upd h b .gone) w) where
 im := fun k hk => by
  refine ⟨⟨hk.1, hk.2.1, fun ho => hk.2.2 (ho.mono ?_)⟩, rfl⟩;intro b' hl;rcases ZP h b b' Blk.gone with ⟨_, h2, _⟩ | h2
  ·rw [h2] at hl; exact hl.elim
  ·rwa [h2] at hl
 le := fun b' => by
  show ZX (rho b') (rho b') (nth h b') (nth (upd h b .gone) b');rcases ZP h b b' Blk.gone with ⟨_, h2, h3⟩ | h2
  ·rw [h2]
   exact ZX.gone
  ·rw [h2]; exact ZX.refl _ _
theorem ZkH {g : G} {rho : Rho} {h : List Blk} {w : World} (b : Nat) (hi : Inv g rho h w) : Inv g rho (upd h b .gone) w := by
 have hl : ∀ b', live (nth (upd h b .gone) b') → live (nth h b') ∧ nth (upd h b Blk.gone) b' = nth h b' := by
  intro b' hl;rcases ZP h b b' Blk.gone with ⟨_, h2, _⟩ | h2
  ·rw [h2] at hl; exact hl.elim
  ·rw [h2] at hl; exact ⟨hl, h2⟩
 refine ⟨fun b' d hd => ?_, fun b1 b2 d1 d2 h1 h2 l1 l2 => hi.disj b1 b2 d1 d2 h1 h2 (hl b1 l1).1 (hl b2 l2).1,
  fun b1 d1 h1 l1 => hi.nodup b1 d1 h1 (hl b1 l1).1, fun b1 d1 h1 l1 => hi.range b1 d1 h1 (hl b1 l1).1, hi.kept, PA.ext (z := zOf g rho h w) hi.tab (PB b)⟩
 rcases ZP h b b' Blk.gone with ⟨_, h2, _⟩ | h2
 ·rw [h2]; trivial
 ·rw [h2]; exact (hi.sim b' d hd).ext (PB b) (fun _ _ _ => rfl)
theorem J3 {g : G} {rho : Rho} {w : World} : ∀ (l : List Nat) (h : List Blk), Ext (zOf g rho h w) (zOf g rho (UM h l) w)
 | [], h => Ext.refl _
 | b :: l, h => (PB b).trans (J3 l (upd h b .gone))
theorem HH {g : G} {rho : Rho} {w : World} : ∀ (l : List Nat) (h : List Blk), Inv g rho h w → Inv g rho (UM h l) w
 | [], _, hi => hi
 | b :: l, h, hi => HH l (upd h b .gone) (ZkH b hi)
theorem J4 : ∀ (l : List Nat) (h : List Blk), (UM h l).length = h.length
 | [], _ => rfl
 | b :: l, h => by simp only [UM]; rw [J4 l, ZG]
theorem Kg {b : Nat} : ∀ (l : List Nat) (h : List Blk), b ∉ l → nth (UM h l) b = nth h b
 | [], _, _ => rfl
 | c :: l, h, hn => by
  simp only [List.mem_cons, not_or] at hn;simp only [UM];rw [Kg l _ hn.2, ZM (Ne.symm hn.1)]
theorem Ji {b : Nat} : ∀ (l : List Nat) (h : List Blk), b ∈ l → ¬ live (nth (UM h l) b)
 | c :: l, h, hm => by
  simp only [UM]
  by_cases hbl : b ∈ l
  ·exact Ji l _ hbl
  ·have hbc : b = c := by simpa [hbl] using hm
   subst hbc;rw [Kg l _ hbl];rcases ZP h b b Blk.gone with ⟨_, h2, _⟩ | h2
   ·rw [h2]; exact fun h => h
   ·cases hx : nth h b with
    | none => rw [h2, hx]; exact fun h => h
    | some x => rw [ZW hx]; exact fun h => h
def Yk (rho : Rho) (b : Nat) (d : D) : Rho := fun b' => if b' = b then some d else rho b'
theorem V8 {w : World} {o : Obj} {k : Nat} (hk : k < w.heap.size) : (w.heap.push o)[k]? = w.heap[k]? := by
 rw [Array.getElem?_push]; simp [Nat.ne_of_lt hk]
theorem J5 {w : World} {o : Obj} : (w.heap.push o)[w.heap.size]? = some o := by
 rw [Array.getElem?_push]; simp
def Xm (w : World) (o : Obj) : World := { w with heap := w.heap.push o }
theorem DV (w : World) (o : Obj) (hf : ZkG (some o) = (0, 0)) : Frz w (Xm w o) := by
 refine ⟨fun k _ => ?_, rfl, rfl, by show _ ≤ (w.heap.push o).size; rw [Array.size_push]; omega⟩;show ZkG (w.heap.push o)[k]? = _ ∨ ZkG (w.heap.push o)[k]? = _;rw [Array.getElem?_push]
 split
 ·exact .inr hf
 ·exact .inl rfl
theorem ZK {α : Type} (l : List α) (x : α) (n : Nat) : (n = l.length ∧ nth (l ++ [x]) n = some x) ∨ (n < l.length ∧ nth (l ++ [x]) n = nth l n) ∨ (l.length < n ∧ nth (l ++ [x]) n = none ∧ nth l n = none) := by
 rcases Nat.lt_trichotomy n l.length with h | h | h
 ·exact .inr (.inl ⟨h, Wv h⟩)
 ·subst h; exact .inl ⟨rfl, XJ l x⟩
 ·exact .inr (.inr ⟨h, Y6.2 (by simp; omega), Y6.2 (by omega)⟩)
theorem DW {g : G} {rho : Rho} {h : List Blk} {w : World} (hi : Inv g rho h w) (o : Obj) (nb : Blk) (d : D) (hd : ∀ k ∈ d.blks, k = w.heap.size) :
  Ext (zOf g rho h w) (zOf g (Yk rho h.length d) (h ++ [nb]) (Xm w o)) where
 im := fun k hk => by
  have hlt : k < w.heap.size := hk.2.1;refine ⟨⟨hk.1, by show k < (w.heap.push o).size; rw [Array.size_push]; omega, ?_⟩, V8 hlt⟩
  rintro ⟨b, d', h1, h2, h3⟩
  rcases ZK h nb b with ⟨e, _⟩ | ⟨e, h4⟩ | ⟨_, h4, _⟩
  ·subst e
   simp only [Yk, if_pos] at h1;cases h1;have := hd k h3;omega
  ·have : b ≠ h.length := by omega
   simp only [Yk, if_neg this] at h1;rw [h4] at h2;exact hk.2.2 ⟨b, d', h1, h2, h3⟩
  ·rw [h4] at h2; exact h2.elim
 le := fun b => by
  show ZX (rho b) (Yk rho h.length d b) (nth h b) (nth (h ++ [nb]) b);rcases ZK h nb b with ⟨e, h4⟩ | ⟨e, h4⟩ | ⟨_, h4, h5⟩
  ·subst e; rw [Y6.2 (Nat.le_refl _)]; exact ZX.none
  ·have : b ≠ h.length := by omega
   rw [h4]; simp only [Yk, if_neg this]; exact ZX.refl _ _
  ·rw [h5]; exact ZX.none
theorem Zcq {g : G} {rho : Rho} {h : List Blk} {w : World} (hi : Inv g rho h w) (o : Obj) (nb : Blk) (d : D) (hd : ∀ k ∈ d.blks, k = w.heap.size) (hnd : d.blks.Nodup)
  (hs : Ev (zOf g (Yk rho h.length d) (h ++ [nb]) (Xm w o)) d (some nb)) (hfz : ZkG (some o) = (0, 0) := by rfl) : Inv g (Yk rho h.length d) (h ++ [nb]) (Xm w o) := by
 have he := DW hi o nb d hd;have hsz : (Xm w o).heap.size = w.heap.size + 1 := by simp [Xm]
 have old : ∀ b d', Yk rho h.length d b = some d' → live (nth (h ++ [nb]) b) → (b = h.length ∧ d' = d) ∨ (b < h.length ∧ rho b = some d' ∧ live (nth h b)) := by
  intro b d' h1 h2;rcases ZK h nb b with ⟨e, _⟩ | ⟨e, h4⟩ | ⟨_, h4, _⟩
  ·subst e; simp only [Yk, if_pos] at h1; cases h1; exact .inl ⟨rfl, rfl⟩
  ·have : b ≠ h.length := by omega
   simp only [Yk, if_neg this] at h1;rw [h4] at h2;exact .inr ⟨e, h1, h2⟩
  ·rw [h4] at h2; exact h2.elim
 refine ⟨?_, ?_, ?_, ?_, ?_, PA.ext (z := zOf g rho h w) hi.tab he⟩
 ·intro b d' h1
  rcases ZK h nb b with ⟨e, h4⟩ | ⟨e, h4⟩ | ⟨_, h4, _⟩
  ·subst e; simp only [Yk, if_pos] at h1; cases h1; rw [h4]; exact hs
  ·have hne : b ≠ h.length := by omega
   simp only [Yk, if_neg hne] at h1;rw [h4];refine (hi.sim b d' h1).ext he (fun hl k hk => ?_);exact V8 (hi.range b d' h1 hl k hk).1
  ·rw [h4]; trivial
 ·intro b1 b2 d1 d2 h1 h2 l1 l2 hne k hk hk2
  rcases old b1 d1 h1 l1 with ⟨e1, e2⟩ | ⟨e1, e2, e3⟩ <;> rcases old b2 d2 h2 l2 with ⟨f1, f2⟩ | ⟨f1, f2, f3⟩
  ·exact hne (e1.trans f1.symm)
  ·subst e2; have := hd k hk; have := (hi.range b2 d2 f2 f3 k hk2).1; omega
  ·subst f2; have := hd k hk2; have := (hi.range b1 d1 e2 e3 k hk).1; omega
  ·exact hi.disj b1 b2 d1 d2 e2 f2 e3 f3 hne k hk hk2
 ·intro b1 d1 h1 l1
  rcases old b1 d1 h1 l1 with ⟨_, e2⟩ | ⟨_, e2, e3⟩
  ·subst e2; exact hnd
  ·exact hi.nodup b1 d1 e2 e3
 ·intro b1 d1 h1 l1 k hk
  rcases old b1 d1 h1 l1 with ⟨_, e2⟩ | ⟨_, e2, e3⟩
  ·subst e2; have := hd k hk; exact ⟨by omega, .inr (by have := hi.kept.1; omega)⟩
  ·have := hi.range b1 d1 e2 e3 k hk; exact ⟨by omega, this.2⟩
 ·refine ⟨by have := hi.kept.1; omega, fun k hk hn => ?_, hi.kept.3.trans (DV w o hfz)⟩
  exact (V8 (Nat.lt_of_lt_of_le hk hi.kept.1)).trans (hi.kept.2 k hk hn)
end Go.Sx
namespace Go.Sx
open Go
theorem Ty.eqv_agg : ∀ {s t : Ty}, s.eqv t = true → s.isAgg = t.isAgg
 | .int _, .int _, _ => rfl
 | .bool, .bool, _ => rfl
 | .str, .str, _ => rfl
 | .unit, .unit, _ => rfl
 | .pair _ _, .pair _ _, _ => rfl
 | .sl _ _, .sl _ _, _ => rfl
theorem Ty.eqv_size : ∀ {s t : Ty}, s.eqv t = true → s.size = t.size
 | .int _, .int _, _ => rfl
 | .bool, .bool, _ => rfl
 | .str, .str, _ => rfl
 | .unit, .unit, _ => rfl
 | .pair a b, .pair c d, h => by
  simp only [Ty.eqv, Bool.and_eq_true] at h;simp only [Ty.size, Ty.eqv_size h.1, Ty.eqv_size h.2]
 | .sl _ _, .sl _ _, _ => rfl
theorem Zfm {α β : Type} (e : α = β) {R : α → List Value → List Nat → Prop} {R' : β → List Value → List Nat → Prop}
  (h : ∀ x c S, R x c S → R' (cast e x) c S) {xs : List α} {cs : List Value} {S : List Nat} (hr : Ye R xs cs S) : Ye R' (cast (congrArg List e) xs) cs S := by
 subst e;exact hr.imp (fun x c S1 _ hx => h x c S1 hx)
theorem PC {α β : Type} (e : α = β) (xs : List α) : (cast (congrArg List e) xs).length = xs.length := by subst e; rfl
theorem ZmD {α β : Type} (e : α = β) (xs : List α) : cast (congrArg List e) xs = [] ↔ xs = [] := by subst e; rfl
theorem ZmE {α β γ δ : Type} (e : α = γ) (f : β = δ) (x : α × β) : (cast (by rw [e, f]) x : γ × δ).1 = cast e x.1 := by subst e; subst f; rfl
theorem ZmF {α β γ δ : Type} (e : α = γ) (f : β = δ) (x : α × β) : (cast (by rw [e, f]) x : γ × δ).2 = cast f x.2 := by subst e; subst f; rfl
theorem TR.castD {im : Nat → Prop} {w : World} : ∀ {s t : Ty} (h : s.eqv t = true) {x : s.den} {cs : List Value}, TR im w false s x cs [] → TR im w false t (castD h x) cs []
 | .int k, .int k', h, x, cs, hr => by
  have : k = k' := by simpa [Ty.eqv] using h
  subst this; exact hr
 | .bool, .bool, _, _, _, hr => hr
 | .str, .str, _, _, _, hr => hr
 | .unit, .unit, _, _, _, hr => hr
 | .pair a b, .pair c d, h, x, cs, hr => by
  have h' := h;simp only [Ty.eqv, Bool.and_eq_true] at h';obtain ⟨c1, c2, S1, S2, h1, h2, h3, h4⟩ := hr;have e1 : S1 = [] := by have := h2.symm; simp at this; exact this.1
  have e2 : S2 = [] := by have := h2.symm; simp at this; exact this.2
  subst e1; subst e2;refine ⟨c1, c2, [], [], h1, rfl, ?_, ?_⟩
  ·have := TR.castD h'.1 h3
   rw [show (Sx.castD h x : c.den × d.den).1 = Sx.castD h'.1 x.1 from ZmE (Ty.den_eqv h'.1) (Ty.den_eqv h'.2) x];exact this
  ·have := TR.castD h'.2 h4
   rw [show (Sx.castD h x : c.den × d.den).2 = Sx.castD h'.2 x.2 from ZmF (Ty.den_eqv h'.1) (Ty.den_eqv h'.2) x];exact this
 | .sl u a, .sl u' b, h, x, cs, hr => by
  have h' : a.eqv b = true := h;obtain ⟨A, cap, h1, h2, h3⟩ := hr;have e := Ty.den_eqv h';have hl : (Sx.castD h x : List b.den).length = List.length x := PC e x;simp only [Bool.false_and, Bool.false_eq_true, if_false] at h3;refine ⟨A, cap, by rw [hl]; exact h1, by rw [hl]; exact h2, ?_⟩;simp only [Bool.false_and, Bool.false_eq_true, if_false];refine ⟨trivial, fun hx => ?_⟩;obtain ⟨ad, inner, h4, h5, h6, h7, h8⟩ := h3.2 (fun hn => hx ((ZmD e x).2 hn));refine ⟨ad, inner, h4, h5, h6, h7, ?_⟩;have h9 : Ye (fun y c S => S = [] ∧ TR im w false a y c []) x inner [] := h8.imp (fun y c S1 hs hr => by
   have : S1 = [] := List.eq_nil_iff_forall_not_mem.2 (fun b hb => by simpa using hs b hb);subst this; exact ⟨rfl, hr⟩)
  exact Zfm e (fun y c S hy => by obtain ⟨rfl, hy⟩ := hy; exact TR.castD h' hy) h9
theorem Zok {s t : Ty} (h : s.eqv t = true) (cs : List Value) : mkV s cs = mkV t cs := by unfold mkV; rw [Ty.eqv_agg h]
theorem Zfn {im : Nat → Prop} {w : World} {s t : Ty} {x : s.den} {y : t.den} (h : toD s t x = some y) {cs : List Value} (hr : TR im w false s x cs []) :
  TR im w false t y cs [] ∧ mkV s cs = mkV t cs := by
 unfold toD at h
 split at h
 ·rename_i he
  cases h;exact ⟨hr.castD he, Zok he cs⟩
 ·cases h
theorem VS.of_block {w : World} {A : Addr} {n : Nat} {cs : List Value} (h : X5 w A n cs) : VS w A cs := by
 obtain ⟨all, e, h1, h2, h3⟩ := h;intro j c hj;simp only [World.cell?, h1, Option.isSome_none, Bool.false_eq_true, if_false];exact h3 j c hj
theorem TR.weak {im im' : Nat → Prop} {w : World} (hi : ∀ b, im b → im' b) : ∀ (t : Ty) (x : t.den) (cs : List Value) (S : List Nat) (o : Bool), (∀ b ∈ S, im' b) →
  TR im w o t x cs S → TR im' w false t x cs [] := by
 intro t
 induction t with
 | int k => intro x cs S o _ h; exact ⟨h.1, rfl⟩
 | bool => intro x cs S o _ h; exact ⟨h.1, rfl⟩
 | str => intro x cs S o _ h; exact ⟨h.1, rfl⟩
 | unit => intro x cs S o _ h; exact ⟨h.1, rfl⟩
 | pair a b iha ihb =>
  intro x cs S o hS h;obtain ⟨c1, c2, S1, S2, h1, h2, h3, h4⟩ := h;subst h2;exact ⟨c1, c2, [], [], h1, rfl, iha _ _ _ o (fun b hb => hS b (by simp [hb])) h3, ihb _ _ _ o (fun b hb => hS b (by simp [hb])) h4⟩
 | sl u a iha =>
  intro x cs S o hS h;obtain ⟨A, cap, h1, h2, h3⟩ := h;refine ⟨A, cap, h1, h2, ?_⟩;simp only [Bool.false_and, Bool.false_eq_true, if_false];refine ⟨trivial, fun hx => ?_⟩;have Zkr : ∀ {l : List a.den} {cs : List Value} {S : List Nat}, Ye (fun y c S1 => TR im' w false a y c []) l cs S → Ye (TR im' w false a) l cs [] := by
   intro l
   induction l with
   | nil => intro cs S h; exact ⟨h.1, rfl⟩
   | cons y l ih =>
    intro cs S h;obtain ⟨c1, c2, S1, S2, k1, _, k3, k4⟩ := h;exact ⟨c1, c2, [], [], k1, rfl, k3, ih k4⟩
  by_cases hu : (o && u) = true
  ·rw [if_pos hu] at h3
   cases A with
   | none => exact absurd h3.1 hx
   | some ad =>
    obtain ⟨hs, inner, S', h4, h5, h6⟩ := h3;subst h4;refine ⟨ad, inner, rfl, hs, hS _ (by simp), VS.of_block h5, Zkr (S := S') (h6.imp ?_)⟩;intro y c S1 hs1 hr;exact iha _ _ S1 true (fun b hb => hS b (by simp [hs1 b hb])) hr
  ·rw [if_neg hu] at h3
   obtain ⟨ad, inner, h4, h5, h6, h7, h8⟩ := h3.2 hx;refine ⟨ad, inner, h4, h5, hi _ h6, h7, Zkr (S := []) (h8.imp ?_)⟩;intro y c S1 hs1 hr;exact iha _ _ S1 false (fun b hb => by simpa using hs1 b hb) hr
theorem TR.noUq {im : Nat → Prop} {w : World} : ∀ {t : Ty} {x : t.den} {cs : List Value} {S : List Nat}, t.noUq = true → TR im w true t x cs S → S = [] ∧ TR im w false t x cs [] := by
 intro t
 induction t with
 | int k => intro x cs S _ h; exact ⟨h.2, h.1, rfl⟩
 | bool => intro x cs S _ h; exact ⟨h.2, h.1, rfl⟩
 | str => intro x cs S _ h; exact ⟨h.2, h.1, rfl⟩
 | unit => intro x cs S _ h; exact ⟨h.2, h.1, rfl⟩
 | pair a b iha ihb =>
  intro x cs S hn h;simp only [Ty.noUq, Bool.and_eq_true] at hn;obtain ⟨c1, c2, S1, S2, h1, h2, h3, h4⟩ := h;obtain ⟨e1, k1⟩ := iha hn.1 h3;obtain ⟨e2, k2⟩ := ihb hn.2 h4;exact ⟨by rw [h2, e1, e2]; rfl, c1, c2, [], [], h1, rfl, k1, k2⟩
 | sl u a _ =>
  intro x cs S hn h;simp only [Ty.noUq, Bool.and_eq_true, Bool.not_eq_true'] at hn;obtain ⟨A, cap, h1, h2, h3⟩ := h;rw [hn.1] at h3;simp only [Bool.and_false, Bool.false_eq_true, if_false] at h3;refine ⟨h3.1, A, cap, h1, h2, ?_⟩;simp only [Bool.false_and, Bool.false_eq_true, if_false];exact ⟨trivial, h3.2⟩
theorem Ye.noUq {im : Nat → Prop} {w : World} {t : Ty} (hn : t.noUq = true) : ∀ {xs : List t.den} {cs : List Value} {S : List Nat}, Ye (TR im w true t) xs cs S → S = [] ∧ Ye (TR im w false t) xs cs []
 | [], _, _, h => ⟨h.2, h.1, rfl⟩
 | _ :: _, _, _, ⟨c1, c2, S1, S2, h1, h2, h3, h4⟩ => by
  obtain ⟨e1, k1⟩ := h3.noUq hn;obtain ⟨e2, k2⟩ := Ye.noUq hn h4;exact ⟨by rw [h2, e1, e2]; rfl, c1, c2, [], [], h1, rfl, k1, k2⟩
theorem TR.ofRo {im : Nat → Prop} {w : World} : ∀ {t : Ty} {x : t.den} {cs : List Value}, t.noUq = true → TR im w false t x cs [] → TR im w true t x cs [] := by
 intro t
 induction t with
 | int k => intro x cs _ h; exact h
 | bool => intro x cs _ h; exact h
 | str => intro x cs _ h; exact h
 | unit => intro x cs _ h; exact h
 | pair a b iha ihb =>
  intro x cs hn h;simp only [Ty.noUq, Bool.and_eq_true] at hn;obtain ⟨c1, c2, S1, S2, h1, h2, h3, h4⟩ := h;have e : S1 = [] ∧ S2 = [] := by have := h2.symm; simpa using this
  obtain ⟨rfl, rfl⟩ := e;exact ⟨c1, c2, [], [], h1, rfl, iha hn.1 h3, ihb hn.2 h4⟩
 | sl u a _ =>
  intro x cs hn h;simp only [Ty.noUq, Bool.and_eq_true, Bool.not_eq_true'] at hn;obtain ⟨A, cap, h1, h2, h3⟩ := h;simp only [Bool.false_and, Bool.false_eq_true, if_false] at h3;refine ⟨A, cap, h1, h2, ?_⟩;rw [hn.1];simp only [Bool.and_false, Bool.false_eq_true, if_false];exact h3
theorem Ye.ofRo {im : Nat → Prop} {w : World} {t : Ty} (hn : t.noUq = true) : ∀ {xs : List t.den} {cs : List Value}, Ye (TR im w false t) xs cs [] → Ye (TR im w true t) xs cs []
 | [], _, h => h
 | _ :: _, _, ⟨c1, c2, S1, S2, h1, h2, h3, h4⟩ => by
  have e : S1 = [] ∧ S2 = [] := by have := h2.symm; simpa using this
  obtain ⟨rfl, rfl⟩ := e;exact ⟨c1, c2, [], [], h1, rfl, h3.ofRo hn, Ye.ofRo hn h4⟩
theorem Ye.drop {α : Type} {R : α → List Value → List Nat → Prop} {n : Nat} (hn : ∀ x c S, R x c S → c.length = n) :
  ∀ (k : Nat) {xs : List α} {cs : List Value}, Ye R xs cs [] → Ye R (xs.drop k) (cs.drop (k * n)) []
 | 0, xs, cs, h => by simpa using h
 | k + 1, [], cs, h => by
  obtain ⟨h1, _⟩ := h; subst h1; simp [Ye]
 | k + 1, x :: xs, cs, ⟨c1, c2, S1, S2, h1, h2, h3, h4⟩ => by
  have e2 : S2 = [] := by have := h2.symm; simp at this; exact this.2
  subst e2;have := Ye.drop hn k h4;subst h1;have hl := hn _ _ _ h3;simp only [List.drop_succ_cons];rw [show (k + 1) * n = c1.length + k * n by rw [hl, Nat.add_mul]; omega];rw [List.drop_append, List.drop_eq_nil_of_le (Nat.le_add_right _ _)];simpa using this
theorem Ye.take {α : Type} {R : α → List Value → List Nat → Prop} {n : Nat} (hn : ∀ x c S, R x c S → c.length = n) :
  ∀ (k : Nat) {xs : List α} {cs : List Value}, Ye R xs cs [] → Ye R (xs.take k) (cs.take (k * n)) []
 | 0, xs, cs, _ => by simp [Ye]
 | k + 1, [], cs, h => by
  obtain ⟨h1, _⟩ := h; subst h1; simp [Ye]
 | k + 1, x :: xs, cs, ⟨c1, c2, S1, S2, h1, h2, h3, h4⟩ => by
  have e : S1 = [] ∧ S2 = [] := by have := h2.symm; simpa using this
  obtain ⟨rfl, rfl⟩ := e;have := Ye.take hn k h4;subst h1;have hl := hn _ _ _ h3;simp only [List.take_succ_cons];rw [show (k + 1) * n = c1.length + k * n by rw [hl, Nat.add_mul]; omega];rw [List.take_append];refine ⟨c1, c2.take (k * n), [], [], ?_, rfl, h3, this⟩;rw [List.take_of_length_le (by omega)]; congr 1; congr 1; omega
theorem Ye.get {α : Type} {R : α → List Value → List Nat → Prop} {n : Nat} (hn : ∀ x c S, R x c S → c.length = n) :
  ∀ (i : Nat) {xs : List α} {cs : List Value} {y : α}, Ye R xs cs [] → nth xs i = some y → R y ((cs.drop (i * n)).take n) []
 | _, [], _, _, _, h => by simp [nth] at h
 | 0, x :: xs, cs, y, ⟨c1, c2, S1, S2, h1, h2, h3, h4⟩, h => by
  have e : S1 = [] ∧ S2 = [] := by have := h2.symm; simpa using this
  obtain ⟨rfl, rfl⟩ := e;simp only [nth, Option.some.injEq] at h;subst h; subst h1;have hl := hn _ _ _ h3;simp [← hl];exact h3
 | i + 1, x :: xs, cs, y, ⟨c1, c2, S1, S2, h1, h2, h3, h4⟩, h => by
  have e : S1 = [] ∧ S2 = [] := by have := h2.symm; simpa using this
  obtain ⟨rfl, rfl⟩ := e;have := Ye.get hn i h4 (y := y) h;subst h1;have hl := hn _ _ _ h3;rw [show (i + 1) * n = c1.length + i * n by rw [hl, Nat.add_mul]; omega, List.drop_append, List.drop_eq_nil_of_le (Nat.le_add_right _ _)];simpa using this
theorem VS.part {w : World} {A : Addr} {cs : List Value} (h : VS w A cs) (o n : Nat) : VS w ⟨A.block, A.off + o, none⟩ ((cs.drop o).take n) := by
 intro j c hj;rw [List.getElem?_take] at hj
 split at hj
 ·rw [List.getElem?_drop] at hj
  have := h (o + j) c hj;rw [show A.off + o + j = A.off + (o + j) by omega]; exact this
 ·cases hj
theorem TR.part {im : Nat → Prop} {w : World} {u : Bool} {a : Ty} {x : List a.den} {A : Option Addr} {cap : Nat}
  (h : TR im w false (.sl u a) x [.slice A x.length cap] []) (off n : Nat) (hn : off + n ≤ x.length) {A' : Option Addr} {c' : Nat} (hc : n ≤ c')
  (hA : 0 < n → A' = WK A (off * a.size)) : TR im w false (.sl u a) ((x.drop off).take n) [.slice A' n c'] [] := by
 obtain ⟨A1, cap1, h1, h2, h3⟩ := h;have hlen : ((x.drop off).take n).length = n := by simp; omega
 simp only [List.cons.injEq, and_true, Value.slice.injEq] at h1;obtain ⟨rfl, _, rfl⟩ := h1;refine ⟨A', c', by rw [hlen], by rw [hlen]; exact hc, ?_⟩;simp only [Bool.false_and, Bool.false_eq_true, if_false] at h3 ⊢;refine ⟨trivial, fun hx => ?_⟩;have hn0 : 0 < n := by
  rcases Nat.eq_zero_or_pos n with h0 | h0
  ·subst h0; simp at hx
  ·exact h0
 have hx0 : x ≠ [] := by intro e; subst e; simp at hn; omega
 obtain ⟨ad, inner, h4, h5, h6, h7, h8⟩ := h3.2 hx0;subst h4;refine ⟨⟨ad.block, ad.off + off * a.size, none⟩, (inner.drop (off * a.size)).take (n * a.size), hA hn0, rfl, h6, h7.part _ _, ?_⟩;exact Ye.take (fun _ _ _ hr => hr.len) n (Ye.drop (fun _ _ _ hr => hr.len) off h8)
theorem VL.append {z : Z} : ∀ {l l' : List SV} {c c' : List Value}, VL z l c → VL z l' c' → VL z (l ++ l') (c ++ c')
 | [], _, c, c', h, h' => by simp only [VL] at h; subst h; simpa using h'
 | x :: l, _, c, c', h, h' => by
  simp only [VL] at h;obtain ⟨a, r, h1, h2, h3⟩ := h;subst h1;simp only [List.cons_append, VL];exact ⟨a, r ++ c', rfl, h2, VL.append h3 h'⟩
theorem VL.length {z : Z} : ∀ {l : List SV} {c : List Value}, VL z l c → l.length = c.length
 | [], c, h => by simp only [VL] at h; subst h; rfl
 | x :: l, c, h => by
  simp only [VL] at h;obtain ⟨a, r, h1, h2, h3⟩ := h;subst h1;simp [VL.length h3]
theorem VL.get {z : Z} : ∀ {l : List SV} {c : List Value} {i : Nat} {x : SV}, VL z l c → nth l i = some x → ∃ u, c[i]? = some u ∧ V z x u
 | [], _, _, _, _, h => by simp [nth] at h
 | y :: l, c, i, x, h, hx => by
  simp only [VL] at h;obtain ⟨a, r, h1, h2, h3⟩ := h;subst h1;cases i with
  | zero => simp only [nth, Option.some.injEq] at hx; subst hx; exact ⟨a, rfl, h2⟩
  | succ i => obtain ⟨u, hu, hv⟩ := VL.get h3 (i := i) hx; exact ⟨u, by simpa using hu, hv⟩
theorem VL.drop {z : Z} : ∀ (k : Nat) {l : List SV} {c : List Value}, VL z l c → VL z (l.drop k) (c.drop k)
 | 0, _, _, h => by simpa using h
 | k + 1, [], c, h => by simp only [VL] at h; subst h; simp [VL]
 | k + 1, x :: l, c, h => by
  simp only [VL] at h;obtain ⟨a, r, h1, _, h3⟩ := h;subst h1;simpa using VL.drop k h3
theorem VL.take {z : Z} : ∀ (k : Nat) {l : List SV} {c : List Value}, VL z l c → VL z (l.take k) (c.take k)
 | 0, _, _, _ => by simp [VL]
 | k + 1, [], c, h => by simp only [VL] at h; subst h; simp [VL]
 | k + 1, x :: l, c, h => by
  simp only [VL] at h;obtain ⟨a, r, h1, h2, h3⟩ := h;subst h1;simp only [List.take_succ_cons, VL];exact ⟨a, _, rfl, h2, VL.take k h3⟩
theorem VL.cut {z : Z} {l : List SV} {c : List Value} (h : VL z l c) (o n : Nat) : VL z (Sx.cut l o n) ((c.drop o).take n) := (h.drop o).take n
theorem VL.split {z : Z} : ∀ {l l' : List SV} {c : List Value}, VL z (l ++ l') c → ∃ c1 c2, c = c1 ++ c2 ∧ VL z l c1 ∧ VL z l' c2
 | [], _, c, h => ⟨[], c, rfl, by simp [VL], h⟩
 | x :: l, l', c, h => by
  simp only [List.cons_append, VL] at h;obtain ⟨a, r, h1, h2, h3⟩ := h;obtain ⟨c1, c2, h4, h5, h6⟩ := VL.split h3;subst h1; subst h4;refine ⟨a :: c1, c2, rfl, ?_, h6⟩;simp only [VL];exact ⟨a, c1, rfl, h2, h5⟩
def one : Value → Bool
 | .agg _ => false
 | .tuple _ => false
 | _ => true
theorem PD {c : Value} (h : one c = true) : c.cells = #[c] := by cases c <;> first | rfl | cases h
theorem TR.scalar {im : Nat → Prop} {w : World} {o : Bool} : ∀ {t : Ty} {x : t.den} {cs : List Value} {S : List Nat}, t.isAgg = false → TR im w o t x cs S → ∃ c, cs = [c] ∧ one c = true
 | .int _, _, _, _, _, h => ⟨_, h.1, rfl⟩
 | .bool, _, _, _, _, h => ⟨_, h.1, rfl⟩
 | .str, _, _, _, _, h => ⟨_, h.1, rfl⟩
 | .unit, _, _, _, ha, _ => by cases ha
 | .pair _ _, _, _, _, ha, _ => by cases ha
 | .sl _ _, _, _, _, _, h => by obtain ⟨A, cap, h1, _⟩ := h; exact ⟨_, h1, rfl⟩
theorem TR.cells_V {z : Z} : ∀ {t : Ty} {x : t.den} {cs : List Value}, TR z.im z.w false t x cs [] → VL z (cellsOf t x) cs := by
 intro t;have XE : ∀ {t : Ty} {x : t.den} {cs : List Value}, t.isAgg = false → TR z.im z.w false t x cs [] → VL z [.val t x] cs := by
  intro t x cs ha h;obtain ⟨c, h1, _⟩ := h.scalar ha;subst h1;simp only [VL, V];exact ⟨c, [], rfl, ⟨[c], h, by simp [mkV, ha]⟩, rfl⟩
 induction t with
 | int k => intro x cs h; exact XE rfl h
 | bool => intro x cs h; exact XE rfl h
 | str => intro x cs h; exact XE rfl h
 | unit => intro x cs h; simp only [cellsOf, VL]; exact h.1
 | pair a b iha ihb =>
  intro x cs h;obtain ⟨c1, c2, S1, S2, h1, h2, h3, h4⟩ := h;have e : S1 = [] ∧ S2 = [] := by have := h2.symm; simpa using this
  obtain ⟨rfl, rfl⟩ := e;subst h1;exact (iha h3).append (ihb h4)
 | sl u a _ => intro x cs h; exact XE rfl h
theorem V9 : ∀ (t : Ty) (x : t.den), Yt (cellsOf t x) = true
 | .int _, _ => rfl
 | .bool, _ => rfl
 | .str, _ => rfl
 | .unit, _ => rfl
 | .pair a b, x => by
  have h1 := V9 a x.1;have h2 := V9 b x.2;have app : ∀ (l l' : List SV), Yt l = true → Yt l' = true → Yt (l ++ l') = true := by
   intro l
   induction l with
   | nil => intro l' _ h; exact h
   | cons y l ih => intro l' h h'; simp only [Yt, Bool.and_eq_true, List.cons_append] at h ⊢; exact ⟨h.1, ih l' h.2 h'⟩
  exact app _ _ h1 h2
 | .sl _ _, _ => rfl
theorem Ua : ∀ {l l' : List SV}, Yt l = true → Yt l' = true → Yt (l ++ l') = true
 | [], _, _, h => h
 | y :: l, l', h, h' => by simp only [Yt, Bool.and_eq_true, List.cons_append] at h ⊢; exact ⟨h.1, Ua h.2 h'⟩
theorem M3 : ∀ (n : Nat) {l : List SV}, Yt l = true → Yt (l.take n) = true
 | 0, _, _ => by simp [Yt]
 | n + 1, [], _ => by simp [Yt]
 | n + 1, y :: l, h => by simp only [Yt, Bool.and_eq_true, List.take_succ_cons] at h ⊢; exact ⟨h.1, M3 n h.2⟩
theorem M4 : ∀ (n : Nat) {l : List SV}, Yt l = true → Yt (l.drop n) = true
 | 0, _, h => by simpa using h
 | n + 1, [], _ => by simp [Yt]
 | n + 1, y :: l, h => by simp only [Yt, Bool.and_eq_true, List.drop_succ_cons] at h ⊢; exact M4 n h.2
theorem BV : ∀ t : Ty, Yt (Vi t) = true
 | .int _ => rfl
 | .bool => rfl
 | .str => rfl
 | .unit => rfl
 | .pair a b => Ua (BV a) (BV b)
 | .sl _ _ => rfl
theorem V.one {z : Z} : ∀ {v : SV} {c : Value}, V z v c → Ke v = true → Sx.one c = true
 | .val t x, c, h, hc => by
  simp only [V] at h;obtain ⟨cs, h1, h2⟩ := h;have ha : t.isAgg = false := by simpa [Ke] using hc
  obtain ⟨c1, h3, h4⟩ := h1.scalar ha;subst h3;simp only [mkV, ha, Bool.false_eq_true, if_false, List.headD_cons] at h2;rw [h2]; exact h4
 | .vl c0 t x, c, h, hc => by
  simp only [V] at h;obtain ⟨_, cs, h1, h2⟩ := h;have ha : t.isAgg = false := by simpa [Ke] using hc
  obtain ⟨c1, h3, h4⟩ := h1.scalar ha;subst h3;simp only [mkV, ha, Bool.false_eq_true, if_false, List.headD_cons] at h2;rw [h2]; exact h4
 | .own _ _, c, h, _ => by simp only [V] at h; obtain ⟨⟨A, n, k, rfl⟩, _⟩ := h; rfl
 | .sub _ _ _ _, c, h, _ => by simp only [V] at h; obtain ⟨⟨A, n, k, rfl⟩, _⟩ := h; rfl
 | .nil, c, h, _ => by simp only [V] at h; subst h; rfl
 | .ptr _ _, c, h, _ => by simp only [V] at h; obtain ⟨⟨A, rfl⟩, _⟩ := h; rfl
 | .eptr _ _ _ _, c, h, _ => by simp only [V] at h; obtain ⟨⟨A, rfl⟩, _⟩ := h; rfl
 | .rptr _ _ _, c, h, _ => by simp only [V] at h; obtain ⟨ad, cs, rfl, _⟩ := h; rfl
 | .fn _ _, c, h, _ => by simp only [V] at h; obtain ⟨cs, rfl, _⟩ := h; rfl
 | .agg _, _, _, hc => by simp [Ke] at hc
 | .tup _, _, _, hc => by simp [Ke] at hc
 | .fr _ _, _, _, hc => by simp [Ke] at hc
 | .fv _ _, _, _, hc => by simp [Ke] at hc
 | .io _ _, _, _, hc => by simp [Ke] at hc
 | .mr _, _, _, hc => by simp [Ke] at hc
 | .fp _, _, _, hc => by simp [Ke] at hc
 | .dead, _, _, hc => by simp [Ke] at hc
theorem VL.one {z : Z} : ∀ {l : List SV} {cs : List Value}, VL z l cs → Yt l = true → ∀ c ∈ cs, Sx.one c = true
 | [], cs, h, _, c, hc => by simp only [VL] at h; subst h; simp at hc
 | x :: l, cs, h, hl, c, hc => by
  simp only [VL] at h;obtain ⟨a, r, h1, h2, h3⟩ := h;simp only [Yt, Bool.and_eq_true] at hl;subst h1;rcases List.mem_cons.1 hc with e | e
  ·subst e; exact h2.one hl.1
  ·exact VL.one h3 hl.2 c e
theorem BW {z : Z} {v : SV} {c : Value} {d : List SV} (h : V z v c) (hf : ZaA v = some d) : VL z d c.cells.toList ∧ Yt d = true := by
 have single : ∀ {v : SV}, V z v c → Ke v = true → VL z [v] c.cells.toList ∧ Yt [v] = true := by
  intro v hv hc;rw [PD (hv.one hc)];refine ⟨?_, by simp [Yt, hc]⟩;simp only [VL];exact ⟨c, [], rfl, hv, rfl⟩
 cases v with
 | val t x =>
  simp only [ZaA, Option.some.injEq] at hf;subst hf;have h' := h;simp only [V] at h;obtain ⟨cs, h1, h2⟩ := h;refine ⟨?_, V9 t x⟩;cases ha : t.isAgg with
  | true =>
   simp only [mkV, ha, if_true] at h2;subst h2;simpa [Value.cells] using h1.cells_V
  | false =>
   obtain ⟨c1, h3, h4⟩ := h1.scalar ha;subst h3;simp only [mkV, ha, Bool.false_eq_true, if_false, List.headD_cons] at h2;subst h2;rw [PD h4];exact h1.cells_V
 | agg l =>
  simp only [ZaA] at hf;cases hc : Yt l with
  | false => rw [hc] at hf; cases hf
  | true =>
   rw [hc] at hf;simp only [cond_true, Option.some.injEq] at hf;subst hf;simp only [V] at h;obtain ⟨cs, h1, h2⟩ := h;subst h1;exact ⟨by simpa [Value.cells] using h2, hc⟩
 | own b v => simp only [ZaA, Option.some.injEq] at hf; subst hf; exact single h rfl
 | sub b v o n => simp only [ZaA, Option.some.injEq] at hf; subst hf; exact single h rfl
 | nil => simp only [ZaA, Option.some.injEq] at hf; subst hf; exact single h rfl
 | ptr b o => simp only [ZaA, Option.some.injEq] at hf; subst hf; exact single h rfl
 | eptr b v i o => simp only [ZaA, Option.some.injEq] at hf; subst hf; exact single h rfl
 | rptr t x o => simp only [ZaA, Option.some.injEq] at hf; subst hf; exact single h rfl
 | fn f cap => simp only [ZaA, Option.some.injEq] at hf; subst hf; exact single h rfl
 | tup l => cases hf
 | fr t x => cases hf
 | fv t x => cases hf
 | io t x => cases hf
 | mr l => cases hf
 | fp l => cases hf
 | vl c0 t x =>
  simp only [ZaA] at hf;cases ha : t.isAgg with
  | true => rw [ha] at hf; cases hf
  | false =>
   rw [ha] at hf;simp only [cond_false, Option.some.injEq] at hf;subst hf;exact single h (by simp [Ke, ha])
 | dead => cases hf
def QC (z : Z) (deep : Bool) (rs : List Nat) (k : Nat) : Prop := z.im k ∨ (deep = true ∧ ∃ r ∈ rs, ∃ d, z.rho r = some d ∧ live (nth z.h r) ∧ k ∈ d.blks)
theorem QD {z : Z} {deep : Bool} {rs rs' : List Nat} (h : ∀ r ∈ rs, r ∈ rs') {k : Nat} (hk : QC z deep rs k) : QC z deep rs' k := by
 rcases hk with hk | ⟨h1, r, h2, h3⟩
 ·exact .inl hk
 ·exact .inr ⟨h1, r, h r h2, h3⟩
theorem TR.im {im im' : Nat → Prop} {w : World} {t : Ty} {x : t.den} {cs : List Value} (hi : ∀ b, im b → im' b) (h : TR im w false t x cs []) : TR im' w false t x cs [] :=
 h.weak hi _ _ _ _ false (by simp)
theorem ZdO {z : Z} (hs : ∀ b d, z.rho b = some d → Ev z d (nth z.h b)) {deep : Bool} {t : Ty} {v : SV} {c : Value} {x : t.den} (h : V z v c)
  (hx : BJ deep z.h t v = some x) : ∃ cs, TR (QC z deep (Qx v)) z.w false t x cs [] ∧ c = mkV t cs := by
 cases v with
 | val s y =>
  simp only [BJ] at hx;simp only [V] at h;obtain ⟨cs, h1, h2⟩ := h;obtain ⟨h3, h4⟩ := Zfn hx h1;exact ⟨cs, h3.im (fun _ hb => .inl hb), h2.trans h4⟩
 | nil =>
  cases t <;> simp only [BJ, Option.some.injEq] at hx <;> try cases hx
  simp only [V] at h;subst h;refine ⟨[.slice none 0 0], ⟨none, 0, rfl, by simp, ?_⟩, rfl⟩;simp
 | own b v =>
  cases t with
  | sl u a =>
   simp only [BJ] at hx;cases deep with
   | false => cases hx
   | true =>
    simp only [cond_true] at hx;simp only [V] at h;obtain ⟨_, _, h⟩ := h;cases hb : nth z.h b with
    | none => rw [hb] at hx; cases hx
    | some bk =>
     rw [hb] at hx;cases bk with
     | vars c => cases hx
     | gone => cases hx
     | lent => cases hx
     | held _ _ _ => cases hx
     | opn _ _ _ _ _ => cases hx
     | arr v' s y =>
      simp only at hx
      split at hx
      ·rename_i e
       obtain ⟨A, cap, S, h1, h2⟩ := (h v' s y.length (by rw [hb]; rfl)).2 e;have h3 := hs b _ h1;rw [hb] at h3;obtain ⟨A1, cap1, S1, h4, h5, _⟩ := h3;cases h4;have h6 : TR (QC z true (Qx (.own b v))) z.w false (.sl true s) y [.slice A y.length cap] [] :=
        h5.weak (fun _ hb => .inl hb) _ _ _ S true (fun k hk => .inr ⟨rfl, b, by simp [Qx], _, h1, by rw [hb]; trivial, hk⟩)
       obtain ⟨h7, _⟩ := Zfn hx h6;exact ⟨_, h7, by rw [h2]; rfl⟩
      ·cases hx
  | _ => cases hx
 | sub b v off n =>
  cases t with
  | sl u a =>
   simp only [BJ] at hx;cases deep with
   | false => cases hx
   | true =>
    simp only [cond_true] at hx;simp only [V] at h;obtain ⟨_, _, h⟩ := h;cases hb : nth z.h b with
    | none => rw [hb] at hx; cases hx
    | some bk =>
     rw [hb] at hx;cases bk with
     | vars c => cases hx
     | gone => cases hx
     | lent => cases hx
     | held _ _ _ => cases hx
     | opn _ _ _ _ _ => cases hx
     | arr v' s y =>
      simp only at hx
      split at hx
      ·rename_i e
       obtain ⟨h0, A, cap, S, o, cap', h1, h2, hc1, hc2, hc3⟩ := (h v' s y.length (by rw [hb]; rfl)).2 e;have h3 := hs b _ h1;rw [hb] at h3;obtain ⟨A1, cap1, S1, h4, h5, _⟩ := h3;cases h4;have h6 : TR (QC z true (Qx (.sub b v off n))) z.w false (.sl true s) y [.slice A y.length cap] [] :=
        h5.weak (fun _ hb => .inl hb) _ _ _ S true (fun k hk => .inr ⟨rfl, b, by simp [Qx], _, h1, by rw [hb]; trivial, hk⟩)
       have h7 := h6.part off n h0 (A' := WK A o) (c' := cap') hc1 (fun hn => by rw [hc3.1 hn]);obtain ⟨h8, _⟩ := Zfn hx h7;exact ⟨_, h8, by rw [h2]; rfl⟩
      ·cases hx
  | _ => cases hx
 | agg l => cases hx
 | tup l => cases hx
 | ptr b o => cases hx
 | eptr b v i o => cases hx
 | rptr s y o => cases hx
 | fn f cap => cases hx
 | fr s y => cases hx
 | fv s y => cases hx
 | io s y => cases hx
 | mr l => cases hx
 | fp l => cases hx
 | vl c0 s y =>
  simp only [BJ] at hx;simp only [V] at h;obtain ⟨_, cs, h1, h2⟩ := h;obtain ⟨h3, h4⟩ := Zfn hx h1;exact ⟨cs, h3.im (fun _ hb => .inl hb), h2.trans h4⟩
 | dead => cases hx
theorem Zht {t : Ty} (ha : t.isAgg = false) {cs : List Value} (hl : cs.length = 1) : cs = [mkV t cs] := by
 match cs, hl with
 | [c], _ => simp [mkV, ha]
theorem VT {t : Ty} (ha : t.isAgg = false) : t.size = 1 := by cases t <;> first | rfl | cases ha
theorem Zol {z : Z} (hs : ∀ b d, z.rho b = some d → Ev z d (nth z.h b)) {deep : Bool} : ∀ {t : Ty} {l l' : List SV} {cs : List Value} {x : t.den}, VL z l cs →
  Zfg deep z.h t l = some (x, l') → ∃ d c1 c2, l = d ++ l' ∧ cs = c1 ++ c2 ∧ TR (QC z deep (d.flatMap Qx)) z.w false t x c1 [] ∧ VL z l' c2 := by
 intro t;have XE : ∀ {t : Ty} {l l' : List SV} {cs : List Value} {x : t.den}, t.isAgg = false → VL z l cs →
   Ej deep z.h t l = some (x, l') → ∃ d c1 c2, l = d ++ l' ∧ cs = c1 ++ c2 ∧ TR (QC z deep (d.flatMap Qx)) z.w false t x c1 [] ∧ VL z l' c2 := by
  intro t l l' cs x ha hv hp;unfold Ej at hp;cases l with
  | nil => cases hp
  | cons c r =>
   simp only at hp
   split at hp
   ·rename_i y hy
    simp only [Option.some.injEq, Prod.mk.injEq] at hp;obtain ⟨rfl, rfl⟩ := hp;simp only [VL] at hv;obtain ⟨a, q, rfl, h2, h3⟩ := hv;obtain ⟨cs', h4, h5⟩ := ZdO hs h2 hy;have h6 := Zht ha (h4.len.trans (VT ha));rw [← h5] at h6;subst h6;exact ⟨[c], [a], q, rfl, rfl, by simpa using h4, h3⟩
   ·cases hp
 induction t with
 | int k => intro l l' cs x hv hp; exact XE rfl hv hp
 | bool => intro l l' cs x hv hp; exact XE rfl hv hp
 | str => intro l l' cs x hv hp; exact XE rfl hv hp
 | unit =>
  intro l l' cs x hv hp;simp only [Zfg, Option.some.injEq, Prod.mk.injEq] at hp;obtain ⟨_, rfl⟩ := hp;exact ⟨[], [], cs, rfl, rfl, ⟨rfl, rfl⟩, hv⟩
 | pair a b iha ihb =>
  intro l l' cs x hv hp;simp only [Zfg] at hp
  split at hp
  ·rename_i xa la ha
   split at hp
   ·rename_i xb lb hb
    simp only [Option.some.injEq, Prod.mk.injEq] at hp;obtain ⟨rfl, rfl⟩ := hp;obtain ⟨d1, c1, c2, e1, e2, h3, h4⟩ := iha hv ha;obtain ⟨d2, c3, c4, e3, e4, h5, h6⟩ := ihb h4 hb;subst e1; subst e2; subst e3; subst e4;refine ⟨d1 ++ d2, c1 ++ c3, c4, by simp, by simp, ⟨c1, c3, [], [], rfl, rfl, ?_, ?_⟩, h6⟩
    ·exact h3.im (fun _ => QD (fun r hr => by simp only [List.flatMap_append, List.mem_append]; exact .inl hr))
    ·exact h5.im (fun _ => QD (fun r hr => by simp only [List.flatMap_append, List.mem_append]; exact .inr hr))
   ·cases hp
  ·cases hp
 | sl u a _ => intro l l' cs x hv hp; exact XE rfl hv hp
theorem LG {z : Z} (hs : ∀ b d, z.rho b = some d → Ev z d (nth z.h b)) {deep : Bool} {t : Ty} {l : List SV} {cs : List Value} {x : t.den} (hv : VL z l cs)
  (hp : UB deep z.h t l = some x) : TR (QC z deep (l.flatMap Qx)) z.w false t x cs [] := by
 unfold UB at hp
 split at hp
 ·rename_i y hy
  cases hp;obtain ⟨d, c1, c2, e1, e2, h3, h4⟩ := Zol hs hv hy;simp only [VL] at h4;subst h4;subst e2;simp only [List.append_nil] at e1 ⊢;subst e1;exact h3
 ·cases hp
theorem FN {z : Z} (hs : ∀ b d, z.rho b = some d → Ev z d (nth z.h b)) {deep : Bool} {t : Ty} {v : SV} {c : Value} {x : t.den} (h : V z v c)
  (hx : ZdK deep z.h t v = some x) : ∃ cs, TR (QC z deep (VN v)) z.w false t x cs [] ∧ c = mkV t cs := by
 cases v with
 | agg l =>
  simp only [ZdK] at hx;cases ha : t.isAgg with
  | false => rw [ha] at hx; cases hx
  | true =>
   rw [ha] at hx;simp only [cond_true] at hx;simp only [V] at h;obtain ⟨cs, h1, h2⟩ := h;exact ⟨cs, LG hs h2 hx, by rw [h1]; simp [mkV, ha]⟩
 | _ => exact ZdO hs h hx
theorem Zcr {z : Z} (hs : ∀ b d, z.rho b = some d → Ev z d (nth z.h b)) {t : Ty} {l : List SV} {cs : List Value} (ha : t.isAgg = true) (hv : VL z l cs) :
  V z (FH z.h t l) (.agg cs.toArray) := by
 unfold FH;cases l.any ZnD with
 | true =>
  simp only [cond_true, V];exact ⟨cs, rfl, hv⟩
 | false =>
 simp only [cond_false]
 split
 ·rename_i x hx
  have := LG hs hv hx;simp only [V];refine ⟨cs, this.im (fun k hk => ?_), by simp [mkV, ha]⟩;rcases hk with hk | ⟨hk, _⟩
  ·exact hk
  ·cases hk
 ·simp only [V]
  exact ⟨cs, rfl, hv⟩
end Go.Sx
